/- Polynomials modulo a prime as a ring, in plain Lean: identities are taken over from the integers. -/
import Derived.Test.YtlnhembcfhfpkaaK5
namespace Go.Proofs.Ytlnhembcfhfpkaa.Fx
open Go.RowKit Go.Proofs.Ytlnhembcfhfpkaa.M
set_option linter.unusedSimpArgs false
set_option linter.unusedVariables false
structure Pr where
  p : Int
  h : IsP p
theorem Pr.p2 (P : Pr) : 2 ≤ P.p := P.h.1.1
theorem Pr.pos (P : Pr) : 0 < P.p := P.h.pos.1
def ev : List Int → Int → Int
  | [], _ => 0
  | a :: l, n => a + n * ev l n
def addZ : List Int → List Int → List Int
  | [], b => b
  | a, [] => a
  | a :: l, b :: m => (a + b) :: addZ l m
def scZ (k : Int) (l : List Int) : List Int := l.map (k * ·)
def mulZ : List Int → List Int → List Int
  | [], _ => []
  | a :: f, g => addZ (scZ a g) (0 :: mulZ f g)
theorem ev_addZ : ∀ (a b : List Int) (n : Int), ev (addZ a b) n = ev a n + ev b n
  | [], b, n => by simp [addZ, ev]
  | a :: l, [], n => by simp [addZ, ev]
  | a :: l, b :: m, n => by simp only [addZ, ev, ev_addZ l m]; grind
theorem ev_scZ (k : Int) : ∀ (l : List Int) (n : Int), ev (scZ k l) n = k * ev l n
  | [], n => by simp [scZ, ev]
  | a :: l, n => by
    have := ev_scZ k l n
    simp only [scZ] at this
    simp only [scZ, List.map_cons, ev, this]; grind
theorem ev_mulZ : ∀ (a b : List Int) (n : Int), ev (mulZ a b) n = ev a n * ev b n
  | [], b, n => by simp [mulZ, ev]
  | a :: l, b, n => by simp only [mulZ, ev_addZ, ev_scZ, ev, ev_mulZ l b]; grind
theorem getD_addZ : ∀ (a b : List Int) (i : Nat), (addZ a b).getD i 0 = a.getD i 0 + b.getD i 0
  | [], b, i => by simp [addZ]
  | a :: l, [], i => by simp [addZ]
  | a :: l, b :: m, 0 => by simp [addZ]
  | a :: l, b :: m, i + 1 => by have := getD_addZ l m i; simpa [addZ] using this
theorem getD_scZ (k : Int) (l : List Int) (i : Nat) : (scZ k l).getD i 0 = k * l.getD i 0 := by
  unfold scZ
  rw [List.getD_eq_getElem?_getD, List.getD_eq_getElem?_getD, List.getElem?_map]
  cases l[i]? <;> simp
theorem ev_zero : ∀ (l : List Int), (∀ n, 1 ≤ n → ev l n = 0) → ∀ i, l.getD i 0 = 0
  | [], _, i => by simp
  | a :: l, h, i => by
    have ha : a = 0 := by
      have h1 := h (a.natAbs + 1) (by omega)
      simp only [ev] at h1
      have hd : ((a.natAbs : Int) + 1) ∣ a := ⟨-ev l (a.natAbs + 1), by grind⟩
      rcases Int.lt_trichotomy a 0 with hlt | h0 | hgt
      · have := Int.le_of_dvd (by omega) ((Int.dvd_neg).2 hd); omega
      · exact h0
      · have := Int.le_of_dvd hgt hd; omega
    subst ha
    rcases i with _ | i
    · rfl
    · have := ev_zero l (fun n hn => by
        have h1 := h n hn
        simp only [ev, Int.zero_add] at h1
        rcases Int.mul_eq_zero.1 h1 with h2 | h2
        · omega
        · exact h2) i
      simpa using this
theorem ev_ext {a b : List Int} (h : ∀ n, ev a n = ev b n) (i : Nat) : a.getD i 0 = b.getD i 0 := by
  have := ev_zero (addZ a (scZ (-1) b)) (fun n _ => by rw [ev_addZ, ev_scZ, h n]; grind) i
  rw [getD_addZ, getD_scZ] at this
  omega
def Cg (p : Int) (a b : List Int) : Prop := ∃ c : List Int, ∀ n, ev a n = ev b n + p * ev c n
theorem Cg.coef {p : Int} {a b : List Int} (h : Cg p a b) (i : Nat) : a.getD i 0 % p = b.getD i 0 % p := by
  obtain ⟨c, hc⟩ := h
  have := ev_ext (a := a) (b := addZ b (scZ p c)) (fun n => by rw [ev_addZ, ev_scZ, hc]) i
  rw [this, getD_addZ, getD_scZ, Int.add_mul_emod_self_left]
theorem ev_getD : ∀ {a b : List Int}, (∀ i, a.getD i 0 = b.getD i 0) → ∀ n, ev a n = ev b n
  | [], [], _, n => rfl
  | [], b :: m, h, n => by
    have h0 := h 0
    have := ev_getD (a := []) (b := m) (fun i => by simpa using h (i + 1)) n
    simp only [ev] at this ⊢
    simp at h0
    rw [← this, ← h0]; simp
  | a :: l, [], h, n => by
    have h0 := h 0
    have := ev_getD (a := l) (b := []) (fun i => by simpa using h (i + 1)) n
    simp only [ev] at this ⊢
    simp at h0
    rw [this, h0]; simp
  | a :: l, b :: m, h, n => by
    have h0 := h 0
    have := ev_getD (a := l) (b := m) (fun i => by simpa using h (i + 1)) n
    simp at h0
    simp only [ev, this, h0]
def divZ (p : Int) (l : List Int) : List Int := l.map (· / p)
theorem getD_map0 {f : Int → Int} (h : f 0 = 0) (l : List Int) (i : Nat) : (l.map f).getD i 0 = f (l.getD i 0) := by
  rw [List.getD_eq_getElem?_getD, List.getD_eq_getElem?_getD, List.getElem?_map]
  cases l[i]? <;> simp [h]
theorem cg_of {p : Int} {a b : List Int} (h : ∀ i, a.getD i 0 % p = b.getD i 0 % p) : Cg p a b := by
  refine ⟨addZ (divZ p a) (scZ (-1) (divZ p b)), fun n => ?_⟩
  have := ev_getD (a := a) (b := addZ b (scZ p (addZ (divZ p a) (scZ (-1) (divZ p b))))) (fun i => by
    simp only [getD_addZ, getD_scZ, divZ, getD_map0 (f := (· / p)) (by simp)]
    have h1 := Int.emod_add_mul_ediv (a.getD i 0) p
    have h2 := Int.emod_add_mul_ediv (b.getD i 0) p
    have := h i
    generalize a.getD i 0 = x at *
    generalize b.getD i 0 = y at *
    grind) n
  rw [this, ev_addZ, ev_scZ]
@[ext] structure Po (P : Pr) where
  l : List Int
  td : Td l
  rg : Rg P.p l
variable {P : Pr}
def co (f : Po P) (i : Nat) : Int := f.l.getD i 0
theorem Po.co_ext {f g : Po P} (h : ∀ i, co f i = co g i) : f = g := Po.ext (td_ext f.td g.td h)
theorem co_rg (f : Po P) (i : Nat) : 0 ≤ co f i ∧ co f i < P.p := f.rg i
theorem co_mod (f : Po P) (i : Nat) : co f i % P.p = co f i := em_self (co_rg f i)
def mk (l : List Int) : Po P := ⟨trim (l.map (· % P.p)), td_trim _, Rg.trim fun i => by rw [getD_map0 (by simp)]; exact md P.pos⟩
theorem co_mk (l : List Int) (i : Nat) : co (mk l : Po P) i = l.getD i 0 % P.p := by
  unfold co mk
  rw [trim_getD, getD_map0 (by simp)]
theorem mk_eq {a b : List Int} (h : Cg P.p a b) : (mk a : Po P) = mk b := Po.co_ext fun i => by rw [co_mk, co_mk, h.coef]
theorem eq_of_cg {f g : Po P} (h : Cg P.p f.l g.l) : f = g := Po.co_ext fun i => by
  have := h.coef i
  rw [show f.l.getD i 0 = co f i from rfl, show g.l.getD i 0 = co g i from rfl, co_mod, co_mod] at this
  exact this
theorem mk_cg (l : List Int) : Cg P.p (mk l : Po P).l l := cg_of fun i => by
  rw [show (mk l : Po P).l.getD i 0 = co (mk l) i from rfl, co_mk, Int.emod_emod]
theorem mk_l (f : Po P) : mk f.l = f := Po.co_ext fun i => by rw [co_mk]; exact co_mod f i
instance : Add (Po P) := ⟨fun f g => mk (addZ f.l g.l)⟩
instance : Mul (Po P) := ⟨fun f g => mk (mulZ f.l g.l)⟩
instance : Neg (Po P) := ⟨fun f => mk (scZ (-1) f.l)⟩
def cn (k : Int) : Po P := mk [k]
instance : Sub (Po P) := ⟨fun f g => f + -g⟩
instance : OfNat (Po P) 0 := ⟨cn 0⟩
instance : OfNat (Po P) 1 := ⟨cn 1⟩
instance : Inhabited (Po P) := ⟨0⟩
def X : Po P := mk [0, 1]
theorem co_add (f g : Po P) (i : Nat) : co (f + g) i = (co f i + co g i) % P.p := by
  show co (mk (addZ f.l g.l)) i = _
  rw [co_mk, getD_addZ]; rfl
theorem co_neg (f : Po P) (i : Nat) : co (-f) i = (-co f i) % P.p := by
  show co (mk (scZ (-1) f.l)) i = _
  rw [co_mk, getD_scZ, Int.neg_one_mul]; rfl
theorem co_cn (k : Int) (i : Nat) : co (cn k : Po P) i = if i = 0 then k % P.p else 0 := by
  unfold cn
  rw [co_mk]
  rcases i with _ | i <;> simp
theorem co_0 (i : Nat) : co (0 : Po P) i = 0 := by
  show co (cn 0) i = 0
  rw [co_cn]; split <;> simp
inductive Ex
  | x (i : Nat)
  | c (k : Int)
  | add (a b : Ex)
  | mul (a b : Ex)
  | neg (a : Ex)
instance : Add Ex := ⟨.add⟩
instance : Mul Ex := ⟨.mul⟩
instance : Neg Ex := ⟨.neg⟩
instance : Sub Ex := ⟨fun a b => .add a (.neg b)⟩
instance : OfNat Ex 0 := ⟨.c 0⟩
instance : OfNat Ex 1 := ⟨.c 1⟩
def evI (r : Nat → Int) : Ex → Int
  | .x i => r i
  | .c k => k
  | .add a b => evI r a + evI r b
  | .mul a b => evI r a * evI r b
  | .neg a => - evI r a
def evP (r : Nat → Po P) : Ex → Po P
  | .x i => r i
  | .c k => cn k
  | .add a b => evP r a + evP r b
  | .mul a b => evP r a * evP r b
  | .neg a => - evP r a
theorem evI_add (r : Nat → Int) (a b : Ex) : evI r (a + b) = evI r a + evI r b := rfl
theorem evI_mul (r : Nat → Int) (a b : Ex) : evI r (a * b) = evI r a * evI r b := rfl
theorem evI_neg (r : Nat → Int) (a : Ex) : evI r (-a) = -evI r a := rfl
theorem evI_sub (r : Nat → Int) (a b : Ex) : evI r (a - b) = evI r a + -evI r b := rfl
theorem evI_0 (r : Nat → Int) : evI r 0 = 0 := rfl
theorem evI_1 (r : Nat → Int) : evI r 1 = 1 := rfl
theorem evI_x (r : Nat → Int) (i : Nat) : evI r (.x i) = r i := rfl
theorem evI_c (r : Nat → Int) (k : Int) : evI r (.c k) = k := rfl
theorem cg_ex (r : Nat → Po P) : ∀ e : Ex, ∃ c : List Int, ∀ n, ev (evP r e).l n = evI (fun i => ev (r i).l n) e + P.p * ev c n
  | .x i => ⟨[], fun n => by simp [evP, evI, ev]⟩
  | .c k => by
    obtain ⟨c, hc⟩ := mk_cg (P := P) [k]
    exact ⟨c, fun n => by have := hc n; simpa [evP, evI, ev, cn] using this⟩
  | .add a b => by
    obtain ⟨c, hc⟩ := cg_ex r a
    obtain ⟨d, hd⟩ := cg_ex r b
    obtain ⟨e, he⟩ := mk_cg (P := P) (addZ (evP r a).l (evP r b).l)
    refine ⟨addZ e (addZ c d), fun n => ?_⟩
    have h1 := he n
    rw [ev_addZ, hc, hd] at h1
    show ev (mk (addZ (evP r a).l (evP r b).l) : Po P).l n = _
    rw [h1, ev_addZ, ev_addZ]
    simp only [evI]
    grind
  | .mul a b => by
    obtain ⟨c, hc⟩ := cg_ex r a
    obtain ⟨d, hd⟩ := cg_ex r b
    obtain ⟨e, he⟩ := mk_cg (P := P) (mulZ (evP r a).l (evP r b).l)
    refine ⟨addZ e (addZ (mulZ c (evP r b).l) (addZ (mulZ (evP r a).l d) (scZ (-P.p) (mulZ c d)))), fun n => ?_⟩
    have h1 := he n
    have ha := hc n
    have hb := hd n
    rw [ev_mulZ] at h1
    show ev (mk (mulZ (evP r a).l (evP r b).l) : Po P).l n = _
    rw [h1]
    simp only [ev_addZ, ev_mulZ, ev_scZ, evI]
    generalize ev (evP r a).l n = A at *
    generalize ev (evP r b).l n = B at *
    generalize evI (fun i => ev (r i).l n) a = A' at *
    generalize evI (fun i => ev (r i).l n) b = B' at *
    generalize ev c n = C at *
    generalize ev d n = D at *
    generalize ev e n = E at *
    subst ha hb
    grind
  | .neg a => by
    obtain ⟨c, hc⟩ := cg_ex r a
    obtain ⟨e, he⟩ := mk_cg (P := P) (scZ (-1) (evP r a).l)
    refine ⟨addZ e (scZ (-1) c), fun n => ?_⟩
    have h1 := he n
    rw [ev_scZ, hc] at h1
    show ev (mk (scZ (-1) (evP r a).l) : Po P).l n = _
    rw [h1, ev_addZ, ev_scZ]
    simp only [evI]
    grind
theorem idn (r : Nat → Po P) (a b : Ex) (h : ∀ r : Nat → Int, evI r a = evI r b) : evP r a = evP r b := by
  obtain ⟨c, hc⟩ := cg_ex r a
  obtain ⟨d, hd⟩ := cg_ex r b
  refine eq_of_cg ⟨addZ c (scZ (-1) d), fun n => ?_⟩
  rw [hc, hd, h, ev_addZ, ev_scZ]
  grind
abbrev x0 : Ex := .x 0
abbrev x1 : Ex := .x 1
abbrev x2 : Ex := .x 2
abbrev x3 : Ex := .x 3
abbrev x4 : Ex := .x 4
abbrev x5 : Ex := .x 5
def vec (l : List (Po P)) (i : Nat) : Po P := l.getD i 0
theorem rg_ (l : List (Po P)) (a b : Ex) (h : ∀ r : Nat → Int, evI r a = evI r b := by intro r; simp only [evI_add, evI_mul, evI_neg, evI_sub, evI_0, evI_1, evI_x, evI_c]; grind) : evP (vec l) a = evP (vec l) b := idn _ a b h
theorem evP_add (r : Nat → Po P) (a b : Ex) : evP r (a + b) = evP r a + evP r b := rfl
theorem evP_mul (r : Nat → Po P) (a b : Ex) : evP r (a * b) = evP r a * evP r b := rfl
theorem evP_x (r : Nat → Po P) (i : Nat) : evP r (.x i) = r i := rfl
theorem vec_0 (a : Po P) (l : List (Po P)) : vec (a :: l) 0 = a := rfl
theorem vec_1 (a b : Po P) (l : List (Po P)) : vec (a :: b :: l) 1 = b := rfl
theorem vec_2 (a b c : Po P) (l : List (Po P)) : vec (a :: b :: c :: l) 2 = c := rfl
theorem vec_3 (a b c d : Po P) (l : List (Po P)) : vec (a :: b :: c :: d :: l) 3 = d := rfl
theorem vec_4 (a b c d e : Po P) (l : List (Po P)) : vec (a :: b :: c :: d :: e :: l) 4 = e := rfl
theorem vec_5 (a b c d e f : Po P) (l : List (Po P)) : vec (a :: b :: c :: d :: e :: f :: l) 5 = f := rfl
theorem vec_6 (a b c d e f g : Po P) (l : List (Po P)) : vec (a :: b :: c :: d :: e :: f :: g :: l) 6 = g := rfl
theorem add_comm (a b : Po P) : a + b = b + a := rg_ [a, b] (x0 + x1) (x1 + x0)
theorem add_assoc (a b c : Po P) : a + b + c = a + (b + c) := rg_ [a, b, c] (x0 + x1 + x2) (x0 + (x1 + x2))
theorem mul_comm (a b : Po P) : a * b = b * a := rg_ [a, b] (x0 * x1) (x1 * x0)
theorem mul_assoc (a b c : Po P) : a * b * c = a * (b * c) := rg_ [a, b, c] (x0 * x1 * x2) (x0 * (x1 * x2))
theorem mul_add (a b c : Po P) : a * (b + c) = a * b + a * c := rg_ [a, b, c] (x0 * (x1 + x2)) (x0 * x1 + x0 * x2)
theorem add_mul (a b c : Po P) : (a + b) * c = a * c + b * c := rg_ [a, b, c] ((x0 + x1) * x2) (x0 * x2 + x1 * x2)
theorem mul_one (a : Po P) : a * 1 = a := rg_ [a] (x0 * 1) x0
theorem one_mul (a : Po P) : 1 * a = a := rg_ [a] (1 * x0) x0
theorem mul_zero (a : Po P) : a * 0 = 0 := rg_ [a] (x0 * 0) 0
theorem zero_mul (a : Po P) : 0 * a = 0 := rg_ [a] (0 * x0) 0
theorem add_zero (a : Po P) : a + 0 = a := rg_ [a] (x0 + 0) x0
theorem zero_add (a : Po P) : 0 + a = a := rg_ [a] (0 + x0) x0
theorem sub_self (a : Po P) : a - a = 0 := rg_ [a] (x0 - x0) 0
theorem sub_add (a b : Po P) : a - b + b = a := rg_ [a, b] (x0 - x1 + x1) x0
theorem sub_eq_zero {a b : Po P} (h : a - b = 0) : a = b := by
  have := sub_add a b
  rw [h, zero_add] at this
  exact this.symm
theorem cn_add (a b : Int) : (cn (a + b) : Po P) = cn a + cn b := rg_ [] (.c (a + b)) (.add (.c a) (.c b)) (fun _ => rfl)
theorem cn_mul (a b : Int) : (cn (a * b) : Po P) = cn a * cn b := rg_ [] (.c (a * b)) (.mul (.c a) (.c b)) (fun _ => rfl)
instance : Std.Commutative (α := Po P) (· * ·) := ⟨mul_comm⟩
instance : Std.Associative (α := Po P) (· * ·) := ⟨mul_assoc⟩
instance : Std.Commutative (α := Po P) (· + ·) := ⟨add_comm⟩
instance : Std.Associative (α := Po P) (· + ·) := ⟨add_assoc⟩
end Go.Proofs.Ytlnhembcfhfpkaa.Fx
