/- A region in whatever order whose new variables may come up at any time: the calls ahead of its stores are walked as if the others only made memory; behind them, the new variables lie in whatever new blocks. -/
import Derived.Test.YtbbidekjbgjooaaK6
namespace Go.Proofs.Ytbbidekjbgjooaa
open Go.RowKit

/-- A new variable: the operation's number, its type, its cells. -/
abbrev AE := Nat × TypeId × Array Value

section
variable {P : Program} {ops : Array Oper} {Q : Exit → Act → World → Prop} {md : Region.Mode} {S A B : World → Prop} {xa xb : Nat}

theorem wpOp_fwd {j : Nat} {oi oj : Oper} {v : Value} (hj : ops[j]? = some oj) (hap : oi.apart ops oj = true) (hsj : ∀ cs b, oj.op ≠ .select cs b)
    (hQ : ∀ c a w, Q (.panic c) a w → Q (.panic c) (a.put oi.dst v) w) {K : Act → World → Prop} {a : Act} {w : World} (h : wpOp P ops Q j K a w) :
    wpOp P ops Q j (fun a' w' => ∃ a0, a' = a0.put oi.dst v ∧ K a0 w') (a.put oi.dst v) w := by
  obtain ⟨h1, h2, h3⟩ := Oper.apart_spec hap
  unfold wpOp at *
  simp only [hj] at *
  rw [wanted_put oj a oi.dst v h1]
  split
  · rename_i hw
    simp only [hw, if_true] at h
    rcases h with h | ⟨hasks, hlets⟩
    case inr => exact .inr ⟨by unfold Oper.asks at *; rw [execOp_put oj hsj a oi.dst v h1]; exact hasks, hlets⟩
    refine .inl ?_
    unfold Oper.wp at *
    rw [execOp_put oj hsj a oi.dst v h1]
    generalize (execOp a.eval oj).run P w = r at *
    cases r with
    | ok n w' =>
      cases n <;> simp only [Oper.upon] at h ⊢
      case value u => exact ⟨_, Act.put_comm a v u h2, h⟩
      case skip => exact ⟨_, Act.put_comm a v undef h2, h⟩
      case defer d => exact ⟨_, by rw [Act.put_defers, Act.put_comm _ v undef h2], h⟩
      case enter f args =>
        refine Calls.mono h fun e w'' he => ?_
        cases e with
        | returned u => exact ⟨_, Act.put_comm a v u h2, he⟩
        | panicked c => exact hQ _ _ _ he
        | outgrown => exact he
      case row row args => exact Rows.mono h fun u w'' he => ⟨_, Act.put_comm a v u h2, he⟩
    | halt x w' =>
      cases x <;> simp only [Oper.upon] at h ⊢
      case panic u => exact hQ _ _ _ h
  · rename_i hw
    simp only [hw] at h
    exact ⟨_, Act.put_comm a v undef h2, h⟩

/-- Where an operation's value goes. -/
def dstOf (ops : Array Oper) (i : Nat) : Option Tmp := (ops[i]?).bind (·.dst)
/-- The variables that are made, in the frame. -/
def putD (ops : Array Oper) : List (AE × Nat) → Act → Act
  | [], a => a
  | e :: D, a => (putD ops D a).put (dstOf ops e.1.1) (.pointer (some ⟨e.2, 0, none⟩))
def markD : List (AE × Nat) → Array Bool → Array Bool
  | [], l => l
  | e :: D, l => (markD D l).setIfInBounds e.1.1 true

theorem set_comm (l : Array Bool) (i j : Nat) : (l.setIfInBounds i true).setIfInBounds j true = (l.setIfInBounds j true).setIfInBounds i true := by
  by_cases h : i = j
  · subst h; rfl
  · exact Array.setIfInBounds_comm _ _ h

theorem markD_set (D : List (AE × Nat)) (l : Array Bool) (i : Nat) : markD D (l.setIfInBounds i true) = (markD D l).setIfInBounds i true := by
  induction D with
  | nil => rfl
  | cons e D ih => simp only [markD]; rw [ih, set_comm]

theorem markD_perm {D D' : List (AE × Nat)} (h : D.Perm D') (l : Array Bool) : markD D l = markD D' l := by
  induction h with
  | nil => rfl
  | cons x _ ih => simp only [markD]; rw [ih]
  | swap _ _ _ => simp only [markD]; rw [set_comm]
  | trans _ _ ih1 ih2 => exact ih1.trans ih2

/-- No two are of one slot. -/
def Parted (ops : Array Oper) (D : List AE) : Prop := D.Pairwise (fun p q => ∀ d, dstOf ops p.1 = some d → dstOf ops q.1 ≠ some d)

theorem parted_perm {ops : Array Oper} {D D' : List AE} (h : D.Perm D') (hp : Parted ops D) : Parted ops D' :=
  (h.pairwise_iff (fun {_ _} hxy d hd => fun he => hxy d he hd)).1 hp

theorem putD_perm {D D' : List (AE × Nat)} (h : D.Perm D') (hp : Parted ops (D.map (·.1))) (a : Act) : putD ops D a = putD ops D' a := by
  induction h with
  | nil => rfl
  | cons x _ ih => simp only [putD]; rw [ih (by rw [List.map_cons] at hp; exact (List.pairwise_cons.1 hp).2)]
  | swap _ _ _ =>
    simp only [putD]
    rw [List.map_cons, List.map_cons] at hp
    exact Act.put_comm _ _ _ ((List.pairwise_cons.1 hp).1 _ (.head _)) |>.symm
  | trans h1 _ ih1 ih2 => exact (ih1 hp).trans (ih2 (parted_perm (h1.map _) hp))

theorem putD_comm (D : List (AE × Nat)) (a : Act) (x : Option Tmp) (v : Value) (h : ∀ e ∈ D, ∀ d, x = some d → dstOf ops e.1.1 ≠ some d) : putD ops D (a.put x v) = (putD ops D a).put x v := by
  induction D with
  | nil => rfl
  | cons e D ih =>
    simp only [putD]
    rw [ih (fun e' he' => h e' (.tail _ he'))]
    exact Act.put_comm _ _ _ (h e (.head _))

theorem wpOp_putD {j : Nat} {oj : Oper} (hj : ops[j]? = some oj) (hsj : ∀ cs b, oj.op ≠ .select cs b) (hQ : ∀ c a d v w, Q (.panic c) a w → Q (.panic c) (a.put d v) w) {K : Act → World → Prop} {w : World} :
    ∀ (D : List (AE × Nat)) (a : Act), (∀ e ∈ D, ∃ oi, ops[e.1.1]? = some oi ∧ oi.apart ops oj = true) → wpOp P ops Q j K a w →
      wpOp P ops Q j (fun a' w' => ∃ a0, a' = putD ops D a0 ∧ K a0 w') (putD ops D a) w
  | [], a, _, h => wpOp_mono (fun a w h => ⟨a, rfl, h⟩) h
  | e :: D, a, hap, h => by
    have h1 := wpOp_putD hj hsj hQ D a (fun e' he' => hap e' (.tail _ he')) h
    obtain ⟨oi, hoi, hp⟩ := hap e (.head _)
    have hd : dstOf ops e.1.1 = oi.dst := by simp [dstOf, hoi]
    have h2 := wpOp_fwd (v := .pointer (some ⟨e.2, 0, none⟩)) hj hp hsj (fun c a w => hQ c a _ _ w) h1
    simp only [putD, hd]
    refine wpOp_mono (fun a' w' h => ?_) h2
    obtain ⟨a0, rfl, a1, rfl, hk⟩ := h
    exact ⟨a1, rfl, hk⟩

theorem getD_markD_ne {D : List (AE × Nat)} {l : Array Bool} {i : Nat} {d : Bool} (h : ∀ e ∈ D, e.1.1 ≠ i) : (markD D l).getD i d = l.getD i d := by
  induction D with
  | nil => rfl
  | cons e D ih =>
    simp only [markD]
    rw [getD_set_ne d (h e (.head _))]
    exact ih (fun e' he' => h e' (.tail _ he'))
theorem getD_markD_mono {D : List (AE × Nat)} {l : Array Bool} {i : Nat} (h : l.getD i false = true) : (markD D l).getD i false = true := by
  induction D with
  | nil => exact h
  | cons e D ih => simp only [markD]; exact getD_set_true ih
theorem getD_markD_mem {D : List (AE × Nat)} {l : Array Bool} {i : Nat} (h : ∃ e ∈ D, e.1.1 = i) : (markD D l).getD i true = true := by
  induction D with
  | nil => obtain ⟨e, he, _⟩ := h; cases he
  | cons e D ih =>
    simp only [markD]
    by_cases hi : e.1.1 = i
    · subst hi
      rcases Nat.lt_or_ge e.1.1 (markD D l).size with h' | h'
      · simp [h']
      · simp [Array.getD, Nat.not_lt.2 h']
    · rw [getD_set_ne true hi]
      obtain ⟨e', he', hi'⟩ := h
      rcases List.mem_cons.1 he' with rfl | he'
      · exact absurd hi' hi
      · exact ih ⟨e', he', hi'⟩

/-- Which operations stand ahead of the stores. -/
def preB (AL : List AE) (post : List Nat) (i : Nat) : Bool := !(AL.any fun e => e.1 == i) && !post.contains i
def coreB (core : List Nat) (l : Array Bool) : Bool := core.all fun i => l.getD i false

/-- What is asked of the stores: whatever new blocks the new variables have. -/
def Bar (P : Program) (md : Region.Mode) (ops : Array Oper) (Q : Exit → Act → World → Prop) (S A B : World → Prop) (xa xb : Nat) (AL : List AE) (W : World) (f : Nat) (listed : Array Bool) (a : Act) (w : World) : Prop :=
  ∀ ns : List Nat, ns.length = AL.length → ns.Nodup → (∀ n ∈ ns, W.heap.size ≤ n) → (∀ e ∈ AL.zip ns, Box w e.2 e.1.2.1 e.1.2.2) →
    wpG P md ops Q S A B xa xb f (markD (AL.zip ns) listed) (putD ops (AL.zip ns) a) w

/-- The operations ahead of the stores, whatever memory comes beside them. -/
def wpE (P : Program) (md : Region.Mode) (ops : Array Oper) (Q : Exit → Act → World → Prop) (S A B : World → Prop) (xa xb : Nat) (AL : List AE) (post core : List Nat) (W : World) : Nat → Array Bool → Act → World → Prop
  | 0, _, _, _ => False
  | f + 1, listed, a, w => ∀ w', Ext w w' →
    (coreB core listed = true → Bar P md ops Q S A B xa xb AL W (f + 1) listed a w') ∧
    (coreB core listed = false → ∃ i ∈ Region.ready md ops listed, preB AL post i = true) ∧
    ∀ i ∈ Region.ready md ops listed, preB AL post i = true → wpOp P ops Q i (fun a' w'' => Ext w' w'' ∧ wpE P md ops Q S A B xa xb AL post core W f (listed.setIfInBounds i true) a' w'') a w'

theorem wpE_ext {AL : List AE} {post core : List Nat} {W : World} {f : Nat} {listed : Array Bool} {a : Act} {w w1 : World} (h : wpE P md ops Q S A B xa xb AL post core W f listed a w) (e : Ext w w1) :
    wpE P md ops Q S A B xa xb AL post core W f listed a w1 := by
  cases f with
  | zero => exact h
  | succ f => exact fun w' hw' => h w' (e.tr hw')

/-- What the program looks at: the new variables wait for nothing; no operation ahead of the stores reads them or waits for a store; each store waits for all. -/
def lateOk (md : Region.Mode) (ops : Array Oper) (AL : List AE) (post core : List Nat) : Bool :=
  (AL.all fun e => match ops[e.1]? with
    | some o => o.after.size == 0 && o.guard.isNone && o.dst.isSome && (match o.op with | .alloc T => T == e.2.1 | _ => false)
    | none => false) &&
  ((List.range ops.size).all fun j => !preB AL post j || match ops[j]? with
    | some oj => (AL.all fun e => match ops[e.1]? with | some oi => oi.apart ops oj | none => false) && oj.after.all fun x => !Region.binds md x || preB AL post x.on
    | none => true) &&
  (post.all fun j => (post.any fun k => k != j && waitsB md ops j k) || ((core.all fun k => waitsB md ops j k) && (AL.all fun e => waitsB md ops j e.1))) &&
  (core.all fun k => preB AL post k) && (post.all fun k => !(AL.any fun e => e.1 == k))
/-- No two new variables are one, nor of one slot. -/
def nodupB (ops : Array Oper) : List AE → Bool
  | [] => true
  | e :: t => (t.all fun x => x.1 != e.1 && dstOf ops x.1 != dstOf ops e.1) && nodupB ops t

theorem nodupB_spec : ∀ {AL : List AE}, nodupB ops AL = true → (AL.map (·.1)).Nodup ∧ Parted ops AL
  | [], _ => ⟨by simp, List.Pairwise.nil⟩
  | e :: t, h => by
    simp only [nodupB, Bool.and_eq_true, List.all_eq_true, bne_iff_ne] at h
    obtain ⟨i1, i2⟩ := nodupB_spec h.2
    refine ⟨?_, List.pairwise_cons.2 ⟨fun x hx d hd he => (h.1 x hx).2 (he.trans hd.symm), i2⟩⟩
    rw [List.map_cons, List.nodup_cons]
    refine ⟨fun hm => ?_, i1⟩
    obtain ⟨x, hx, hxe⟩ := List.mem_map.1 hm
    exact (h.1 x hx).1 hxe

theorem perm_lift {α β : Type} {f : α → β} : ∀ {L : List β} {D : List α}, (D.map f).Perm L → ∃ D' : List α, D'.Perm D ∧ D'.map f = L
  | [], D, h => by
    have := h.length_eq
    rw [List.length_map, List.length_nil] at this
    rw [List.eq_nil_of_length_eq_zero this]
    exact ⟨[], List.Perm.refl _, rfl⟩
  | x :: L, D, h => by
    obtain ⟨e, he, rfl⟩ := List.mem_map.1 (h.symm.subset (.head _))
    obtain ⟨s, t, rfl⟩ := List.append_of_mem he
    have h1 : (f e :: (s ++ t).map f).Perm (f e :: L) := by
      refine List.Perm.trans ?_ h
      rw [← List.map_cons]
      exact (List.perm_middle.symm).map f
    obtain ⟨D', h2, h3⟩ := perm_lift h1.cons_inv
    exact ⟨e :: D', (h2.cons e).trans List.perm_middle.symm, by rw [List.map_cons, h3]⟩

theorem ready_waits {j k : Nat} {listed : Array Bool} (hj : j ∈ Region.ready md ops listed) (hw : waitsB md ops j k = true) : listed.getD k false = true := by
  obtain ⟨_, o, ho, hall⟩ := mem_ready.1 hj
  unfold waitsB at hw
  rw [ho] at hw
  obtain ⟨e, he, hb⟩ := Array.any_eq_true'.1 hw
  simp only [Bool.and_eq_true, beq_iff_eq] at hb
  have := hall e he hb.1
  rw [hb.2] at this
  exact this

theorem not_pre {AL : List AE} {post : List Nat} {i : Nat} (h : preB AL post i = false) : (∃ e ∈ AL, e.1 = i) ∨ i ∈ post := by
  unfold preB at h
  rcases Bool.and_eq_false_iff.1 h with h | h
  · left
    have h2 : (AL.any fun e => e.1 == i) = true := by simpa only [Bool.not_eq_false'] using h
    obtain ⟨e, he, h'⟩ := List.any_eq_true.1 h2
    exact ⟨e, he, by simpa using h'⟩
  · right; simpa using h
theorem pre_ne {AL : List AE} {post : List Nat} {i : Nat} (h : preB AL post i = true) : ∀ e ∈ AL, e.1 ≠ i := fun e he hi => by
  unfold preB at h
  simp only [Bool.and_eq_true, Bool.not_eq_true', List.any_eq_false, beq_iff_eq] at h
  exact h.1 e he hi

theorem run_alloc {P : Program} {o : Oper} {a : Act} {w : World} {T : TypeId} {z : Value} (ho : o.op = .alloc T) (hz : (P.info? T).bind (·.zero) = some z) :
    (execOp a.eval o).run P w = .ok (.value (.pointer (some ⟨w.heap.size, 0, none⟩))) (w.alloc (.cells z.cells T)) := by
  cases hi : P.info? T with
  | none => rw [hi] at hz; cases hz
  | some i =>
    rw [hi] at hz
    simp only [Option.bind_some] at hz
    simp [execOp, ho, Instr.alloc, go_sem, zeroValue, typeInfo, hi, hz]

theorem wpG_of_E {AL : List AE} {post core : List Nat} {W : World} (hok : lateOk md ops AL post core = true) (hnd : nodupB ops AL = true) (hsel : Region.noSelect ops = true)
    (hQ : ∀ c a d v w, Q (.panic c) a w → Q (.panic c) (a.put d v) w)
    (hz : (AL.map fun e => ((P.info? e.2.1).bind (·.zero)).map Value.cells) = AL.map fun e => some e.2.2)
    (hS : ∀ w', Ext W w' → S w' ∧ A w' ∧ B w') :
    ∀ (n f : Nat) (listed : Array Bool) (a : Act) (w0 : World) (D : List (AE × Nat)) (R : List AE) (w : World), f + R.length = n →
      wpE P md ops Q S A B xa xb AL post core W f listed a w0 → Ext W w0 → Ext w0 w → (D.map (·.1) ++ R).Perm AL → (D.map (·.2)).Nodup →
      (∀ e ∈ D, W.heap.size ≤ e.2 ∧ Box w e.2 e.1.2.1 e.1.2.2) → (∀ e ∈ AL, listed.getD e.1 true = false) → (∀ j ∈ post, listed.getD j false = false) →
      wpG P md ops Q S A B xa xb n (markD D listed) (putD ops D a) w := by
  simp only [lateOk, Bool.and_eq_true, List.all_eq_true, List.mem_range, Bool.or_eq_true, Bool.not_eq_true', List.any_eq_true, bne_iff_ne] at hok
  obtain ⟨⟨⟨⟨hk1, hk2⟩, hk3⟩, hk4⟩, hk5'⟩ := hok
  have hk5 : ∀ k ∈ post, ∀ e ∈ AL, e.1 ≠ k := fun k hk e he => by
    have := hk5' k hk
    simp only [List.any_eq_false, beq_iff_eq] at this
    exact this e he
  obtain ⟨hn1, hn2⟩ := nodupB_spec hnd
  intro n
  induction n with
  | zero =>
    intro f listed a w0 D R w hfn hE _ _ _ _ _ _ _
    obtain rfl : f = 0 := by omega
    exact hE.elim
  | succ n ih =>
    intro f listed a w0 D R w hfn hE hW h0w hperm hdn hD hal hpo
    match f, hE with
    | f + 1, hE =>
    obtain ⟨hbar, hprog, hstep⟩ := hE w h0w
    have hWw := hW.tr h0w
    have hDin : ∀ e ∈ D, e.1 ∈ AL := fun e he => hperm.subset (List.mem_append_left _ (List.mem_map_of_mem he))
    have hpart : Parted ops (D.map (·.1)) := (List.pairwise_append.1 (parted_perm hperm.symm hn2)).1
    by_cases hb : R = [] ∧ coreB core listed = true
    · obtain ⟨rfl, hc⟩ := hb
      rw [List.append_nil] at hperm
      obtain ⟨D', hp', hm'⟩ := perm_lift hperm
      have hz : D' = AL.zip (D'.map (·.2)) := by rw [← hm']; exact List.zip_of_prod rfl rfl
      have h1 := hbar hc (D'.map (·.2)) (by rw [← hm']; simp) ((hp'.map _).nodup_iff.2 hdn) (fun m hm => by
        obtain ⟨e, he, rfl⟩ := List.mem_map.1 hm
        exact (hD e (hp'.subset he)).1) (fun e he => by
        rw [← hz] at he
        exact (hD e (hp'.subset he)).2)
      rw [← hz] at h1
      rw [← markD_perm hp', ← putD_perm hp' (parted_perm (hp'.symm.map _) hpart)]
      simp only [List.length_nil] at hfn
      obtain rfl : f = n := by omega
      exact h1
    · have hmem : ∀ e ∈ AL, e.1 ∉ D.map (fun x => x.1.1) → e ∈ R := fun e he hne => by
        rcases List.mem_append.1 (hperm.symm.subset he) with h | h
        · obtain ⟨x, hx, rfl⟩ := List.mem_map.1 h
          exact absurd (List.mem_map_of_mem (f := fun x => x.1.1) hx) hne
        · exact h
      have hRout : ∀ e ∈ R, ∀ x ∈ D, x.1.1 ≠ e.1 := fun e he x hx heq => by
        have h1 : ((D.map (·.1) ++ R).map (·.1)).Nodup := ((hperm.map _).nodup_iff).2 hn1
        rw [List.map_append, List.nodup_append] at h1
        exact h1.2.2 x.1.1 (List.mem_map_of_mem (List.mem_map_of_mem (f := (·.1)) hx)) e.1 (List.mem_map_of_mem he) heq
      refine ⟨fun hr0 => ?_, fun i hi => ?_⟩
      · exfalso
        rcases R with _ | ⟨e, R⟩
        · have hc : coreB core listed = false := by
            cases hc : coreB core listed
            · rfl
            · exact absurd ⟨rfl, hc⟩ hb
          obtain ⟨i, hi, hpi⟩ := hprog hc
          have : i ∈ Region.ready md ops (markD D listed) := by
            obtain ⟨h1, o, ho, h2⟩ := mem_ready.1 hi
            refine mem_ready.2 ⟨?_, o, ho, fun x hx hb => getD_markD_mono (h2 x hx hb)⟩
            rw [getD_markD_ne (fun e he => pre_ne hpi _ (hDin e he))]
            exact h1
          rw [hr0] at this
          cases this
        · have heA : e ∈ AL := hperm.subset (List.mem_append_right _ (.head _))
          have h1 := hk1 e heA
          cases ho : ops[e.1]? with
          | none => rw [ho] at h1; cases h1
          | some o =>
            rw [ho] at h1
            simp only [Bool.and_eq_true, beq_iff_eq] at h1
            have : e.1 ∈ Region.ready md ops (markD D listed) := by
              refine mem_ready.2 ⟨?_, o, ho, fun x hx _ => ?_⟩
              · rw [getD_markD_ne (fun x hx => hRout e (.head _) x hx)]
                exact hal e heA
              · rw [Array.eq_empty_of_size_eq_zero h1.1.1.1] at hx
                simp at hx
            rw [hr0] at this
            cases this
      · by_cases hpi : preB AL post i = true
        · have hil : i ∈ Region.ready md ops listed := by
            obtain ⟨h1, o, ho, h2⟩ := mem_ready.1 hi
            rw [getD_markD_ne (fun e he => pre_ne hpi _ (hDin e he))] at h1
            refine mem_ready.2 ⟨h1, o, ho, fun x hx hb => ?_⟩
            have h3 := h2 x hx hb
            have hx2 : preB AL post x.on = true := by
              have h4 := hk2 i (Array.getElem?_eq_some_iff.1 ho).1
              rw [ho, hpi] at h4
              simp only [Bool.true_eq_false, false_or, Bool.and_eq_true, Array.all_eq_true_iff_forall_mem, Bool.or_eq_true, Bool.not_eq_true'] at h4
              exact (h4.2 x hx).resolve_left (by rw [hb]; simp)
            rw [getD_markD_ne (fun e he => pre_ne hx2 _ (hDin e he))] at h3
            exact h3
          obtain ⟨-, o, ho, -⟩ := mem_ready.1 hil
          have hap : ∀ e ∈ D, ∃ oi, ops[e.1.1]? = some oi ∧ oi.apart ops o = true := fun e he => by
            have h4 := hk2 i (Array.getElem?_eq_some_iff.1 ho).1
            rw [ho, hpi] at h4
            simp only [Bool.true_eq_false, false_or, Bool.and_eq_true, List.all_eq_true] at h4
            have h5 := h4.1 e.1 (hDin e he)
            cases hoi : ops[e.1.1]? with
            | none => rw [hoi] at h5; cases h5
            | some oi => rw [hoi] at h5; exact ⟨oi, rfl, h5⟩
          refine wpOp_mono (fun a' w' h => ?_) (wpOp_putD ho (fun cs b => Region.noSelect_spec hsel i o cs b ho) hQ D a hap (hstep i hil hpi))
          obtain ⟨a0, rfl, hx, hE'⟩ := h
          have hS' := hS w' (hWw.tr hx)
          refine ⟨⟨hS'.1, fun _ => hS'.2.1, fun _ => hS'.2.2⟩, ?_⟩
          rw [← markD_set]
          refine ih f _ a0 w' D R w' (by omega) hE' (hWw.tr hx) (Ext.rf _) hperm hdn (fun e he => ⟨(hD e he).1, (hD e he).2.keep hx⟩) (fun e he => ?_) (fun j hj => ?_)
          · rw [getD_set_ne true (fun h => pre_ne hpi e he h.symm)]
            exact hal e he
          · rw [getD_set_ne false (fun h => by subst h; unfold preB at hpi; simp [hj] at hpi)]
            exact hpo j hj
        · rcases not_pre (by simpa using hpi) with ⟨e, he, rfl⟩ | hpost
          · have hiR : e ∈ R := hmem e he (fun hm => by
              obtain ⟨x, hx, hxe⟩ := List.mem_map.1 hm
              have h1 := (mem_ready.1 hi).1
              rw [getD_markD_mem ⟨x, hx, hxe⟩] at h1
              cases h1)
            obtain ⟨s, t, rfl⟩ := List.append_of_mem hiR
            have h1 := hk1 e he
            cases ho : ops[e.1]? with
            | none => rw [ho] at h1; cases h1
            | some o =>
              rw [ho] at h1
              simp only [Bool.and_eq_true, beq_iff_eq, Option.isNone_iff_eq_none] at h1
              unfold wpOp
              simp only [ho]
              rw [if_pos (by simp [Region.wanted, h1.1.1.2])]
              left
              unfold Oper.wp
              have hop : o.op = .alloc e.2.1 := by
                have := h1.2
                split at this
                · rename_i T hT; rw [hT, beq_iff_eq.1 this]
                · cases this
              obtain ⟨z, hz1, hz2⟩ : ∃ z, (P.info? e.2.1).bind (·.zero) = some z ∧ z.cells = e.2.2 := by
                have h3 := List.map_inj_left.1 hz e he
                cases hb : (P.info? e.2.1).bind (·.zero) with
                | none => rw [hb] at h3; cases h3
                | some z => rw [hb] at h3; exact ⟨z, rfl, by simpa using h3⟩
              rw [run_alloc hop hz1, hz2]
              simp only [Oper.upon]
              have hx : Ext w (w.alloc (.cells e.2.2 e.2.1)) := (Ext.rf w).al _
              have hS' := hS _ (hWw.tr hx)
              refine ⟨⟨hS'.1, fun _ => hS'.2.1, fun _ => hS'.2.2⟩, ?_⟩
              have hd : o.dst = dstOf ops e.1 := by simp [dstOf, ho]
              rw [hd]
              refine ih (f + 1) listed a w0 ((e, w.heap.size) :: D) (s ++ t) _ (by simp at hfn ⊢; omega) hE hW (h0w.tr hx) ?_ ?_ ?_ hal hpo
              · rw [List.map_cons, List.cons_append]
                refine List.Perm.trans ?_ hperm
                refine List.perm_middle.symm.trans (List.Perm.append_left _ ?_)
                exact List.perm_middle.symm
              · rw [List.map_cons, List.nodup_cons]
                refine ⟨fun hm => ?_, hdn⟩
                obtain ⟨x, hx', hxe⟩ := List.mem_map.1 hm
                have := (hD x hx').2.lt
                omega
              · intro x hx'
                rcases List.mem_cons.1 hx' with rfl | hx'
                · exact ⟨hWw.size, Box.new rfl⟩
                · exact ⟨(hD x hx').1, (hD x hx').2.keep hx⟩
          · exfalso
            have hq0 := hk3 i hpost
            have hpost_not : ∀ k ∈ post, i ∈ Region.ready md ops (markD D listed) → waitsB md ops i k = true → k ∈ D.map (fun x => x.1.1) := fun k hk hi hw => by
              have h1 := ready_waits hi hw
              by_cases hm : k ∈ D.map (fun x => x.1.1)
              · exact hm
              · rw [getD_markD_ne (fun e he hek => hm (by rw [← hek]; exact List.mem_map_of_mem (f := fun x => x.1.1) he))] at h1
                rw [hpo k hk] at h1
                cases h1
            have hq : (∀ k ∈ core, waitsB md ops i k = true) ∧ ∀ e ∈ AL, waitsB md ops i e.1 = true := by
              rcases hq0 with hq0 | hq0
              · exfalso
                obtain ⟨k, hk, hkw⟩ := hq0
                obtain ⟨x, hx, hxk⟩ := List.mem_map.1 (hpost_not k hk hi hkw.2)
                exact hk5 k hk x.1 (hDin x hx) hxk
              · exact hq0
            apply hb
            have hcore : coreB core listed = true := by
              unfold coreB
              rw [List.all_eq_true]
              intro k hk
              have h1 := ready_waits hi (hq.1 k hk)
              rw [getD_markD_ne (fun e he => pre_ne (hk4 k hk) _ (hDin e he))] at h1
              exact h1
            refine ⟨?_, hcore⟩
            rcases R with _ | ⟨e, R⟩
            · rfl
            · exfalso
              have heA : e ∈ AL := hperm.subset (List.mem_append_right _ (.head _))
              have h1 := ready_waits hi (hq.2 e heA)
              rw [getD_markD_ne (fun x hx => hRout e (.head _) x hx)] at h1
              have h2 := hal e heA
              simp only [Array.getD_eq_getD_getElem?] at h1 h2
              cases hc : listed[e.1]? <;> simp_all

theorem coreB_set {core : List Nat} {l : Array Bool} {i : Nat} (h : coreB core l = true) : coreB core (l.setIfInBounds i true) = true := by
  unfold coreB at *
  rw [List.all_eq_true] at *
  exact fun k hk => getD_set_true (h k hk)

theorem free_set {i j : Nat} {oi : Oper} {listed : Array Bool}
    (hfree : ∀ j oj, ops[j]? = some oj → j ≠ i → listed.getD j true = false → (∀ e ∈ oj.after, Region.binds md e = true → e.on ≠ i) → oi.apart ops oj = true) :
    ∀ k ok, ops[k]? = some ok → k ≠ i → (listed.setIfInBounds j true).getD k true = false → (∀ e ∈ ok.after, Region.binds md e = true → e.on ≠ i) → oi.apart ops ok = true := fun k ok hk hki hun hno => by
  refine hfree k ok hk hki ?_ hno
  by_cases hjk : j = k
  · subst hjk
    rcases Nat.lt_or_ge j listed.size with h | h
    · simp [h] at hun
    · simp [Array.getD, Nat.not_lt.2 h] at hun
  · rw [getD_set_ne true hjk] at hun; exact hun

/-- Take number i first: what it yields is known wherever only memory has been made (C). -/
theorem wpE_first {AL : List AE} {post core : List Nat} {W : World} {i : Nat} {oi : Oper} {v : Value} {C : World → Prop} (hi : ops[i]? = some oi) (hsel : Region.noSelect ops = true)
    (hQ : ∀ c a w, Q (.panic c) (a.put oi.dst v) w → Q (.panic c) a w) (hpi : preB AL post i = true)
    (hC : ∀ w', Ext W w' → C w')
    (hbar : ∀ f listed a w', coreB core listed = true → (∀ j oj, ops[j]? = some oj → j ≠ i → listed.getD j true = false → (∀ e ∈ oj.after, Region.binds md e = true → e.on ≠ i) → oi.apart ops oj = true) →
      i ∈ Region.ready md ops listed → YieldsIf P ops C oi v a → Ext W w' →
      Bar P md ops Q S A B xa xb AL W f (listed.setIfInBounds i true) (a.put oi.dst v) w' → Bar P md ops Q S A B xa xb AL W (f + 1) listed a w') :
    ∀ (f : Nat) (listed : Array Bool) (a : Act) (w : World),
      (∀ j oj, ops[j]? = some oj → j ≠ i → listed.getD j true = false → (∀ e ∈ oj.after, Region.binds md e = true → e.on ≠ i) → oi.apart ops oj = true) →
      i ∈ Region.ready md ops listed → YieldsIf P ops C oi v a → Ext W w →
      wpE P md ops Q S A B xa xb AL post core W f (listed.setIfInBounds i true) (a.put oi.dst v) w → wpE P md ops Q S A B xa xb AL post core W (f + 1) listed a w := by
  intro f
  induction f with
  | zero => intro listed a w _ _ _ _ h; exact h.elim
  | succ f ih =>
    intro listed a w hfree hr hy hW H w' hw'
    obtain ⟨H1, H2, H3⟩ := H w' hw'
    have hWw := hW.tr hw'
    refine ⟨fun hc => hbar _ _ _ _ hc hfree hr hy hWw (H1 (coreB_set hc)), fun _ => ⟨i, hr, hpi⟩, fun j hj hpj => ?_⟩
    by_cases hji : j = i
    · subst hji
      exact hy.wpOp hi (hC _ hWw) ⟨Ext.rf _, wpE_ext H hw'⟩
    · have h1 := H3 j (ready_mono hj hji) hpj
      obtain ⟨hjun, oj, hoj, hall⟩ := mem_ready.1 hj
      have hnot : ∀ e ∈ oj.after, Region.binds md e = true → e.on ≠ i := fun e he hb heq => by
        have h1 := hall e he hb
        have h0 := (mem_ready.1 hr).1
        rw [heq] at h1
        rcases Nat.lt_or_ge i listed.size with h' | h'
        · simp [h'] at h0 h1; rw [h0] at h1; cases h1
        · simp [Array.getElem?_eq_none h'] at h1
      have h2 := wpOp_putIf hoj (hfree j oj hoj hji hjun hnot) (fun cs b => Region.noSelect_spec hsel i oi cs b hi) (fun cs b => Region.noSelect_spec hsel j oj cs b hoj) hQ hy h1
      refine wpOp_mono (fun a' w'' h3 => ?_) h2
      obtain ⟨h31, h32, h33⟩ := h3
      rw [Array.setIfInBounds_comm _ _ (Ne.symm hji)] at h33
      exact ⟨h32, ih (listed.setIfInBounds j true) a' w'' (free_set hfree) (ready_mono hr (Ne.symm hji)) h31 (hWw.tr h32) h33⟩

/-- Take number i first; all stores wait for it. -/
theorem wpE_take {AL : List AE} {post core : List Nat} {W : World} {i : Nat} {oi : Oper} {v : Value} {f : Nat} {listed : Array Bool} {a : Act} {w : World} (hi : ops[i]? = some oi) (hsel : Region.noSelect ops = true)
    (hf : Region.free md ops listed i = true) (hr : (Region.ready md ops listed).contains i = true) (hpi : preB AL post i = true) (hci : core.contains i = true)
    (hQ : ∀ c a w, Q (.panic c) (a.put oi.dst v) w → Q (.panic c) a w) (hy : YieldsIf P ops (fun w' => Ext W w') oi v a) (hW : Ext W w)
    (H : wpE P md ops Q S A B xa xb AL post core W f (listed.setIfInBounds i true) (a.put oi.dst v) w) : wpE P md ops Q S A B xa xb AL post core W (f + 1) listed a w :=
  wpE_first hi hsel hQ hpi (fun _ h => h) (fun f listed a w' hc _ hr _ _ _ => by
    exfalso
    have h0 := (mem_ready.1 hr).1
    unfold coreB at hc
    rw [List.all_eq_true] at hc
    have h1 := hc i (by simpa using hci)
    simp only [Array.getD_eq_getD_getElem?] at h0 h1
    cases hc' : listed[i]? <;> simp_all) f listed a w (Region.free_spec hi hf) (by simpa using hr) hy hW H

/-- Take number i first; it may come up behind a store: what it yields is known under S. -/
theorem wpE_takeS {AL : List AE} {post core : List Nat} {W : World} {i : Nat} {oi : Oper} {v : Value} {f : Nat} {listed : Array Bool} {a : Act} {w : World} (hi : ops[i]? = some oi) (hsel : Region.noSelect ops = true)
    (hf : Region.free md ops listed i = true) (hr : (Region.ready md ops listed).contains i = true) (hpi : preB AL post i = true) (hok : lateOk md ops AL post core = true) (hia : i ≠ xa) (hib : i ≠ xb)
    (hS : ∀ w', Ext W w' → S w' ∧ A w' ∧ B w')
    (hQ : ∀ c a w, Q (.panic c) (a.put oi.dst v) w → Q (.panic c) a w) (hy : YieldsIf P ops S oi v a) (hW : Ext W w)
    (H : wpE P md ops Q S A B xa xb AL post core W f (listed.setIfInBounds i true) (a.put oi.dst v) w) : wpE P md ops Q S A B xa xb AL post core W (f + 1) listed a w := by
  refine wpE_first (C := S) hi hsel hQ hpi (fun w' h => (hS w' h).1) (fun f listed a w' _ hfree hr hy hW hb => ?_) f listed a w (Region.free_spec hi hf) (by simpa using hr) hy hW H
  intro ns h1 h2 h3 h4
  have hap : ∀ e ∈ AL.zip ns, ∃ o, ops[e.1.1]? = some o ∧ o.apart ops oi = true := fun e he => by
    simp only [lateOk, Bool.and_eq_true, List.all_eq_true, List.mem_range, Bool.or_eq_true, Bool.not_eq_true'] at hok
    have h4 := hok.1.1.1.2 i (Array.getElem?_eq_some_iff.1 hi).1
    rw [hi, hpi] at h4
    simp only [Bool.true_eq_false, false_or, Bool.and_eq_true, List.all_eq_true] at h4
    have h5 := h4.1 e.1 (List.of_mem_zip he).1
    cases ho : ops[e.1.1]? with
    | none => rw [ho] at h5; cases h5
    | some o => rw [ho] at h5; exact ⟨o, rfl, h5⟩
  have hnin : ∀ e ∈ AL.zip ns, e.1.1 ≠ i := fun e he => pre_ne hpi _ (List.of_mem_zip he).1
  have hb' := hb ns h1 h2 h3 h4
  rw [markD_set, putD_comm _ _ _ _ (fun e he d hd => by
    obtain ⟨o, ho, hp⟩ := hap e he
    have := (Oper.apart_spec hp).2.1
    intro hd'
    have hdo : dstOf ops e.1.1 = o.dst := by simp [dstOf, ho]
    rw [hdo] at hd'
    exact this d hd' hd)] at hb'
  have hready : i ∈ Region.ready md ops (markD (AL.zip ns) listed) := by
    obtain ⟨g1, o, ho, g2⟩ := mem_ready.1 hr
    refine mem_ready.2 ⟨?_, o, ho, fun x hx hb => getD_markD_mono (g2 x hx hb)⟩
    rw [getD_markD_ne hnin]
    exact g1
  have hfree' : ∀ (D : List (AE × Nat)) j oj, ops[j]? = some oj → j ≠ i → (markD D listed).getD j true = false → (∀ e ∈ oj.after, Region.binds md e = true → e.on ≠ i) → oi.apart ops oj = true := by
    intro D
    induction D with
    | nil => exact hfree
    | cons e D ihD => exact free_set ihD
  have hyD : ∀ (D : List (AE × Nat)), (∀ e ∈ D, ∃ o, ops[e.1.1]? = some o ∧ o.apart ops oi = true) → YieldsIf P ops S oi v (putD ops D a) := by
    intro D
    induction D with
    | nil => intro _; exact hy
    | cons e D ihD =>
      intro hap
      obtain ⟨o, ho, hp⟩ := hap e (.head _)
      have hdo : dstOf ops e.1.1 = o.dst := by simp [dstOf, ho]
      simp only [putD]
      have g1 : ∀ d, dstOf ops e.1.1 = some d → d ∉ oi.looksAt ops := by rw [hdo]; exact (Oper.apart_spec hp).1
      exact (ihD (fun e' he' => hap e' (.tail _ he'))).of_same (execOp_put oi (fun cs b => Region.noSelect_spec hsel i oi cs b hi) _ _ _ g1) (wanted_put oi _ _ _ g1)
  have hS' := hS w' hW
  exact wpG_first (C := S) (N := fun _ => True) hi (Region.noSelect_spec hsel) hQ hia hib (fun _ _ _ h => h.1) (fun _ _ _ _ _ _ => trivial) f _ _ w' (hfree' _) hready (hyD _ hap) trivial ⟨hS'.1, fun _ => hS'.2.1, fun _ => hS'.2.2⟩ hb'

/-- Number i alone may come up (but for the new variables). -/
theorem wpE_step {AL : List AE} {post core : List Nat} {W : World} {i : Nat} {o : Oper} {f : Nat} {listed : Array Bool} {a : Act} {w : World}
    (hr : (Region.ready md ops listed).filter (preB AL post) = [i]) (hc : coreB core listed = false) (ho : ops[i]? = some o)
    (h : ∀ w', Ext w w' → ∀ K' : Act → World → Prop, Shut (∀ a w'', Ext w' w'' → wpE P md ops Q S A B xa xb AL post core W f (listed.setIfInBounds i true) a w'' → K' a w'') →
      if Region.wanted o (yielded ops a.tmps) = true then Oper.wp P o a w' K' Q else K' (a.put o.dst undef) w') :
    wpE P md ops Q S A B xa xb AL post core W (f + 1) listed a w := by
  intro w' hw'
  have hi : i ∈ (Region.ready md ops listed).filter (preB AL post) := by rw [hr]; simp
  rw [List.mem_filter] at hi
  refine ⟨fun h0 => (by rw [hc] at h0; cases h0), fun _ => ⟨i, hi.1, hi.2⟩, fun j hj hpj => ?_⟩
  have hm : j ∈ (Region.ready md ops listed).filter (preB AL post) := List.mem_filter.2 ⟨hj, hpj⟩
  rw [hr] at hm
  obtain rfl : j = i := by simpa using hm
  exact wpOp_step ho (fun K' hK => h w' hw' K' (fun a w hS hW => hK a w ⟨hS, hW⟩))

/-- The stores come. -/
theorem wpE_done {AL : List AE} {post core : List Nat} {W : World} {f : Nat} {listed : Array Bool} {a : Act} {w : World}
    (hr : (Region.ready md ops listed).filter (preB AL post) = []) (hc : coreB core listed = true)
    (h : ∀ w', Ext w w' → Bar P md ops Q S A B xa xb AL W (f + 1) listed a w') : wpE P md ops Q S A B xa xb AL post core W (f + 1) listed a w := by
  intro w' hw'
  refine ⟨fun _ => h w' hw', fun h0 => (by rw [hc] at h0; cases h0), fun j hj hpj => ?_⟩
  have hm : j ∈ (Region.ready md ops listed).filter (preB AL post) := List.mem_filter.2 ⟨hj, hpj⟩
  rw [hr] at hm
  cases hm

/-- The new variables' pointers, in the frame. -/
def putN : List Nat → List Nat → Act → Act
  | d :: ds, n :: ns, a => (putN ds ns a).put (some d) (.pointer (some ⟨n, 0, none⟩))
  | _, _, a => a
def markI : List Nat → Array Bool → Array Bool
  | i :: is, l => (markI is l).setIfInBounds i true
  | [], l => l
theorem putD_zip : ∀ (AL : List AE) (ds ns : List Nat) (a : Act), AL.map (fun e => dstOf ops e.1) = ds.map some → ns.length = AL.length → putD ops (AL.zip ns) a = putN ds ns a
  | [], [], _, _, _, _ => rfl
  | e :: AL, d :: ds, n :: ns, a, h, hl => by
    simp only [List.map_cons, List.cons.injEq] at h
    simp only [List.zip_cons_cons, putD, putN]
    rw [h.1, putD_zip AL ds ns a h.2 (by simpa using hl)]
  | [], _ :: _, _, _, h, _ => by simp at h
  | _ :: _, [], _, _, h, _ => by simp at h
  | _ :: _, _ :: _, [], _, _, h => by simp at h
theorem markD_zip : ∀ (AL : List AE) (is ns : List Nat) (l : Array Bool), AL.map (·.1) = is → ns.length = AL.length → markD (AL.zip ns) l = markI is l
  | [], _, _, _, h, _ => by subst h; rfl
  | e :: AL, _, n :: ns, l, h, hl => by
    subst h
    simp only [List.zip_cons_cons, markD, List.map_cons, markI]
    rw [markD_zip AL _ ns l rfl (by simpa using hl)]
  | _ :: _, _, [], _, _, h => by simp at h

/-- The stores come: what is to be shown, the new variables' blocks given. -/
theorem wpE_stores {AL : List AE} {post core : List Nat} {W : World} {f : Nat} {listed : Array Bool} {a : Act} {w : World} (is ds : List Nat) (hi : AL.map (·.1) = is) (hd : AL.map (fun e => dstOf ops e.1) = ds.map some)
    (hr : (Region.ready md ops listed).filter (preB AL post) = []) (hc : coreB core listed = true) (hS : ∀ w', Ext w w' → S w' ∧ A w' ∧ B w')
    (h : ∀ w' ns, Ext w w' → ns.length = AL.length → ns.Nodup → (∀ n ∈ ns, W.heap.size ≤ n) → (∀ e ∈ AL.zip ns, Box w' e.2 e.1.2.1 e.1.2.2) →
      Shows S A B xa xb (markI is listed) w' → wpG P md ops Q S A B xa xb (f + 1) (markI is listed) (putN ds ns a) w') : wpE P md ops Q S A B xa xb AL post core W (f + 1) listed a w :=
  wpE_done hr hc (fun w' hw' ns h1 h2 h3 h4 => by
    rw [putD_zip AL ds ns a hd h1, markD_zip AL is ns listed hi h1]
    have h5 := hS w' hw'
    exact h w' ns hw' h1 h2 h3 h4 ⟨h5.1, fun _ => h5.2.1, fun _ => h5.2.2⟩)

theorem wpE_begin {id : Nat} {a : Act} {w : World} (AL : List AE) (post core : List Nat) (A B : World → Prop) (xa xb n : Nat) (hm : P.follows .mixedOrders = true)
    (hok : lateOk .any ops AL post core = true) (hnd : nodupB ops AL = true) (hsel : Region.noSelect ops = true)
    (hQ : ∀ c a d v w, Q (.panic c) a w → Q (.panic c) (a.put d v) w)
    (hz : (AL.map fun e => ((P.info? e.2.1).bind (·.zero)).map Value.cells) = AL.map fun e => some e.2.2)
    (hn : n + AL.length = ops.size) (hpo : (post.all fun j => !(Array.replicate ops.size false).getD j false) = true) (hal : (AL.all fun e => !(Array.replicate ops.size false).getD e.1 true) = true)
    (hS : ∀ w', Ext w w' → S w' ∧ A w' ∧ B w')
    (h : ∀ W, Ext w W → wpE P .any ops Q S A B xa xb AL post core W n (Array.replicate ops.size false) a W) : (Code.region id ops true).wp P Q a w := by
  refine wp_region_any hm (wpAny_of_wpG (S := S) (A := A) (B := B) (xa := xa) (xb := xb) _ _ _ _ ?_)
  have hW : Ext w w.drew := (Ext.rf w).dr
  have h1 := wpG_of_E (S := S) (A := A) (B := B) (xa := xa) (xb := xb) hok hnd hsel hQ hz (W := w.drew) (fun w' hw' => hS w' (hW.tr hw')) (n + AL.length) n (Array.replicate ops.size false) a w.drew [] AL w.drew rfl (h _ hW) (Ext.rf _) (Ext.rf _) (by simp) (by simp) (fun e he => by cases he)
    (fun e he => by have := List.all_eq_true.1 hal e he; simpa only [Bool.not_eq_true'] using this)
    (fun j hj => by have := List.all_eq_true.1 hpo j hj; simpa only [Bool.not_eq_true'] using this)
  rw [hn] at h1
  exact h1

end

end Go.Proofs.Ytbbidekjbgjooaa
