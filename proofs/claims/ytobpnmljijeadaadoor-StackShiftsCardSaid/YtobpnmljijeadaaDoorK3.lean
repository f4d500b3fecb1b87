/- Part 3 of what the laws of this seat lean on: A18, A18b, A19, A20, A21, A22, A23, A24, A25, A26, A27. -/
import Derived.Test.YtobpnmljijeadaaDoorK2
/- What an operation does to the account of objects; a region whose order is laid. -/
set_option linter.unusedVariables false
set_option linter.unusedSimpArgs false
namespace Go.Proofs.YtobpnmljijeadaaDoor.A
open Go

inductive Form (S : Sto) : Sto → Prop
  | same : Form S S
  | put (k : Nat) (o o' : AObj) (h : S.at k = some o) : Form S (S.put k o')
  | new (o : AObj) : Form S (S.new o)

def Dom (S : Sto) : Prop := ∀ k o, S.at k = some o → k < S.nx

theorem Form.dom {S S' : Sto} (h : Form S S') (hd : Dom S) : Dom S' := by
  cases h with
  | same => exact hd
  | put k o o' hk =>
    intro k2 o2 h2
    rw [Sto.at_put] at h2
    by_cases e : k2 = k
    · subst e; exact hd _ _ hk
    · rw [if_neg e] at h2; exact hd _ _ h2
  | new o =>
    intro k2 o2 h2
    rw [Sto.at_new] at h2
    by_cases e : k2 = S.nx
    · simp only [Sto.new]; omega
    · rw [if_neg e] at h2
      have := hd _ _ h2
      simp only [Sto.new]; omega

section
variable {P : Program} {T : Nat → Option TI} {E : Nat → Option Nat} {G : Nat → Option (List PV)} {σ : Env} {S S' : Sto} {g : List Prop} {v : AV} {wr lit : Bool}

theorem form_alloc {t : Nat} (h : stepAlloc T S t = some (g, v, S')) : Form S S' := by
  unfold stepAlloc at h
  split at h
  · simp only [Option.some.injEq, Prod.mk.injEq] at h; obtain ⟨_, _, rfl⟩ := h; exact .new _
  · simp at h
theorem form_box {u : AV} (h : stepBox S u = some (g, v, S')) : Form S S' := by
  unfold stepBox at h
  split at h
  · simp only [Option.some.injEq, Prod.mk.injEq] at h; obtain ⟨_, _, rfl⟩ := h; exact .new _
  · simp at h
theorem form_loadFrom {i : TI} {cs : List AV} {g0 : List Prop} (h : loadFrom i cs g0 S = some (g, v, S')) : Form S S' := by
  unfold loadFrom at h
  split at h <;> split at h <;> (try split at h) <;> (try (simp at h; done)) <;>
    (simp only [Option.some.injEq, Prod.mk.injEq] at h; obtain ⟨_, _, rfl⟩ := h; exact .same)
theorem form_load {t : Nat} {u : AV} (h : stepLoad T S t u = some (g, v, S')) : Form S S' := by
  unfold stepLoad at h
  split at h
  · simp at h
  · split at h
    · split at h
      · exact form_loadFrom h
      · simp at h
    · split at h
      · split at h
        · exact form_loadFrom h
        · simp at h
      · simp at h
    · exact form_loadFrom h
    · simp at h
theorem form_store {t : Nat} {u u1 : AV} (h : stepStore T S t u u1 = some (g, v, S')) : Form S S' := by
  unfold stepStore at h
  split at h
  case h_2 => simp at h
  split at h
  · simp at h
  · split at h
    · split at h
      · rename_i hk
        split at h
        · simp only [Option.some.injEq, Prod.mk.injEq] at h; obtain ⟨_, _, rfl⟩ := h; exact .put _ _ _ hk
        · simp at h
      · simp at h
    · split at h
      · rename_i hk
        split at h
        · simp only [Option.some.injEq, Prod.mk.injEq] at h; obtain ⟨_, _, rfl⟩ := h; exact .put _ _ _ hk
        · simp at h
      · simp at h
    · simp at h
theorem form_field {t f : Nat} {u : AV} (h : stepField T S t u f = some (g, v, S')) : Form S S' := by
  unfold stepField at h
  repeat' split at h
  all_goals first
    | (simp at h; done)
    | (simp only [Option.some.injEq, Prod.mk.injEq] at h; obtain ⟨_, _, rfl⟩ := h; exact .same)
theorem form_indexAddr {t : Nat} {u u1 : AV} (h : stepIndexAddr T S t u u1 = some (g, v, S')) : Form S S' := by
  unfold stepIndexAddr at h
  repeat' split at h
  all_goals first
    | (simp at h; done)
    | (simp only [Option.some.injEq, Prod.mk.injEq] at h; obtain ⟨_, _, rfl⟩ := h; exact .same)
theorem form_nilCheck {u : AV} (h : stepNilCheck S u = some (g, v, S')) : Form S S' := by
  unfold stepNilCheck at h
  repeat' split at h
  all_goals first
    | (simp at h; done)
    | (simp only [Option.some.injEq, Prod.mk.injEq] at h; obtain ⟨_, _, rfl⟩ := h; exact .same)
theorem form_pick {u u1 u2 : AV} (h : stepPick S u u1 u2 = some (g, v, S')) : Form S S' := by
  unfold stepPick at h
  repeat' split at h
  all_goals first
    | (simp at h; done)
    | (simp only [Option.some.injEq, Prod.mk.injEq] at h; obtain ⟨_, _, rfl⟩ := h; exact .same)
theorem form_fieldV {t f : Nat} {u : AV} (h : stepFieldV T S t u f = some (g, v, S')) : Form S S' := by
  unfold stepFieldV at h
  repeat' split at h
  all_goals first
    | (simp at h; done)
    | exact form_loadFrom h
theorem form_index {t : Nat} {u u1 : AV} (h : stepIndex T S t u u1 = some (g, v, S')) : Form S S' := by
  unfold stepIndex at h
  repeat' split at h
  all_goals first
    | (simp at h; done)
    | exact form_loadFrom h
    | (simp only [Option.some.injEq, Prod.mk.injEq] at h; obtain ⟨_, _, rfl⟩ := h; exact .same)
theorem form_extract {t : Nat} {u : AV} (h : stepExtract S u t = some (g, v, S')) : Form S S' := by
  unfold stepExtract at h
  repeat' split at h
  all_goals first
    | (simp at h; done)
    | (simp only [Option.some.injEq, Prod.mk.injEq] at h; obtain ⟨_, _, rfl⟩ := h; exact .same)
theorem form_bin {op : BinOp} {t : Nat} {u u1 : AV} (h : stepBin wr T S op t u u1 = some (g, v, S')) : Form S S' := by
  unfold stepBin at h
  repeat' split at h
  all_goals first
    | (simp at h; done)
    | (simp only [Option.some.injEq, Prod.mk.injEq] at h; obtain ⟨_, _, rfl⟩ := h; exact .same)
theorem form_eqA {op : BinOp} {t : Nat} {u u1 : AV} (h : stepEqA E S op t u u1 = some (g, v, S')) : Form S S' := by
  unfold stepEqA at h
  repeat' split at h
  all_goals first
    | (simp at h; done)
    | (simp only [Option.some.injEq, Prod.mk.injEq] at h; obtain ⟨_, _, rfl⟩ := h; exact .same)
theorem form_un {op : UnOp} {u : AV} (h : stepUn S op u = some (g, v, S')) : Form S S' := by
  unfold stepUn at h
  repeat' split at h
  all_goals first
    | (simp at h; done)
    | (simp only [Option.some.injEq, Prod.mk.injEq] at h; obtain ⟨_, _, rfl⟩ := h; exact .same)
theorem form_conv {s d : Nat} {u : AV} (h : stepConv wr T S s d u = some (g, v, S')) : Form S S' := by
  unfold stepConv at h
  repeat' split at h
  all_goals first
    | (simp at h; done)
    | (simp only [Option.some.injEq, Prod.mk.injEq] at h; obtain ⟨_, _, rfl⟩ := h; exact .same)
theorem form_append {ts : Array Nat} {u u1 : AV} (h : stepAppend T S ts u u1 = some (g, v, S')) : Form S S' := by
  unfold stepAppend at h
  repeat' split at h
  all_goals first
    | (simp at h; done)
    | (simp only [Option.some.injEq, Prod.mk.injEq] at h; obtain ⟨_, _, rfl⟩ := h; first | exact .new _ | (exact .put _ _ _ (by assumption)))
theorem form_build {t : Nat} {ps : Array (Nat × Operand)} (h : stepBuild T G σ t ps = some (g, v, S')) : Form σ.S S' := by
  unfold stepBuild at h
  repeat' split at h
  all_goals first
    | (simp at h; done)
    | (simp only [Option.some.injEq, Prod.mk.injEq] at h; obtain ⟨_, _, rfl⟩ := h; exact .same)
theorem form_buildSlice {t n : Nat} {ps : Array (Nat × Operand)} (h : stepBuildSlice T G σ t n ps = some (g, v, S')) : Form σ.S S' := by
  unfold stepBuildSlice at h
  repeat' split at h
  all_goals first
    | (simp at h; done)
    | (simp only [Option.some.injEq, Prod.mk.injEq] at h; obtain ⟨_, _, rfl⟩ := h; exact .new _)
theorem form_len {ts : Array Nat} {u : AV} (h : stepLen T S ts u = some (g, v, S')) : Form S S' := by
  unfold stepLen at h
  repeat' split at h
  all_goals first
    | (simp at h; done)
    | (simp only [Option.some.injEq, Prod.mk.injEq] at h; obtain ⟨_, _, rfl⟩ := h; exact .same)
theorem form_max {mx : Bool} {u u1 : AV} (h : stepMax S mx u u1 = some (g, v, S')) : Form S S' := by
  unfold stepMax at h
  repeat' split at h
  all_goals first
    | (simp at h; done)
    | (simp only [Option.some.injEq, Prod.mk.injEq] at h; obtain ⟨_, _, rfl⟩ := h; exact .same)
theorem form_slice {t : Nat} {u : AV} {l hh : Option AV} (h : stepSlice T S t u l hh = some (g, v, S')) : Form S S' := by
  unfold stepSlice at h
  repeat' split at h
  all_goals first
    | (simp at h; done)
    | (simp only [Option.some.injEq, Prod.mk.injEq] at h; obtain ⟨_, _, rfl⟩ := h; exact .same)
theorem form_makeFunc {f : Fn} {a c : Array Operand} (h : stepMakeFunc G σ f a c = some (g, v, S')) : Form σ.S S' := by
  unfold stepMakeFunc at h
  repeat' split at h
  all_goals first
    | (simp at h; done)
    | (simp only [Option.some.injEq, Prod.mk.injEq] at h; obtain ⟨_, _, rfl⟩ := h; exact .same)
theorem form_make {t : Nat} {u u1 : AV} (h : stepMake T S t u u1 = some (g, v, S')) : Form S S' := by
  unfold stepMake at h
  repeat' split at h
  all_goals first
    | (simp at h; done)
    | (simp only [Option.some.injEq, Prod.mk.injEq] at h; obtain ⟨_, _, rfl⟩ := h; exact .new _)

theorem form_makeMap {t : Nat} (h : stepMakeMap T S t = some (g, v, S')) : Form S S' := by
  unfold stepMakeMap at h
  repeat' split at h
  all_goals first
    | (simp at h; done)
    | (simp only [Option.some.injEq, Prod.mk.injEq] at h; obtain ⟨_, _, rfl⟩ := h; exact .new _)
theorem form_lookup {t : Nat} {u u1 : AV} (h : stepLookup T S t u u1 = some (g, v, S')) : Form S S' := by
  unfold stepLookup at h
  repeat' split at h
  all_goals first
    | (simp at h; done)
    | (simp only [Option.some.injEq, Prod.mk.injEq] at h; obtain ⟨_, _, rfl⟩ := h; exact .same)
theorem form_mapUpdate {t : Nat} {u u1 u2 : AV} (h : stepMapUpdate T S t u u1 u2 = some (g, v, S')) : Form S S' := by
  unfold stepMapUpdate at h
  repeat' split at h
  all_goals first
    | (simp at h; done)
    | (simp only [Option.some.injEq, Prod.mk.injEq] at h; obtain ⟨_, _, rfl⟩ := h; exact .put _ _ _ (by assumption))

theorem form_on1 {e : List (Nat × AV)} {x : Operand} {k : AV → R3} (h : on1 G e x k = some (g, v, S')) (hk : ∀ u g v, k u = some (g, v, S') → Form S S') : Form S S' := by
  unfold on1 at h
  split at h
  case h_2 => simp at h
  split at h
  case h_2 => simp at h
  rename_i hk'
  simp only [Option.some.injEq, Prod.mk.injEq] at h
  obtain ⟨_, _, rfl⟩ := h
  exact hk _ _ _ hk'
theorem form_on2 {e : List (Nat × AV)} {x y : Operand} {k : AV → AV → R3} (h : on2 G e x y k = some (g, v, S')) (hk : ∀ u u1 g v, k u u1 = some (g, v, S') → Form S S') : Form S S' := by
  unfold on2 at h
  split at h
  case h_2 => simp at h
  split at h
  case h_2 => simp at h
  split at h
  case h_2 => simp at h
  rename_i hk'
  simp only [Option.some.injEq, Prod.mk.injEq] at h
  obtain ⟨_, _, rfl⟩ := h
  exact hk _ _ _ _ hk'

theorem form_B {b : Builtin} {args : List Operand} {ts : Array Nat} (h : stepB T G σ b args ts = some (g, v, S')) : Form σ.S S' := by
  unfold stepB at h
  split at h
  · exact form_on1 h fun _ _ _ h => form_len h
  · exact form_on2 h fun _ _ _ _ h => form_append h
  · exact form_on2 h fun _ _ _ _ h => form_max h
  · exact form_on2 h fun _ _ _ _ h => form_max h
  · simp at h

theorem form_op {op : Op} (h : stepOp wr T E G σ op = some (g, v, S')) : Form σ.S S' := by
  unfold stepOp at h
  split at h
  · exact form_on1 h fun _ _ _ h => by simp only [Option.some.injEq, Prod.mk.injEq] at h; obtain ⟨_, _, rfl⟩ := h; exact .same
  · exact form_on1 h fun _ _ _ h => by simp only [Option.some.injEq, Prod.mk.injEq] at h; obtain ⟨_, _, rfl⟩ := h; exact .same
  · split at h
    case h_2 => simp at h
    split at h
    case h_2 => simp at h
    rename_i hk
    simp only [Option.some.injEq, Prod.mk.injEq] at h
    obtain ⟨_, _, rfl⟩ := h
    exact form_pick hk
  · exact form_alloc h
  · exact form_on1 h fun _ _ _ h => form_box h
  · exact form_build h
  · exact form_buildSlice h
  · exact form_on1 h fun _ _ _ h => form_load h
  · exact form_on2 h fun _ _ _ _ h => form_store h
  · exact form_on1 h fun _ _ _ h => form_nilCheck h
  · exact form_on2 h fun _ _ _ _ h => by
      split at h
      · exact form_eqA h
      · exact form_bin h
  · exact form_on1 h fun _ _ _ h => form_un h
  · exact form_on1 h fun _ _ _ h => form_conv h
  · exact form_on1 h fun _ _ _ h => form_field h
  · exact form_on1 h fun _ _ _ h => form_fieldV h
  · exact form_on2 h fun _ _ _ _ h => form_indexAddr h
  · exact form_on2 h fun _ _ _ _ h => form_index h
  · exact form_on1 h fun _ _ _ h => form_extract h
  · exact form_makeFunc h
  · exact form_on2 h fun _ _ _ _ h => form_make h
  · exact form_makeMap h
  · exact form_on2 h fun _ _ _ _ h => form_lookup h
  · split at h
    case h_2 => simp at h
    split at h
    case h_2 => simp at h
    rename_i hk
    simp only [Option.some.injEq, Prod.mk.injEq] at h
    obtain ⟨_, _, rfl⟩ := h
    exact form_on2 hk fun _ _ _ _ h => form_mapUpdate h
  · split at h
    case h_2 => simp at h
    split at h
    case h_2 => simp at h
    rename_i hk
    simp only [Option.some.injEq, Prod.mk.injEq] at h
    obtain ⟨_, _, rfl⟩ := h
    exact form_on1 hk fun _ _ _ h => form_slice h
  · split at h
    · exact form_B h
    · simp at h
  · simp at h

theorem form_call {f : Operand} {args : List Operand} {h0 : Hint P G} (h : stepCall σ f args h0 = some (g, v, S')) : Form σ.S S' := by
  have hcw : ∀ fid g0 l, callWith σ.S h0 fid g0 l = some (g, v, S') → Form σ.S S' := fun fid g0 l h => by
    unfold callWith at h
    split at h
    case h_2 => simp at h
    split at h
    case h_2 => simp at h
    simp only [Option.some.injEq, Prod.mk.injEq] at h
    obtain ⟨_, _, rfl⟩ := h
    exact .same
  unfold stepCall at h
  split at h
  case h_2 => simp at h
  split at h
  case h_2 => simp at h
  split at h
  · exact hcw _ _ _ h
  · exact hcw _ _ _ h
  · simp at h

theorem form_X {hs hs' : List (Hint P G)} {op : Op} (h : stepX wr T E σ hs op = some (g, v, S', hs')) : Form σ.S S' := by
  unfold stepX at h
  split at h
  · split at h
    · split at h
      case h_2 => simp at h
      split at h
      case h_2 => simp at h
      rename_i hc
      simp only [Option.some.injEq, Prod.mk.injEq] at h
      obtain ⟨_, _, rfl, _⟩ := h
      exact form_call hc
    · split at h
      case h_2 => simp at h
      rename_i hc
      simp only [Option.some.injEq, Prod.mk.injEq] at h
      obtain ⟨_, _, rfl, _⟩ := h
      exact form_op hc
  · split at h
    case h_2 => simp at h
    rename_i hc
    simp only [Option.some.injEq, Prod.mk.injEq] at h
    obtain ⟨_, _, rfl, _⟩ := h
    exact form_op hc

theorem form_R {hs hs' : List (Hint P G)} {ops : List Oper} {o : Oper} (h : stepR lit wr T E ops σ hs o = some (g, v, S', hs')) : Form σ.S S' := by
  unfold stepR at h
  split at h
  · exact form_X h
  · split at h
    case h_1 => simp at h
    split at h
    · split at h
      · exact form_X h
      · simp only [Option.some.injEq, Prod.mk.injEq] at h
        obtain ⟨_, _, rfl, _⟩ := h
        exact .same
    · split at h
      case h_2 => simp at h
      simp only [Option.some.injEq, Prod.mk.injEq] at h
      obtain ⟨_, _, rfl, _⟩ := h
      exact .same
end

section
variable {P : Program} {O : Nat → Prop} {Γ : Ctx} {r : Option Nat} {σ σ' : Env} {T : Nat → Option TI} {E : Nat → Option Nat} {g : List Prop} {lit wr : Bool} {N B : Nat} {Q : Exit → Env → Prop}

theorem runSeq_ok (hT : TOk P T) (hE : EqOk P E) {ops : List Oper} : ∀ (l : List Oper) (σ : Env) (hs : List (Hint P Γ.G)) (g : List Prop) (σ' : Env), runSeq lit wr T E N ops l σ hs = some (g, σ') → AllP g → Q .normal σ' →
    ∀ n ρ a w S1 ρ1 w1, Rel O Γ N B σ ρ a w → Evo S1 ρ1 w1 σ.S ρ w → wpListIn (Fw r) n P ops.toArray (After O Γ N B Q S1 ρ1 w1) l a w
  | [], σ, hs, g, σ', h, hg, hQ, n, ρ, a, w, S1, ρ1, w1, hr, he => by
    simp only [runSeq, Option.some.injEq, Prod.mk.injEq] at h
    obtain ⟨rfl, rfl⟩ := h
    exact ⟨by simp, σ, ρ, hQ, hr, he⟩
  | o :: rest, σ, hs, g, σ', h, hg, hQ, n, ρ, a, w, S1, ρ1, w1, hr, he => by
    unfold runSeq at h
    split at h
    case h_2 => simp at h
    rename_i g1 v S' hs' hst
    split at h
    case h_2 => simp at h
    rename_i hd
    split at h
    case h_2 => simp at h
    rename_i g2 σ2 hrest
    simp only [Option.some.injEq, Prod.mk.injEq] at h
    obtain ⟨rfl, rfl⟩ := h
    refine wpListIn_step fun K hK => ?_
    refine stepR_ok hT hE hst hg.append.1 n ρ a w K _ hr.st (fresh_of hr.dom) hr.env (fun cv w' ρ' hv hs2 he2 => hK _ _ ?_)
    refine runSeq_ok hT hE rest _ hs' g2 _ hrest hg.append.2 hQ n ρ' _ w' S1 ρ1 w1 ?_ (he.trans he2)
    refine ⟨hs2, hr.env.put hv (by rw [hr.size]; exact hd) he2, by rw [put_size]; exact hr.size, Nat.le_trans hr.base he2.size, ?_, (form_R hst).dom hr.dom, hr.low⟩
    rw [put_defers]
    exact hr.marks.evo he2

/-- A region, by running it. -/
theorem W_region (hT : TOk P T) (hE : EqOk P E) (hs : List (Hint P Γ.G)) {id : Nat} {ops : List Oper} (h : runSeq lit wr T E N ops ops σ hs = some (g, σ')) (hg : AllP g) (hQ : Q .normal σ') :
    W P O Γ N r (.region id ops.toArray false) Q σ := fun n B ρ a w hr =>
  wpIn_region_lit (runSeq_ok hT hE ops σ hs g σ' h hg hQ n ρ a w _ _ _ hr (Evo.refl _ _ _))
end
end Go.Proofs.YtobpnmljijeadaaDoor.A

/- Operations that leave the account of objects alone. -/
set_option linter.unusedVariables false
set_option linter.unusedSimpArgs false
namespace Go.Proofs.YtobpnmljijeadaaDoor.A
open Go

section
variable {P : Program} {T : Nat → Option TI} {E : Nat → Option Nat} {G : Nat → Option (List PV)} {σ : Env} {S S' : Sto} {g : List Prop} {v : AV} {wr lit : Bool}
theorem same_loadFrom {i : TI} {cs : List AV} {g0 : List Prop} (h : loadFrom i cs g0 S = some (g, v, S')) : S' = S := by
  unfold loadFrom at h
  split at h <;> split at h <;> (try split at h) <;> (try (simp at h; done)) <;>
    (simp only [Option.some.injEq, Prod.mk.injEq] at h; obtain ⟨_, _, rfl⟩ := h; rfl)
theorem same_load {t : Nat} {u : AV} (h : stepLoad T S t u = some (g, v, S')) : S' = S := by
  unfold stepLoad at h
  split at h
  · simp at h
  · split at h
    · split at h
      · exact same_loadFrom h
      · simp at h
    · split at h
      · split at h
        · exact same_loadFrom h
        · simp at h
      · simp at h
    · exact same_loadFrom h
    · simp at h
theorem same_field {t f : Nat} {u : AV} (h : stepField T S t u f = some (g, v, S')) : S' = S := by
  unfold stepField at h
  repeat' split at h
  all_goals first
    | (simp at h; done)
    | (simp only [Option.some.injEq, Prod.mk.injEq] at h; obtain ⟨_, _, rfl⟩ := h; rfl)
theorem same_indexAddr {t : Nat} {u u1 : AV} (h : stepIndexAddr T S t u u1 = some (g, v, S')) : S' = S := by
  unfold stepIndexAddr at h
  repeat' split at h
  all_goals first
    | (simp at h; done)
    | (simp only [Option.some.injEq, Prod.mk.injEq] at h; obtain ⟨_, _, rfl⟩ := h; rfl)
theorem same_nilCheck {u : AV} (h : stepNilCheck S u = some (g, v, S')) : S' = S := by
  unfold stepNilCheck at h
  repeat' split at h
  all_goals first
    | (simp at h; done)
    | (simp only [Option.some.injEq, Prod.mk.injEq] at h; obtain ⟨_, _, rfl⟩ := h; rfl)
theorem same_pick {u u1 u2 : AV} (h : stepPick S u u1 u2 = some (g, v, S')) : S' = S := by
  unfold stepPick at h
  repeat' split at h
  all_goals first
    | (simp at h; done)
    | (simp only [Option.some.injEq, Prod.mk.injEq] at h; obtain ⟨_, _, rfl⟩ := h; rfl)
theorem same_fieldV {t f : Nat} {u : AV} (h : stepFieldV T S t u f = some (g, v, S')) : S' = S := by
  unfold stepFieldV at h
  repeat' split at h
  all_goals first
    | (simp at h; done)
    | exact same_loadFrom h
theorem same_index {t : Nat} {u u1 : AV} (h : stepIndex T S t u u1 = some (g, v, S')) : S' = S := by
  unfold stepIndex at h
  repeat' split at h
  all_goals first
    | (simp at h; done)
    | exact same_loadFrom h
    | (simp only [Option.some.injEq, Prod.mk.injEq] at h; obtain ⟨_, _, rfl⟩ := h; rfl)
theorem same_extract {t : Nat} {u : AV} (h : stepExtract S u t = some (g, v, S')) : S' = S := by
  unfold stepExtract at h
  repeat' split at h
  all_goals first
    | (simp at h; done)
    | (simp only [Option.some.injEq, Prod.mk.injEq] at h; obtain ⟨_, _, rfl⟩ := h; rfl)
theorem same_bin {op : BinOp} {t : Nat} {u u1 : AV} (h : stepBin wr T S op t u u1 = some (g, v, S')) : S' = S := by
  unfold stepBin at h
  repeat' split at h
  all_goals first
    | (simp at h; done)
    | (simp only [Option.some.injEq, Prod.mk.injEq] at h; obtain ⟨_, _, rfl⟩ := h; rfl)
theorem same_eqA {op : BinOp} {t : Nat} {u u1 : AV} (h : stepEqA E S op t u u1 = some (g, v, S')) : S' = S := by
  unfold stepEqA at h
  repeat' split at h
  all_goals first
    | (simp at h; done)
    | (simp only [Option.some.injEq, Prod.mk.injEq] at h; obtain ⟨_, _, rfl⟩ := h; rfl)
theorem same_un {op : UnOp} {u : AV} (h : stepUn S op u = some (g, v, S')) : S' = S := by
  unfold stepUn at h
  repeat' split at h
  all_goals first
    | (simp at h; done)
    | (simp only [Option.some.injEq, Prod.mk.injEq] at h; obtain ⟨_, _, rfl⟩ := h; rfl)
theorem same_conv {s d : Nat} {u : AV} (h : stepConv wr T S s d u = some (g, v, S')) : S' = S := by
  unfold stepConv at h
  repeat' split at h
  all_goals first
    | (simp at h; done)
    | (simp only [Option.some.injEq, Prod.mk.injEq] at h; obtain ⟨_, _, rfl⟩ := h; rfl)
theorem same_build {t : Nat} {ps : Array (Nat × Operand)} (h : stepBuild T G σ t ps = some (g, v, S')) : S' = σ.S := by
  unfold stepBuild at h
  repeat' split at h
  all_goals first
    | (simp at h; done)
    | (simp only [Option.some.injEq, Prod.mk.injEq] at h; obtain ⟨_, _, rfl⟩ := h; rfl)
theorem same_len {ts : Array Nat} {u : AV} (h : stepLen T S ts u = some (g, v, S')) : S' = S := by
  unfold stepLen at h
  repeat' split at h
  all_goals first
    | (simp at h; done)
    | (simp only [Option.some.injEq, Prod.mk.injEq] at h; obtain ⟨_, _, rfl⟩ := h; rfl)
theorem same_max {mx : Bool} {u u1 : AV} (h : stepMax S mx u u1 = some (g, v, S')) : S' = S := by
  unfold stepMax at h
  repeat' split at h
  all_goals first
    | (simp at h; done)
    | (simp only [Option.some.injEq, Prod.mk.injEq] at h; obtain ⟨_, _, rfl⟩ := h; rfl)
theorem same_slice {t : Nat} {u : AV} {l hh : Option AV} (h : stepSlice T S t u l hh = some (g, v, S')) : S' = S := by
  unfold stepSlice at h
  repeat' split at h
  all_goals first
    | (simp at h; done)
    | (simp only [Option.some.injEq, Prod.mk.injEq] at h; obtain ⟨_, _, rfl⟩ := h; rfl)
theorem same_makeFunc {f : Fn} {a c : Array Operand} (h : stepMakeFunc G σ f a c = some (g, v, S')) : S' = σ.S := by
  unfold stepMakeFunc at h
  repeat' split at h
  all_goals first
    | (simp at h; done)
    | (simp only [Option.some.injEq, Prod.mk.injEq] at h; obtain ⟨_, _, rfl⟩ := h; rfl)
theorem same_lookup {t : Nat} {u u1 : AV} (h : stepLookup T S t u u1 = some (g, v, S')) : S' = S := by
  unfold stepLookup at h
  repeat' split at h
  all_goals first
    | (simp at h; done)
    | (simp only [Option.some.injEq, Prod.mk.injEq] at h; obtain ⟨_, _, rfl⟩ := h; rfl)
theorem same_on1 {e : List (Nat × AV)} {x : Operand} {k : AV → R3} (h : on1 G e x k = some (g, v, S')) (hk : ∀ u g v, k u = some (g, v, S') → S' = S) : S' = S := by
  unfold on1 at h
  split at h
  case h_2 => simp at h
  split at h
  case h_2 => simp at h
  rename_i hk'
  simp only [Option.some.injEq, Prod.mk.injEq] at h
  obtain ⟨_, _, rfl⟩ := h
  exact hk _ _ _ hk'
theorem same_on2 {e : List (Nat × AV)} {x y : Operand} {k : AV → AV → R3} (h : on2 G e x y k = some (g, v, S')) (hk : ∀ u u1 g v, k u u1 = some (g, v, S') → S' = S) : S' = S := by
  unfold on2 at h
  split at h
  case h_2 => simp at h
  split at h
  case h_2 => simp at h
  split at h
  case h_2 => simp at h
  rename_i hk'
  simp only [Option.some.injEq, Prod.mk.injEq] at h
  obtain ⟨_, _, rfl⟩ := h
  exact hk _ _ _ _ hk'

/-- Does it lay or turn an object? -/
def mods : Op → Bool
  | .alloc _ => true
  | .box _ _ => true
  | .buildSlice _ _ _ => true
  | .store _ _ _ => true
  | .makeSlice _ _ _ => true
  | .makeMap _ _ => true
  | .mapUpdate _ _ _ _ => true
  | .call c => match c.callee with
    | .builtin .append => true
    | _ => false
  | _ => false

theorem same_B {b : Builtin} {args : List Operand} {ts : Array Nat} (hb : b ≠ .append) (h : stepB T G σ b args ts = some (g, v, S')) : S' = σ.S := by
  unfold stepB at h
  split at h
  · exact same_on1 h fun _ _ _ h => same_len h
  · exact absurd rfl hb
  · exact same_on2 h fun _ _ _ _ h => same_max h
  · exact same_on2 h fun _ _ _ _ h => same_max h
  · simp at h

theorem same_op {op : Op} (hm : mods op = false) (h : stepOp wr T E G σ op = some (g, v, S')) : S' = σ.S := by
  unfold stepOp at h
  split at h
  · exact same_on1 h fun _ _ _ h => by simp only [Option.some.injEq, Prod.mk.injEq] at h; exact h.2.2.symm
  · exact same_on1 h fun _ _ _ h => by simp only [Option.some.injEq, Prod.mk.injEq] at h; exact h.2.2.symm
  · split at h
    case h_2 => simp at h
    split at h
    case h_2 => simp at h
    rename_i hk
    simp only [Option.some.injEq, Prod.mk.injEq] at h
    obtain ⟨_, _, rfl⟩ := h
    exact same_pick hk
  · simp [mods] at hm
  · simp [mods] at hm
  · exact same_build h
  · simp [mods] at hm
  · exact same_on1 h fun _ _ _ h => same_load h
  · simp [mods] at hm
  · exact same_on1 h fun _ _ _ h => same_nilCheck h
  · exact same_on2 h fun _ _ _ _ h => by
      split at h
      · exact same_eqA h
      · exact same_bin h
  · exact same_on1 h fun _ _ _ h => same_un h
  · exact same_on1 h fun _ _ _ h => same_conv h
  · exact same_on1 h fun _ _ _ h => same_field h
  · exact same_on1 h fun _ _ _ h => same_fieldV h
  · exact same_on2 h fun _ _ _ _ h => same_indexAddr h
  · exact same_on2 h fun _ _ _ _ h => same_index h
  · exact same_on1 h fun _ _ _ h => same_extract h
  · exact same_makeFunc h
  · simp [mods] at hm
  · simp [mods] at hm
  · exact same_on2 h fun _ _ _ _ h => same_lookup h
  · simp [mods] at hm
  · split at h
    case h_2 => simp at h
    split at h
    case h_2 => simp at h
    rename_i hk
    simp only [Option.some.injEq, Prod.mk.injEq] at h
    obtain ⟨_, _, rfl⟩ := h
    exact same_on1 hk fun _ _ _ h => same_slice h
  · split at h
    · rename_i b hb
      exact same_B (fun e => by subst e; simp [mods, hb] at hm) h
    · simp at h
  · simp at h

theorem same_call {f : Operand} {args : List Operand} {h0 : Hint P G} (h : stepCall σ f args h0 = some (g, v, S')) : S' = σ.S := by
  have hcw : ∀ fid g0 l, callWith σ.S h0 fid g0 l = some (g, v, S') → S' = σ.S := fun fid g0 l h => by
    unfold callWith at h
    split at h
    case h_2 => simp at h
    split at h
    case h_2 => simp at h
    simp only [Option.some.injEq, Prod.mk.injEq] at h
    exact h.2.2.symm
  unfold stepCall at h
  split at h
  case h_2 => simp at h
  split at h
  case h_2 => simp at h
  split at h
  · exact hcw _ _ _ h
  · exact hcw _ _ _ h
  · simp at h

theorem same_X {hs hs' : List (Hint P G)} {op : Op} (hm : mods op = false) (h : stepX wr T E σ hs op = some (g, v, S', hs')) : S' = σ.S := by
  unfold stepX at h
  split at h
  · split at h
    · split at h
      case h_2 => simp at h
      split at h
      case h_2 => simp at h
      rename_i hc
      simp only [Option.some.injEq, Prod.mk.injEq] at h
      obtain ⟨_, _, rfl, _⟩ := h
      exact same_call hc
    · split at h
      case h_2 => simp at h
      rename_i hc
      simp only [Option.some.injEq, Prod.mk.injEq] at h
      obtain ⟨_, _, rfl, _⟩ := h
      exact same_op hm hc
  · split at h
    case h_2 => simp at h
    rename_i hc
    simp only [Option.some.injEq, Prod.mk.injEq] at h
    obtain ⟨_, _, rfl, _⟩ := h
    exact same_op hm hc

/-- Does it, where it stands? -/
def modsO (o : Oper) : Bool :=
  match o.guard with
  | none => mods o.op
  | some _ => false

theorem same_R {hs hs' : List (Hint P G)} {ops : List Oper} {o : Oper} (hm : modsO o = false) (h : stepR false wr T E ops σ hs o = some (g, v, S', hs')) : S' = σ.S := by
  unfold stepR at h
  split at h
  · rename_i hg
    exact same_X (by simpa [modsO, hg] using hm) h
  · split at h
    case h_1 => simp at h
    simp only at h
    split at h
    case h_2 => simp at h
    simp only [Option.some.injEq, Prod.mk.injEq] at h
    exact h.2.2.1.symm
end

end Go.Proofs.YtobpnmljijeadaaDoor.A

/- From a body to a contract. -/
set_option linter.unusedVariables false
set_option linter.unusedSimpArgs false
namespace Go.Proofs.YtobpnmljijeadaaDoor.A
open Go

/-! ### Marks are shut -/
section
variable {O : Nat → Prop} {Γ : Ctx} {S : Sto} {ρ : Nat → Loc} {w w' : World} {D : Nat}

/-- One block, which holds no cells, turns. -/
structure Shut (w w' : World) (D : Nat) : Prop where
  os : w'.os = w.os
  tape : w'.tape = w.tape
  output : w'.output = w.output
  size : w'.heap.size = w.heap.size
  was : ∀ cs e f, w.heap[D]? ≠ some (.cells cs e f)
  old : ∀ b, b ≠ D → w'.heap[b]? = w.heap[b]?

theorem Shut.cell (h : Shut w w' D) {a : Addr} {v : Value} (hc : w.cell? a = some v) : w'.cell? a = some v := by
  have : a.block ≠ D := fun e => by
    unfold World.cell? at hc
    split at hc
    · rename_i cs e' f hh
      rw [e] at hh
      exact h.was _ _ _ hh
    · simp at hc
  rw [← hc]
  exact World.cell?_of_block (h.old _ this)

theorem PR.shut {own : Nat → Prop} (h : Shut w w' D) {x : PV} {v : Value} (hx : PR w own x v) : PR w' own x v := by
  induction hx with
  | v x => exact .v x
  | ro sz n cap f a g hc hz hl hm h1 hr ih =>
    refine .ro sz n cap f a g hc hz hl (fun hn => ?_) h1 (fun i j hi hj => ih i j hi hj)
    obtain ⟨b, o, rfl, hno, hcell⟩ := hm hn
    exact ⟨b, o, rfl, hno, fun i j hi hj => h.cell (hcell i j hi hj)⟩
  | rp cs off b o g hm hr ih => exact .rp cs off b o g (fun j hj => ⟨h.cell (hm j hj).1, (hm j hj).2⟩) (fun j hj => ih j hj)
  | fn f first cap a b ha hb hra hrb iha ihb => exact .fn f first cap a b ha hb iha ihb
  | nl n b h => exact .nl n b h

theorem VR.shut (h : Shut w w' D) {x : AV} {v : Value} (hx : VR O S ρ w x v) : VR O S ρ w' x v := by
  induction hx with
  | p hp => exact .p (hp.shut h)
  | bp k off a hk hh => exact .bp k off a hk hh
  | row k sz n a l c hk hh => exact .row k sz n a l c hk hh
  | view k sz n lo len a l c hk hh => exact .view k sz n lo len a l c hk hh
  | ep k sz n i off a hk hh => exact .ep k sz n i off a hk hh
  | mp k r hk hh => exact .mp k r hk hh
  | agg cs vs hl hh ih => exact .agg cs vs hl ih
  | fn f first cap a b ha hb hra hrb iha ihb => exact .fn f first cap a b ha hb iha ihb
  | tup cs vs hl hh ih => exact .tup cs vs hl ih
  | ifb b x v hh h' ih => exact .ifb b x v ih h'
  | any v => exact .any v

theorem St.shut (hs : St O Γ S ρ w) (h : Shut w w' D) (hD : ¬ ownS O S ρ D) (hnsh : ¬ Γ.sh D) : St O Γ S ρ w' where
  objs k o ho := by
    have hne : ∀ b, o.live = true → ((ρ k).blk = some b ∨ (ρ k).z b) → w'.heap[b]? = w.heap[b]? := fun b hl hb => h.old b (fun e => hD (.inr ⟨k, o, ho, hl, e ▸ hb⟩))
    have hk := hs.objs k o ho
    cases o with
    | box cs =>
      obtain ⟨b, e, vs, hv, hg, h1, h2, h3⟩ := hk
      exact ⟨b, e, vs, hv, (hne b rfl (.inl (by simp [Loc.blk, hv]))).trans hg, h1, fun j hj => (h2 j hj).shut h, h3⟩
    | row e sz n f =>
      obtain ⟨⟨xs, hown, hone, hc⟩, hz⟩ := hk
      refine ⟨⟨xs, ownsRow_of_heap hown (fun b hb => hne b rfl (.inl ?_)), hone, fun i hi => ⟨(hc i hi).1, fun j hj => ((hc i hi).2 j hj).shut h⟩⟩, hz⟩
      revert hb
      unfold Value.ownBlock Loc.blk
      cases (ρ k).v with
      | slice a _ _ => cases a <;> simp
      | _ => simp
    | map kt et m =>
      obtain ⟨⟨r, hv, es, clock, hg, hm⟩, hz⟩ := hk
      exact ⟨⟨r, hv, es, clock, (hne r rfl (.inl (by simp [Loc.blk, hv]))).trans hg, hm⟩, hz⟩
    | fg i st => exact ⟨Γ.Φk _ _ _ _ _ hk.1 (fun k' hk' => hk'.elim (fun hk' => hne k' rfl (.inr hk')) (fun hk' => h.old k' (fun e => hnsh (e ▸ hk')))) (Nat.le_of_eq h.size.symm), hk.2⟩
    | dead => trivial
  disj := hs.disj
  glob g cs hg := (hs.glob g cs hg).shut h
  outer b hb := ⟨by rw [h.size]; exact (hs.outer b hb).1, (hs.outer b hb).2⟩
  shared b hb := ⟨by rw [h.size]; exact (hs.shared b hb).1, (hs.shared b hb).2⟩
end

/-! ### What a function gives -/
def resOf (T : Nat → Option TI) (G : Nat → Option (List PV)) (σ : Env) : ResultVar → Option (List Prop × AV)
  | .tmp t => evF G σ.e (.tmp t)
  | .cell a t => match evF G σ.e (.tmp a), T t with
    | some (g, .bp k off), some i => match σ.S.at k with
      | some (.box cs) => match loadFrom i (cs.drop off) [] σ.S with
        | some (g', v, _) => some (g ++ g', v)
        | none => none
      | _ => none
    | _, _ => none

def resL (T : Nat → Option TI) (G : Nat → Option (List PV)) (σ : Env) : List ResultVar → Option (List Prop × List AV)
  | [] => some ([], [])
  | x :: r => match resOf T G σ x with
    | some (g, v) => match resL T G σ r with
      | some (g', l) => some (g ++ g', v :: l)
      | none => none
    | none => none

def one : List AV → AV
  | [v] => v
  | l => .tup l

def resF (T : Nat → Option TI) (G : Nat → Option (List PV)) (σ : Env) (rs : List ResultVar) : Option (List Prop × AV) :=
  match resL T G σ rs with
  | some (g, l) => match lendV σ.S 8 (one l) with
    | some (g', _, v) => some (g ++ g', v)
    | none => none
  | none => none

section
variable {P : Program} {O : Nat → Prop} {Γ : Ctx} {σ : Env} {T : Nat → Option TI} {ρ : Nat → Loc} {a : Act} {w : World}

/-- One result, read out. -/
def readOut (a : Act) (x : ResultVar) : Sem Value :=
  match x with
  | .tmp t => pure (a.tmps.getD t undef)
  | .cell c t => do loadVar t (← asAddr (a.tmps.getD c undef))

theorem resOf_ok (hT : TOk P T) {x : ResultVar} {g : List Prop} {v : AV} (h : resOf T Γ.G σ x = some (g, v)) (hg : AllP g) (hs : St O Γ σ.S ρ w) (he : EnvOk O σ ρ a w) :
    ∃ cv, (readOut a x).run P w = .ok cv w ∧ VR O σ.S ρ w v cv := by
  cases x with
  | tmp t => exact ⟨_, rfl, evF_has h hg ρ a w hs he⟩
  | cell c t =>
    simp only [resOf] at h
    split at h
    case h_2 => simp at h
    rename_i g1 k off i hu hi
    split at h
    case h_2 => simp at h
    rename_i cs hk
    split at h
    case h_2 => simp at h
    rename_i g2 v2 S2 hl
    simp only [Option.some.injEq, Prod.mk.injEq] at h
    obtain ⟨rfl, rfl⟩ := h
    obtain ⟨_, _, hsz, h1, rfl⟩ := loadFrom_ok hl
    have hv := evF_has hu hg.append.1 ρ a w hs he
    simp only [readOut]
    have hav : a.eval (.tmp c) = a.tmps.getD c undef := rfl
    rw [← hav]
    generalize a.eval (.tmp c) = av at hv
    cases hv with
    | bp _ _ ad hlt hh =>
      obtain ⟨b, hv, rfl⟩ := hh cs hk
      obtain ⟨b', e, vs, hv', _, _, _, hcell⟩ := box_cells hs hk
      obtain rfl : b' = b := by rw [hv] at hv'; simpa using hv'.symm
      obtain ⟨cv, hr, hvr⟩ := load_cells (O := O) (hT t i hi) (off := off) hsz h1 (fun j hj => by
        simp at hj
        obtain ⟨h1, h2⟩ := hcell (off + j) (by omega)
        refine ⟨_, h1, ?_⟩
        rwa [show (cs.drop off).getD j .any = cs.getD (off + j) .any by simp [List.getD_eq_getElem?_getD]])
      exact ⟨cv, hr, hvr⟩

theorem resL_ok (hT : TOk P T) (hs : St O Γ σ.S ρ w) (he : EnvOk O σ ρ a w) : ∀ {l : List ResultVar} {g : List Prop} {vs : List AV}, resL T Γ.G σ l = some (g, vs) → AllP g →
    ∃ cs : List Value, (l.mapM (readOut a)).run P w = .ok cs w ∧ VRs O σ.S ρ w vs cs
  | [], g, vs, h, hg => by
    simp only [resL, Option.some.injEq, Prod.mk.injEq] at h
    obtain ⟨_, rfl⟩ := h
    exact ⟨[], rfl, VRs.nil⟩
  | x :: r, g, vs, h, hg => by
    unfold resL at h
    split at h
    case h_2 => simp at h
    rename_i g1 v hv
    split at h
    case h_2 => simp at h
    rename_i g2 l2 hr
    simp only [Option.some.injEq, Prod.mk.injEq] at h
    obtain ⟨rfl, rfl⟩ := h
    obtain ⟨c, h1, h2⟩ := resOf_ok hT hv hg.append.1 hs he
    obtain ⟨cs, h3, h4⟩ := resL_ok hT hs he hr hg.append.2
    refine ⟨c :: cs, ?_, VRs.cons_iff.2 ⟨h2, h4⟩⟩
    simp only [List.mapM_cons, Sem.run_bind, h1, Result.andThen_ok, h3, Sem.run_pure]

theorem one_ok {vs : List AV} {cs : List Value} (h : VRs O σ.S ρ w vs cs) : VR O σ.S ρ w (one vs) (if h : cs.toArray.size = 1 then cs.toArray[0] else .tuple cs.toArray) := by
  obtain ⟨h1, h2⟩ := h
  match vs, cs, h1, h2 with
  | [], [], _, h2 => exact .tup [] [] rfl (fun j hj => absurd hj (by simp))
  | [v], [c], _, h2 => exact h2 0 (by simp)
  | v :: v' :: l, c :: c' :: l', h1, h2 =>
    rw [dif_neg (by simp)]
    exact .tup _ _ h1 h2

theorem results_eq (fn : Func) (a : Act) : results fn a.tmps = (do
    let vs ← (do let l ← fn.results.toList.mapM (readOut a); pure l.toArray)
    pure (if h : vs.size = 1 then vs[0] else .tuple vs)) := by
  have e : (fn.results.mapM fun x => (match x with
    | .tmp t => (pure (a.tmps.getD t undef) : Sem Value)
    | .cell c t => do loadVar t (← asAddr (a.tmps.getD c undef)))) = (do let l ← fn.results.toList.mapM (readOut a); pure l.toArray) := by
    rw [Array.mapM_eq_mapM_toList]
    rfl
  rw [← e]
  rfl

theorem run_results {fn : Func} {a : Act} {cs : List Value} (h : (fn.results.toList.mapM (readOut a)).run P w = .ok cs w) : (results fn a.tmps).run P w = .ok (if h : cs.toArray.size = 1 then cs.toArray[0] else .tuple cs.toArray) w := by
  rw [results_eq]
  simp only [Sem.run_bind, h, Result.andThen_ok, Sem.run_pure]

theorem resF_ok (hT : TOk P T) {fn : Func} {g : List Prop} {v : AV} (h : resF T Γ.G σ fn.results.toList = some (g, v)) (hg : AllP g) (hs : St O Γ σ.S ρ w) (he : EnvOk O σ ρ a w) :
    ∃ cv, (results fn a.tmps).run P w = .ok cv w ∧ VR O S0 ρ0 w v cv := by
  unfold resF at h
  split at h
  case h_2 => simp at h
  rename_i g1 l hl
  split at h
  case h_2 => simp at h
  rename_i g2 b v2 hv
  simp only [Option.some.injEq, Prod.mk.injEq] at h
  obtain ⟨rfl, rfl⟩ := h
  obtain ⟨cs, h1, h2⟩ := resL_ok hT hs he hl hg.append.1
  exact ⟨_, run_results h1, lendV_ok hs 8 _ _ _ _ hv hg.append.2 ⟨fun k hk => .inl hk, fun _ k hk => (hs.outer k hk).2⟩ _ (one_ok h2)⟩
end

/-! ### The way out, marks and all -/
section
variable {P : Program} {O : Nat → Prop} {Γ : Ctx} {σ : Env} {T : Nat → Option TI} {ρ : Nat → Loc} {F : Fence} {n : Nat}

theorem shut_mark {w : World} {D : Nat} (h : w.heap[D]? = some (.deferred (some []))) : Shut w (w.putObj D (.deferred none)) D where
  os := rfl
  tape := rfl
  output := rfl
  size := by simp [World.putObj]
  was cs e f := by rw [h]; simp
  old b hb := by simp [World.putObj, Array.getElem?_setIfInBounds, Ne.symm hb]

theorem leaves_ok (hT : TOk P T) {fn : Func} {g : List Prop} {v : AV} (h : resF T Γ.G σ fn.results.toList = some (g, v)) (hg : AllP g) {B : Nat} (hlow : ∀ b, Γ.sh b → b < B) {a : Act} {R : Ending → World → Prop} : ∀ (Ds : List Nat) (w : World), St O Γ σ.S ρ w → EnvOk O σ ρ a w → Ds.Nodup →
    (∀ D, D ∈ Ds → B ≤ D ∧ w.heap[D]? = some (.deferred (some [])) ∧ ¬ ownS O σ.S ρ D) →
    (∀ cv w', VR O S0 ρ0 w' v cv → w'.os = w.os → w'.tape = w.tape → w'.output = w.output → w'.heap.size = w.heap.size → (∀ b, b < B → w'.heap[b]? = w.heap[b]?) → R (.returned cv) w') →
    LeavesInM F n P fn a.tmps R (Ds.map mark) .returning w
  | [], w, hs, he, _, _, hR => by
    obtain ⟨cv, h1, h2⟩ := resF_ok hT h hg hs he
    exact ⟨cv, h1, hR cv w h2 rfl rfl rfl rfl (fun _ _ => rfl)⟩
  | D :: Ds, w, hs, he, hnd, hD, hR => by
    obtain ⟨hB, hd, hno⟩ := hD D (by simp)
    have hsh := shut_mark hd
    refine ⟨by simp, .inl ⟨D, _, rfl, run_takeDeferred hd, ?_⟩⟩
    rw [List.nodup_cons] at hnd
    refine leaves_ok hT h hg hlow Ds _ (hs.shut hsh hno (fun h => by have := hlow D h; omega)) (fun t u hu => (he t u hu).shut hsh) hnd.2 (fun D' hD' => ?_) (fun cv w' h1 h2 h3 h4 h5 h6 => hR cv w' h1 (h2.trans hsh.os) (h3.trans hsh.tape) (h4.trans hsh.output) (h5.trans hsh.size) (fun b hb => (h6 b hb).trans (hsh.old b (by omega))))
    obtain ⟨a1, a2, a3⟩ := hD D' (by simp [hD'])
    exact ⟨a1, (hsh.old D' (fun e => hnd.1 (e ▸ hD'))).trans a2, a3⟩
end

/-! ### A contract from a body -/
/-- The context of a function: what may lie there besides are the records of loops over functions, each in its block. -/
def recCtx (G : Nat → Option (List PV)) (ls : Nat → Nat × Loop) : Ctx where
  G := G
  Φ i b z w := b = true ∧ (∀ k, z k ↔ k = (ls i).1) ∧ w.heap[(ls i).1]? = some (.loop (ls i).2)
  sh _ := False
  Φk i b z w w' h hs _ := ⟨h.1, h.2.1, (hs (ls i).1 (.inl ((h.2.1 _).2 rfl))).trans h.2.2⟩
  Φz i b z w h k hk := by
    rw [(h.2.1 k).1 hk]
    exact (Array.getElem?_eq_some_iff.1 h.2.2).1
def Γ0 (G : Nat → Option (List PV)) : Ctx := recCtx G (fun _ => (0, default))

def envOf : Nat → List AV → List (Nat × AV)
  | _, [] => []
  | i, a :: r => (i, a) :: envOf (i + 1) r

/-- What must hold where a body ends. -/
def Ends (T : Nat → Option TI) (G : Nat → Option (List PV)) (rs : List ResultVar) (res : AV) : Exit → Env → Prop
  | .ret, σ => ∃ g v, resF T G σ rs = some (g, v) ∧ AllP g ∧ ACoe v res
  | .normal, σ => ∃ g v, resF T G σ rs = some (g, v) ∧ AllP g ∧ ACoe v res
  | _, _ => False

theorem envOf_get : ∀ (l : List AV) (i t : Nat) (v : AV), get (envOf i l) t = some v → i ≤ t ∧ t < i + l.length ∧ l.getD (t - i) .any = v
  | [], i, t, v, h => by simp [envOf, get] at h
  | a :: r, i, t, v, h => by
    rw [envOf, get_cons] at h
    by_cases e : i = t
    · subst e
      simp only [if_true, Option.some.injEq] at h
      subst h
      simp
    · rw [if_neg e] at h
      obtain ⟨h1, h2, h3⟩ := envOf_get r (i + 1) t v h
      refine ⟨by omega, by simp; omega, ?_⟩
      rw [show t - i = (t - (i + 1)) + 1 by omega]
      simpa using h3

theorem Pure.mk' {P : Program} {T : Nat → Option TI} {G : Nat → Option (List PV)} (hT : TOk P T) {f : FuncId} {fn : Func} {c : Code} {args : List AV} {res : AV} (hf : P.funcs[f]? = some fn) (hname : (fn.name == "runtime.NumGoroutine") = false) (hb : fn.body = some c)
    (hN : args.length ≤ fn.ntmps) (h : ∀ O, W P O (Γ0 G) fn.ntmps none c (Ends T G fn.results.toList res) ⟨envOf 0 args, S0⟩) : Pure P G f args res where
  enters := by
    intro cargs w
    have h1 : fn.name ≠ "runtime.NumGoroutine" := by simpa using hname
    simp [callFunc, hf, h1, hb, Go.mark]
  calls O w cargs hO hG hargs := by
    rw [← callsIn_wide (n := 0)]
    refine callsIn_of_wp_marks hf hb trivial ?_ rfl
    have hlen : cargs.length = args.length := hargs.1
    have hrel : Rel O (Γ0 G) fn.ntmps w.heap.size ⟨envOf 0 args, S0⟩ ρ0 { tmps := cargs.toArray ++ Array.replicate (fn.ntmps - cargs.toArray.size) undef, defers := [] } w := by
      refine ⟨⟨fun k o hk => by simp [S0_at] at hk, fun k k' o o' b hk => by simp [S0_at] at hk, fun g cs hg => (hG g cs hg).mono fun b hb => ownS_S0 hb, fun b hb => ⟨hO b hb, owns_S0 _ _⟩, fun b hb => hb.elim⟩, ?_, by simp; omega, Nat.le_refl _, ⟨[], rfl, List.nodup_nil, fun D hD => by simp at hD⟩, fun k o hk => by simp [S0_at] at hk, fun b hb => hb.elim⟩
      intro t v hv
      obtain ⟨_, h2, h3⟩ := envOf_get args 0 t v hv
      have ht : t < args.length := by omega
      have := hargs.2 t ht
      simp only [Nat.sub_zero] at h3
      rw [h3] at this
      have e : (cargs.toArray ++ Array.replicate (fn.ntmps - cargs.toArray.size) undef).getD t undef = cargs.getD t undef := by
        have ht' : t < cargs.length := by omega
        simp [Array.getD_eq_getD_getElem?, List.getD_eq_getElem?_getD, Array.getElem?_append, ht']
      rw [e]; exact this
    refine wpIn_mono (h O 0 w.heap.size ρ0 _ w hrel) ?_
    rintro e a' w' ⟨hne, σ', ρ', hq, hr, he⟩
    have fin : (∃ g v, resF T G σ' fn.results.toList = some (g, v) ∧ AllP g ∧ ACoe v res) → LeavesInM Fence.wide 0 P fn a'.tmps (fun e w' => ∃ cv, e = .returned cv ∧ VR O S0 ρ0 w' res cv ∧ Grows w w') a'.defers .returning w' := by
      rintro ⟨g, v, hres, hg, hcoe⟩
      obtain ⟨Ds, hds, hnd, hD⟩ := hr.marks.all
      rw [hds]
      refine leaves_ok (Γ := Γ0 G) hT hres hg hr.low Ds w' hr.st hr.env hnd hD (fun cv w2 h1 h2 h3 h4 h5 h6 => ⟨cv, rfl, hcoe _ _ _ _ _ h1, ?_⟩)
      exact ⟨h2.trans he.os, h3.trans he.tape, h4.trans he.output, by rw [h5]; exact he.size, fun b hb => (h6 b hb).trans (he.keep b hb (owns_S0 _ _))⟩
    cases e with
    | ret => exact fin hq
    | normal => exact fin hq
    | _ => exact hq.elim
end Go.Proofs.YtobpnmljijeadaaDoor.A

/- The same, so written that what comes out stands in plain form. -/
set_option linter.unusedVariables false
set_option linter.unusedSimpArgs false
namespace Go.Proofs.YtobpnmljijeadaaDoor.A
open Go

def forceL {α β : Type} : List α → (List α → β) → β
  | [], k => k []
  | a :: r, k => forceL r fun r' => k (a :: r')
theorem forceL_eq {α β : Type} : ∀ (l : List α) (k : List α → β), forceL l k = k l
  | [], k => rfl
  | a :: r, k => by rw [forceL, forceL_eq r]

def consAll {β : Type} : List Prop → List Prop → (List Prop → β) → β
  | [], acc, k => k acc
  | p :: r, acc, k => consAll r (p :: acc) k
theorem consAll_eq {β : Type} : ∀ (g acc : List Prop) (k : List Prop → β), consAll g acc k = k (g.reverse ++ acc)
  | [], acc, k => rfl
  | p :: r, acc, k => by rw [consAll, consAll_eq r]; simp

theorem AllP_append {a b : List Prop} (ha : AllP a) (hb : AllP b) : AllP (a ++ b) := by
  induction a with
  | nil => exact hb
  | cons p l ih => exact ⟨ha.1, ih ha.2⟩
theorem AllP_mem {l : List Prop} : AllP l ↔ ∀ p ∈ l, p := by
  induction l with
  | nil => simp [AllP]
  | cons p l ih =>
    rw [List.forall_mem_cons, ← ih]
    rfl
theorem AllP_rev {l : List Prop} (h : AllP l.reverse) : AllP l := by
  rw [AllP_mem] at h ⊢
  intro p hp
  exact h p (by simpa using hp)

def loadFromE (i : TI) (cs : List AV) (g : List Prop) (S : Sto) : R3 :=
  match i.td.agg with
  | true => match Nat.ble i.size cs.length with
    | true => forceL (cs.take i.size) fun l => some (g, .agg l, S)
    | false => none
  | false => match cs with
    | c :: _ => match Nat.beq i.size 1 with
      | true => some (g, c, S)
      | false => none
    | [] => none
theorem loadFromE_eq (i : TI) (cs : List AV) (g : List Prop) (S : Sto) : loadFromE i cs g S = loadFrom i cs g S := by
  simp only [loadFromE, loadFrom, forceL_eq]
  rfl

def stepLoadE (T : Nat → Option TI) (S : Sto) (t : Nat) (addr : AV) : R3 :=
  match T t with
  | none => none
  | some i => match addr with
    | .bp k off => match S.at k with
      | some (.box cs) => loadFromE i (cs.drop off) [] S
      | _ => none
    | .ep k sz n ix off => match S.at k with
      | some (.row e sz' n' f) => match Nat.beq sz sz' with
        | true => loadFromE i ((f ix).drop off) [n = n', ix < n'] S
        | false => none
      | _ => none
    | .p (.rp cs off) => loadFromE i ((cs.map AV.p).drop off) [] S
    | _ => none
theorem stepLoadE_eq (T : Nat → Option TI) (S : Sto) (t : Nat) (addr : AV) : stepLoadE T S t addr = stepLoad T S t addr := by
  simp only [stepLoadE, stepLoad, loadFromE_eq]
  rfl

def stepStoreE (T : Nat → Option TI) (nx : Nat) (m : List (Nat × AObj)) (t : Nat) (addr u : AV) : R3 :=
  match T t, cellsOf u with
  | some i, some vs => match Nat.beq vs.length i.size with
    | false => none
    | true => match addr with
      | .bp k off => match get m k with
        | some (.box cs) => match Nat.ble (off + vs.length) cs.length with
          | true => forceL (splice cs off vs) fun l => some ([], .any, ⟨nx, (k, .box l) :: m⟩)
          | false => none
        | _ => none
      | .ep k sz n ix off => match get m k with
        | some (.row e sz' n' f) => match Nat.beq sz sz', Nat.ble (off + vs.length) sz with
          | true, true => some ([n = n', ix < n'], .any, ⟨nx, (k, .row e sz' n' (fun j => if j = ix then splice (f ix) off vs else f j)) :: m⟩)
          | _, _ => none
        | _ => none
      | _ => none
  | _, _ => none
theorem stepStoreE_eq (T : Nat → Option TI) (nx : Nat) (m : List (Nat × AObj)) (t : Nat) (addr u : AV) : stepStoreE T nx m t addr u = stepStore T ⟨nx, m⟩ t addr u := by
  simp only [stepStoreE, stepStore, forceL_eq, Sto.at, Sto.put]
  rfl

def stepAppendE (T : Nat → Option TI) (nx : Nat) (m0 : List (Nat × AObj)) (ts : Array Nat) (s x : AV) : R3 :=
  match ts.toList with
  | [t, tx] => match T t, T tx with
    | some i, some ix => match i.td with
      | .slice e => match T e with
        | some ei => match srcT ⟨nx, m0⟩ x ix.td with
          | some (g, sz2, m, f2) => match Nat.beq sz2 ei.size, Nat.ble 1 ei.size, Nat.ble 1 ei.bytes with
            | true, true, true => match s with
              | .row k sz n => match get m0 k with
                | some (.row e' sz' n' f) => match Nat.beq e e', Nat.beq sz ei.size, Nat.beq sz' ei.size with
                  | true, true, true => some ((n = n') :: ((n + m) * ei.bytes ≤ 140737488355328) :: g, .row k sz (n + m), ⟨nx, (k, .row e sz (n + m) (fun i => if i < n then f i else f2 (i - n))) :: m0⟩)
                  | _, _, _ => none
                | _ => none
              | .p (.v (.slice none 0 0)) => some ((m * ei.bytes ≤ 140737488355328) :: g, .row nx sz2 m, ⟨nx + 1, (nx, .row e sz2 m f2) :: m0⟩)
              | _ => none
            | _, _, _ => none
          | none => none
        | none => none
      | _ => none
    | _, _ => none
  | _ => none
theorem stepAppendE_eq (T : Nat → Option TI) (nx : Nat) (m0 : List (Nat × AObj)) (ts : Array Nat) (s x : AV) : stepAppendE T nx m0 ts s x = stepAppend T ⟨nx, m0⟩ ts s x := rfl

def stepBuildE (T : Nat → Option TI) (G : Nat → Option (List PV)) (e : List (Nat × AV)) (S : Sto) (t : Nat) (parts : Array (Nat × Operand)) : R3 :=
  match T t, evParts G e parts.toList with
  | some i, some (g, l) => match i.td with
    | .struct fs => match allT T fs, fillA (placeS T fs) (i.zero.map fun v => .p (.v v)) l with
      | true, some cs => forceL cs fun cs' => some (g, .agg cs', S)
      | _, _ => none
    | .arr n e => match T e with
      | some ei => match fillA (fun q => some (q * ei.size, ei.size)) (i.zero.map fun v => .p (.v v)) l with
        | some cs => forceL cs fun cs' => some (g, .agg cs', S)
        | none => none
      | none => none
    | _ => none
  | _, _ => none
theorem stepBuildE_eq (T : Nat → Option TI) (G : Nat → Option (List PV)) (e : List (Nat × AV)) (S : Sto) (t : Nat) (parts : Array (Nat × Operand)) : stepBuildE T G e S t parts = stepBuild T G ⟨e, S⟩ t parts := by
  simp only [stepBuildE, stepBuild, forceL_eq]
  rfl

def stepBuildSliceE (T : Nat → Option TI) (G : Nat → Option (List PV)) (en : List (Nat × AV)) (nx : Nat) (m : List (Nat × AObj)) (t len : Nat) (parts : Array (Nat × Operand)) : R3 :=
  match T t, evParts G en parts.toList with
  | some i, some (g, l) => match i.td with
    | .slice e => match T e with
      | some ei => match Nat.ble (len * ei.size) 16777216, Nat.ble 1 ei.size, fillA (fun q => some (q * ei.size, ei.size)) ((List.range (len * ei.size)).map fun j => .p (.v (ei.zero.getD (j % ei.size) undef))) l with
        | true, true, some cs => forceL cs fun cs => some (g, .row nx ei.size len, ⟨nx + 1, (nx, .row e ei.size len (fun q => (cs.drop (q * ei.size)).take ei.size)) :: m⟩)
        | _, _, _ => none
      | none => none
    | _ => none
  | _, _ => none
theorem stepBuildSliceE_eq (T : Nat → Option TI) (G : Nat → Option (List PV)) (en : List (Nat × AV)) (nx : Nat) (m : List (Nat × AObj)) (t len : Nat) (parts : Array (Nat × Operand)) : stepBuildSliceE T G en nx m t len parts = stepBuildSlice T G ⟨en, ⟨nx, m⟩⟩ t len parts := by
  simp only [stepBuildSliceE, stepBuildSlice, forceL_eq]
  rfl

def stepMakeE (T : Nat → Option TI) (nx : Nat) (m : List (Nat × AObj)) (t : Nat) (x y : AV) : R3 :=
  match x, y with
  | .p (.v (.int _ a)), .p (.v (.int _ b)) => match T t with
    | some i => match i.td with
      | .slice e => match T e with
        | some ei => match Nat.ble 1 ei.size, Nat.ble 1 ei.bytes with
          | true, true => some ([a = b, 0 ≤ a ∧ ei.bytes * a.toNat ≤ 140737488355328], .row nx ei.size a.toNat, ⟨nx + 1, (nx, .row e ei.size a.toNat (fun _ => ei.zero.map fun v => .p (.v v))) :: m⟩)
          | _, _ => none
        | none => none
      | _ => none
    | none => none
  | _, _ => none
theorem stepMakeE_eq (T : Nat → Option TI) (nx : Nat) (m : List (Nat × AObj)) (t : Nat) (x y : AV) : stepMakeE T nx m t x y = stepMake T ⟨nx, m⟩ t x y := rfl

def stepBE (T : Nat → Option TI) (G : Nat → Option (List PV)) (e : List (Nat × AV)) (nx : Nat) (m : List (Nat × AObj)) (b : Builtin) (args : List Operand) (ts : Array Nat) : R3 :=
  match b, args with
  | .len, [x] => on1 G e x (stepLen T ⟨nx, m⟩ ts)
  | .append, [x, y] => on2 G e x y (stepAppendE T nx m ts)
  | .max, [x, y] => on2 G e x y (stepMax ⟨nx, m⟩ true)
  | .min, [x, y] => on2 G e x y (stepMax ⟨nx, m⟩ false)
  | _, _ => none
theorem stepBE_eq (T : Nat → Option TI) (G : Nat → Option (List PV)) (e : List (Nat × AV)) (nx : Nat) (m : List (Nat × AObj)) (b : Builtin) (args : List Operand) (ts : Array Nat) : stepBE T G e nx m b args ts = stepB T G ⟨e, ⟨nx, m⟩⟩ b args ts := rfl

def stepOpE (wr : Bool) (T : Nat → Option TI) (E : Nat → Option Nat) (G : Nat → Option (List PV)) (e : List (Nat × AV)) (nx : Nat) (m : List (Nat × AObj)) (op : Op) : R3 :=
  match op with
  | .alloc t => match T t with
    | some i => forceL (i.zero.map fun v => AV.p (.v v)) fun z => some ([], .bp nx 0, ⟨nx + 1, (nx, .box z) :: m⟩)
    | none => none
  | .box _ x => on1 G e x fun u => match cellsOf u with
    | some cs => some ([], .bp nx 0, ⟨nx + 1, (nx, .box cs) :: m⟩)
    | none => none
  | .build t ps => stepBuildE T G e ⟨nx, m⟩ t ps
  | .buildSlice t n ps => stepBuildSliceE T G e nx m t n ps
  | .load t x => on1 G e x (stepLoadE T ⟨nx, m⟩ t)
  | .store t x y => on2 G e x y (stepStoreE T nx m t)
  | .makeSlice t x y => on2 G e x y (stepMakeE T nx m t)
  | .call c => match c.callee with
    | .builtin b => stepBE T G e nx m b c.args.toList c.argTypes
    | _ => none
  | op => stepOp wr T E G ⟨e, ⟨nx, m⟩⟩ op

theorem stepOpE_eq (wr : Bool) (T : Nat → Option TI) (E : Nat → Option Nat) (G : Nat → Option (List PV)) (e : List (Nat × AV)) (nx : Nat) (m : List (Nat × AObj)) (op : Op) : stepOpE wr T E G e nx m op = stepOp wr T E G ⟨e, ⟨nx, m⟩⟩ op := by
  have h1 : stepLoadE T ⟨nx, m⟩ = stepLoad T ⟨nx, m⟩ := by funext t u; exact stepLoadE_eq ..
  have h2 : stepStoreE T nx m = stepStore T ⟨nx, m⟩ := by funext t u v; exact stepStoreE_eq ..
  cases op <;> simp only [stepOpE, forceL_eq, stepBuildE_eq, stepBuildSliceE_eq, h1, h2] <;> rfl

def gvalE {β : Type} (e : List (Nat × AV)) (ops : List Oper) (j : Nat) (want : Bool) (k : Bool → Option β) : Option β :=
  match ops[j]? with
  | some o => match o.dst with
    | some t => match get e t with
      | some (.p (.v (.bool b))) => match want with
        | true => k b
        | false => k (!b)
      | some (.ifb c (.p (.v (.bool b)))) => match want with
        | true => k (c && b)
        | false => k (c && !b)
      | _ => none
    | none => none
  | none => none
theorem gvalE_eq {β : Type} (e : List (Nat × AV)) (ops : List Oper) (j : Nat) (want : Bool) (k : Bool → Option β) : gvalE e ops j want k = match gval e ops j want with | some c => k c | none => none := by
  unfold gvalE gval
  cases ops[j]? with
  | none => rfl
  | some o =>
    simp only
    cases o.dst with
    | none => rfl
    | some t =>
      simp only
      cases get e t with
      | none => rfl
      | some v =>
        cases v with
        | p x => cases x with
          | v y => cases y <;> first | rfl | (cases want <;> rfl)
          | _ => rfl
        | ifb c x => cases x with
          | p x => cases x with
            | v y => cases y <;> first | rfl | (cases want <;> rfl)
            | _ => rfl
          | _ => rfl
        | _ => rfl

def stepXE {P : Program} {G : Nat → Option (List PV)} (wr : Bool) (T : Nat → Option TI) (E : Nat → Option Nat) (e : List (Nat × AV)) (nx : Nat) (m : List (Nat × AObj)) (hs : List (Hint P G)) (op : Op) : R4 P G :=
  match op with
  | .call c => match c.callee with
    | .value f => match hs with
      | h :: hs' => match stepCall ⟨e, ⟨nx, m⟩⟩ f c.args.toList h with
        | some (g, v, S') => some (g, v, S', hs')
        | none => none
      | [] => none
    | _ => match stepOpE wr T E G e nx m (.call c) with
      | some (g, v, S') => some (g, v, S', hs)
      | none => none
  | op => match stepOpE wr T E G e nx m op with
    | some (g, v, S') => some (g, v, S', hs)
    | none => none
theorem stepXE_eq {P : Program} {G : Nat → Option (List PV)} (wr : Bool) (T : Nat → Option TI) (E : Nat → Option Nat) (e : List (Nat × AV)) (nx : Nat) (m : List (Nat × AObj)) (hs : List (Hint P G)) (op : Op) : stepXE wr T E e nx m hs op = stepX wr T E ⟨e, ⟨nx, m⟩⟩ hs op := by
  simp only [stepXE, stepX, stepOpE_eq]
  rfl

/-- In a region, with what is asked kept in order. -/
def stepRE {P : Program} {G : Nat → Option (List PV)} (lit wr : Bool) (T : Nat → Option TI) (E : Nat → Option Nat) (ops : List Oper) (e : List (Nat × AV)) (nx : Nat) (m : List (Nat × AObj)) (hs : List (Hint P G)) (o : Oper) : R4 P G :=
  match o.guard with
  | none => stepXE wr T E e nx m hs o.op
  | some (j, want) => gvalE e ops j want fun c => match lit with
    | true => match c with
      | true => stepXE wr T E e nx m hs o.op
      | false => some ([], .p (.v undef), ⟨nx, m⟩, hs)
    | false => match mods o.op with
      | true => none
      | false => match stepXE wr T E e nx m hs o.op with
        | some (g, v, S', hs') => consAll g [] fun l => match l with
          | [] => some ([], .ifb c v, ⟨nx, m⟩, hs')
          | p :: l' => some ([c = true → AllP (p :: l')], .ifb c v, ⟨nx, m⟩, hs')
        | none => none

theorem stepRE_ok {P : Program} {G : Nat → Option (List PV)} {lit wr : Bool} {T : Nat → Option TI} {E : Nat → Option Nat} {ops : List Oper} {e : List (Nat × AV)} {nx : Nat} {m : List (Nat × AObj)} {hs : List (Hint P G)} {o : Oper} {g : List Prop} {v : AV} {S' : Sto} {hs' : List (Hint P G)}
    (h : stepRE lit wr T E ops e nx m hs o = some (g, v, S', hs')) : ∃ g0, stepR lit wr T E ops ⟨e, ⟨nx, m⟩⟩ hs o = some (g0, v, S', hs') ∧ (AllP g → AllP g0) := by
  unfold stepRE at h
  unfold stepR
  split at h
  · rename_i hgu
    rw [stepXE_eq] at h
    exact ⟨g, by simp only [hgu]; exact h, id⟩
  · rename_i j want hgu
    simp only [hgu]
    rw [gvalE_eq] at h
    split at h
    case h_2 => simp at h
    rename_i c hc
    simp only [hc]
    split at h
    · simp only
      split at h
      · rw [stepXE_eq] at h
        exact ⟨g, h, id⟩
      · exact ⟨g, h, id⟩
    · simp only [stepXE_eq] at h ⊢
      split at h
      case h_1 => simp at h
      rename_i hm
      split at h
      case h_2 => simp at h
      rename_i g1 v1 S1 hs1 hx
      obtain rfl := same_X hm hx
      simp only [consAll_eq, List.append_nil] at h
      split at h
      · rename_i hl
        simp only [Option.some.injEq, Prod.mk.injEq] at h
        obtain ⟨rfl, rfl, rfl, rfl⟩ := h
        rw [hx]
        refine ⟨_, rfl, fun hg => ⟨fun _ => ?_, rfl, trivial⟩⟩
        obtain rfl : g1 = [] := by simpa using hl
        trivial
      · rename_i p l' hl
        simp only [Option.some.injEq, Prod.mk.injEq] at h
        obtain ⟨rfl, rfl, rfl, rfl⟩ := h
        rw [hx]
        refine ⟨_, rfl, fun hg => ⟨fun hc => AllP_rev ?_, rfl, trivial⟩⟩
        rw [hl]; exact hg.1 hc

def runE {P : Program} {G : Nat → Option (List PV)} (lit wr : Bool) (T : Nat → Option TI) (E : Nat → Option Nat) (N : Nat) (ops : List Oper) : List Oper → List (Nat × AV) → Nat → List (Nat × AObj) → List (Hint P G) → List Prop → Option (List Prop × Env)
  | [], e, nx, m, _, acc => some (acc, ⟨e, ⟨nx, m⟩⟩)
  | o :: rest, e, nx, m, hs, acc => match stepRE lit wr T E ops e nx m hs o with
    | some (g, v, S', hs') => consAll g acc fun acc' => match S' with
      | ⟨nx', m'⟩ => match o.dst with
        | none => runE lit wr T E N ops rest e nx' m' hs' acc'
        | some t => match Nat.blt t N with
          | true => runE lit wr T E N ops rest ((t, v) :: e) nx' m' hs' acc'
          | false => none
    | none => none

theorem runE_ok {P : Program} {G : Nat → Option (List PV)} {lit wr : Bool} {T : Nat → Option TI} {E : Nat → Option Nat} {N : Nat} {ops : List Oper} : ∀ (l : List Oper) (e : List (Nat × AV)) (nx : Nat) (m : List (Nat × AObj)) (hs : List (Hint P G)) (acc g : List Prop) (σ' : Env),
    runE lit wr T E N ops l e nx m hs acc = some (g, σ') → AllP g → AllP acc ∧ ∃ g0, runSeq lit wr T E N ops l ⟨e, ⟨nx, m⟩⟩ hs = some (g0, σ') ∧ AllP g0
  | [], e, nx, m, hs, acc, g, σ', h, hg => by
    simp only [runE, Option.some.injEq, Prod.mk.injEq] at h
    obtain ⟨rfl, rfl⟩ := h
    exact ⟨hg, [], rfl, trivial⟩
  | o :: rest, e, nx, m, hs, acc, g, σ', h, hg => by
    unfold runE at h
    split at h
    case h_2 => simp at h
    rename_i g1 v S' hs' hst
    obtain ⟨g2, hst2, himp⟩ := stepRE_ok hst
    simp only [consAll_eq] at h
    have key : ∀ e', runE lit wr T E N ops rest e' S'.nx S'.m hs' (g1.reverse ++ acc) = some (g, σ') → AllP acc ∧ AllP g2 ∧ ∃ g0, runSeq lit wr T E N ops rest ⟨e', S'⟩ hs' = some (g0, σ') ∧ AllP g0 := fun e' h => by
      obtain ⟨h1, g3, h2, h3⟩ := runE_ok rest e' _ _ hs' _ g σ' h hg
      exact ⟨h1.append.2, himp (AllP_rev h1.append.1), g3, h2, h3⟩
    unfold runSeq
    simp only [hst2]
    cases hd : o.dst with
    | none =>
      simp only [hd] at h
      obtain ⟨h1, h2, g0, h3, h4⟩ := key e h
      refine ⟨h1, g2 ++ g0, ?_, AllP_append h2 h4⟩
      simp only [dstOk, bindE, h3]
    | some t =>
      simp only [hd] at h
      split at h
      case h_2 => simp at h
      rename_i hlt
      obtain ⟨h1, h2, g0, h3, h4⟩ := key _ h
      refine ⟨h1, g2 ++ g0, ?_, AllP_append h2 h4⟩
      simp only [dstOk, hlt, bindE, h3]

section
variable {P : Program} {O : Nat → Prop} {Γ : Ctx} {r : Option Nat} {T : Nat → Option TI} {E : Nat → Option Nat} {g : List Prop} {lit wr : Bool} {N : Nat} {Q : Exit → Env → Prop} {e : List (Nat × AV)} {nx : Nat} {m : List (Nat × AObj)} {σ' : Env}
/-- A region, by running it. -/
theorem W_run (hT : TOk P T) (hE : EqOk P E) (lit wr : Bool) (hs : List (Hint P Γ.G)) {id : Nat} {ops : List Oper} (h : runE lit wr T E N ops ops e nx m hs [] = some (g, σ')) (hg : AllP g) (hQ : Q .normal σ') :
    W P O Γ N r (.region id ops.toArray false) Q ⟨e, ⟨nx, m⟩⟩ := by
  obtain ⟨_, g0, h1, h2⟩ := runE_ok ops e nx m hs [] g σ' h hg
  exact W_region hT hE hs h1 h2 hQ
end
end Go.Proofs.YtobpnmljijeadaaDoor.A

/- Branches, loops; how an account is brought into another form. -/
set_option linter.unusedVariables false
set_option linter.unusedSimpArgs false
namespace Go.Proofs.YtobpnmljijeadaaDoor.A
open Go

theorem Pure.fn {T : Nat → Option TI} {P : Program} {G : Nat → Option (List PV)} (hT : TOk P T) {f : FuncId} {fn : Func} {c : Code} {args : List AV} {res : AV} (hf : P.funcs[f]? = some fn) (hname : (fn.name == "runtime.NumGoroutine") = false) (hb : fn.body = some c)
    (hN : Nat.ble args.length fn.ntmps = true) (h : ∀ O, W P O (Γ0 G) fn.ntmps none c (Ends T G fn.results.toList res) ⟨envOf 0 args, S0⟩) : Pure P G f args res := Pure.mk' hT hf hname hb (Nat.le_of_ble_eq_true hN) h

section
variable {P : Program} {O : Nat → Prop} {Γ : Ctx} {N : Nat} {r : Option Nat} {Q Q' : Exit → Env → Prop} {σ σ' : Env}

theorem W_if {c : Operand} {x y : Code} {b : Bool} {g : List Prop} (hc : evF Γ.G σ.e c = some (g, .p (.v (.bool b)))) (hg : AllP g) (ht : b = true → W P O Γ N r x Q σ) (hf : b = false → W P O Γ N r y Q σ) : W P O Γ N r (.cond c x y) Q σ := fun n B ρ a w hr => by
  have := (evF_has hc hg ρ a w hr.st hr.env).val
  exact wpIn_cond_split this (fun h => ht h n B ρ a w hr) (fun h => hf h n B ρ a w hr)

/-! ### One account as another -/
def okN : Nat → (Nat → Bool) → AV → Bool
  | _, _, .p _ => true
  | _, _, .any => true
  | _, D, .bp k _ => D k
  | _, D, .row k _ _ => D k
  | _, D, .view k _ _ _ _ => D k
  | _, D, .ep k _ _ _ _ => D k
  | _, D, .mp k => D k
  | n + 1, D, .agg l => l.all (okN n D)
  | n + 1, D, .tup l => l.all (okN n D)
  | n + 1, D, .fn _ a b => a.all (okN n D) && b.all (okN n D)
  | n + 1, D, .ifb _ x => okN n D x
  | _, _, _ => false

/-- Objects of one kind, however full. -/
def Kin (o o' : AObj) : Prop :=
  match o, o' with
  | .box _, .box _ => True
  | .row e sz n _, .row e' sz' n' _ => e = e' ∧ sz = sz' ∧ n = n'
  | .map kt et _, .map kt' et' _ => kt = kt' ∧ et = et'
  | .fg i b, .fg i' b' => i = i' ∧ b = b'
  | _, .dead => True
  | _, _ => False

structure Fewer (S S' : Sto) : Prop where
  kin : ∀ k o', S'.at k = some o' → ∃ o, S.at k = some o ∧ Kin o o'

theorem Fewer.owns {S S' : Sto} (h : Fewer S S') {ρ : Nat → Loc} {b : Nat} (ho : owns S' ρ b) : owns S ρ b := by
  obtain ⟨k, o', h1, h2, h3⟩ := ho
  obtain ⟨o, h4, h5⟩ := h.kin k o' h1
  refine ⟨k, o, h4, ?_, h3⟩
  cases o <;> cases o' <;> simp_all [Kin, AObj.live]

theorem VR.fewer {S S' : Sto} {ρ : Nat → Loc} {w : World} (h : Fewer S S') : ∀ (n : Nat) {v : AV} {cv : Value}, okN n (fun k => (S'.at k).isSome) v = true → VR O S ρ w v cv → VR O S' ρ w v cv := by
  intro n v cv hok hv
  induction hv generalizing n with
  | p hp => exact .p (hp.mono fun b hb => hb.imp id h.owns)
  | bp k off a hk hh =>
    have hk' : (S'.at k).isSome = true := by cases n <;> simpa [okN] using hok
    refine .bp k off a hk' (fun cs hcs => ?_)
    obtain ⟨o, ho, hkin⟩ := h.kin k _ hcs
    cases o with
    | box c0 => exact hh _ ho
    | _ => simp [Kin] at hkin
  | row k sz m a l c hk hh =>
    have hk' : (S'.at k).isSome = true := by cases n <;> simpa [okN] using hok
    refine .row k sz m a l c hk' (fun e m' f hcs => ?_)
    obtain ⟨o, ho, hkin⟩ := h.kin k _ hcs
    cases o with
    | row e1 sz1 n1 f1 => obtain ⟨rfl, rfl, rfl⟩ := hkin; exact hh _ _ _ ho
    | _ => simp [Kin] at hkin
  | view k sz m lo len a l c hk hh =>
    have hk' : (S'.at k).isSome = true := by cases n <;> simpa [okN] using hok
    refine .view k sz m lo len a l c hk' (fun e m' f hcs => ?_)
    obtain ⟨o, ho, hkin⟩ := h.kin k _ hcs
    cases o with
    | row e1 sz1 n1 f1 => obtain ⟨rfl, rfl, rfl⟩ := hkin; exact hh _ _ _ ho
    | _ => simp [Kin] at hkin
  | ep k sz m i off a hk hh =>
    have hk' : (S'.at k).isSome = true := by cases n <;> simpa [okN] using hok
    refine .ep k sz m i off a hk' (fun e m' f hcs => ?_)
    obtain ⟨o, ho, hkin⟩ := h.kin k _ hcs
    cases o with
    | row e1 sz1 n1 f1 => obtain ⟨rfl, rfl, rfl⟩ := hkin; exact hh _ _ _ ho
    | _ => simp [Kin] at hkin
  | mp k r hk hh =>
    have hk' : (S'.at k).isSome = true := by cases n <;> simpa [okN] using hok
    refine .mp k r hk' (fun kt et m hcs => ?_)
    obtain ⟨o, ho, hkin⟩ := h.kin k _ hcs
    cases o with
    | map a b c => obtain ⟨rfl, rfl⟩ := hkin; exact hh _ _ _ ho
    | _ => simp [Kin] at hkin
  | agg cs vs hl hh ih =>
    cases n with
    | zero => simp [okN] at hok
    | succ n =>
      simp only [okN, List.all_eq_true] at hok
      refine .agg cs vs hl (fun j hj => ih j hj n (hok _ ?_))
      simp [List.getD_eq_getElem?_getD, hj]
  | fn f first cap a b ha hb hra hrb iha ihb =>
    cases n with
    | zero => simp [okN] at hok
    | succ n =>
      simp only [okN, Bool.and_eq_true, List.all_eq_true] at hok
      refine .fn f first cap a b ha hb (fun j hj => iha j hj n (hok.1 _ ?_)) (fun j hj => ihb j hj n (hok.2 _ ?_)) <;>
        simp [List.getD_eq_getElem?_getD, hj]
  | tup cs vs hl hh ih =>
    cases n with
    | zero => simp [okN] at hok
    | succ n =>
      simp only [okN, List.all_eq_true] at hok
      refine .tup cs vs hl (fun j hj => ih j hj n (hok _ ?_))
      simp [List.getD_eq_getElem?_getD, hj]
  | ifb b x v hh h' ih =>
    cases n with
    | zero => simp [okN] at hok
    | succ n =>
      simp only [okN] at hok
      exact .ifb b x v (fun e => ih e n hok) h'
  | any v => exact .any v

/-- How one object is seen as another. -/
def OCoe (D : Nat → Bool) (o o' : AObj) : Prop :=
  match o, o' with
  | .box cs, .box cs' => ACoeL cs cs' ∧ cs.length = cs'.length ∧ cs'.all (okN 6 D) = true
  | .row e sz n f, .row e' sz' n' f' => e = e' ∧ sz = sz' ∧ n = n' ∧ ∀ i, i < n → ACoeL (f i) (f' i) ∧ (f' i).length = (f i).length ∧ (f' i).all (okN 6 D) = true
  | .map kt et m, .map kt' et' m' => kt = kt' ∧ et = et' ∧ m = m'
  | .fg i b, .fg i' b' => i = i' ∧ b = b'
  | _, .dead => True
  | _, _ => False

def LeE (D : Nat → Bool) (e : List (Nat × AV)) : List (Nat × AV) → Prop
  | [] => True
  | (t, v') :: l => (match get e t with
    | some v => ACoe v v'
    | none => False) ∧ okN 6 D v' = true ∧ LeE D e l

def LeM (D : Nat → Bool) (m : List (Nat × AObj)) (nx : Nat) : List (Nat × AObj) → Prop
  | [] => True
  | (k, o') :: l => (match get m k with
    | some o => OCoe D o o'
    | none => False) ∧ Nat.blt k nx = true ∧ LeM D m nx l

theorem LeE.get {D : Nat → Bool} {e : List (Nat × AV)} : ∀ {l : List (Nat × AV)}, LeE D e l → ∀ t v', get l t = some v' → ∃ v, get e t = some v ∧ ACoe v v' ∧ okN 6 D v' = true
  | [], _, t, v', h => by simp [A.get] at h
  | (t', v0) :: l, hl, t, v', h => by
    rw [get_cons] at h
    by_cases e' : t' = t
    · subst e'
      simp only [if_true, Option.some.injEq] at h
      subst h
      obtain ⟨h1, h2, _⟩ := hl
      split at h1
      · rename_i v hv; exact ⟨v, hv, h1, h2⟩
      · exact h1.elim
    · rw [if_neg e'] at h
      exact LeE.get hl.2.2 t v' h

theorem LeM.get {D : Nat → Bool} {m : List (Nat × AObj)} {nx : Nat} : ∀ {l : List (Nat × AObj)}, LeM D m nx l → ∀ k o', get l k = some o' → ∃ o, get m k = some o ∧ OCoe D o o' ∧ k < nx
  | [], _, t, v', h => by simp [A.get] at h
  | (t', v0) :: l, hl, t, v', h => by
    rw [get_cons] at h
    by_cases e' : t' = t
    · subst e'
      simp only [if_true, Option.some.injEq] at h
      subst h
      obtain ⟨h1, h2, _⟩ := hl
      split at h1
      · rename_i v hv; exact ⟨v, hv, h1, by simpa using h2⟩
      · exact h1.elim
    · rw [if_neg e'] at h
      exact LeM.get hl.2.2 t v' h

theorem OCoe.kin {D : Nat → Bool} {o o' : AObj} (h : OCoe D o o') : Kin o o' := by
  cases o <;> cases o' <;> simp_all [OCoe, Kin]

/-- Another form of the account. -/
theorem Le_mk {e e' : List (Nat × AV)} {nx nx' : Nat} {m m' : List (Nat × AObj)} (hE : LeE (fun k => (get m' k).isSome) e e') (hM : LeM (fun k => (get m' k).isSome) m nx' m') : Le ⟨e, ⟨nx, m⟩⟩ ⟨e', ⟨nx', m'⟩⟩ := by
  intro O Γ N B ρ a w hr
  have hF : Fewer ⟨nx, m⟩ ⟨nx', m'⟩ := ⟨fun k o' h => by
    obtain ⟨o, h1, h2, _⟩ := hM.get k o' h
    exact ⟨o, h1, h2.kin⟩⟩
  have hown : ∀ b, owns ⟨nx', m'⟩ ρ b → owns ⟨nx, m⟩ ρ b := fun b hb => hF.owns hb
  refine ⟨ρ, ⟨⟨fun k o' ho => ?_, fun k k' o o' b h1 h2 l1 l2 b1 b2 => ?_, fun g cs hg => (hr.st.glob g cs hg).mono fun b hb => hb.imp id (hown b), fun b hb => ⟨(hr.st.outer b hb).1, fun h => (hr.st.outer b hb).2 (hown b h)⟩, fun b hb => ⟨(hr.st.shared b hb).1, fun h => (hr.st.shared b hb).2 (hown b h)⟩⟩, fun t v' hv' => ?_, hr.size, hr.base, ?_, fun k o' ho => ?_, hr.low⟩, fun S1 ρ1 w1 hsub he => ?_⟩
  · obtain ⟨o, h1, h2, _⟩ := hM.get k o' ho
    have hk := hr.st.objs k o h1
    cases o <;> cases o' <;> simp only [OCoe] at h2 <;> try (first | exact h2.elim | trivial)
    · rename_i cs cs'
      obtain ⟨b, e0, vs, hv, hg, h3, h4, h5⟩ := hk
      obtain ⟨c1, c2, c3⟩ := h2
      refine ⟨b, e0, vs, hv, hg, h3.trans c2, fun j hj => ?_, h5⟩
      have := c1 _ _ _ _ vs.toList ⟨by simpa using h3, fun j hj => by
        have := h4 j hj
        simpa [List.getD_eq_getElem?_getD, Array.getD_eq_getD_getElem?] using this⟩
      have := this.2 j hj
      have e1 : vs.toList.getD j undef = vs.getD j undef := by simp [List.getD_eq_getElem?_getD, Array.getD_eq_getD_getElem?]
      rw [e1] at this
      refine VR.fewer hF 6 (List.all_eq_true.1 c3 _ ?_) this
      simp [List.getD_eq_getElem?_getD, hj]
    · rename_i e1 sz n f e2 sz2 n2 f'
      obtain ⟨rfl, rfl, rfl, c⟩ := h2
      obtain ⟨⟨xs, hown, hone, hc⟩, hz⟩ := hk
      refine ⟨⟨xs, hown, hone, fun i hi => ⟨by rw [(c i hi).2.1]; exact (hc i hi).1, fun j hj => ?_⟩⟩, hz⟩
      obtain ⟨c1, c2, c3⟩ := c i hi
      have hl := (hc i hi).1
      have hvs : VRs O ⟨nx, m⟩ ρ w (f i) ((List.range sz).map fun j => xs.getD (i * sz + j) undef) := ⟨by simp [hl], fun j hj => by
        have := (hc i hi).2 j (by omega)
        rw [hl] at hj
        simpa [List.getD_eq_getElem?_getD, hj] using this⟩
      have := (c1 _ _ _ _ _ hvs).2 j (by omega)
      have e1 : ((List.range sz).map fun j => xs.getD (i * sz + j) undef).getD j undef = xs.getD (i * sz + j) undef := by
        simp [List.getD_eq_getElem?_getD, hj]
      rw [e1] at this
      have hj' : j < (f' i).length := by omega
      refine VR.fewer hF 6 (List.all_eq_true.1 c3 _ ?_) this
      simp [List.getD_eq_getElem?_getD, hj']
    · obtain ⟨rfl, rfl, rfl⟩ := h2
      exact hk
    · obtain ⟨rfl, rfl⟩ := h2
      exact hk
  · obtain ⟨o1, g1, g2⟩ := hF.kin k o h1
    obtain ⟨o2, g3, g4⟩ := hF.kin k' o' h2
    refine hr.st.disj k k' o1 o2 b g1 g3 ?_ ?_ b1 b2
    · cases o1 <;> cases o <;> simp_all [Kin, AObj.live]
    · cases o2 <;> cases o' <;> simp_all [Kin, AObj.live]
  · obtain ⟨v, h1, h2, h3⟩ := hE.get t v' hv'
    exact VR.fewer hF 6 h3 (h2 _ _ _ _ _ (hr.env t v h1))
  · obtain ⟨Ds, h1, h2, h3⟩ := hr.marks.all
    exact ⟨Ds, h1, h2, fun D hD => ⟨(h3 D hD).1, (h3 D hD).2.1, fun hbad => (h3 D hD).2.2 (hbad.imp id (hown D))⟩⟩
  · exact (hM.get k o' ho).choose_spec.2.2
  · refine ⟨he.os, he.tape, he.output, he.size, he.keep, fun b hb ho => he.own b hb (hown b ho), fun k o ho => ?_⟩
    obtain ⟨o1, g1, g2⟩ := he.obj k o ho
    have hs := hsub k (by rw [ho]; rfl)
    obtain ⟨o2, g3⟩ := Option.isSome_iff_exists.1 hs
    obtain ⟨o1', g4, g5⟩ := hF.kin k o2 g3
    have g1' : Sto.at ⟨nx, m⟩ k = some o1 := g1
    rw [g1', Option.some.injEq] at g4
    subst g4
    refine ⟨o2, g3, ?_⟩
    cases o <;> cases o1 <;> cases o2 <;> simp_all [Kin, AObj.to]
end
end Go.Proofs.YtobpnmljijeadaaDoor.A

/- A region whose order is drawn: what has been done so far. -/
set_option linter.unusedVariables false
set_option linter.unusedSimpArgs false
namespace Go.Proofs.YtobpnmljijeadaaDoor.A
open Go

/-! ### Accounts that read alike -/
section
variable {O : Nat → Prop} {Γ : Ctx} {S S' : Sto} {ρ : Nat → Loc} {w : World}
theorem Evo.ext (h : ∀ k, S'.at k = S.at k) : Evo S ρ w S' ρ w :=
  ⟨rfl, rfl, rfl, Nat.le_refl _, fun _ _ _ => rfl, fun b _ ⟨k, o, h1, h2⟩ => ⟨k, o, (h k).symm.trans h1, h2⟩, fun k o ho => ⟨o, (h k).trans ho, by cases o <;> simp [AObj.to]⟩⟩

theorem St.ext (hs : St O Γ S ρ w) (h : ∀ k, S'.at k = S.at k) : St O Γ S' ρ w where
  objs k o ho := (hs.objs k o ((h k).symm.trans ho)).keep (Evo.ext h) hs.shared (fun _ _ => rfl)
  disj k k' o o' b h1 h2 := hs.disj k k' o o' b ((h k).symm.trans h1) ((h k').symm.trans h2)
  glob g cs hg := (hs.glob g cs hg).evo (Evo.ext h)
  outer b hb := ⟨(hs.outer b hb).1, fun ⟨k, o, h1, h2⟩ => (hs.outer b hb).2 ⟨k, o, (h k).symm.trans h1, h2⟩⟩
  shared b hb := ⟨(hs.shared b hb).1, fun ⟨k, o, h1, h2⟩ => (hs.shared b hb).2 ⟨k, o, (h k).symm.trans h1, h2⟩⟩
end

/-! ### What has been done so far -/
section
variable {α : Type}
/-- The entries of those that are done, the last first. -/
def upto (D : Nat → Bool) (f : Nat → Option (Nat × α)) : Nat → List (Nat × α)
  | 0 => []
  | n + 1 => match D n, f n with
    | true, some p => p :: upto D f n
    | _, _ => upto D f n

theorem upto_congr {D D' : Nat → Bool} {f : Nat → Option (Nat × α)} {k : Nat} {l : List (Nat × α)} : ∀ n, (∀ j x, j < n → f j = some (k, x) → D j = D' j) → get (upto D f n ++ l) k = get (upto D' f n ++ l) k
  | 0, _ => rfl
  | n + 1, h => by
    have ih := upto_congr (l := l) n (fun j x hj hf => h j x (by omega) hf)
    unfold upto
    cases hf : f n with
    | none => cases D n <;> cases D' n <;> exact ih
    | some p =>
      obtain ⟨k', x⟩ := p
      by_cases e : k' = k
      · subst e
        have := h n x (by omega) hf
        rw [← this]
        cases D n with
        | true => simp only [List.cons_append, get_cons, if_true]
        | false => exact ih
      · cases D n <;> cases D' n <;> simp only [List.cons_append, get_cons, if_neg e] <;> exact ih

theorem upto_set {D D' : Nat → Bool} {f : Nat → Option (Nat × α)} {k : Nat} {l : List (Nat × α)} {i : Nat} (hi : D i = false) (hD : ∀ j, D' j = (D j || j == i)) : ∀ n, i < n → (∀ j x y, j < n → f i = some (k, x) → f j = some (k, y) → D j = true → j < i) →
    get (upto D' f n ++ l) k = match f i with
      | some (k', x) => if k' = k then some x else get (upto D f n ++ l) k
      | none => get (upto D f n ++ l) k
  | 0, h, _ => by omega
  | n + 1, h, hlt => by
    by_cases e : i = n
    · subst e
      have hlow : get (upto D' f i ++ l) k = get (upto D f i ++ l) k := upto_congr i (fun j x hj _ => by
        rw [hD j]
        have : (j == i) = false := by simp; omega
        rw [this, Bool.or_false])
      have hi' : D' i = true := by rw [hD]; simp
      unfold upto
      rw [hi, hi']
      cases hf : f i with
      | none => simpa using hlow
      | some p =>
        obtain ⟨k', x⟩ := p
        simp only [List.cons_append, get_cons]
        rw [hlow]
    · have ih := upto_set (f := f) (k := k) (l := l) hi hD n (by omega) (fun j x y hj => hlt j x y (by omega))
      have hn : D' n = D n := by
        rw [hD n]
        have : (n == i) = false := by simp; omega
        rw [this, Bool.or_false]
      unfold upto
      rw [hn]
      cases hDn : D n with
      | false => exact ih
      | true =>
        cases hfn : f n with
        | none => exact ih
        | some p =>
          obtain ⟨k2, y⟩ := p
          simp only [List.cons_append, get_cons]
          by_cases e2 : k2 = k
          · subst e2
            simp only [if_true]
            cases hfi : f i with
            | none => rfl
            | some p =>
              obtain ⟨k', x⟩ := p
              simp only
              by_cases e3 : k' = k2
              · subst e3
                have := hlt n x y (by omega) hfi hfn hDn
                omega
              · rw [if_neg e3]
          · simp only [if_neg e2]
            exact ih

theorem upto_lt {f : Nat → Option (Nat × α)} {k : Nat} {l : List (Nat × α)} (i : Nat) : ∀ n, i ≤ n → get (upto (fun j => Nat.blt j i) f n ++ l) k = get (upto (fun _ => true) f i ++ l) k
  | 0, h => by
    have : i = 0 := by omega
    subst this
    rfl
  | n + 1, h => by
    by_cases e : i = n + 1
    · subst e
      exact upto_congr (D := fun j => Nat.blt j (n + 1)) (D' := fun _ => true) _ (fun j x hj _ => by simpa using hj)
    · have hn : Nat.blt n i = false := by
        rw [Bool.eq_false_iff]
        simp only [Nat.blt_eq, ne_eq]
        omega
      have ih := upto_lt (f := f) (k := k) (l := l) i n (by omega)
      rw [← ih]
      simp only [upto, hn]
end
end Go.Proofs.YtobpnmljijeadaaDoor.A

/- A region whose order is drawn. -/
set_option linter.unusedVariables false
set_option linter.unusedSimpArgs false
namespace Go.Proofs.YtobpnmljijeadaaDoor.A
open Go

def tmpsL : List Operand → List Nat
  | [] => []
  | .tmp t :: r => t :: tmpsL r
  | _ :: r => tmpsL r

def gslot (ops : List Oper) (o : Oper) : List Nat :=
  match o.guard with
  | some (j, _) => match ops[j]? with
    | some o' => match o'.dst with
      | some t => [t]
      | none => []
    | none => []
  | none => []

def slotsOf (ops : List Oper) (o : Oper) : List Nat := tmpsL o.op.operands.toList ++ gslot ops o

def pickE {α : Type} : List Nat → List (Nat × α) → List (Nat × α)
  | [], _ => []
  | t :: r, e => match get e t with
    | some v => (t, v) :: pickE r e
    | none => pickE r e

def idsN : Nat → AV → List Nat
  | _, .bp k _ => [k]
  | _, .row k _ _ => [k]
  | _, .view k _ _ _ _ => [k]
  | _, .ep k _ _ _ _ => [k]
  | _, .mp k => [k]
  | n + 1, .agg l => l.flatMap (idsN n)
  | n + 1, .tup l => l.flatMap (idsN n)
  | n + 1, .fn _ a b => a.flatMap (idsN n) ++ b.flatMap (idsN n)
  | n + 1, .ifb _ x => idsN n x
  | _, _ => []

def objIds : AObj → List Nat
  | .box cs => cs.flatMap (idsN 3)
  | _ => []

def keysF (e : List (Nat × AV)) (cs : List (Nat × AObj)) : List Nat :=
  e.flatMap (fun p => idsN 4 p.2) ++ (pickE (e.flatMap fun p => idsN 4 p.2) cs).flatMap fun p => objIds p.2

structure RA where
  v : AV
  d : Option (Nat × AObj)
  ks : List Nat

def runA {P : Program} {G : Nat → Option (List PV)} (wr : Bool) (T : Nat → Option TI) (E : Nat → Option Nat) (ops : List Oper) (base : Nat) (te : List (Nat × AV)) (ts : List (Nat × AObj)) :
    Nat → List Oper → List (Nat × AV) → List (Nat × AObj) → List (Hint P G) → List Prop → Option (List RA × List Prop × List (Nat × AV) × List (Nat × AObj))
  | _, [], ce, cs, _, acc => some ([], acc, ce, cs)
  | i, o :: rest, ce, cs, hs, acc =>
    match stepRE false wr T E ops (pickE (slotsOf ops o) ce ++ te) (base + i) (pickE (keysF (pickE (slotsOf ops o) ce) cs) cs ++ ts) hs o with
    | some (g, v, S', hs') => consAll g acc fun acc' => match modsO o with
      | false => match o.dst with
        | some t => match runA wr T E ops base te ts (i + 1) rest ((t, v) :: ce) cs hs' acc' with
          | some (l, r) => some (⟨v, none, keysF (pickE (slotsOf ops o) ce) cs⟩ :: l, r)
          | none => none
        | none => match runA wr T E ops base te ts (i + 1) rest ce cs hs' acc' with
          | some (l, r) => some (⟨v, none, keysF (pickE (slotsOf ops o) ce) cs⟩ :: l, r)
          | none => none
      | true => match S' with
        | ⟨_, (k, ob) :: _⟩ => match o.dst with
          | some t => match runA wr T E ops base te ts (i + 1) rest ((t, v) :: ce) ((k, ob) :: cs) hs' acc' with
            | some (l, r) => some (⟨v, some (k, ob), keysF (pickE (slotsOf ops o) ce) cs⟩ :: l, r)
            | none => none
          | none => match runA wr T E ops base te ts (i + 1) rest ce ((k, ob) :: cs) hs' acc' with
            | some (l, r) => some (⟨v, some (k, ob), keysF (pickE (slotsOf ops o) ce) cs⟩ :: l, r)
            | none => none
        | ⟨_, []⟩ => none
    | none => none

/-! ### Who must wait for whom -/
def direct (ops : List Oper) (i : Nat) : List Nat :=
  match ops[i]? with
  | some o => (o.after.toList.filter (Region.binds .any)).map (·.on)
  | none => []

def reach (ops : List Oper) : Nat → Nat → Nat → Bool
  | 0, _, _ => false
  | n + 1, i, j => (direct ops i).any fun d => Nat.beq d j || reach ops n d j

def ordered (ops : List Oper) (i j : Nat) : Bool := (Nat.blt j i && reach ops 3 i j) || (Nat.blt i j && reach ops 3 j i)

def dstAt (ops : List Oper) (j : Nat) : Option Nat :=
  match ops[j]? with
  | some o => o.dst
  | none => none
def keyAt (res : List RA) (j : Nat) : Option Nat :=
  match res[j]? with
  | some r => match r.d with
    | some (k, _) => some k
    | none => none
  | none => none
def inL (l : List Nat) (t : Nat) : Bool := l.any (Nat.beq t)
def isK (o : Option Nat) (t : Nat) : Bool :=
  match o with
  | some x => Nat.beq x t
  | none => false

def chkPair (ops : List Oper) (res : List RA) (base i j : Nat) : Bool :=
  (match dstAt ops j with
    | some t => (match (inL (match ops[i]? with | some o => slotsOf ops o | none => []) t || isK (dstAt ops i) t) with
      | true => ordered ops i j
      | false => true)
    | none => true) &&
  (match keyAt res j with
    | some k => (match (inL (match res[i]? with | some r => r.ks | none => []) k || isK (keyAt res i) k) with
      | true => ordered ops i j
      | false => true) && (match Nat.beq k (base + i) with
      | true => Nat.blt i j && isK (keyAt res i) k
      | false => true)
    | none => true)

def chkOne (ops : List Oper) (res : List RA) (base N L i : Nat) : Bool :=
  (direct ops i).all (fun d => Nat.blt d i) && dstOk N (dstAt ops i) && (match keyAt res i with | some k => Nat.blt k (base + L) | none => true)

def okAny (ops : List Oper) (res : List RA) (base N L : Nat) : Bool :=
  (List.range L).all fun i => chkOne ops res base N L i && (List.range L).all fun j => Nat.beq i j || chkPair ops res base i j

/-! ### What the checks say -/
def fe (ops : List Oper) (res : List RA) (j : Nat) : Option (Nat × AV) :=
  match ops[j]?, res[j]? with
  | some o, some r => match o.dst with
    | some t => some (t, r.v)
    | none => none
  | _, _ => none
def fs (res : List RA) (j : Nat) : Option (Nat × AObj) :=
  match res[j]? with
  | some r => r.d
  | none => none

theorem fe_dst {ops : List Oper} {res : List RA} {j t : Nat} {x : AV} (h : fe ops res j = some (t, x)) : dstAt ops j = some t := by
  unfold fe at h
  split at h
  · rename_i o r ho hr
    split at h
    · rename_i t' ht
      simp only [Option.some.injEq, Prod.mk.injEq] at h
      obtain ⟨rfl, _⟩ := h
      simp only [dstAt, ho, ht]
    · simp at h
  · simp at h
theorem fs_key {res : List RA} {j k : Nat} {x : AObj} (h : fs res j = some (k, x)) : keyAt res j = some k := by
  unfold fs at h
  split at h
  · rename_i r hr
    simp only [keyAt, hr, h]
  · simp at h

theorem inL_iff {l : List Nat} {t : Nat} : inL l t = true ↔ t ∈ l := by
  simp only [inL, List.any_eq_true]
  constructor
  · rintro ⟨x, hx, h⟩
    rw [Nat.eq_of_beq_eq_true h]; exact hx
  · exact fun h => ⟨t, h, Nat.beq_refl t⟩

structure Chk (ops : List Oper) (res : List RA) (base N L : Nat) : Prop where
  low : ∀ i, i < L → ∀ d ∈ direct ops i, d < i
  dst : ∀ i, i < L → dstOk N (dstAt ops i) = true
  key : ∀ i k, i < L → keyAt res i = some k → k < base + L
  slot : ∀ i j t, i < L → j < L → i ≠ j → dstAt ops j = some t → (∃ o, ops[i]? = some o ∧ t ∈ slotsOf ops o) ∨ dstAt ops i = some t → ordered ops i j = true
  mem : ∀ i j k, i < L → j < L → i ≠ j → keyAt res j = some k → (∃ r, res[i]? = some r ∧ k ∈ r.ks) ∨ keyAt res i = some k → ordered ops i j = true
  new : ∀ i j, i < L → j < L → i ≠ j → keyAt res j = some (base + i) → i < j ∧ keyAt res i = some (base + i)

theorem isK_iff {o : Option Nat} {t : Nat} : isK o t = true ↔ o = some t := by
  cases o with
  | none => simp [isK]
  | some x => simp [isK]

theorem okAny_chk {ops : List Oper} {res : List RA} {base N L : Nat} (h : okAny ops res base N L = true) : Chk ops res base N L := by
  simp only [okAny, List.all_eq_true, List.mem_range, Bool.and_eq_true, Bool.or_eq_true] at h
  have hone : ∀ i, i < L → chkOne ops res base N L i = true := fun i hi => (h i hi).1
  have hpair : ∀ i j, i < L → j < L → i ≠ j → chkPair ops res base i j = true := fun i j hi hj hne => ((h i hi).2 j hj).resolve_left (fun e => hne (Nat.eq_of_beq_eq_true e))
  refine ⟨fun i hi d hd => ?_, fun i hi => ?_, fun i k hi hk => ?_, fun i j t hi hj hne ht hh => ?_, fun i j k hi hj hne hk hh => ?_, fun i j hi hj hne hk => ?_⟩
  · have := hone i hi
    simp only [chkOne, Bool.and_eq_true, List.all_eq_true] at this
    simpa using this.1.1 d hd
  · have := hone i hi
    simp only [chkOne, Bool.and_eq_true] at this
    exact this.1.2
  · have := hone i hi
    simp only [chkOne, Bool.and_eq_true, hk] at this
    simpa using this.2
  · have := hpair i j hi hj hne
    simp only [chkPair, ht, Bool.and_eq_true] at this
    have h1 := this.1
    have hc : (inL (match ops[i]? with | some o => slotsOf ops o | none => []) t || isK (dstAt ops i) t) = true := by
      rw [Bool.or_eq_true]
      rcases hh with ⟨o, ho, hm⟩ | hd
      · left; rw [ho]; exact inL_iff.2 hm
      · right; exact isK_iff.2 hd
    rw [hc] at h1
    exact h1
  · have := hpair i j hi hj hne
    simp only [chkPair, hk, Bool.and_eq_true] at this
    have h1 := this.2.1
    have hc : (inL (match res[i]? with | some r => r.ks | none => []) k || isK (keyAt res i) k) = true := by
      rw [Bool.or_eq_true]
      rcases hh with ⟨o, ho, hm⟩ | hd
      · left; rw [ho]; exact inL_iff.2 hm
      · right; exact isK_iff.2 hd
    rw [hc] at h1
    exact h1
  · have := hpair i j hi hj hne
    simp only [chkPair, hk, Bool.and_eq_true, Nat.beq_refl] at this
    exact ⟨by simpa using this.2.2.1, isK_iff.1 this.2.2.2⟩

/-! ### What is done stays closed -/
def Closed (ops : List Oper) (D : Nat → Bool) : Prop := ∀ j, D j = true → ∀ d ∈ direct ops j, D d = true

theorem reach_done {ops : List Oper} {D : Nat → Bool} (hD : Closed ops D) : ∀ (n i j : Nat), (∀ d ∈ direct ops i, D d = true) → reach ops n i j = true → D j = true
  | 0, i, j, _, h => by simp [reach] at h
  | n + 1, i, j, hi, h => by
    simp only [reach, List.any_eq_true, Bool.or_eq_true] at h
    obtain ⟨d, hd, h | h⟩ := h
    · rw [← Nat.eq_of_beq_eq_true h]; exact hi d hd
    · exact reach_done hD n d j (hD d (hi d hd)) h

/-- Where one is about to be taken: of those that are in order with it, just the earlier ones are done. -/
theorem ordered_done {ops : List Oper} {D : Nat → Bool} (hD : Closed ops D) {i j : Nat} (hi : D i = false) (hr : ∀ d ∈ direct ops i, D d = true) (h : ordered ops i j = true) : D j = Nat.blt j i := by
  simp only [ordered, Bool.or_eq_true, Bool.and_eq_true] at h
  rcases h with ⟨h1, h2⟩ | ⟨h1, h2⟩
  · rw [reach_done hD 3 i j hr h2, h1]
  · have hji : Nat.blt j i = false := by
      have h1 : i < j := by simpa using h1
      rw [Bool.eq_false_iff, ne_eq, Nat.blt_eq]
      omega
    rw [hji]
    cases hDj : D j with
    | false => rfl
    | true =>
      have := reach_done hD 3 j i (hD j hDj) h2
      rw [hi] at this
      simp at this
end Go.Proofs.YtobpnmljijeadaaDoor.A

/- A region whose order is drawn: whichever order is drawn, it does what the canonical one does. -/
set_option linter.unusedVariables false
set_option linter.unusedSimpArgs false
namespace Go.Proofs.YtobpnmljijeadaaDoor.A
open Go

section
variable {α : Type}
theorem upto_mem {D : Nat → Bool} {f : Nat → Option (Nat × α)} {k : Nat} {x : α} {l : List (Nat × α)} : ∀ n, get (upto D f n ++ l) k = some x → (∃ j, j < n ∧ D j = true ∧ f j = some (k, x)) ∨ get l k = some x
  | 0, h => .inr h
  | n + 1, h => by
    have low : get (upto D f n ++ l) k = some x → (∃ j, j < n + 1 ∧ D j = true ∧ f j = some (k, x)) ∨ get l k = some x := fun h => by
      rcases upto_mem n h with ⟨j, h1, h2⟩ | h1
      · exact .inl ⟨j, by omega, h2⟩
      · exact .inr h1
    unfold upto at h
    cases hD : D n with
    | false => rw [hD] at h; exact low h
    | true =>
      cases hf : f n with
      | none => rw [hD, hf] at h; exact low h
      | some p =>
        obtain ⟨k', y⟩ := p
        rw [hD, hf] at h
        simp only [List.cons_append, get_cons] at h
        by_cases e : k' = k
        · subst e
          simp only [if_true, Option.some.injEq] at h
          subst h
          exact .inl ⟨n, by omega, hD, hf⟩
        · rw [if_neg e] at h; exact low h

theorem upto_all {D : Nat → Bool} {f : Nat → Option (Nat × α)} : ∀ n, (∀ j, j < n → D j = true) → upto D f n = upto (fun _ => true) f n
  | 0, _ => rfl
  | n + 1, h => by
    unfold upto
    rw [h n (by omega), upto_all n (fun j hj => h j (by omega))]

theorem upto_some {f : Nat → Option (Nat × α)} {n : Nat} {p : Nat × α} (h : f n = some p) : upto (fun _ => true) f (n + 1) = p :: upto (fun _ => true) f n := by
  simp only [upto, h]
theorem upto_none {f : Nat → Option (Nat × α)} {n : Nat} (h : f n = none) : upto (fun _ => true) f (n + 1) = upto (fun _ => true) f n := by
  simp only [upto, h]

theorem pickE_get {l : List Nat} {e e' : List (Nat × α)} {t : Nat} (h : t ∈ l → get e t = get e' t) : get (pickE l e ++ e') t = get e' t := by
  induction l with
  | nil => rfl
  | cons x r ih =>
    have ih := ih (fun hm => h (by simp [hm]))
    unfold pickE
    cases hx : get e x with
    | none => exact ih
    | some v =>
      simp only [List.cons_append, get_cons]
      by_cases e2 : x = t
      · subst e2
        rw [if_pos rfl, ← h (by simp), hx]
      · rw [if_neg e2]; exact ih
end

section
variable {P : Program} {T : Nat → Option TI} {E : Nat → Option Nat} {G : Nat → Option (List PV)} {wr : Bool} {ops : List Oper} {res : List RA} {e0 : List (Nat × AV)} {m0 : List (Nat × AObj)} {base : Nat} {te : List (Nat × AV)} {ts : List (Nat × AObj)}

def consO {α : Type} : Option α → List α → List α
  | some p, l => p :: l
  | none, l => l

abbrev yes : Nat → Bool := fun _ => true

/-- One operation's share of the canonical run. -/
def Share (P : Program) (G : Nat → Option (List PV)) (wr : Bool) (T : Nat → Option TI) (E : Nat → Option Nat) (ops : List Oper) (res : List RA) (e0 : List (Nat × AV)) (m0 : List (Nat × AObj)) (base : Nat) (te : List (Nat × AV)) (ts : List (Nat × AObj)) (j : Nat) : Prop :=
  ∃ o r, ops[j]? = some o ∧ res[j]? = some r ∧ r.ks = keysF (pickE (slotsOf ops o) (upto yes (fe ops res) j ++ e0)) (upto yes (fs res) j ++ m0) ∧
    ∃ (hs1 hs2 : List (Hint P G)) (g : List Prop) (S' : Sto),
      stepRE false wr T E ops (pickE (slotsOf ops o) (upto yes (fe ops res) j ++ e0) ++ te) (base + j) (pickE r.ks (upto yes (fs res) j ++ m0) ++ ts) hs1 o = some (g, r.v, S', hs2) ∧ AllP g ∧
      ((modsO o = false ∧ r.d = none) ∨ (modsO o = true ∧ ∃ nx k ob m, S' = ⟨nx, (k, ob) :: m⟩ ∧ r.d = some (k, ob)))

theorem runA_spec : ∀ (rest : List Oper) (i : Nat) (ce : List (Nat × AV)) (cs : List (Nat × AObj)) (hs : List (Hint P G)) (acc : List Prop) (l : List RA) (acc' : List Prop) (ce' : List (Nat × AV)) (cs' : List (Nat × AObj)),
    runA wr T E ops base te ts i rest ce cs hs acc = some (l, acc', ce', cs') → (∀ j, rest[j]? = ops[i + j]?) → (∀ j, l[j]? = res[i + j]?) → ce = upto yes (fe ops res) i ++ e0 → cs = upto yes (fs res) i ++ m0 → AllP acc' →
    AllP acc ∧ ce' = upto yes (fe ops res) (i + rest.length) ++ e0 ∧ cs' = upto yes (fs res) (i + rest.length) ++ m0 ∧ ∀ j, i ≤ j → j < i + rest.length → Share P G wr T E ops res e0 m0 base te ts j
  | [], i, ce, cs, hs, acc, l, acc', ce', cs', h, _, _, hce, hcs, hg => by
    simp only [runA, Option.some.injEq, Prod.mk.injEq] at h
    obtain ⟨rfl, rfl, rfl, rfl⟩ := h
    exact ⟨hg, hce, hcs, fun j h1 h2 => absurd h2 (by simp; omega)⟩
  | o :: rest, i, ce, cs, hs, acc, l, acc', ce', cs', h, ho, hl, hce, hcs, hg => by
    have hoi : ops[i]? = some o := by simpa using (ho 0).symm
    unfold runA at h
    split at h
    case h_2 => simp at h
    rename_i g v S' hs' hst
    simp only [consAll_eq] at h
    -- the way on
    have key : ∀ (d : Option (Nat × AObj)) (l2 : List RA) (ce2 : List (Nat × AV)) (cs2 : List (Nat × AObj)),
        runA wr T E ops base te ts (i + 1) rest ce2 cs2 hs' (g.reverse ++ acc) = some (l2, acc', ce', cs') → l = ⟨v, d, keysF (pickE (slotsOf ops o) ce) cs⟩ :: l2 →
        ce2 = bindE o.dst v ce → cs2 = consO d cs →
        ((modsO o = false ∧ d = none) ∨ (modsO o = true ∧ ∃ nx k ob m, S' = ⟨nx, (k, ob) :: m⟩ ∧ d = some (k, ob))) →
        AllP acc ∧ ce' = upto yes (fe ops res) (i + (o :: rest).length) ++ e0 ∧ cs' = upto yes (fs res) (i + (o :: rest).length) ++ m0 ∧ ∀ j, i ≤ j → j < i + (o :: rest).length → Share P G wr T E ops res e0 m0 base te ts j := by
      intro d l2 ce2 cs2 hrun hl2 hce2 hcs2 hd
      have hri : res[i]? = some ⟨v, d, keysF (pickE (slotsOf ops o) ce) cs⟩ := by
        have := hl 0
        rw [hl2] at this
        simpa using this.symm
      have hfe : upto yes (fe ops res) (i + 1) = bindE o.dst v (upto yes (fe ops res) i) := by
        cases hd : o.dst with
        | none => exact upto_none (by simp only [fe, hoi, hri, hd])
        | some t => exact upto_some (by simp only [fe, hoi, hri, hd])
      have hfs : upto yes (fs res) (i + 1) = consO d (upto yes (fs res) i) := by
        have : fs res i = d := by simp only [fs, hri]
        revert this
        cases d with
        | none => exact fun h => upto_none h
        | some p => exact fun h => upto_some h
      obtain ⟨h1, h2, h3, h4⟩ := runA_spec rest (i + 1) ce2 cs2 hs' _ l2 acc' ce' cs' hrun (fun j => by
        have := ho (j + 1)
        rw [show i + 1 + j = i + (j + 1) by omega]
        simpa using this) (fun j => by
        have := hl (j + 1)
        rw [hl2] at this
        rw [show i + 1 + j = i + (j + 1) by omega]
        simpa using this) (by rw [hce2, hfe, hce]; cases o.dst <;> rfl) (by rw [hcs2, hfs, hcs]; clear hd hri hl2 hcs2 hfs; cases d <;> rfl) hg
      have hlen : i + (o :: rest).length = i + 1 + rest.length := by simp; omega
      rw [hlen]
      refine ⟨h1.append.2, h2, h3, fun j hj hj2 => ?_⟩
      by_cases e : j = i
      · subst e
        refine ⟨o, _, hoi, hri, by rw [hce, hcs], hs, hs', g, S', ?_, AllP_rev h1.append.1, hd⟩
        rw [hce, hcs] at hst
        rw [hce, hcs]
        exact hst
      · exact h4 j (by omega) hj2
    split at h
    · rename_i hm
      split at h
      · rename_i t hd
        split at h
        · rename_i l2 r2 hrun
          obtain ⟨a2, b2, c2⟩ := r2
          simp only [Option.some.injEq, Prod.mk.injEq] at h
          obtain ⟨h1, rfl, rfl, rfl⟩ := h
          exact key none l2 _ _ hrun h1.symm (by rw [hd]; rfl) rfl (.inl ⟨hm, rfl⟩)
        · simp at h
      · rename_i hd
        split at h
        · rename_i l2 r2 hrun
          obtain ⟨a2, b2, c2⟩ := r2
          simp only [Option.some.injEq, Prod.mk.injEq] at h
          obtain ⟨h1, rfl, rfl, rfl⟩ := h
          exact key none l2 _ _ hrun h1.symm (by rw [hd]; rfl) rfl (.inl ⟨hm, rfl⟩)
        · simp at h
    · rename_i hm
      split at h
      · rename_i nx k ob m
        split at h
        · rename_i t hd
          split at h
          · rename_i l2 r2 hrun
            obtain ⟨a2, b2, c2⟩ := r2
            simp only [Option.some.injEq, Prod.mk.injEq] at h
            obtain ⟨h1, rfl, rfl, rfl⟩ := h
            exact key (some (k, ob)) l2 _ _ hrun h1.symm (by rw [hd]; rfl) rfl (.inr ⟨hm, nx, k, ob, m, rfl, rfl⟩)
          · simp at h
        · rename_i hd
          split at h
          · rename_i l2 r2 hrun
            obtain ⟨a2, b2, c2⟩ := r2
            simp only [Option.some.injEq, Prod.mk.injEq] at h
            obtain ⟨h1, rfl, rfl, rfl⟩ := h
            exact key (some (k, ob)) l2 _ _ hrun h1.symm (by rw [hd]; rfl) rfl (.inr ⟨hm, nx, k, ob, m, rfl, rfl⟩)
          · simp at h
      · simp at h
end
end Go.Proofs.YtobpnmljijeadaaDoor.A

/- A region whose order is drawn: the rule. -/
set_option linter.unusedVariables false
set_option linter.unusedSimpArgs false
namespace Go.Proofs.YtobpnmljijeadaaDoor.A
open Go

section
variable {P : Program} {O : Nat → Prop} {Γ : Ctx} {r : Option Nat} {T : Nat → Option TI} {E : Nat → Option Nat} {wr : Bool} {ops : List Oper} {res : List RA} {e0 : List (Nat × AV)} {m0 : List (Nat × AObj)} {base : Nat} {N B : Nat}

/-- The account, where those of D are done. -/
abbrev eD (ops : List Oper) (res : List RA) (e0 : List (Nat × AV)) (D : Nat → Bool) : List (Nat × AV) := upto D (fe ops res) ops.length ++ e0
abbrev sD (ops : List Oper) (res : List RA) (m0 : List (Nat × AObj)) (base : Nat) (D : Nat → Bool) : Sto := ⟨base + ops.length, upto D (fs res) ops.length ++ m0⟩

structure At (O : Nat → Prop) (Γ : Ctx) (N B : Nat) (ops : List Oper) (res : List RA) (e0 : List (Nat × AV)) (m0 : List (Nat × AObj)) (base : Nat) (S1 : Sto) (ρ1 : Nat → Loc) (w1 : World) (D : Nat → Bool) (ρ : Nat → Loc) (a : Act) (w : World) : Prop where
  st : St O Γ (sD ops res m0 base D) ρ w
  env : EnvOk O ⟨eD ops res e0 D, sD ops res m0 base D⟩ ρ a w
  size : a.tmps.size = N
  bse : B ≤ w.heap.size
  marks : Marks (ownS O (sD ops res m0 base D) ρ) B w a.defers
  evo : Evo S1 ρ1 w1 (sD ops res m0 base D) ρ w

theorem one_step (hT : TOk P T) (hE : EqOk P E) (hm0 : ∀ k o, get m0 k = some o → k < base) (hchk : Chk ops res base N ops.length) (hsh : ∀ te ts j, j < ops.length → Share P Γ.G wr T E ops res e0 m0 base te ts j)
    {S1 : Sto} {ρ1 : Nat → Loc} {w1 : World} {D D' : Nat → Bool} (hcl : Closed ops D) {i : Nat} (hi : i < ops.length) (hDi : D i = false) (hrd : ∀ d ∈ direct ops i, D d = true) (hD' : ∀ j, D' j = (D j || j == i))
    {ρ : Nat → Loc} {a : Act} {w : World} (hat : At O Γ N B ops res e0 m0 base S1 ρ1 w1 D ρ a w) {n : Nat} {K : Act → World → Prop} {Q : Exit → Act → World → Prop}
    (hK : ∀ ρ' a' w', At O Γ N B ops res e0 m0 base S1 ρ1 w1 D' ρ' a' w' → K a' w') : wpOpIn (Fw r) n P ops.toArray Q i K a w := by
  obtain ⟨o, ra, ho, hr, hks, hs1, hs2, g, S', hst, hg, hmod⟩ := hsh (eD ops res e0 D) (upto D (fs res) ops.length ++ m0) i hi
  obtain ⟨g0, hstR, himp⟩ := stepRE_ok hst
  -- slots
  have hslot : ∀ t ∈ slotsOf ops o, get (upto yes (fe ops res) i ++ e0) t = get (eD ops res e0 D) t := fun t ht => by
    rw [← upto_lt i ops.length (by omega)]
    refine upto_congr _ (fun j x hj hf => ?_)
    by_cases e : j = i
    · rw [e, hDi, Bool.eq_false_iff, ne_eq, Nat.blt_eq]; omega
    · exact (ordered_done hcl hDi hrd (hchk.slot i j t hi hj (fun h => e h.symm) (fe_dst hf) (.inl ⟨o, ho, ht⟩))).symm
  have hmem : ∀ k ∈ ra.ks, get (upto yes (fs res) i ++ m0) k = get (upto D (fs res) ops.length ++ m0) k := fun k hk => by
    rw [← upto_lt i ops.length (by omega)]
    refine upto_congr _ (fun j x hj hf => ?_)
    by_cases e : j = i
    · rw [e, hDi, Bool.eq_false_iff, ne_eq, Nat.blt_eq]; omega
    · exact (ordered_done hcl hDi hrd (hchk.mem i j k hi hj (fun h => e h.symm) (fs_key hf) (.inl ⟨ra, hr, hk⟩))).symm
  have hge : ∀ t, get (pickE (slotsOf ops o) (upto yes (fe ops res) i ++ e0) ++ eD ops res e0 D) t = get (eD ops res e0 D) t := fun t => pickE_get (hslot t)
  have hgs : ∀ k, Sto.at ⟨base + i, pickE ra.ks (upto yes (fs res) i ++ m0) ++ (upto D (fs res) ops.length ++ m0)⟩ k = (sD ops res m0 base D).at k := fun k => pickE_get (hmem k)
  -- a new number
  have hfr : (sD ops res m0 base D).at (base + i) = none := by
    cases hx : (sD ops res m0 base D).at (base + i) with
    | none => rfl
    | some x =>
      rcases upto_mem _ hx with ⟨j, hj, hDj, hf⟩ | h0
      · by_cases e : j = i
        · subst e; rw [hDi] at hDj; simp at hDj
        · obtain ⟨h1, h2⟩ := hchk.new i j hi hj (fun h => e h.symm) (fs_key hf)
          have := ordered_done hcl hDi hrd (hchk.mem i j (base + i) hi hj (fun h => e h.symm) (fs_key hf) (.inr h2))
          rw [hDj] at this
          have hlt : j < i := by simpa using this.symm
          omega
      · have := hm0 _ _ h0; omega
  unfold wpOpIn
  have hoA : ops.toArray[i]? = some o := by simpa using ho
  simp only [hoA]
  have hev0 : Evo (sD ops res m0 base D) ρ w ⟨base + i, pickE ra.ks (upto yes (fs res) i ++ m0) ++ (upto D (fs res) ops.length ++ m0)⟩ ρ w := Evo.ext hgs
  refine stepR_ok hT hE hstR (himp hg) n ρ a w K Q (hat.st.ext hgs) (by show Sto.at _ (base + i) = none; rw [hgs]; exact hfr) (fun t v hv => ?_) (fun cv w' ρ' hv hs' he' => ?_)
  · simp only at hv
    rw [hge] at hv
    exact (hat.env t v hv).evo hev0
  · have hdo : dstAt ops i = o.dst := by simp only [dstAt, ho]
    have hfi : fe ops res i = match o.dst with | some t => some (t, ra.v) | none => none := by
      simp only [fe, ho, hr]
      all_goals (cases o.dst <;> rfl)
    have hfsi : fs res i = ra.d := by simp only [fs, hr]
    -- the account of objects after it
    have hsto : ∀ k, (sD ops res m0 base D').at k = S'.at k := fun k => by
      have h1 := upto_set (f := fs res) (k := k) (l := m0) hDi hD' ops.length hi (fun j x y hj hx hy hDj => by
        by_cases e : j = i
        · subst e; rw [hDi] at hDj; simp at hDj
        · have := ordered_done hcl hDi hrd (hchk.mem i j k hi hj (fun h => e h.symm) (fs_key hy) (.inr (fs_key hx)))
          rw [hDj] at this
          simpa using this.symm)
      show get (upto D' (fs res) ops.length ++ m0) k = S'.at k
      rw [h1, hfsi]
      rcases hmod with ⟨hm, hd⟩ | ⟨hm, nx, k', ob, m, rfl, hd⟩
      · rw [hd, same_R hm hstR]
        exact (hgs k).symm
      · rw [hd]
        simp only [Sto.at, get_cons]
        by_cases e : k' = k
        · rw [if_pos e, if_pos e]
        · rw [if_neg e, if_neg e]
          have hform := form_R hstR
          have : get m k = Sto.at ⟨base + i, pickE ra.ks (upto yes (fs res) i ++ m0) ++ (upto D (fs res) ops.length ++ m0)⟩ k := by
            generalize hS : (⟨base + i, pickE ra.ks (upto yes (fs res) i ++ m0) ++ (upto D (fs res) ops.length ++ m0)⟩ : Sto) = Sx at hform
            have hm2 : ∀ (S2 : Sto), (⟨nx, (k', ob) :: m⟩ : Sto) = S2 → get m k = S2.at k := fun S2 h => by
              rw [← h]; simp only [Sto.at, get_cons, if_neg e]
            generalize hS2 : (⟨nx, (k', ob) :: m⟩ : Sto) = S2 at hform
            have hk := hm2 S2 hS2
            cases hform with
            | same => exact hk
            | put k2 o2 o2' h2 =>
              rw [Sto.put] at hS2
              simp only [Sto.mk.injEq, List.cons.injEq, Prod.mk.injEq] at hS2
              obtain ⟨_, _, rfl⟩ := hS2
              rfl
            | new o2 =>
              rw [Sto.new] at hS2
              simp only [Sto.mk.injEq, List.cons.injEq, Prod.mk.injEq] at hS2
              obtain ⟨_, _, rfl⟩ := hS2
              rfl
          rw [this, hgs]
          rfl
    have hev1 : Evo S' ρ' w' (sD ops res m0 base D') ρ' w' := Evo.ext hsto
    have hev : Evo (sD ops res m0 base D) ρ w (sD ops res m0 base D') ρ' w' := hev0.trans (he'.trans hev1)
    have hdok : dstOk a.tmps.size o.dst = true := by rw [hat.size, ← hdo]; exact hchk.dst i hi
    refine hK ρ' _ w' ⟨hs'.ext hsto, fun t u hu => ?_, by rw [put_size]; exact hat.size, Nat.le_trans hat.bse hev.size, by rw [put_defers]; exact hat.marks.evo hev, hat.evo.trans hev⟩
    have h1 := upto_set (f := fe ops res) (k := t) (l := e0) hDi hD' ops.length hi (fun j x y hj hx hy hDj => by
      by_cases e : j = i
      · subst e; rw [hDi] at hDj; simp at hDj
      · have := ordered_done hcl hDi hrd (hchk.slot i j t hi hj (fun h => e h.symm) (fe_dst hy) (.inr (fe_dst hx)))
        rw [hDj] at this
        simpa using this.symm)
    have hu' : get (upto D' (fe ops res) ops.length ++ e0) t = some u := hu
    rw [h1, hfi] at hu'
    rw [put_tmps a o.dst cv t hdok]
    cases hd : o.dst with
    | none =>
      rw [hd] at hu'
      simp only at hu'
      rw [if_neg (by simp)]
      exact (hat.env t u hu').evo hev
    | some t' =>
      rw [hd] at hu'
      simp only at hu'
      by_cases e : t' = t
      · subst e
        rw [if_pos rfl, Option.some.injEq] at hu'
        subst hu'
        rw [if_pos rfl]
        exact hv.evo hev1
      · rw [if_neg e] at hu'
        rw [if_neg (by simpa using e)]
        exact (hat.env t u hu').evo hev
end

/-! ### All of them, in whatever order -/
def done (listed : Array Bool) (j : Nat) : Bool := listed.getD j false

theorem countP_set {D D' : Nat → Bool} {i : Nat} (hi : D i = false) (hD : ∀ j, D' j = (D j || j == i)) : ∀ (l : List Nat), l.Nodup → i ∈ l → l.countP D' = l.countP D + 1
  | [], _, h => by simp at h
  | x :: l, hn, h => by
    rw [List.nodup_cons] at hn
    have hnot : i ∉ l → l.countP D' = l.countP D := fun hni => by
      refine List.countP_congr fun y hy => ?_
      have : (y == i) = false := by simp; intro e; subst e; exact hni hy
      rw [hD y, this, Bool.or_false]
    by_cases e : x = i
    · subst e
      rw [List.countP_cons, List.countP_cons, hnot hn.1, hD x, hi]
      simp
    · have hil : i ∈ l := by
        rcases List.mem_cons.1 h with h | h
        · exact absurd h.symm e
        · exact h
      have ih := countP_set hi hD l hn.2 hil
      have hx : D' x = D x := by
        have : (x == i) = false := by simpa using e
        rw [hD x, this, Bool.or_false]
      rw [List.countP_cons, List.countP_cons, ih, hx]
      omega

theorem done_set {listed : Array Bool} {i : Nat} (hi : i < listed.size) (j : Nat) : done (listed.setIfInBounds i true) j = (done listed j || j == i) := by
  unfold done
  rw [Array.getD_eq_getD_getElem?, Array.getD_eq_getD_getElem?, Array.getElem?_setIfInBounds]
  by_cases e : i = j
  · subst e; simp [hi]
  · have : (j == i) = false := by simp; exact fun h => e h.symm
    rw [if_neg e, this, Bool.or_false]

section
variable {P : Program} {O : Nat → Prop} {Γ : Ctx} {r : Option Nat} {T : Nat → Option TI} {E : Nat → Option Nat} {wr : Bool} {ops : List Oper} {res : List RA} {e0 : List (Nat × AV)} {m0 : List (Nat × AObj)} {base : Nat} {N B : Nat}

theorem ready_iff {listed : Array Bool} (hsz : listed.size = ops.length) {i : Nat} : i ∈ Region.ready .any ops.toArray listed ↔ i < ops.length ∧ done listed i = false ∧ ∀ d ∈ direct ops i, done listed d = true := by
  rw [mem_ready]
  constructor
  · rintro ⟨h1, o, ho, h2⟩
    have ho' : ops[i]? = some o := by simpa using ho
    have hlt : i < ops.length := (List.getElem?_eq_some_iff.1 ho').1
    refine ⟨hlt, ?_, fun d hd => ?_⟩
    · have : i < listed.size := by omega
      simpa [done, Array.getD_eq_getD_getElem?, this] using h1
    · simp only [direct, ho', List.mem_map, List.mem_filter] at hd
      obtain ⟨e, ⟨he, hb⟩, rfl⟩ := hd
      exact h2 e (by simpa using he) hb
  · rintro ⟨hlt, h1, h2⟩
    refine ⟨?_, ops[i], by simp [hlt], fun e he hb => ?_⟩
    · have : i < listed.size := by omega
      simpa [done, Array.getD_eq_getD_getElem?, this] using h1
    · refine h2 e.on ?_
      have : ops[i]? = some ops[i] := by simp [hlt]
      simp only [direct, this, List.mem_map, List.mem_filter]
      exact ⟨e, ⟨by simpa using he, hb⟩, rfl⟩

theorem all_steps (hT : TOk P T) (hE : EqOk P E) (hm0 : ∀ k o, get m0 k = some o → k < base) (hchk : Chk ops res base N ops.length) (hsh : ∀ te ts j, j < ops.length → Share P Γ.G wr T E ops res e0 m0 base te ts j)
    {S1 : Sto} {ρ1 : Nat → Loc} {w1 : World} {n : Nat} {Q : Exit → Act → World → Prop} (hQ : ∀ D ρ a w, (∀ j, j < ops.length → D j = true) → At O Γ N B ops res e0 m0 base S1 ρ1 w1 D ρ a w → Q .normal a w) :
    ∀ (fuel : Nat) (listed : Array Bool) (ρ : Nat → Loc) (a : Act) (w : World), listed.size = ops.length → Closed ops (done listed) → ops.length ≤ fuel + (List.range ops.length).countP (done listed) →
      At O Γ N B ops res e0 m0 base S1 ρ1 w1 (done listed) ρ a w → wpAnyIn (Fw r) n P .any ops.toArray Q fuel listed a w := by
  -- where none is ready, all are done
  have hall : ∀ listed : Array Bool, listed.size = ops.length → Region.ready .any ops.toArray listed = [] → ∀ j, j < ops.length → done listed j = true := fun listed hsz hr j => by
    induction j using Nat.strongRecOn with
    | _ j ih =>
      intro hj
      cases hd : done listed j with
      | true => rfl
      | false =>
        have : j ∈ Region.ready .any ops.toArray listed := (ready_iff hsz).2 ⟨hj, hd, fun d hd => ih d (hchk.low j hj d hd) (by have := hchk.low j hj d hd; omega)⟩
        rw [hr] at this
        simp at this
  intro fuel
  induction fuel with
  | zero =>
    intro listed ρ a w hsz hcl hf hat
    have hcnt : (List.range ops.length).countP (done listed) = (List.range ops.length).length := by
      have := List.countP_le_length (p := done listed) (l := List.range ops.length)
      simp at this hf ⊢
      omega
    have hdone : ∀ j, j < ops.length → done listed j = true := fun j hj => (List.countP_eq_length.1 hcnt) j (by simpa using hj)
    refine ⟨?_, hQ _ ρ a w hdone hat⟩
    cases hr : Region.ready .any ops.toArray listed with
    | nil => rfl
    | cons x l =>
      have hx : x ∈ Region.ready .any ops.toArray listed := by rw [hr]; simp
      obtain ⟨h1, h2, _⟩ := (ready_iff hsz).1 hx
      rw [hdone x h1] at h2
      simp at h2
  | succ fuel ih =>
    intro listed ρ a w hsz hcl hf hat
    refine ⟨fun hr => hQ _ ρ a w (hall listed hsz hr) hat, fun i hi => ?_⟩
    obtain ⟨h1, h2, h3⟩ := (ready_iff hsz).1 hi
    have hset := done_set (listed := listed) (i := i) (by omega)
    refine one_step hT hE hm0 hchk hsh hcl h1 h2 h3 hset hat (fun ρ' a' w' hat' => ih _ ρ' a' w' (by simpa using hsz) (fun j hj d hd => ?_) ?_ hat')
    · rw [hset] at hj ⊢
      rw [Bool.or_eq_true] at hj ⊢
      rcases hj with hj | hj
      · exact .inl (hcl j hj d hd)
      · have : j = i := by simpa using hj
        subst this
        exact .inl (h3 d hd)
    · rw [countP_set h2 hset _ List.nodup_range (by simpa using h1)]
      omega

variable {g : List Prop} {Q : Exit → Env → Prop} {ce : List (Nat × AV)} {cs : List (Nat × AObj)}
/-- A region whose order is drawn, by running it. -/
theorem W_any (hT : TOk P T) (hE : EqOk P E) (hm : P.follows .mixedOrders = true) (wr : Bool) (hs : List (Hint P Γ.G)) {id : Nat} (h : runA wr T E ops base [] [] 0 ops e0 m0 hs [] = some (res, g, ce, cs))
    (hind : ∀ te ts, runA wr T E ops base te ts 0 ops e0 m0 hs [] = runA wr T E ops base [] [] 0 ops e0 m0 hs []) (hchk : okAny ops res base N ops.length = true) (hg : AllP g) (hQ : Q .normal ⟨ce, ⟨base + ops.length, cs⟩⟩) :
    W P O Γ N r (.region id ops.toArray true) Q ⟨e0, ⟨base, m0⟩⟩ := by
  intro n B ρ a w hr
  have hchk := okAny_chk hchk
  have spec := fun te ts => runA_spec (res := res) (e0 := e0) (m0 := m0) ops 0 e0 m0 hs [] res g ce cs ((hind te ts).trans h) (fun j => by simp) (fun j => by simp) rfl rfl hg
  have hsh : ∀ te ts j, j < ops.length → Share P Γ.G wr T E ops res e0 m0 base te ts j := fun te ts j hj => (spec te ts).2.2.2 j (by omega) (by simpa using hj)
  obtain ⟨_, hce, hcs, _⟩ := spec [] []
  rw [Nat.zero_add] at hce hcs
  have hnone : ∀ {α : Type} (f : Nat → Option (Nat × α)) (k : Nat), upto (done (Array.replicate ops.length false)) f k = [] := fun f k => by
    induction k with
    | zero => rfl
    | succ k ih =>
      have : done (Array.replicate ops.length false) k = false := by
        unfold done
        rw [Array.getD_eq_getD_getElem?, Array.getElem?_replicate]
        split <;> rfl
      unfold upto
      rw [this]
      exact ih
  have hext : ∀ k, (sD ops res m0 base (done (Array.replicate ops.length false))).at k = Sto.at ⟨base, m0⟩ k := fun k => by
    show get (upto _ _ _ ++ m0) k = get m0 k
    rw [hnone]; rfl
  have hg0 : Grows w { w with drawn := w.drawn + 1 } := ⟨rfl, rfl, rfl, Nat.le_refl _, fun _ _ => rfl⟩
  have hev : Evo ⟨base, m0⟩ ρ w (sD ops res m0 base (done (Array.replicate ops.length false))) ρ { w with drawn := w.drawn + 1 } := (Evo.ext hext).trans hg0.evo
  refine wpIn_region_any hm ?_
  have hsz : ops.toArray.size = ops.length := by simp
  rw [hsz]
  refine all_steps (O := O) (Γ := Γ) (B := B) (S1 := ⟨base, m0⟩) (ρ1 := ρ) (w1 := w) hT hE (fun k o hk => hr.dom k o hk) hchk hsh (fun D ρ' a' w' hD hat => ?_) ops.length (Array.replicate ops.length false) ρ a _ (by simp) (fun j hj => ?_) (by omega) ?_
  · have h1 : upto D (fe ops res) ops.length ++ e0 = ce := by rw [hce, upto_all _ hD]
    have h2 : upto D (fs res) ops.length ++ m0 = cs := by rw [hcs, upto_all _ hD]
    have hst := hat.st
    have henv := hat.env
    have hmk := hat.marks
    have hev := hat.evo
    simp only [eD, sD, h1, h2] at hst henv hmk hev
    refine ⟨by simp, ⟨ce, ⟨base + ops.length, cs⟩⟩, ρ', hQ, ⟨hst, henv, hat.size, hat.bse, hmk, fun k o hk => ?_, hr.low⟩, hev⟩
    have hk : get cs k = some o := hk
    rw [← h2] at hk
    rcases upto_mem _ hk with ⟨j, hj, _, hf⟩ | h0
    · exact hchk.key j k hj (fs_key hf)
    · have : k < base := hr.dom k o h0
      show k < base + ops.length
      omega
  · have : done (Array.replicate ops.length false) j = false := by
      unfold done
      rw [Array.getD_eq_getD_getElem?, Array.getElem?_replicate]
      split <;> rfl
    rw [this] at hj
    simp at hj
  · refine ⟨(hr.st.ext hext).grows hg0, fun t u hu => ?_, hr.size, hr.base, hr.marks.evo hev, hev⟩
    have hu : get (upto (done (Array.replicate ops.length false)) (fe ops res) ops.length ++ e0) t = some u := hu
    rw [hnone] at hu
    exact (hr.env t u hu).evo hev
end
end Go.Proofs.YtobpnmljijeadaaDoor.A

/- Nil as an empty row; rows by what they hold. -/
set_option linter.unusedVariables false
set_option linter.unusedSimpArgs false
namespace Go.Proofs.YtobpnmljijeadaaDoor.A
open Go

/-- A new object that lies nowhere: a nil slice as a row of none. -/
theorem Le_ghost {e : List (Nat × AV)} {nx : Nat} {m : List (Nat × AObj)} (ety sz : Nat) (f : Nat → List AV) :
    ∀ O Γ N B ρ a w, Rel O Γ N B ⟨e, ⟨nx, m⟩⟩ ρ a w → ∃ ρ', (ρ' nx).v = .slice none 0 0 ∧ Rel O Γ N B ⟨e, ⟨nx + 1, (nx, .row ety sz 0 f) :: m⟩⟩ ρ' a w ∧ Evo ⟨nx, m⟩ ρ w ⟨nx + 1, (nx, .row ety sz 0 f) :: m⟩ ρ' w := by
  intro O Γ N B ρ a w hr
  let l : Loc := ⟨.slice none 0 0, fun _ => False⟩
  have hf := fresh_of hr.dom
  have hb : ∀ b, (l.blk = some b ∨ l.z b) → w.heap.size ≤ b := fun b hb => by
    rcases hb with hb | hb
    · simp [l, Loc.blk] at hb
    · exact hb.elim
  have he := evo_new hr.st hf (.row ety sz 0 f) l (Grows.refl w) hb
  have hn := hr.st.new hf (.row ety sz 0 f) l (Grows.refl w) hb ⟨⟨[], ⟨by simp, .inl ⟨rfl, rfl⟩⟩, by simp, fun i hi => by omega⟩, fun _ h => h⟩
  refine ⟨updL ρ nx l, by simp [updL, l], ⟨hn, fun t v hv => (hr.env t v hv).evo he, hr.size, hr.base, hr.marks.evo he, fun k o hk => ?_, hr.low⟩, he⟩
  have hk : (Sto.new ⟨nx, m⟩ (.row ety sz 0 f)).at k = some o := hk
  exact (Form.new (S := ⟨nx, m⟩) (.row ety sz 0 f)).dom hr.dom k o hk

theorem nil_row {O : Nat → Prop} {S : Sto} {ρ : Nat → Loc} {w : World} {nx ety sz : Nat} {f : Nat → List AV} (hk : S.at nx = some (.row ety sz 0 f)) (hl : (ρ nx).v = .slice none 0 0) {cv : Value} (h : VR O S ρ w (.p (.v (.slice none 0 0))) cv) : VR O S ρ w (.row nx sz 0) cv := by
  rw [h.val]
  refine .row nx sz 0 none 0 0 (by rw [hk]; rfl) (fun e m f' h2 => ?_)
  rw [hk] at h2
  simp only [Option.some.injEq, AObj.row.injEq] at h2
  obtain ⟨_, _, rfl, _⟩ := h2
  exact ⟨Nat.le_refl _, fun _ => hl.symm⟩

/-- A nil slice in a slot, as a row. -/
theorem Le_nil {e : List (Nat × AV)} {nx : Nat} {m : List (Nat × AObj)} (t ety sz : Nat) (f : Nat → List AV) (h : get e t = some (.p (.v (.slice none 0 0)))) :
    Le ⟨e, ⟨nx, m⟩⟩ ⟨(t, .row nx sz 0) :: e, ⟨nx + 1, (nx, .row ety sz 0 f) :: m⟩⟩ := by
  intro O Γ N B ρ a w hr
  obtain ⟨ρ', h1, h2, h3⟩ := Le_ghost ety sz f O Γ N B ρ a w hr
  refine ⟨ρ', ⟨h2.st, fun t' v hv => ?_, h2.size, h2.base, h2.marks, h2.dom, h2.low⟩, fun S1 ρ1 w1 _ he => he.trans h3⟩
  simp only [get_cons] at hv
  by_cases e' : t = t'
  · subst e'
    simp only [if_true, Option.some.injEq] at hv
    subst hv
    exact nil_row (f := f) (ety := ety) (by simp [Sto.at, get_cons]) h1 (h2.env t _ h)
  · rw [if_neg e'] at hv
    exact h2.env t' v hv

theorem getD_set {l : List AV} {j i : Nat} {x : AV} (hj : j < l.length) : (l.set j x).getD i .any = if i = j then x else l.getD i .any := by
  simp only [List.getD_eq_getElem?_getD, List.getElem?_set]
  by_cases e : j = i
  · subst e; simp [hj]
  · simp [e, Ne.symm e]

/-- A nil slice in a variable in memory, as a row. -/
theorem Le_nilBox {e : List (Nat × AV)} {nx : Nat} {m : List (Nat × AObj)} (k j ety sz : Nat) (f : Nat → List AV) {cs : List AV} (h : get m k = some (.box cs)) (hj : cs[j]? = some (.p (.v (.slice none 0 0)))) :
    Le ⟨e, ⟨nx, m⟩⟩ ⟨e, ⟨nx + 1, (k, .box (cs.set j (.row nx sz 0))) :: (nx, .row ety sz 0 f) :: m⟩⟩ := by
  intro O Γ N B ρ a w hr
  obtain ⟨ρ', h1, h2, h3⟩ := Le_ghost ety sz f O Γ N B ρ a w hr
  have hkn : k ≠ nx := fun e => by have := hr.dom k _ h; simp only at this; omega
  have hjl : j < cs.length := (List.getElem?_eq_some_iff.1 hj).1
  have hat : ∀ i, Sto.at ⟨nx + 1, (k, .box (cs.set j (.row nx sz 0))) :: (nx, .row ety sz 0 f) :: m⟩ i = if i = k then some (.box (cs.set j (.row nx sz 0))) else Sto.at ⟨nx + 1, (nx, .row ety sz 0 f) :: m⟩ i := fun i => Sto.at_put ⟨nx + 1, (nx, .row ety sz 0 f) :: m⟩ k _ i
  have hk1 : Sto.at ⟨nx + 1, (nx, .row ety sz 0 f) :: m⟩ k = some (.box cs) := by
    simp only [Sto.at, get_cons, if_neg (Ne.symm hkn)]; exact h
  have hobj := h2.st.objs k _ hk1
  have hev : Evo ⟨nx + 1, (nx, .row ety sz 0 f) :: m⟩ ρ' w ⟨nx + 1, (k, .box (cs.set j (.row nx sz 0))) :: (nx, .row ety sz 0 f) :: m⟩ ρ' w := by
    refine ⟨rfl, rfl, rfl, Nat.le_refl _, fun _ _ _ => rfl, fun b _ ⟨i, o, g1, g2, g3⟩ => ?_, fun i o ho => ?_⟩
    · rw [hat] at g1
      by_cases e' : i = k
      · subst e'; exact ⟨i, _, hk1, rfl, g3⟩
      · rw [if_neg e'] at g1; exact ⟨i, o, g1, g2, g3⟩
    · rw [hat]
      by_cases e' : i = k
      · subst e'
        rw [hk1, Option.some.injEq] at ho
        subst ho
        exact ⟨_, by rw [if_pos rfl], by simp [AObj.to]⟩
      · rw [if_neg e']; exact ⟨o, ho, by cases o <;> simp [AObj.to]⟩
  have hnx : Sto.at ⟨nx + 1, (k, .box (cs.set j (.row nx sz 0))) :: (nx, .row ety sz 0 f) :: m⟩ nx = some (.row ety sz 0 f) := by
    rw [hat, if_neg (Ne.symm hkn)]; simp [Sto.at, get_cons]
  refine ⟨ρ', ⟨⟨fun i o ho => ?_, fun i i' o o' b g1 g2 l1 l2 b1 b2 => ?_, fun g cs' hg => (h2.st.glob g cs' hg).evo hev, fun b hb => ⟨(h2.st.outer b hb).1, fun hh => (h2.st.outer b hb).2 (hev.own b (h2.st.outer b hb).1 hh)⟩, fun b hb => ⟨(h2.st.shared b hb).1, fun hh => (h2.st.shared b hb).2 (hev.own b (h2.st.shared b hb).1 hh)⟩⟩, fun t v hv => (h2.env t v hv).evo hev, h2.size, h2.base, h2.marks.evo hev, fun i o ho => ?_, h2.low⟩, fun S1 ρ1 w1 _ he => (he.trans h3).trans hev⟩
  · rw [hat] at ho
    by_cases e' : i = k
    · subst e'
      rw [if_pos rfl, Option.some.injEq] at ho
      subst ho
      obtain ⟨b, e0, vs, hv, hg, q1, q2, q3⟩ := hobj
      refine ⟨b, e0, vs, hv, hg, by rw [q1, List.length_set], fun i hi => ?_, q3⟩
      rw [List.length_set] at hi
      have := (q2 i hi).evo hev
      rw [getD_set hjl]
      by_cases e2 : i = j
      · subst e2
        rw [if_pos rfl]
        have hx : cs.getD i .any = .p (.v (.slice none 0 0)) := by rw [List.getD_eq_getElem?_getD, hj]; rfl
        rw [hx] at this
        exact nil_row hnx h1 this
      · rw [if_neg e2]; exact this
    · rw [if_neg e'] at ho
      exact (h2.st.objs i o ho).keep hev h2.st.shared (fun _ _ => rfl)
  · have back : ∀ i o, Sto.at ⟨nx + 1, (k, .box (cs.set j (.row nx sz 0))) :: (nx, .row ety sz 0 f) :: m⟩ i = some o → ∃ o2, Sto.at ⟨nx + 1, (nx, .row ety sz 0 f) :: m⟩ i = some o2 ∧ (o.live = true → o2.live = true) := fun i o g => by
      rw [hat] at g
      by_cases e' : i = k
      · subst e'; exact ⟨_, hk1, fun _ => rfl⟩
      · rw [if_neg e'] at g; exact ⟨o, g, id⟩
    obtain ⟨o1, q1, q2⟩ := back i o g1
    obtain ⟨o2, q3, q4⟩ := back i' o' g2
    exact h2.st.disj i i' o1 o2 b q1 q3 (q2 l1) (q4 l2) b1 b2
  · rw [hat] at ho
    by_cases e' : i = k
    · subst e'; exact h2.dom i _ hk1
    · rw [if_neg e'] at ho; exact h2.dom i o ho

/-! ### Rows by what they hold -/
theorem ACoe_ro {sz n : Nat} {f f' : Nat → List PV} (h : ∀ i, i < n → f i = f' i) : ACoe (.p (.ro sz n f)) (.p (.ro sz n f')) := by
  intro O S ρ w cv hv
  cases hv with
  | p hp =>
    cases hp with
    | ro _ _ cap _ a g hc hz hl hm h1 hr =>
      exact .p (.ro sz n cap f' a g hc hz (fun i hi => by rw [← h i hi]; exact hl i hi) hm h1 (fun i j hi hj => by rw [← h i hi]; exact hr i j hi hj))

theorem ACoe_nil {sz : Nat} (hz : 0 < sz) (f : Nat → List PV) : ACoe (.p (.v (.slice none 0 0))) (.p (.ro sz 0 f)) := by
  intro O S ρ w cv hv
  rw [hv.val]
  exact .p (.ro sz 0 0 f none (fun _ _ => undef) (Nat.le_refl _) hz (fun i hi => by omega) (fun h => by omega) (fun i j hi => by omega) (fun i j hi => by omega))
end Go.Proofs.YtobpnmljijeadaaDoor.A

/- Regions in pieces; the call of a loop's body by an iterator. -/
set_option linter.unusedVariables false
set_option linter.unusedSimpArgs false
namespace Go.Proofs.YtobpnmljijeadaaDoor.A
open Go

/-- What is left of a region's operations. -/
def WL (P : Program) (O : Nat → Prop) (Γ : Ctx) (N : Nat) (r : Option Nat) (ops l : List Oper) (Q : Exit → Env → Prop) (σ : Env) : Prop :=
  ∀ n B ρ a w S1 ρ1 w1, Rel O Γ N B σ ρ a w → Evo S1 ρ1 w1 σ.S ρ w → wpListIn (Fw r) n P ops.toArray (After O Γ N B Q S1 ρ1 w1) l a w

section
variable {P : Program} {O : Nat → Prop} {Γ : Ctx} {r : Option Nat} {T : Nat → Option TI} {E : Nat → Option Nat} {g : List Prop} {lit wr : Bool} {N : Nat} {Q : Exit → Env → Prop} {e : List (Nat × AV)} {nx : Nat} {m : List (Nat × AObj)} {σ σ' : Env} {ops : List Oper}

theorem W_pieces {id : Nat} (h : WL P O Γ N r ops ops Q σ) : W P O Γ N r (.region id ops.toArray false) Q σ := fun n B ρ a w hr =>
  wpIn_region_lit (h n B ρ a w _ _ _ hr (Evo.refl _ _ _))

theorem WL_nil (h : Q .normal σ) : WL P O Γ N r ops [] Q σ := fun n B ρ a w S1 ρ1 w1 hr he => ⟨by simp, σ, ρ, h, hr, he⟩

theorem runSeq_pre (hT : TOk P T) (hE : EqOk P E) : ∀ (l : List Oper) (rest : List Oper) (σ : Env) (hs : List (Hint P Γ.G)) (g : List Prop) (σ' : Env), runSeq lit wr T E N ops l σ hs = some (g, σ') → AllP g → WL P O Γ N r ops rest Q σ' → WL P O Γ N r ops (l ++ rest) Q σ
  | [], rest, σ, hs, g, σ', h, hg, hQ => by
    simp only [runSeq, Option.some.injEq, Prod.mk.injEq] at h
    obtain ⟨rfl, rfl⟩ := h
    exact hQ
  | o :: l, rest, σ, hs, g, σ', h, hg, hQ => by
    intro n B ρ a w S1 ρ1 w1 hr he
    unfold runSeq at h
    split at h
    case h_2 => simp at h
    rename_i g1 v S' hs' hst
    split at h
    case h_2 => simp at h
    rename_i hd
    split at h
    case h_2 => simp at h
    rename_i g2 σ2 hrest
    simp only [Option.some.injEq, Prod.mk.injEq] at h
    obtain ⟨rfl, rfl⟩ := h
    refine wpListIn_step fun K hK => ?_
    refine stepR_ok hT hE hst hg.append.1 n ρ a w K _ hr.st (fresh_of hr.dom) hr.env (fun cv w' ρ' hv hs2 he2 => hK _ _ ?_)
    refine runSeq_pre hT hE l rest _ hs' g2 _ hrest hg.append.2 hQ n B ρ' _ w' S1 ρ1 w1 ?_ (he.trans he2)
    refine ⟨hs2, hr.env.put hv (by rw [hr.size]; exact hd) he2, by rw [put_size]; exact hr.size, Nat.le_trans hr.base he2.size, ?_, (form_R hst).dom hr.dom, hr.low⟩
    rw [put_defers]
    exact hr.marks.evo he2

/-- The first k of them, by running them. -/
theorem WL_run (hT : TOk P T) (hE : EqOk P E) (lit wr : Bool) (k : Nat) (hs : List (Hint P Γ.G)) {l : List Oper} (h : runE lit wr T E N ops (l.take k) e nx m hs [] = some (g, σ')) (hg : AllP g) (hQ : WL P O Γ N r ops (l.drop k) Q σ') :
    WL P O Γ N r ops l Q ⟨e, ⟨nx, m⟩⟩ := by
  obtain ⟨_, g0, h1, h2⟩ := runE_ok (l.take k) e nx m hs [] g σ' h hg
  have := runSeq_pre (r := r) (Q := Q) hT hE (l.take k) (l.drop k) ⟨e, ⟨nx, m⟩⟩ hs g0 σ' h1 h2 hQ
  rwa [List.take_append_drop] at this

/-- One operation, by what is known of it. -/
theorem WL_op {o : Oper} {rest : List Oper} {v : AV} {S' : Sto} (ho : OpR P O Γ r ops σ o v S') (hd : dstOk N o.dst = true) (hdom : Dom σ.S → Dom S') (h : WL P O Γ N r ops rest Q ⟨bindE o.dst v σ.e, S'⟩) : WL P O Γ N r ops (o :: rest) Q σ := by
  intro n B ρ a w S1 ρ1 w1 hr he
  refine wpListIn_step fun K hK => ?_
  refine ho n ρ a w K _ hr.st (fresh_of hr.dom) hr.env (fun cv w' ρ' hv hs2 he2 => hK _ _ ?_)
  refine h n B ρ' _ w' S1 ρ1 w1 ?_ (he.trans he2)
  refine ⟨hs2, hr.env.put hv (by rw [hr.size]; exact hd) he2, by rw [put_size]; exact hr.size, Nat.le_trans hr.base he2.size, ?_, hdom hr.dom, hr.low⟩
  rw [put_defers]
  exact hr.marks.evo he2
end

/-! ### A loop's body, as its iterator knows it -/
/-- What an iterator may count on when it calls yield for the k-th time with what Y says. -/
structure YOk (P : Program) (Γ : Ctx) (l n : Nat) (Y : Nat → List AV) : Prop where
  round : ∀ k z w (cargs : List Value), k < n → Γ.Φ k true z w → VRs z S0 ρ0 w (Y k) cargs →
    ∃ fn tmps assign body, (Instr.yield l cargs.toArray).run P w = .ok (.round l fn tmps assign body) w ∧
      ∀ m, RoundIn Fence.wide m P l fn tmps assign body w (fun e w' => ∃ z', e = .returned (.bool true) ∧ Γ.Φ (k + 1) true z' w' ∧ w'.os = w.os ∧ w'.tape = w.tape ∧ w'.output = w.output ∧ w.heap.size ≤ w'.heap.size ∧
        (∀ b, b < w.heap.size → ¬ z b → w'.heap[b]? = w.heap[b]?) ∧ ∀ b, b < w.heap.size → z' b → z b)
end Go.Proofs.YtobpnmljijeadaaDoor.A
