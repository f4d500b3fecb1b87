/- Part 9 of what the laws of this seat lean on: A35, C27, C28, C29, C30, R1, R2. -/
import Derived.Test.YtobpnmljijeadaaDoorK8
import Derived.ChangeStays
import Derived.ChangeSame
import Derived.ChangeBears
import Derived.Deep.Slices
import Derived.SizedLaws
import Derived.Handed
import Derived.LaidLaws
import Derived.RowKit
import Derived.Test.YtobpnmljijeadaaDoorTie
import Derived.Test.YtobpnmljijeadaaDoorCards
import Derived.FnData
import Derived.MakeChecks
import Derived.JoinedOf
import Derived.SevenTiedAt
/- A row of the frame as a thing that is read only; an account in another form within a region. -/
set_option linter.unusedVariables false
set_option linter.unusedSimpArgs false
namespace Go.Proofs.YtobpnmljijeadaaDoor.A
open Go

theorem Evo.sub {S S' : Sto} {ρ ρ' : Nat → Loc} {w w' : World} (h : Evo S ρ w S' ρ' w') : Sub S S' := fun k hk => by
  obtain ⟨o, ho⟩ := Option.isSome_iff_exists.1 hk
  obtain ⟨o', h1, _⟩ := h.obj k o ho
  rw [h1]; rfl

theorem WL_le {P : Program} {O : Nat → Prop} {Γ : Ctx} {N : Nat} {r : Option Nat} {ops l : List Oper} {Q : Exit → Env → Prop} {σ σ' : Env} (h : Le σ σ') (hn : Sub σ.S σ'.S) (hW : WL P O Γ N r ops l Q σ') : WL P O Γ N r ops l Q σ := fun n B ρ a w S1 ρ1 w1 hr he => by
  obtain ⟨ρ', h1, h2⟩ := h O Γ N B ρ a w hr
  exact hW n B ρ' a w S1 ρ1 w1 h1 (h2 _ _ _ (he.sub.trans hn) he)

theorem freeze_row {O O' : Nat → Prop} {Γ : Ctx} {S : Sto} {ρ : Nat → Loc} {w : World} (hs : St O Γ S ρ w) {k sz n ety : Nat} {f : Nat → List AV} {F : Nat → List PV} (hk : S.at k = some (.row ety sz n f)) (hz1 : 1 ≤ sz) (hF : ∀ i, i < n → f i = (F i).map AV.p)
    (hO : ∀ b, O' b → ownS O S ρ b) (hno : ∀ b, (ρ k).blk = some b → ¬ O' b) {cv : Value} (hv : VR O S ρ w (.row k sz n) cv) : PR w O' (.ro sz n F) cv := by
  cases hv with
  | row _ _ _ a l c _ hh =>
    have hloc := (hh _ _ _ hk).2 rfl
    obtain ⟨⟨xs, hown, hone, hc⟩, hz⟩ := hs.objs k _ hk
    have hxl : xs.length = n * sz := hown.1
    have hslc : l = n ∧ n ≤ c := by
      rcases hown.2 with ⟨h1, h2⟩ | ⟨g', cap, cur, h1, _, _, h2, _⟩
      · rw [← hloc] at h1; simp only [Value.slice.injEq] at h1; omega
      · rw [← hloc] at h1; simp only [Value.slice.injEq] at h1; omega
    obtain ⟨rfl, hlc⟩ := hslc
    have hfl : ∀ i, i < l → (F i).length = sz := fun i hi => by
      have := (hc i hi).1
      rw [hF i hi, List.length_map] at this; exact this
    refine .ro sz l c _ a (fun i j => xs.getD (i * sz + j) undef) hlc hz1 hfl (fun hn => ?_) (fun i j hi hj => ?_) (fun i j hi hj => ?_)
    · rcases hown.2 with ⟨h1, h2⟩ | ⟨g', cap, cur, h1, _, hg', _⟩
      · omega
      · rw [← hloc] at h1
        simp only [Value.slice.injEq] at h1
        obtain ⟨rfl, _, rfl⟩ := h1
        refine ⟨g', 0, rfl, hno g' (by simp [Loc.blk, ← hloc]), fun i j hi hj => ?_⟩
        have hlt : i * sz + j < l * sz := by
          have : (i + 1) * sz ≤ l * sz := Nat.mul_le_mul_right _ hi
          rw [Nat.add_mul, Nat.one_mul] at this; omega
        have hx : i * sz + j < xs.length := by omega
        rw [← hloc] at hown
        have := hown.cells (g := g') rfl (i * sz + j) (xs.getD (i * sz + j) undef) (by simp [List.getD_eq_getElem?_getD, hx])
        rw [add_at] at this
        exact this
    · have hlt : i * sz + j < l * sz := by
        have : (i + 1) * sz ≤ l * sz := Nat.mul_le_mul_right _ hi
        rw [Nat.add_mul, Nat.one_mul] at this; omega
      have hx : i * sz + j < xs.length := by omega
      have : xs.getD (i * sz + j) undef = xs[i * sz + j] := by simp [List.getD_eq_getElem?_getD, hx]
      rw [this]; exact hone _ (List.getElem_mem hx)
    · have h1 := (hc i hi).2 j hj
      have hj' : j < (F i).length := by rw [hfl i hi]; exact hj
      rw [hF i hi, getD_map _ _ _ hj' (.v undef)] at h1
      exact h1.p_inv.mono hO

/-- A row of the frame, seen as read only from here on. -/
theorem Le_freeze {e : List (Nat × AV)} {nx : Nat} {m : List (Nat × AObj)} (t k ety sz n : Nat) {f : Nat → List AV} (F : Nat → List PV) (ht : get e t = some (.row k sz n)) (hk : get m k = some (.row ety sz n f)) (hz : Nat.ble 1 sz = true) (hF : ∀ i, i < n → f i = (F i).map AV.p) :
    Le ⟨e, ⟨nx, m⟩⟩ ⟨(t, .p (.ro sz n F)) :: e, ⟨nx, (k, .dead) :: m⟩⟩ := by
  intro O Γ N B ρ a w hr
  have hk' : Sto.at ⟨nx, m⟩ k = some (.row ety sz n f) := hk
  have he := evo_kill (ρ := ρ) (w := w) hk'
  refine ⟨ρ, ⟨hr.st.kill hk', fun t' v hv => ?_, hr.size, hr.base, hr.marks.evo he, fun k' o ho => ?_, hr.low⟩, fun S0 ρ0 w0 _ h0 => h0.trans he⟩
  · simp only [get_cons] at hv
    by_cases e' : t = t'
    · subst e'
      simp only [if_true, Option.some.injEq] at hv
      subst hv
      refine .p (freeze_row hr.st hk' (Nat.le_of_ble_eq_true hz) hF (fun b hb => ?_) (fun b hb hO => ?_) (hr.env t _ ht))
      · rcases hb with hb | ⟨k', o, h1, h2, h3⟩
        · exact .inl hb
        · have h1 : (Sto.put ⟨nx, m⟩ k .dead).at k' = some o := h1
          rw [Sto.at_put] at h1
          by_cases e : k' = k
          · rw [if_pos e, Option.some.injEq] at h1
            subst h1; simp [AObj.live] at h2
          · rw [if_neg e] at h1; exact .inr ⟨k', o, h1, h2, h3⟩
      · have hok : owns ⟨nx, m⟩ ρ b := ⟨k, _, hk', rfl, .inl hb⟩
        rcases hO with hO | ⟨k', o, h1, h2, h3⟩
        · exact (hr.st.outer b hO).2 hok
        · have h1 : (Sto.put ⟨nx, m⟩ k .dead).at k' = some o := h1
          rw [Sto.at_put] at h1
          by_cases e : k' = k
          · rw [if_pos e, Option.some.injEq] at h1
            subst h1; simp [AObj.live] at h2
          · rw [if_neg e] at h1
            exact e (hr.st.disj k' k o _ b h1 hk' h2 rfl h3 (.inl hb))
    · rw [if_neg e'] at hv
      exact (hr.env t' v hv).evo he
  · have ho : (Sto.put ⟨nx, m⟩ k .dead).at k' = some o := ho
    exact (Form.put (S := ⟨nx, m⟩) k _ _ hk').dom hr.dom k' o ho
end Go.Proofs.YtobpnmljijeadaaDoor.A

/- Contracts: what the laws share: lines, two, plain, of, turned. -/
set_option linter.unusedVariables false
set_option linter.unusedSimpArgs false
namespace Go.Proofs.YtobpnmljijeadaaDoor.A
open Go

def namesE : List (Nat × Int) → List (Nat × Int) → Bool
  | [], [] => true
  | x :: a, y :: b => listEq [(x.1 : Int), x.2] [(y.1 : Int), y.2] && namesE a b
  | _, _ => false
def linesE : List LineD → List LineD → Bool
  | [], [] => true
  | x :: a, y :: b => (x.1 == y.1 && (((x.2.length : Int) == (y.2.length : Int)) && namesE x.2 y.2)) && linesE a b
  | _, _ => false
theorem namesE_refl : ∀ a, namesE a a = true
  | [] => rfl
  | x :: a => by rw [namesE, namesE_refl a, listEq_iff.2 rfl]; rfl
theorem linesE_refl : ∀ a, linesE a a = true
  | [] => rfl
  | x :: a => by rw [linesE, linesE_refl a, namesE_refl]; simp
theorem linesE_len : ∀ {a b : List LineD}, a.length ≠ b.length → linesE a b = false
  | [], [], h => absurd rfl h
  | [], _ :: _, _ => rfl
  | _ :: _, [], _ => rfl
  | x :: a, y :: b, h => by rw [linesE, linesE_len (a := a) (b := b) (fun e => h (by simp [e])), Bool.and_false]

structure LnB (a : List LineD) : Prop where
  n : a.length < 1152921504606846976
  m : ∀ k, k < a.length → (lineAt a k).2.length < 1152921504606846976
theorem lines_ok (a b : List LineD) (ha : LnB a) (hb : LnB b) : Pure Tryd.prog GG 22 [.p (pLines a), .p (pLines b)] (Bo (linesE a b)) := by
  have han := ha.n
  have hbn := hb.n
  refine Pure.fn tys_ok Tryd.func22 (by kernel_rfl) rfl rfl fun O => ?_
  repeat refine W_seq ?_
  refine' W_run tys_ok EE_ok false false [] rfl ?ap2 ?k2
  case ap2 => (repeat' (first | exact True.intro | exact ACoeL.refl _ | assumption | omega | rfl | (dsimp only; omega) | (refine ⟨?_, ?_⟩) | intro (_ : _ = true) | exact fun _ _ => rfl | (intro i hi; rcases i with _ | _ | _ | _ | i <;> first | rfl | omega) | fail)); all_goals ((try simp only [Int.toNat_natCast, Int.toNat_zero]); omega)
  repeat refine W_seq ?_
  refine' W_run tys_ok EE_ok false false [] rfl ?ap3 ?k3
  case ap3 => (repeat' (first | exact True.intro | exact ACoeL.refl _ | assumption | omega | rfl | (dsimp only; omega) | (refine ⟨?_, ?_⟩) | intro (_ : _ = true) | exact fun _ _ => rfl | (intro i hi; rcases i with _ | _ | _ | _ | i <;> first | rfl | omega) | fail)); all_goals ((try simp only [Int.toNat_natCast, Int.toNat_zero]); omega)
  repeat refine W_seq ?_
  refine W_if rfl True.intro (fun h1 => ?_) (fun h1 => ?_)
  · have h2 : a.length ≠ b.length := by
      have h1 : ((a.length : Int) != (b.length : Int)) = true := h1
      simp only [bne_iff_ne, ne_eq] at h1; omega
    repeat refine W_seq ?_
    refine' W_run tys_ok EE_ok false false [] rfl ?ap5 ?k5
    case ap5 => (repeat' (first | exact True.intro | exact ACoeL.refl _ | assumption | omega | rfl | (dsimp only; omega) | (refine ⟨?_, ?_⟩) | intro (_ : _ = true) | exact fun _ _ => rfl | (intro i hi; rcases i with _ | _ | _ | _ | i <;> first | rfl | omega) | fail)); all_goals ((try simp only [Int.toNat_natCast, Int.toNat_zero]); omega)
    refine W_ret ⟨_, _, rfl, ?_, Bo_eq (linesE_len h2).symm⟩
    · repeat' (first | exact True.intro | exact ACoeL.refl _ | assumption | omega | rfl | (dsimp only; omega) | (refine ⟨?_, ?_⟩) | intro (_ : _ = true) | exact fun _ _ => rfl | (intro i hi; rcases i with _ | _ | _ | _ | i <;> first | rfl | omega) | fail)
  have h2 : a.length = b.length := by
    have h1 : ((a.length : Int) != (b.length : Int)) = false := h1
    simp only [bne_eq_false_iff_eq] at h1; omega
  refine W_skip ?_
  repeat refine W_seq ?_
  refine' W_run tys_ok EE_ok false false [] rfl ?ap7 ?k7
  case ap7 => (repeat' (first | exact True.intro | exact ACoeL.refl _ | assumption | omega | rfl | (dsimp only; omega) | (refine ⟨?_, ?_⟩) | intro (_ : _ = true) | exact fun _ _ => rfl | (intro i hi; rcases i with _ | _ | _ | _ | i <;> first | rfl | omega) | fail)); all_goals ((try simp only [Int.toNat_natCast, Int.toNat_zero]); omega)
  repeat refine W_seq ?_
  refine W_block ?_
  refine W_loop (X := Nat) (fun k => ⟨[(0, .p (pLines a)), (1, .p (pLines b)), (5, I k)], ⟨0, []⟩⟩)
    (fun k => k ≤ a.length ∧ linesE a b = linesE (a.drop k) (b.drop k)) (fun k => a.length - k) 0 ⟨by omega, rfl⟩ ?_ ?_ ?_
  · exact Le_mk ⟨ACoe.refl _, rfl, ACoe.refl _, rfl, ACoe.refl _, rfl, trivial⟩ trivial
  · exact fun x => Sub.refl _
  · rintro k ⟨hk, hi⟩
    repeat refine W_seq ?_
    refine' W_run tys_ok EE_ok false false [] rfl ?ap8 ?k8
    case ap8 => (repeat' (first | exact True.intro | exact ACoeL.refl _ | assumption | omega | rfl | (dsimp only; omega) | (refine ⟨?_, ?_⟩) | intro (_ : _ = true) | exact fun _ _ => rfl | (intro i hi; rcases i with _ | _ | _ | _ | i <;> first | rfl | omega) | fail)); all_goals ((try simp only [Int.toNat_natCast, Int.toNat_zero]); omega)
    repeat refine W_seq ?_
    refine W_if rfl True.intro (fun h3 => ?_) (fun h3 => ?_)
    · refine W_skip ?_
      simp only [decide_eq_true_eq] at h3
      have hlt : k < a.length := by omega
      have hma := ha.m k hlt
      have hmb := hb.m k (by omega)
      rw [drop_getD hlt (0, []), drop_getD (show k < b.length by omega) (0, []), linesE] at hi
      have hi : linesE a b = (((lineAt a k).1 == (lineAt b k).1 && ((((lineAt a k).2.length : Int) == ((lineAt b k).2.length : Int)) && namesE (lineAt a k).2 (lineAt b k).2)) && linesE (a.drop (k + 1)) (b.drop (k + 1))) := hi
      repeat refine W_seq ?_
      refine W_block ?_
      repeat refine W_seq ?_
      refine' W_any tys_ok EE_ok mixed false [] rfl (fun te ts => by kernel_rfl) (by kernel_rfl) ?ap10 ?k10
      case ap10 => (repeat' (first | exact True.intro | exact ACoeL.refl _ | assumption | omega | rfl | (dsimp only; omega) | (refine ⟨?_, ?_⟩) | intro (_ : _ = true) | exact fun _ _ => rfl | (intro i hi; rcases i with _ | _ | _ | _ | i <;> first | rfl | omega) | fail)); all_goals ((try simp only [Int.toNat_natCast, Int.toNat_zero]); omega)
      repeat refine W_seq ?_
      refine W_if rfl True.intro (fun h4 => ?_) (fun h4 => ?_)
      · have h5 : linesE a b = false := by
          have h4 : (bif ((lineAt a k).1 != (lineAt b k).1) then true else (((lineAt a k).2.length : Int) != ((lineAt b k).2.length : Int))) = true := h4
          rw [hi]
          simp only [bne] at h4
          revert h4
          cases ((lineAt a k).1 == (lineAt b k).1) <;> cases (((lineAt a k).2.length : Int) == ((lineAt b k).2.length : Int)) <;> simp
        repeat refine W_seq ?_
        refine' W_run tys_ok EE_ok false false [] rfl ?ap12 ?k12
        case ap12 => (repeat' (first | exact True.intro | exact ACoeL.refl _ | assumption | omega | rfl | (dsimp only; omega) | (refine ⟨?_, ?_⟩) | intro (_ : _ = true) | exact fun _ _ => rfl | (intro i hi; rcases i with _ | _ | _ | _ | i <;> first | rfl | omega) | fail)); all_goals ((try simp only [Int.toNat_natCast, Int.toNat_zero]); omega)
        refine W_ret ⟨_, _, rfl, ?_, Bo_eq h5.symm⟩
        · repeat' (first | exact True.intro | exact ACoeL.refl _ | assumption | omega | rfl | (dsimp only; omega) | (refine ⟨?_, ?_⟩) | intro (_ : _ = true) | exact fun _ _ => rfl | (intro i hi; rcases i with _ | _ | _ | _ | i <;> first | rfl | omega) | fail)
      have h5 : ((lineAt a k).1 == (lineAt b k).1) = true ∧ (((lineAt a k).2.length : Int) == ((lineAt b k).2.length : Int)) = true := by
        have h4 : (bif ((lineAt a k).1 != (lineAt b k).1) then true else (((lineAt a k).2.length : Int) != ((lineAt b k).2.length : Int))) = false := h4
        simp only [bne] at h4
        revert h4
        cases ((lineAt a k).1 == (lineAt b k).1) <;> cases (((lineAt a k).2.length : Int) == ((lineAt b k).2.length : Int)) <;> simp
      rw [h5.1, h5.2, Bool.true_and, Bool.true_and] at hi
      have h6 : (lineAt a k).2.length = (lineAt b k).2.length := by have := h5.2; simp only [beq_iff_eq] at this; omega
      refine W_skip ?_
      repeat refine W_seq ?_
      refine' W_run tys_ok EE_ok false false [] rfl ?ap14 ?k14
      case ap14 => (repeat' (first | exact True.intro | exact ACoeL.refl _ | assumption | omega | rfl | (dsimp only; omega) | (refine ⟨?_, ?_⟩) | intro (_ : _ = true) | exact fun _ _ => rfl | (intro i hi; rcases i with _ | _ | _ | _ | i <;> first | rfl | omega) | fail)); all_goals ((try simp only [Int.toNat_natCast, Int.toNat_zero]); omega)
      repeat refine W_seq ?_
      refine W_block ?_
      refine W_loop (X := Nat) (fun j => ⟨[(0, .p (pLines a)), (1, .p (pLines b)), (5, I k), (6, I j)], ⟨0, []⟩⟩)
        (fun j => j ≤ (lineAt a k).2.length ∧ namesE (lineAt a k).2 (lineAt b k).2 = namesE ((lineAt a k).2.drop j) ((lineAt b k).2.drop j)) (fun j => (lineAt a k).2.length - j) 0 ⟨by omega, rfl⟩ ?_ ?_ ?_
      · exact Le_mk ⟨ACoe.refl _, rfl, ACoe.refl _, rfl, ACoe.refl _, rfl, ACoe.refl _, rfl, trivial⟩ trivial
      · exact fun x => Sub.refl _
      · rintro j ⟨hj, hjn⟩
        repeat refine W_seq ?_
        refine' W_run tys_ok EE_ok false false [] rfl ?ap15 ?k15
        case ap15 => (repeat' (first | exact True.intro | exact ACoeL.refl _ | assumption | omega | rfl | (dsimp only; omega) | (refine ⟨?_, ?_⟩) | intro (_ : _ = true) | exact fun _ _ => rfl | (intro i hi; rcases i with _ | _ | _ | _ | i <;> first | rfl | omega) | fail)); all_goals ((try simp only [Int.toNat_natCast, Int.toNat_zero]); omega)
        repeat refine W_seq ?_
        refine W_if rfl True.intro (fun h7 => ?_) (fun h7 => ?_)
        · refine W_skip ?_
          simp only [decide_eq_true_eq] at h7
          have hjl : j < (lineAt a k).2.length := by
            have h7 : (j : Int) < (((lineAt a k).2.length : Nat) : Int) := h7
            omega
          rw [drop_getD hjl (0, 0), drop_getD (show j < (lineAt b k).2.length by omega) (0, 0), namesE] at hjn
          repeat refine W_seq ?_
          refine W_block ?_
          repeat refine W_seq ?_
          refine' W_any tys_ok EE_ok mixed false [] rfl (fun te ts => by kernel_rfl) (by kernel_rfl) ?ap17 ?k17
          case ap17 => (repeat' (first | exact True.intro | exact ACoeL.refl _ | assumption | omega | rfl | (dsimp only; omega) | (refine ⟨?_, ?_⟩) | intro (_ : _ = true) | exact fun _ _ => rfl | (intro i hi; rcases i with _ | _ | _ | _ | i <;> first | rfl | omega) | fail)); all_goals ((try simp only [Int.toNat_natCast, Int.toNat_zero]); omega)
          repeat refine W_seq ?_
          refine W_if rfl True.intro (fun h8 => ?_) (fun h8 => ?_)
          · have h9 : linesE a b = false := by
              have h8 : (!listEq [((((lineAt a k).2.getD j (0, 0)).1 : Nat) : Int), ((lineAt a k).2.getD j (0, 0)).2] [((((lineAt b k).2.getD j (0, 0)).1 : Nat) : Int), ((lineAt b k).2.getD j (0, 0)).2]) = true := h8
              rw [Bool.not_eq_true'] at h8
              rw [hi, hjn, h8]; rfl
            repeat refine W_seq ?_
            refine' W_run tys_ok EE_ok false false [] rfl ?ap19 ?k19
            case ap19 => (repeat' (first | exact True.intro | exact ACoeL.refl _ | assumption | omega | rfl | (dsimp only; omega) | (refine ⟨?_, ?_⟩) | intro (_ : _ = true) | exact fun _ _ => rfl | (intro i hi; rcases i with _ | _ | _ | _ | i <;> first | rfl | omega) | fail)); all_goals ((try simp only [Int.toNat_natCast, Int.toNat_zero]); omega)
            refine W_ret ⟨_, _, rfl, ?_, Bo_eq h9.symm⟩
            · repeat' (first | exact True.intro | exact ACoeL.refl _ | assumption | omega | rfl | (dsimp only; omega) | (refine ⟨?_, ?_⟩) | intro (_ : _ = true) | exact fun _ _ => rfl | (intro i hi; rcases i with _ | _ | _ | _ | i <;> first | rfl | omega) | fail)
          · have h8 : (!listEq [((((lineAt a k).2.getD j (0, 0)).1 : Nat) : Int), ((lineAt a k).2.getD j (0, 0)).2] [((((lineAt b k).2.getD j (0, 0)).1 : Nat) : Int), ((lineAt b k).2.getD j (0, 0)).2]) = false := h8
            rw [Bool.not_eq_false'] at h8
            rw [h8, Bool.true_and] at hjn
            refine W_skip ?_
            repeat refine W_seq ?_
            refine' W_run tys_ok EE_ok false false [] rfl ?ap21 ?k21
            case ap21 => (repeat' (first | exact True.intro | exact ACoeL.refl _ | assumption | omega | rfl | (dsimp only; omega) | (refine ⟨?_, ?_⟩) | intro (_ : _ = true) | exact fun _ _ => rfl | (intro i hi; rcases i with _ | _ | _ | _ | i <;> first | rfl | omega) | fail)); all_goals ((try simp only [Int.toNat_natCast, Int.toNat_zero]); omega)
            exact ⟨j + 1, ⟨by omega, hjn⟩, by omega, Le_mk ⟨ACoe.refl _, rfl, ACoe.refl _, rfl, ACoe.refl _, rfl, ACoe.refl _, rfl, trivial⟩ trivial⟩
        · refine W_exit ?_
          simp only [decide_eq_false_iff_not] at h7
          have hjl : ¬ j < (lineAt a k).2.length := by
            have h7 : ¬ (j : Int) < (((lineAt a k).2.length : Nat) : Int) := h7
            omega
          have e1 : (lineAt a k).2.drop j = [] := List.drop_eq_nil_of_le (by omega)
          have e2 : (lineAt b k).2.drop j = [] := List.drop_eq_nil_of_le (by omega)
          rw [e1, e2, namesE] at hjn
          rw [hjn, Bool.true_and] at hi
          repeat refine W_seq ?_
          refine' W_run tys_ok EE_ok false false [] rfl ?ap22 ?k22
          case ap22 => (repeat' (first | exact True.intro | exact ACoeL.refl _ | assumption | omega | rfl | (dsimp only; omega) | (refine ⟨?_, ?_⟩) | intro (_ : _ = true) | exact fun _ _ => rfl | (intro i hi; rcases i with _ | _ | _ | _ | i <;> first | rfl | omega) | fail)); all_goals ((try simp only [Int.toNat_natCast, Int.toNat_zero]); omega)
          exact ⟨k + 1, ⟨by omega, hi⟩, by omega, Le_mk ⟨ACoe.refl _, rfl, ACoe.refl _, rfl, ACoe.refl _, rfl, trivial⟩ trivial⟩
    · refine W_exit ?_
      simp only [decide_eq_false_iff_not] at h3
      have e1 : a.drop k = [] := List.drop_eq_nil_of_le (by omega)
      have e2 : b.drop k = [] := List.drop_eq_nil_of_le (by omega)
      rw [e1, e2, linesE] at hi
      repeat refine W_seq ?_
      refine' W_run tys_ok EE_ok false false [] rfl ?ap23 ?k23
      case ap23 => (repeat' (first | exact True.intro | exact ACoeL.refl _ | assumption | omega | rfl | (dsimp only; omega) | (refine ⟨?_, ?_⟩) | intro (_ : _ = true) | exact fun _ _ => rfl | (intro i hi; rcases i with _ | _ | _ | _ | i <;> first | rfl | omega) | fail)); all_goals ((try simp only [Int.toNat_natCast, Int.toNat_zero]); omega)
      refine W_ret ⟨_, _, rfl, ?_, Bo_eq hi.symm⟩
      · repeat' (first | exact True.intro | exact ACoeL.refl _ | assumption | omega | rfl | (dsimp only; omega) | (refine ⟨?_, ?_⟩) | intro (_ : _ = true) | exact fun _ _ => rfl | (intro i hi; rcases i with _ | _ | _ | _ | i <;> first | rfl | omega) | fail)

def plainM : Mute := ⟨0, 0, 1, 9⟩
theorem plain_ok : Pure Tryd.prog GG 50 [] plainM.enc := by
  refine Pure.fn tys_ok Tryd.func50 (by kernel_rfl) rfl rfl fun O => ?_
  repeat refine W_seq ?_
  refine' W_run tys_ok EE_ok false false [] rfl ?ap26 ?k26
  case ap26 => (repeat' (first | exact True.intro | exact ACoeL.refl _ | assumption | omega | rfl | (dsimp only; omega) | (refine ⟨?_, ?_⟩) | intro (_ : _ = true) | exact fun _ _ => rfl | (intro i hi; rcases i with _ | _ | _ | _ | i <;> first | rfl | omega) | fail)); all_goals ((try simp only [Int.toNat_natCast, Int.toNat_zero]); omega)
  repeat refine W_seq ?_
  refine' W_run tys_ok EE_ok false false [] rfl ?ap27 ?k27
  case ap27 => (repeat' (first | exact True.intro | exact ACoeL.refl _ | assumption | omega | rfl | (dsimp only; omega) | (refine ⟨?_, ?_⟩) | intro (_ : _ = true) | exact fun _ _ => rfl | (intro i hi; rcases i with _ | _ | _ | _ | i <;> first | rfl | omega) | fail)); all_goals ((try simp only [Int.toNat_natCast, Int.toNat_zero]); omega)
  refine W_ret ⟨_, _, rfl, ?_, ACoe.refl _⟩
  · repeat' (first | exact True.intro | exact ACoeL.refl _ | assumption | omega | rfl | (dsimp only; omega) | (refine ⟨?_, ?_⟩) | intro (_ : _ = true) | exact fun _ _ => rfl | (intro i hi; rcases i with _ | _ | _ | _ | i <;> first | rfl | omega) | fail)

def G2 : List Strip := [⟨5, 0, 0, [0, 3, 0, 1]⟩, ⟨7, 0, 2, [40000, 1, 3, 0]⟩]
theorem two_ok : Pure Tryd.prog GG 49 [] (aG G2) := by
  have h4 : ∀ (P : Nat → Prop), P 0 → P 1 → P 2 → P 3 → ∀ i, i < 4 → P i := fun P a b c d i hi => by
    rcases i with _ | _ | _ | _ | i
    · exact a
    · exact b
    · exact c
    · exact d
    · omega
  refine Pure.fn tys_ok Tryd.func49 (by kernel_rfl) rfl rfl fun O => ?_
  repeat refine W_seq ?_
  refine' W_run tys_ok EE_ok false false [] rfl ?ap30 ?k30
  case ap30 => (repeat' (first | exact True.intro | exact ACoeL.refl _ | assumption | omega | rfl | (dsimp only; omega) | (refine ⟨?_, ?_⟩) | intro (_ : _ = true) | exact fun _ _ => rfl | (intro i hi; rcases i with _ | _ | _ | _ | i <;> first | rfl | omega) | fail)); all_goals ((try simp only [Int.toNat_natCast, Int.toNat_zero]); omega)
  repeat refine W_seq ?_
  refine W_pieces ?_
  refine WL_run tys_ok EE_ok false false 1 [] rfl ?_ ?_
  · repeat' (first | exact True.intro | exact ACoeL.refl _ | assumption | omega | rfl | (dsimp only; omega) | (refine ⟨?_, ?_⟩) | intro (_ : _ = true) | exact fun _ _ => rfl | (intro i hi; rcases i with _ | _ | _ | _ | i <;> first | rfl | omega) | fail)
  refine WL_le (Le_freeze 1 0 3 1 4 (fun i => [pI (([0, 3, 0, 1] : List Int).getD i 0)]) rfl rfl rfl (h4 _ rfl rfl rfl rfl)) (Sub_of rfl) ?_
  refine WL_run tys_ok EE_ok false false 2 [] rfl ?_ ?_
  · repeat' (first | exact True.intro | exact ACoeL.refl _ | assumption | omega | rfl | (dsimp only; omega) | (refine ⟨?_, ?_⟩) | intro (_ : _ = true) | exact fun _ _ => rfl | (intro i hi; rcases i with _ | _ | _ | _ | i <;> first | rfl | omega) | fail)
  refine WL_le (Le_freeze 3 1 3 1 4 (fun i => [pI (([40000, 1, 3, 0] : List Int).getD i 0)]) rfl rfl rfl (h4 _ rfl rfl rfl rfl)) (Sub_of rfl) ?_
  refine WL_run tys_ok EE_ok false false 3 [] rfl ?_ (WL_nil ?_)
  · repeat' (first | exact True.intro | exact ACoeL.refl _ | assumption | omega | rfl | (dsimp only; omega) | (refine ⟨?_, ?_⟩) | intro (_ : _ = true) | exact fun _ _ => rfl | (intro i hi; rcases i with _ | _ | _ | _ | i <;> first | rfl | omega) | fail)
  refine W_ret ⟨_, _, rfl, ?_, ?_⟩
  · repeat' (first | exact True.intro | exact ACoeL.refl _ | assumption | omega | rfl | (dsimp only; omega) | (refine ⟨?_, ?_⟩) | intro (_ : _ = true) | exact fun _ _ => rfl | (intro i hi; rcases i with _ | _ | _ | _ | i <;> first | rfl | omega) | fail)
  refine ACoe_ro (n := 2) (fun i hi => ?_)
  rcases i with _ | _ | i
  · rfl
  · rfl
  · omega
end Go.Proofs.YtobpnmljijeadaaDoor.A

/- Contracts: of, works. -/
set_option linter.unusedVariables false
set_option linter.unusedSimpArgs false
namespace Go.Proofs.YtobpnmljijeadaaDoor.A
open Go

def flat : List (Nat × Int) → List Int
  | [] => []
  | x :: l => (x.1 : Int) :: x.2 :: flat l
theorem flat_len : ∀ l, (flat l).length = 2 * l.length
  | [] => rfl
  | x :: l => by simp only [flat, List.length_cons, flat_len l]; omega
theorem flat_at : ∀ {l : List (Nat × Int)} {k : Nat}, k < l.length → (flat l).getD (2 * k) 0 = ((l.getD k (0, 0)).1 : Int) ∧ (flat l).getD (2 * k + 1) 0 = (l.getD k (0, 0)).2
  | [], k, h => by simp at h
  | x :: l, 0, h => ⟨rfl, rfl⟩
  | x :: l, k + 1, h => flat_at (l := l) (k := k) (by simpa using h)
theorem of_ok (s : Int) (ns : List (Nat × Int)) (hn : ns.length ≤ 1000) : Pure Tryd.prog GG 51 [I s, aL (flat ns)] (.agg [I s, .p (pNs ns)]) := by
  have hfl := flat_len ns
  refine Pure.fn tys_ok Tryd.func51 (by kernel_rfl) rfl rfl fun O => ?_
  repeat refine W_seq ?_
  refine' W_run tys_ok EE_ok false false [] rfl ?ap2 ?k2
  case ap2 => (repeat' (first | exact True.intro | exact ACoeL.refl _ | assumption | omega | rfl | (dsimp only; omega) | (refine ⟨?_, ?_⟩) | intro (_ : _ = true) | exact fun _ _ => rfl | (intro i hi; rcases i with _ | _ | _ | _ | i <;> first | rfl | omega) | fail)); all_goals ((try simp only [Int.toNat_natCast, Int.toNat_zero]); omega)
  repeat refine W_seq ?_
  refine' W_run tys_ok EE_ok false false [] rfl ?ap3 ?k3
  case ap3 => (repeat' (first | exact True.intro | exact ACoeL.refl _ | assumption | omega | rfl | (dsimp only; omega) | (refine ⟨?_, ?_⟩) | intro (_ : _ = true) | exact fun _ _ => rfl | (intro i hi; rcases i with _ | _ | _ | _ | i <;> first | rfl | omega) | fail)); all_goals ((try simp only [Int.toNat_natCast, Int.toNat_zero]); omega)
  repeat refine W_seq ?_
  refine' W_run tys_ok EE_ok false false [] rfl ?ap4 ?k4
  case ap4 => (repeat' (first | exact True.intro | exact ACoeL.refl _ | assumption | omega | rfl | (dsimp only; omega) | (refine ⟨?_, ?_⟩) | intro (_ : _ = true) | exact fun _ _ => rfl | (intro i hi; rcases i with _ | _ | _ | _ | i <;> first | rfl | omega) | fail)); all_goals ((try simp only [Int.toNat_natCast, Int.toNat_zero]); omega)
  repeat refine W_seq ?_
  refine W_block ?_
  refine W_le (Le_nilBox 1 1 59 2 (namedA ns) rfl rfl) (Sub_of rfl) ?_
  refine W_loop (X := Nat) (fun k => ⟨[(1, aL (flat ns)), (4, .bp 0 0), (5, .bp 1 0), (6, I (2 * (k : Int)))], ⟨3, [(0, .box [I 0, .p (.v (.slice none 0 0))]), (1, .box [I s, .row 2 2 k]), (2, .row 59 2 k (namedA ns))]⟩⟩)
    (fun k => k ≤ ns.length) (fun k => ns.length - k) 0 (by omega) ?_ ?_ ?_
  · refine Le_mk ?_ ?_ <;> (repeat' (first | exact True.intro | refine ⟨ACoe.refl _, rfl, ?_⟩ | refine ⟨⟨ACoeL.refl _, rfl, rfl⟩, rfl, ?_⟩ | refine ⟨trivial, rfl, ?_⟩ | refine ⟨⟨rfl, rfl⟩, rfl, ?_⟩ | refine ⟨⟨rfl, rfl, rfl, fun i hi => ⟨ACoeL.refl _, rfl, rfl⟩⟩, rfl, ?_⟩ | refine ⟨⟨rfl, rfl, rfl, fun i hi => absurd hi (Nat.not_lt_zero i)⟩, rfl, ?_⟩ | refine ⟨⟨rfl, rfl, rfl⟩, rfl, ?_⟩ | fail))
  · exact fun x => Sub_of rfl
  · intro k hk
    repeat refine W_seq ?_
    refine' W_run tys_ok EE_ok false false [] rfl ?ap6 ?k6
    case ap6 => (repeat' (first | exact True.intro | exact ACoeL.refl _ | assumption | omega | rfl | (dsimp only; omega) | (refine ⟨?_, ?_⟩) | intro (_ : _ = true) | exact fun _ _ => rfl | (intro i hi; rcases i with _ | _ | _ | _ | i <;> first | rfl | omega) | fail)); all_goals ((try simp only [Int.toNat_natCast, Int.toNat_zero]); omega)
    repeat refine W_seq ?_
    refine W_if rfl True.intro (fun h1 => ?_) (fun h1 => ?_)
    · refine W_skip ?_
      have h1 : k < ns.length := by
        have h1 : decide (2 * (k : Int) + 1 < ((flat ns).length : Int)) = true := h1
        simp only [decide_eq_true_eq] at h1; omega
      have hf := flat_at h1
      have e1 : (2 * (k : Int)).toNat = 2 * k := by omega
      have e2 : (2 * (k : Int) + 1).toNat = 2 * k + 1 := by omega
      repeat refine W_seq ?_
      refine W_block ?_
      repeat refine W_seq ?_
      refine' W_any tys_ok EE_ok mixed false [] rfl (fun te ts => by kernel_rfl) (by kernel_rfl) ?ap8 ?k8
      case ap8 => (repeat' (first | exact True.intro | exact ACoeL.refl _ | assumption | omega | rfl | (dsimp only; omega) | (refine ⟨?_, ?_⟩) | intro (_ : _ = true) | exact fun _ _ => rfl | (intro i hi; rcases i with _ | _ | _ | _ | i <;> first | rfl | omega) | fail)); all_goals ((try simp only [Int.toNat_natCast, Int.toNat_zero]); omega)
      repeat refine W_seq ?_
      refine' W_run tys_ok EE_ok false false [] rfl ?ap9 ?k9
      case ap9 => (repeat' (first | exact True.intro | exact ACoeL.refl _ | assumption | omega | rfl | (dsimp only; omega) | (refine ⟨?_, ?_⟩) | intro (_ : _ = true) | exact fun _ _ => rfl | (intro i hi; rcases i with _ | _ | _ | _ | i <;> first | rfl | omega) | fail)); all_goals ((try simp only [Int.toNat_natCast, Int.toNat_zero]); omega)
      have hrow : ∀ D, OCoe D (.row 59 2 (k + 1) (fun j => if j < k then namedA ns j else (fun q => List.take 2 (List.drop (q * 2) [I ((flat ns).getD (2 * (k : Int)).toNat 0), I ((flat ns).getD (2 * (k : Int) + 1).toNat 0)])) (j - k))) (.row 59 2 (k + 1) (namedA ns)) := fun D =>
        row_snoc (f2 := fun q => List.take 2 (List.drop (q * 2) [I ((flat ns).getD (2 * (k : Int)).toNat 0), I ((flat ns).getD (2 * (k : Int) + 1).toNat 0)])) (by rw [e1, e2, hf.1, hf.2]; rfl) (fun i => rfl)
      exact ⟨k + 1, by omega, by omega, Le_mk ⟨ACoe.refl _, rfl, ACoe.refl _, rfl, ACoe.refl _, rfl, I_eq (by omega), rfl, trivial⟩ ⟨⟨ACoeL.refl _, rfl, rfl⟩, rfl, ⟨ACoeL.refl _, rfl, rfl⟩, rfl, hrow _, rfl, trivial⟩⟩
    · refine W_exit ?_
      have hke : k = ns.length := by
        have h1 : decide (2 * (k : Int) + 1 < ((flat ns).length : Int)) = false := h1
        simp only [decide_eq_false_iff_not] at h1; omega
      subst hke
      repeat refine W_seq ?_
      refine' W_run tys_ok EE_ok false false [] rfl ?ap10 ?k10
      case ap10 => (repeat' (first | exact True.intro | exact ACoeL.refl _ | assumption | omega | rfl | (dsimp only; omega) | (refine ⟨?_, ?_⟩) | intro (_ : _ = true) | exact fun _ _ => rfl | (intro i hi; rcases i with _ | _ | _ | _ | i <;> first | rfl | omega) | fail)); all_goals ((try simp only [Int.toNat_natCast, Int.toNat_zero]); omega)
      refine W_ret ⟨_, _, rfl, ?_, ACoe.refl _⟩
      · repeat' (first | exact True.intro | exact ACoeL.refl _ | assumption | omega | rfl | (dsimp only; omega) | (refine ⟨?_, ?_⟩) | intro (_ : _ = true) | exact fun _ _ => rfl | (intro i hi; rcases i with _ | _ | _ | _ | i <;> first | rfl | omega) | fail)

def L4 : List LineD := [(3, [(0, 0), (1, 2)]), (6, [(0, 1), (1, 2)]), (3, [(0, 2), (1, 2)]), (1, [(0, 3), (1, 3)])]
theorem G2_gb : GB G2 := ⟨by decide, fun i hi => by
  have hi : i < 2 := hi
  rcases i with _ | _ | i
  · decide
  · decide
  · omega⟩
theorem wk1 : Pure Tryd.prog GG 15 [I 1, I 1, I 2] (.tup [I 2, I 0]) := by
  have := Arrive_ok 1 1 2
  rwa [show ArriveS 1 1 2 = (2, 0) from by kernel_rfl] at this
theorem wk2 : Pure Tryd.prog GG 20 [aG G2, plainM.enc, aL [1, 1, 1, 1]] (.tup [.p (pLines L4), I 0]) := by
  have := Stack_ok G2 plainM [1, 1, 1, 1] G2_gb (by decide)
  rwa [show StackS G2 plainM [1, 1, 1, 1] = (L4, 0) from by kernel_rfl] at this
theorem wk3 : Pure Tryd.prog GG 23 [aG G2, plainM.enc, I 1, I 2, I 0] (.tup [.agg [I 16, I 20], I 0]) := by
  have := Alike2_ok G2 plainM 1 2 0 G2_gb
  rwa [show AlikeS G2 plainM 1 2 0 = ((16, 20), 0) from by kernel_rfl] at this
theorem wk4 : Pure Tryd.prog GG 23 [aG G2, plainM.enc, I 1, I 1, I 1] (.tup [.agg [I 54, I 72], I 0]) := by
  have := Alike2_ok G2 plainM 1 1 1 G2_gb
  rwa [show AlikeS G2 plainM 1 1 1 = ((54, 72), 0) from by kernel_rfl] at this
theorem wk5 : Pure Tryd.prog GG 25 [aG G2, plainM.enc, I 1, I 0, aL [1, 2, 3], aP (4, 5)] (.tup [aL [1, 2, 3], I 0]) := by
  have := Picks_ok G2 plainM 1 0 [1, 2, 3] (4, 5) G2_gb (by decide)
  rwa [show PicksS G2 plainM 1 0 [1, 2, 3] (4, 5) = ([1, 2, 3], 0) from by kernel_rfl] at this
theorem wk6 : Pure Tryd.prog GG 25 [aG G2, plainM.enc, I 1, I 0, aL [1, 2, 3], aP (1, 1)] (.tup [aL [1], I 0]) := by
  have := Picks_ok G2 plainM 1 0 [1, 2, 3] (1, 1) G2_gb (by decide)
  rwa [show PicksS G2 plainM 1 0 [1, 2, 3] (1, 1) = ([1], 0) from by kernel_rfl] at this
theorem wk7 : Pure Tryd.prog GG 35 [aL [8, 0, 0, 0], I 1, I 32] (.tup [aL [8, 4, 2, 1], I 0]) := by
  have := With_ok [8, 0, 0, 0] 1 32 (by decide)
  rwa [show WithS [8, 0, 0, 0] 1 32 = ([8, 4, 2, 1], 0) from by kernel_rfl] at this
theorem wk8 : Pure Tryd.prog GG 39 [aL [8, 4, 2, 1], I 2, aL [32, -32]] (.tup [I 1, I 32, I 64, I 0]) := by
  have := Echo_ok [8, 4, 2, 1] 2 [32, -32] (by decide) (by decide)
  rwa [show EchoS [8, 4, 2, 1] 2 [32, -32] = ((1, 32, 64), 0) from by kernel_rfl] at this
theorem wk9 : Pure Tryd.prog GG 28 [aL [0, 3, 0, 1], aL [3, 0, 1, 0], I 2] (.tup [I (-1), I 10, I 0]) := by
  have := Shift_ok [0, 3, 0, 1] [3, 0, 1, 0] 2 (by decide) (by decide)
  rwa [show ShiftS [0, 3, 0, 1] [3, 0, 1, 0] 2 = ((-1, 10), 0) from by kernel_rfl] at this
theorem wkL : Pure Tryd.prog GG 22 [.p (pLines L4), .p (pLines L4)] (Bo true) := by
  have hb : LnB L4 := ⟨by decide, fun k hk => by
    have hk : k < 4 := hk
    rcases k with _ | _ | _ | _ | k
    · decide
    · decide
    · decide
    · decide
    · omega⟩
  have := lines_ok L4 L4 hb hb
  rwa [linesE_refl] at this
theorem wkA (l : List Int) (h : l.length < 1152921504606846976) : Pure Tryd.prog GG 27 [aL l, aL l] (Bo true) := by
  have := Alike_ok l l h h
  rwa [listEq_iff.2 rfl] at this
end Go.Proofs.YtobpnmljijeadaaDoor.A

/- Contracts: works. -/
set_option linter.unusedVariables false
set_option linter.unusedSimpArgs false
namespace Go.Proofs.YtobpnmljijeadaaDoor.A
open Go

theorem works_ok : Pure Tryd.prog GG 19 [] (Bo true) := by
  refine Pure.fn tys_ok Tryd.func19 (by kernel_rfl) rfl rfl fun O => ?_
  repeat refine W_seq ?_
  refine' W_run tys_ok EE_ok false false [] rfl ?ap2 ?k2
  case ap2 => (repeat' (first | exact True.intro | exact ACoeL.refl _ | assumption | omega | rfl | (dsimp only; omega) | (refine ⟨?_, ?_⟩) | intro (_ : _ = true) | exact fun _ _ => rfl | (intro i hi; rcases i with _ | _ | _ | _ | i <;> first | rfl | omega) | fail)); all_goals ((try simp only [Int.toNat_natCast, Int.toNat_zero]); omega)
  repeat refine W_seq ?_
  refine' W_run tys_ok EE_ok false false [Hint.of wk1] rfl ?ap3 ?k3
  case ap3 => (repeat' (first | exact True.intro | exact ACoeL.refl _ | assumption | omega | rfl | (dsimp only; omega) | (refine ⟨?_, ?_⟩) | intro (_ : _ = true) | exact fun _ _ => rfl | (intro i hi; rcases i with _ | _ | _ | _ | i <;> first | rfl | omega) | fail)); all_goals ((try simp only [Int.toNat_natCast, Int.toNat_zero]); omega)
  repeat refine W_seq ?_
  refine W_pieces ?_
  refine WL_run tys_ok EE_ok false false 3 [Hint.of two_ok, Hint.of plain_ok] rfl ?_ ?_
  · (repeat' (first | exact True.intro | exact ACoeL.refl _ | assumption | omega | rfl | (dsimp only; omega) | (refine ⟨?_, ?_⟩) | intro (_ : _ = true) | exact fun _ _ => rfl | (intro i hi; rcases i with _ | _ | _ | _ | i <;> first | rfl | omega) | fail)); all_goals ((try simp only [Int.toNat_natCast, Int.toNat_zero]); omega)
  refine WL_le (Le_freeze 25 0 3 1 4 (fun i => [pI (([1, 1, 1, 1] : List Int).getD i 0)]) rfl rfl rfl (fun i hi => by rcases i with _ | _ | _ | _ | i <;> first | rfl | omega)) (Sub_of rfl) ?_
  refine WL_run tys_ok EE_ok false false 6 [Hint.of wk2] rfl ?_ ?_
  · (repeat' (first | exact True.intro | exact ACoeL.refl _ | assumption | omega | rfl | (dsimp only; omega) | (refine ⟨?_, ?_⟩) | intro (_ : _ = true) | exact fun _ _ => rfl | (intro i hi; rcases i with _ | _ | _ | _ | i <;> first | rfl | omega) | fail)); all_goals ((repeat' (first | exact ACoeL.nil | refine ACoeL.cons ?_ ?_ | exact ACoe.refl _ | (refine ACoe_ro (fun i hi => ?_); rcases i with _ | _ | _ | _ | i <;> first | rfl | omega))))
  refine WL_nil ?_
  repeat refine W_seq ?_
  refine' W_run tys_ok EE_ok false false [Hint.of two_ok, Hint.of plain_ok, Hint.of wk3] rfl ?ap7 ?k7
  case ap7 => (repeat' (first | exact True.intro | exact ACoeL.refl _ | assumption | omega | rfl | (dsimp only; omega) | (refine ⟨?_, ?_⟩) | intro (_ : _ = true) | exact fun _ _ => rfl | (intro i hi; rcases i with _ | _ | _ | _ | i <;> first | rfl | omega) | fail)); all_goals ((repeat' (first | exact ACoeL.nil | refine ACoeL.cons ?_ ?_ | exact ACoe.refl _ | (refine ACoe_ro (fun i hi => ?_); rcases i with _ | _ | _ | _ | i <;> first | rfl | omega))))
  repeat refine W_seq ?_
  refine' W_run tys_ok EE_ok false false [Hint.of two_ok, Hint.of plain_ok, Hint.of wk4] rfl ?ap8 ?k8
  case ap8 => (repeat' (first | exact True.intro | exact ACoeL.refl _ | assumption | omega | rfl | (dsimp only; omega) | (refine ⟨?_, ?_⟩) | intro (_ : _ = true) | exact fun _ _ => rfl | (intro i hi; rcases i with _ | _ | _ | _ | i <;> first | rfl | omega) | fail)); all_goals ((repeat' (first | exact ACoeL.nil | refine ACoeL.cons ?_ ?_ | exact ACoe.refl _ | (refine ACoe_ro (fun i hi => ?_); rcases i with _ | _ | _ | _ | i <;> first | rfl | omega))))
  repeat refine W_seq ?_
  refine W_pieces ?_
  refine WL_run tys_ok EE_ok true false 31 [] rfl ?_ ?_
  · (repeat' (first | exact True.intro | exact ACoeL.refl _ | assumption | omega | rfl | (dsimp only; omega) | (refine ⟨?_, ?_⟩) | intro (_ : _ = true) | exact fun _ _ => rfl | (intro i hi; rcases i with _ | _ | _ | _ | i <;> first | rfl | omega) | fail)); all_goals ((try simp only [Int.toNat_natCast, Int.toNat_zero]); omega)
  refine WL_le (Le_freeze 71 3 3 1 4 (fun i => [pI (([0, 0, 1, 2] : List Int).getD i 0)]) rfl rfl rfl (fun i hi => by rcases i with _ | _ | _ | _ | i <;> first | rfl | omega)) (Sub_of rfl) ?_
  refine WL_run tys_ok EE_ok true false 2 [Hint.of (of_ok 3 [(0, 0), (1, 2)] (by decide))] rfl ?_ ?_
  · (repeat' (first | exact True.intro | exact ACoeL.refl _ | assumption | omega | rfl | (dsimp only; omega) | (refine ⟨?_, ?_⟩) | intro (_ : _ = true) | exact fun _ _ => rfl | (intro i hi; rcases i with _ | _ | _ | _ | i <;> first | rfl | omega) | fail)); all_goals ((repeat' (first | exact ACoeL.nil | refine ACoeL.cons ?_ ?_ | exact ACoe.refl _ | (refine ACoe_ro (fun i hi => ?_); rcases i with _ | _ | _ | _ | i <;> first | rfl | omega))))
  refine WL_le (Le_freeze 73 4 3 1 4 (fun i => [pI (([0, 1, 1, 2] : List Int).getD i 0)]) rfl rfl rfl (fun i hi => by rcases i with _ | _ | _ | _ | i <;> first | rfl | omega)) (Sub_of rfl) ?_
  refine WL_run tys_ok EE_ok true false 2 [Hint.of (of_ok 6 [(0, 1), (1, 2)] (by decide))] rfl ?_ ?_
  · (repeat' (first | exact True.intro | exact ACoeL.refl _ | assumption | omega | rfl | (dsimp only; omega) | (refine ⟨?_, ?_⟩) | intro (_ : _ = true) | exact fun _ _ => rfl | (intro i hi; rcases i with _ | _ | _ | _ | i <;> first | rfl | omega) | fail)); all_goals ((repeat' (first | exact ACoeL.nil | refine ACoeL.cons ?_ ?_ | exact ACoe.refl _ | (refine ACoe_ro (fun i hi => ?_); rcases i with _ | _ | _ | _ | i <;> first | rfl | omega))))
  refine WL_le (Le_freeze 75 5 3 1 4 (fun i => [pI (([0, 2, 1, 2] : List Int).getD i 0)]) rfl rfl rfl (fun i hi => by rcases i with _ | _ | _ | _ | i <;> first | rfl | omega)) (Sub_of rfl) ?_
  refine WL_run tys_ok EE_ok true false 2 [Hint.of (of_ok 3 [(0, 2), (1, 2)] (by decide))] rfl ?_ ?_
  · (repeat' (first | exact True.intro | exact ACoeL.refl _ | assumption | omega | rfl | (dsimp only; omega) | (refine ⟨?_, ?_⟩) | intro (_ : _ = true) | exact fun _ _ => rfl | (intro i hi; rcases i with _ | _ | _ | _ | i <;> first | rfl | omega) | fail)); all_goals ((repeat' (first | exact ACoeL.nil | refine ACoeL.cons ?_ ?_ | exact ACoe.refl _ | (refine ACoe_ro (fun i hi => ?_); rcases i with _ | _ | _ | _ | i <;> first | rfl | omega))))
  refine WL_le (Le_freeze 77 6 3 1 4 (fun i => [pI (([0, 3, 1, 3] : List Int).getD i 0)]) rfl rfl rfl (fun i hi => by rcases i with _ | _ | _ | _ | i <;> first | rfl | omega)) (Sub_of rfl) ?_
  refine WL_run tys_ok EE_ok true false 5 [Hint.of (of_ok 1 [(0, 3), (1, 3)] (by decide)), Hint.of wkL] rfl ?_ ?_
  · (repeat' (first | exact True.intro | exact ACoeL.refl _ | assumption | omega | rfl | (dsimp only; omega) | (refine ⟨?_, ?_⟩) | intro (_ : _ = true) | exact fun _ _ => rfl | (intro i hi; rcases i with _ | _ | _ | _ | i <;> first | rfl | omega) | fail)); all_goals ((repeat' (first | exact ACoeL.nil | refine ACoeL.cons ?_ ?_ | exact ACoe.refl _ | (refine ACoe_ro (fun i hi => ?_); rcases i with _ | _ | _ | _ | i <;> first | rfl | omega))))
  refine WL_nil ?_
  repeat refine W_seq ?_
  refine W_if rfl True.intro (fun h1 => ?_) (fun h1 => ?_)
  · exact absurd h1 (by decide)
  refine W_skip ?_
  repeat refine W_seq ?_
  refine W_pieces ?_
  refine WL_run tys_ok EE_ok false false 3 [Hint.of two_ok, Hint.of plain_ok] rfl ?_ ?_
  · (repeat' (first | exact True.intro | exact ACoeL.refl _ | assumption | omega | rfl | (dsimp only; omega) | (refine ⟨?_, ?_⟩) | intro (_ : _ = true) | exact fun _ _ => rfl | (intro i hi; rcases i with _ | _ | _ | _ | i <;> first | rfl | omega) | fail)); all_goals ((try simp only [Int.toNat_natCast, Int.toNat_zero]); omega)
  refine WL_le (Le_freeze 86 8 3 1 3 (fun i => [pI (([1, 2, 3] : List Int).getD i 0)]) rfl rfl rfl (fun i hi => by rcases i with _ | _ | _ | _ | i <;> first | rfl | omega)) (Sub_of rfl) ?_
  refine WL_run tys_ok EE_ok false false 7 [Hint.of wk5] rfl ?_ ?_
  · (repeat' (first | exact True.intro | exact ACoeL.refl _ | assumption | omega | rfl | (dsimp only; omega) | (refine ⟨?_, ?_⟩) | intro (_ : _ = true) | exact fun _ _ => rfl | (intro i hi; rcases i with _ | _ | _ | _ | i <;> first | rfl | omega) | fail)); all_goals ((repeat' (first | exact ACoeL.nil | refine ACoeL.cons ?_ ?_ | exact ACoe.refl _ | (refine ACoe_ro (fun i hi => ?_); rcases i with _ | _ | _ | _ | i <;> first | rfl | omega))))
  refine WL_nil ?_
  repeat refine W_seq ?_
  refine W_pieces ?_
  refine WL_run tys_ok EE_ok false false 3 [Hint.of two_ok, Hint.of plain_ok] rfl ?_ ?_
  · (repeat' (first | exact True.intro | exact ACoeL.refl _ | assumption | omega | rfl | (dsimp only; omega) | (refine ⟨?_, ?_⟩) | intro (_ : _ = true) | exact fun _ _ => rfl | (intro i hi; rcases i with _ | _ | _ | _ | i <;> first | rfl | omega) | fail)); all_goals ((try simp only [Int.toNat_natCast, Int.toNat_zero]); omega)
  refine WL_le (Le_freeze 94 9 3 1 3 (fun i => [pI (([1, 2, 3] : List Int).getD i 0)]) rfl rfl rfl (fun i hi => by rcases i with _ | _ | _ | _ | i <;> first | rfl | omega)) (Sub_of rfl) ?_
  refine WL_run tys_ok EE_ok false false 7 [Hint.of wk6] rfl ?_ ?_
  · (repeat' (first | exact True.intro | exact ACoeL.refl _ | assumption | omega | rfl | (dsimp only; omega) | (refine ⟨?_, ?_⟩) | intro (_ : _ = true) | exact fun _ _ => rfl | (intro i hi; rcases i with _ | _ | _ | _ | i <;> first | rfl | omega) | fail)); all_goals ((repeat' (first | exact ACoeL.nil | refine ACoeL.cons ?_ ?_ | exact ACoe.refl _ | (refine ACoe_ro (fun i hi => ?_); rcases i with _ | _ | _ | _ | i <;> first | rfl | omega))))
  refine WL_nil ?_
  repeat refine W_seq ?_
  refine W_pieces ?_
  refine WL_run tys_ok EE_ok false false 1 [] rfl ?_ ?_
  · (repeat' (first | exact True.intro | exact ACoeL.refl _ | assumption | omega | rfl | (dsimp only; omega) | (refine ⟨?_, ?_⟩) | intro (_ : _ = true) | exact fun _ _ => rfl | (intro i hi; rcases i with _ | _ | _ | _ | i <;> first | rfl | omega) | fail)); all_goals ((try simp only [Int.toNat_natCast, Int.toNat_zero]); omega)
  refine WL_le (Le_freeze 100 10 3 1 4 (fun i => [pI (([8, 0, 0, 0] : List Int).getD i 0)]) rfl rfl rfl (fun i hi => by rcases i with _ | _ | _ | _ | i <;> first | rfl | omega)) (Sub_of rfl) ?_
  refine WL_run tys_ok EE_ok false false 6 [Hint.of wk7] rfl ?_ ?_
  · (repeat' (first | exact True.intro | exact ACoeL.refl _ | assumption | omega | rfl | (dsimp only; omega) | (refine ⟨?_, ?_⟩) | intro (_ : _ = true) | exact fun _ _ => rfl | (intro i hi; rcases i with _ | _ | _ | _ | i <;> first | rfl | omega) | fail)); all_goals ((repeat' (first | exact ACoeL.nil | refine ACoeL.cons ?_ ?_ | exact ACoe.refl _ | (refine ACoe_ro (fun i hi => ?_); rcases i with _ | _ | _ | _ | i <;> first | rfl | omega))))
  refine WL_nil ?_
  repeat refine W_seq ?_
  refine' W_run tys_ok EE_ok false false [Hint.of wk8] rfl ?ap28 ?k28
  case ap28 => (repeat' (first | exact True.intro | exact ACoeL.refl _ | assumption | omega | rfl | (dsimp only; omega) | (refine ⟨?_, ?_⟩) | intro (_ : _ = true) | exact fun _ _ => rfl | (intro i hi; rcases i with _ | _ | _ | _ | i <;> first | rfl | omega) | fail)); all_goals ((repeat' (first | exact ACoeL.nil | refine ACoeL.cons ?_ ?_ | exact ACoe.refl _ | (refine ACoe_ro (fun i hi => ?_); rcases i with _ | _ | _ | _ | i <;> first | rfl | omega))))
  repeat refine W_seq ?_
  refine' W_run tys_ok EE_ok false false [Hint.of wk9] rfl ?ap29 ?k29
  case ap29 => (repeat' (first | exact True.intro | exact ACoeL.refl _ | assumption | omega | rfl | (dsimp only; omega) | (refine ⟨?_, ?_⟩) | intro (_ : _ = true) | exact fun _ _ => rfl | (intro i hi; rcases i with _ | _ | _ | _ | i <;> first | rfl | omega) | fail)); all_goals ((repeat' (first | exact ACoeL.nil | refine ACoeL.cons ?_ ?_ | exact ACoe.refl _ | (refine ACoe_ro (fun i hi => ?_); rcases i with _ | _ | _ | _ | i <;> first | rfl | omega))))
  repeat refine W_seq ?_
  refine' W_run tys_ok EE_ok true false [Hint.of (wkA [1, 2, 3] (by decide)), Hint.of (wkA [1] (by decide)), Hint.of (wkA [8, 4, 2, 1] (by decide))] rfl ?ap30 ?k30
  case ap30 => (repeat' (first | exact True.intro | exact ACoeL.refl _ | assumption | omega | rfl | (dsimp only; omega) | (refine ⟨?_, ?_⟩) | intro (_ : _ = true) | exact fun _ _ => rfl | (intro i hi; rcases i with _ | _ | _ | _ | i <;> first | rfl | omega) | fail)); all_goals ((repeat' (first | exact ACoeL.nil | refine ACoeL.cons ?_ ?_ | exact ACoe.refl _ | (refine ACoe_ro (fun i hi => ?_); rcases i with _ | _ | _ | _ | i <;> first | rfl | omega))))
  refine W_ret ⟨_, _, rfl, ?_, Bo_eq (by decide)⟩
  · repeat' (first | exact True.intro | exact ACoeL.refl _ | assumption | omega | rfl | (dsimp only; omega) | (refine ⟨?_, ?_⟩) | intro (_ : _ = true) | exact fun _ _ => rfl | (intro i hi; rcases i with _ | _ | _ | _ | i <;> first | rfl | omega) | fail)
end Go.Proofs.YtobpnmljijeadaaDoor.A

/- Contracts: the laws that set the program against the reference. -/
set_option linter.unusedVariables false
set_option linter.unusedSimpArgs false
namespace Go.Proofs.YtobpnmljijeadaaDoor.A
open Go

theorem alike_refl (l : List Int) (hl : l.length < 1152921504606846976) : Pure Tryd.prog GG 27 [aL l, aL l] (Bo true) := by
  have := Alike_ok l l hl hl
  rwa [listEq_iff.2 rfl] at this

theorem StackArrives_ok (m : Mute) (a b c : Int) : Pure Tryd.prog GG 3 [m.enc, .agg [I a, I b, I c]] (Bo true) := by
  obtain ⟨x1, x2⟩ : ∃ x : Int × Int, ArriveS a b c = x := ⟨_, rfl⟩
  have h1 := Arrive_ok a b c
  have h2 := ArriveR_ok a b c
  rw [x2] at h1 h2
  obtain ⟨e, he⟩ : ∃ e, m.err = e := ⟨_, rfl⟩
  have h3 := CheckMute_ok m
  have h4 := CheckMuteR_ok m
  rw [he] at h3 h4
  refine Pure.fn tys_ok Tryd.func3 (by kernel_rfl) rfl rfl fun O => ?_
  repeat refine W_seq ?_
  refine' W_run tys_ok EE_ok false false [] rfl ?ap2 ?k2
  case ap2 => (repeat' (first | exact True.intro | exact ACoeL.refl _ | assumption | omega | rfl | (dsimp only; omega) | (refine ⟨?_, ?_⟩) | intro (_ : _ = true) | exact fun _ _ => rfl | (intro i hi; rcases i with _ | _ | _ | _ | i <;> first | rfl | omega) | fail)); all_goals ((try simp only [Int.toNat_natCast, Int.toNat_zero]); omega)
  repeat refine W_seq ?_
  refine' W_run tys_ok EE_ok false false [Hint.of h1] rfl ?ap3 ?k3
  case ap3 => (repeat' (first | exact True.intro | exact ACoeL.refl _ | assumption | omega | rfl | (dsimp only; omega) | (refine ⟨?_, ?_⟩) | intro (_ : _ = true) | exact fun _ _ => rfl | (intro i hi; rcases i with _ | _ | _ | _ | i <;> first | rfl | omega) | fail)); all_goals ((try simp only [Int.toNat_natCast, Int.toNat_zero]); omega)
  repeat refine W_seq ?_
  refine' W_run tys_ok EE_ok false false [Hint.of h2] rfl ?ap4 ?k4
  case ap4 => (repeat' (first | exact True.intro | exact ACoeL.refl _ | assumption | omega | rfl | (dsimp only; omega) | (refine ⟨?_, ?_⟩) | intro (_ : _ = true) | exact fun _ _ => rfl | (intro i hi; rcases i with _ | _ | _ | _ | i <;> first | rfl | omega) | fail)); all_goals ((try simp only [Int.toNat_natCast, Int.toNat_zero]); omega)
  repeat refine W_seq ?_
  refine' W_any tys_ok EE_ok mixed false [Hint.of h3, Hint.of h4, Hint.of works_ok] rfl (fun te ts => by kernel_rfl) (by kernel_rfl) ?ap5 ?k5
  case ap5 => (repeat' (first | exact True.intro | exact ACoeL.refl _ | assumption | omega | rfl | (dsimp only; omega) | (refine ⟨?_, ?_⟩) | intro (_ : _ = true) | exact fun _ _ => rfl | (intro i hi; rcases i with _ | _ | _ | _ | i <;> first | rfl | omega) | fail)); all_goals ((try simp only [Int.toNat_natCast, Int.toNat_zero]); omega)
  refine W_ret ⟨_, _, rfl, ?_, Bo_eq (by simp)⟩
  · repeat' (first | exact True.intro | exact ACoeL.refl _ | assumption | omega | rfl | (dsimp only; omega) | (refine ⟨?_, ?_⟩) | intro (_ : _ = true) | exact fun _ _ => rfl | (intro i hi; rcases i with _ | _ | _ | _ | i <;> first | rfl | omega) | fail)

theorem StackL_lnb {g : List Strip} {m : Mute} {vs : List Int} (hg : GB g) (hvs : vs.length < 1152921504606846976) : LnB (StackS g m vs).1 := by
  unfold StackS
  cases (gatherB g && m.ok) with
  | false => exact ⟨by simp only [cond_false]; decide, fun k hk => by simp at hk⟩
  | true =>
    cases hv : velOk g vs with
    | false => exact ⟨by simp only [cond_true, cond_false]; decide, fun k hk => by simp at hk⟩
    | true =>
      refine ⟨by simp only [cond_true, StackL_len]; exact hvs, fun k hk => ?_⟩
      simp only [cond_true, StackL_len] at hk ⊢
      rw [StackL_at hk]
      have h1 := kept_len (g := g) (l := usedL g m k (vs.getD k 0))
      have h2 := usedL_len (g := g) (m := m) (t0 := k) (v := vs.getD k 0)
      have h3 := hg.len
      show (kept g (usedL g m k (vs.getD k 0))).length < _
      omega
theorem StackLines_ok (g : List Strip) (m : Mute) (vs : List Int) (hg : GB g) (hvs : vs.length < 1152921504606846976) : Pure Tryd.prog GG 4 [aG g, m.enc, aL vs] (Bo true) := by
  have h1 := Stack_ok g m vs hg hvs
  have h2 := StackR_ok g m vs hg hvs
  have h3 := StackL_lnb (m := m) hg hvs
  obtain ⟨x, hx⟩ : ∃ x, StackS g m vs = x := ⟨_, rfl⟩
  rw [hx] at h1 h2 h3
  have h4 := lines_ok x.1 x.1 h3 h3
  rw [linesE_refl] at h4
  refine Pure.fn tys_ok Tryd.func4 (by kernel_rfl) rfl rfl fun O => ?_
  repeat refine W_seq ?_
  refine' W_run tys_ok EE_ok false false [] rfl ?ap8 ?k8
  case ap8 => (repeat' (first | exact True.intro | exact ACoeL.refl _ | assumption | omega | rfl | (dsimp only; omega) | (refine ⟨?_, ?_⟩) | intro (_ : _ = true) | exact fun _ _ => rfl | (intro i hi; rcases i with _ | _ | _ | _ | i <;> first | rfl | omega) | fail)); all_goals ((try simp only [Int.toNat_natCast, Int.toNat_zero]); omega)
  repeat refine W_seq ?_
  refine' W_run tys_ok EE_ok false false [Hint.of h1] rfl ?ap9 ?k9
  case ap9 => (repeat' (first | exact True.intro | exact ACoeL.refl _ | assumption | omega | rfl | (dsimp only; omega) | (refine ⟨?_, ?_⟩) | intro (_ : _ = true) | exact fun _ _ => rfl | (intro i hi; rcases i with _ | _ | _ | _ | i <;> first | rfl | omega) | fail)); all_goals ((try simp only [Int.toNat_natCast, Int.toNat_zero]); omega)
  repeat refine W_seq ?_
  refine' W_run tys_ok EE_ok false false [Hint.of h2] rfl ?ap10 ?k10
  case ap10 => (repeat' (first | exact True.intro | exact ACoeL.refl _ | assumption | omega | rfl | (dsimp only; omega) | (refine ⟨?_, ?_⟩) | intro (_ : _ = true) | exact fun _ _ => rfl | (intro i hi; rcases i with _ | _ | _ | _ | i <;> first | rfl | omega) | fail)); all_goals ((try simp only [Int.toNat_natCast, Int.toNat_zero]); omega)
  repeat refine W_seq ?_
  refine' W_run tys_ok EE_ok false false [Hint.of h4, Hint.of works_ok] rfl ?ap11 ?k11
  case ap11 => (repeat' (first | exact True.intro | exact ACoeL.refl _ | assumption | omega | rfl | (dsimp only; omega) | (refine ⟨?_, ?_⟩) | intro (_ : _ = true) | exact fun _ _ => rfl | (intro i hi; rcases i with _ | _ | _ | _ | i <;> first | rfl | omega) | fail)); all_goals ((try simp only [Int.toNat_natCast, Int.toNat_zero]); omega)
  refine W_ret ⟨_, _, rfl, ?_, Bo_eq (by simp)⟩
  · repeat' (first | exact True.intro | exact ACoeL.refl _ | assumption | omega | rfl | (dsimp only; omega) | (refine ⟨?_, ?_⟩) | intro (_ : _ = true) | exact fun _ _ => rfl | (intro i hi; rcases i with _ | _ | _ | _ | i <;> first | rfl | omega) | fail)

theorem PicksS_len {g : List Strip} {m : Mute} {t0 h : Int} {l : List Int} {p : Int × Int} : (PicksS g m t0 h l p).1.length ≤ l.length := by
  unfold PicksS
  cases (gatherB g && m.ok) with
  | false => exact Nat.zero_le _
  | true =>
    cases (askedS g t0 h l p == 0) with
    | false => exact Nat.zero_le _
    | true => exact List.length_filter_le _ _
theorem StackPicks_ok (g : List Strip) (m : Mute) (t0 h : Int) (l : List Int) (p : Int × Int) (hg : GB g) (hl : l.length < 1152921504606846976) : Pure Tryd.prog GG 5 [aG g, m.enc, .agg [I t0, I h, aL l, I p.1, I p.2]] (Bo true) := by
  obtain ⟨q, hq⟩ : ∃ q, PicksS g m t0 h l p = q := ⟨_, rfl⟩
  have h1 := Picks_ok g m t0 h l p hg hl
  have h2 := PicksR_ok g m t0 h l p hg hl
  have h3 := PicksS_len (g := g) (m := m) (t0 := t0) (h := h) (l := l) (p := p)
  rw [hq] at h1 h2 h3
  have h4 := alike_refl q.1 (by omega)
  obtain ⟨v, hv⟩ : ∃ v, (bif decide ((l.length : Int) > 0) then l.getD 0 0 else 1) = v := ⟨_, rfl⟩
  have a1 := Alike2_ok g m t0 v h hg
  have a2 := Alike2R_ok g m t0 v h hg
  obtain ⟨y, hy⟩ : ∃ y, AlikeS g m t0 v h = y := ⟨_, rfl⟩
  rw [hy] at a1 a2
  refine Pure.fn tys_ok Tryd.func5 (by kernel_rfl) rfl rfl fun O => ?_
  repeat refine W_seq ?_
  refine' W_run tys_ok EE_ok false false [] rfl ?ap14 ?k14
  case ap14 => (repeat' (first | exact True.intro | exact ACoeL.refl _ | assumption | omega | rfl | (dsimp only; omega) | (refine ⟨?_, ?_⟩) | intro (_ : _ = true) | exact fun _ _ => rfl | (intro i hi; rcases i with _ | _ | _ | _ | i <;> first | rfl | omega) | fail)); all_goals ((try simp only [Int.toNat_natCast, Int.toNat_zero]); omega)
  repeat refine W_seq ?_
  refine' W_run tys_ok EE_ok false false [] rfl ?ap15 ?k15
  case ap15 => (repeat' (first | exact True.intro | exact ACoeL.refl _ | assumption | omega | rfl | (dsimp only; omega) | (refine ⟨?_, ?_⟩) | intro (_ : _ = true) | exact fun _ _ => rfl | (intro i hi; rcases i with _ | _ | _ | _ | i <;> first | rfl | omega) | fail)); all_goals ((try simp only [Int.toNat_natCast, Int.toNat_zero]); omega)
  repeat refine W_seq ?_
  refine' W_run tys_ok EE_ok false false [] rfl ?ap16 ?k16
  case ap16 => (repeat' (first | exact True.intro | exact ACoeL.refl _ | assumption | omega | rfl | (dsimp only; omega) | (refine ⟨?_, ?_⟩) | intro (_ : _ = true) | exact fun _ _ => rfl | (intro i hi; rcases i with _ | _ | _ | _ | i <;> first | rfl | omega) | fail)); all_goals ((try simp only [Int.toNat_natCast, Int.toNat_zero]); omega)
  repeat refine W_seq ?_
  refine W_cut ⟨[(0, aG g), (4, .bp 0 0), (5, .bp 1 0), (7, I v)], ⟨2, [(0, .box [I m.start, I m.n, I m.d, I m.stretch]), (1, .box [I t0, I h, aL l, I p.1, I p.2])]⟩⟩ ?_ ?_
  · repeat refine W_seq ?_
    refine W_if rfl True.intro (fun h0 => ?_) (fun h0 => ?_)
    · rw [show decide ((l.length : Int) > 0) = true from h0, cond_true] at hv
      simp only [decide_eq_true_eq] at h0
      repeat refine W_seq ?_
      refine' W_run tys_ok EE_ok false false [] rfl ?ap18 ?k18
      case ap18 => (repeat' (first | exact True.intro | exact ACoeL.refl _ | assumption | omega | rfl | (dsimp only; omega) | (refine ⟨?_, ?_⟩) | intro (_ : _ = true) | exact fun _ _ => rfl | (intro i hi; rcases i with _ | _ | _ | _ | i <;> first | rfl | omega) | fail)); all_goals ((try simp only [Int.toNat_natCast, Int.toNat_zero]); omega)
      exact ⟨Le_mk ⟨ACoe.refl _, rfl, ACoe.refl _, rfl, ACoe.refl _, rfl, I_eq hv, rfl, trivial⟩ ⟨⟨ACoeL.refl _, rfl, rfl⟩, rfl, ⟨ACoeL.refl _, rfl, rfl⟩, rfl, trivial⟩, Sub_of rfl⟩
    · rw [show decide ((l.length : Int) > 0) = false from h0, cond_false] at hv
      refine W_skip ?_
      exact ⟨Le_mk ⟨ACoe.refl _, rfl, ACoe.refl _, rfl, ACoe.refl _, rfl, I_eq hv, rfl, trivial⟩ ⟨⟨ACoeL.refl _, rfl, rfl⟩, rfl, ⟨ACoeL.refl _, rfl, rfl⟩, rfl, trivial⟩, Sub_of rfl⟩
  repeat refine W_seq ?_
  refine' W_run tys_ok EE_ok false false [Hint.of a1] rfl ?ap19 ?k19
  case ap19 => (repeat' (first | exact True.intro | exact ACoeL.refl _ | assumption | omega | rfl | (dsimp only; omega) | (refine ⟨?_, ?_⟩) | intro (_ : _ = true) | exact fun _ _ => rfl | (intro i hi; rcases i with _ | _ | _ | _ | i <;> first | rfl | omega) | fail)); all_goals ((try simp only [Int.toNat_natCast, Int.toNat_zero]); omega)
  repeat refine W_seq ?_
  refine' W_run tys_ok EE_ok false false [Hint.of a2] rfl ?ap20 ?k20
  case ap20 => (repeat' (first | exact True.intro | exact ACoeL.refl _ | assumption | omega | rfl | (dsimp only; omega) | (refine ⟨?_, ?_⟩) | intro (_ : _ = true) | exact fun _ _ => rfl | (intro i hi; rcases i with _ | _ | _ | _ | i <;> first | rfl | omega) | fail)); all_goals ((try simp only [Int.toNat_natCast, Int.toNat_zero]); omega)
  repeat refine W_seq ?_
  refine' W_run tys_ok EE_ok false false [] rfl ?ap21 ?k21
  case ap21 => (repeat' (first | exact True.intro | exact ACoeL.refl _ | assumption | omega | rfl | (dsimp only; omega) | (refine ⟨?_, ?_⟩) | intro (_ : _ = true) | exact fun _ _ => rfl | (intro i hi; rcases i with _ | _ | _ | _ | i <;> first | rfl | omega) | fail)); all_goals ((try simp only [Int.toNat_natCast, Int.toNat_zero]); omega)
  repeat refine W_seq ?_
  refine W_if rfl True.intro (fun h5 => ?_) (fun h5 => ?_)
  · have h5 : (bif !listEq [y.1.1, y.1.2] [y.1.1, y.1.2] then true else (y.2 != y.2)) = true := h5
    rw [listEq_iff.2 rfl] at h5
    simp at h5
  refine W_skip ?_
  repeat refine W_seq ?_
  refine' W_run tys_ok EE_ok false false [Hint.of h1] rfl ?ap23 ?k23
  case ap23 => (repeat' (first | exact True.intro | exact ACoeL.refl _ | assumption | omega | rfl | (dsimp only; omega) | (refine ⟨?_, ?_⟩) | intro (_ : _ = true) | exact fun _ _ => rfl | (intro i hi; rcases i with _ | _ | _ | _ | i <;> first | rfl | omega) | fail)); all_goals ((try simp only [Int.toNat_natCast, Int.toNat_zero]); omega)
  repeat refine W_seq ?_
  refine' W_run tys_ok EE_ok false false [Hint.of h2] rfl ?ap24 ?k24
  case ap24 => (repeat' (first | exact True.intro | exact ACoeL.refl _ | assumption | omega | rfl | (dsimp only; omega) | (refine ⟨?_, ?_⟩) | intro (_ : _ = true) | exact fun _ _ => rfl | (intro i hi; rcases i with _ | _ | _ | _ | i <;> first | rfl | omega) | fail)); all_goals ((try simp only [Int.toNat_natCast, Int.toNat_zero]); omega)
  repeat refine W_seq ?_
  refine' W_run tys_ok EE_ok false false [Hint.of h4, Hint.of works_ok] rfl ?ap25 ?k25
  case ap25 => (repeat' (first | exact True.intro | exact ACoeL.refl _ | assumption | omega | rfl | (dsimp only; omega) | (refine ⟨?_, ?_⟩) | intro (_ : _ = true) | exact fun _ _ => rfl | (intro i hi; rcases i with _ | _ | _ | _ | i <;> first | rfl | omega) | fail)); all_goals ((try simp only [Int.toNat_natCast, Int.toNat_zero]); omega)
  refine W_ret ⟨_, _, rfl, ?_, Bo_eq (by simp)⟩
  · repeat' (first | exact True.intro | exact ACoeL.refl _ | assumption | omega | rfl | (dsimp only; omega) | (refine ⟨?_, ?_⟩) | intro (_ : _ = true) | exact fun _ _ => rfl | (intro i hi; rcases i with _ | _ | _ | _ | i <;> first | rfl | omega) | fail)

theorem WithS_len {l : List Int} {p q : Int} : (WithS l p q).1.length ≤ l.length := by
  unfold WithS
  cases numbersB l with
  | false => exact Nat.zero_le _
  | true =>
    cases repeatS p q with
    | false => exact Nat.zero_le _
    | true =>
      cases (withL l p q).all enB with
      | false => exact Nat.zero_le _
      | true => simp only [cond_true, withL_len]; exact Nat.le_refl _
theorem WithoutS_len {l : List Int} {p q : Int} : (WithoutS l p q).1.length ≤ l.length := by
  unfold WithoutS
  cases numbersB l with
  | false => exact Nat.zero_le _
  | true =>
    cases repeatS p q with
    | false => exact Nat.zero_le _
    | true => simp only [cond_true, woL_len]; exact Nat.le_refl _
theorem StackEchoes_ok (l : List Int) (p q : Int) (parts : List Int) (hl : l.length < 1152921504606846976) (hpl : parts.length < 1152921504606846976) : Pure Tryd.prog GG 10 [aL l, .agg [I p, I q], aL parts] (Bo true) := by
  obtain ⟨x, hx⟩ : ∃ x, WithS l p q = x := ⟨_, rfl⟩
  have a1 := With_ok l p q hl
  have a2 := WithR_ok l p q hl
  have a3 := WithS_len (l := l) (p := p) (q := q)
  rw [hx] at a1 a2 a3
  have a4 := alike_refl x.1 (by omega)
  obtain ⟨y, hy⟩ : ∃ y, WithoutS l p q = y := ⟨_, rfl⟩
  have b1 := Without_ok l p q hl
  have b2 := WithoutR_ok l p q hl
  have b3 := WithoutS_len (l := l) (p := p) (q := q)
  rw [hy] at b1 b2 b3
  have b4 := alike_refl y.1 (by omega)
  obtain ⟨z, hz⟩ : ∃ z, EchoS l p parts = z := ⟨_, rfl⟩
  have c1 := Echo_ok l p parts hl hpl
  have c2 := EchoR_ok l p parts hl hpl
  rw [hz] at c1 c2
  refine Pure.fn tys_ok Tryd.func10 (by kernel_rfl) rfl rfl fun O => ?_
  repeat refine W_seq ?_
  refine' W_run tys_ok EE_ok false false [] rfl ?ap28 ?k28
  case ap28 => (repeat' (first | exact True.intro | exact ACoeL.refl _ | assumption | omega | rfl | (dsimp only; omega) | (refine ⟨?_, ?_⟩) | intro (_ : _ = true) | exact fun _ _ => rfl | (intro i hi; rcases i with _ | _ | _ | _ | i <;> first | rfl | omega) | fail)); all_goals ((try simp only [Int.toNat_natCast, Int.toNat_zero]); omega)
  repeat refine W_seq ?_
  refine' W_run tys_ok EE_ok false false [Hint.of a1] rfl ?ap29 ?k29
  case ap29 => (repeat' (first | exact True.intro | exact ACoeL.refl _ | assumption | omega | rfl | (dsimp only; omega) | (refine ⟨?_, ?_⟩) | intro (_ : _ = true) | exact fun _ _ => rfl | (intro i hi; rcases i with _ | _ | _ | _ | i <;> first | rfl | omega) | fail)); all_goals ((try simp only [Int.toNat_natCast, Int.toNat_zero]); omega)
  repeat refine W_seq ?_
  refine' W_run tys_ok EE_ok false false [Hint.of a2] rfl ?ap30 ?k30
  case ap30 => (repeat' (first | exact True.intro | exact ACoeL.refl _ | assumption | omega | rfl | (dsimp only; omega) | (refine ⟨?_, ?_⟩) | intro (_ : _ = true) | exact fun _ _ => rfl | (intro i hi; rcases i with _ | _ | _ | _ | i <;> first | rfl | omega) | fail)); all_goals ((try simp only [Int.toNat_natCast, Int.toNat_zero]); omega)
  repeat refine W_seq ?_
  refine' W_run tys_ok EE_ok false false [Hint.of a4] rfl ?ap31 ?k31
  case ap31 => (repeat' (first | exact True.intro | exact ACoeL.refl _ | assumption | omega | rfl | (dsimp only; omega) | (refine ⟨?_, ?_⟩) | intro (_ : _ = true) | exact fun _ _ => rfl | (intro i hi; rcases i with _ | _ | _ | _ | i <;> first | rfl | omega) | fail)); all_goals ((try simp only [Int.toNat_natCast, Int.toNat_zero]); omega)
  repeat refine W_seq ?_
  refine W_if rfl True.intro (fun h5 => ?_) (fun h5 => ?_)
  · simp at h5
  refine W_skip ?_
  repeat refine W_seq ?_
  refine' W_run tys_ok EE_ok false false [Hint.of b1] rfl ?ap33 ?k33
  case ap33 => (repeat' (first | exact True.intro | exact ACoeL.refl _ | assumption | omega | rfl | (dsimp only; omega) | (refine ⟨?_, ?_⟩) | intro (_ : _ = true) | exact fun _ _ => rfl | (intro i hi; rcases i with _ | _ | _ | _ | i <;> first | rfl | omega) | fail)); all_goals ((try simp only [Int.toNat_natCast, Int.toNat_zero]); omega)
  repeat refine W_seq ?_
  refine' W_run tys_ok EE_ok false false [Hint.of b2] rfl ?ap34 ?k34
  case ap34 => (repeat' (first | exact True.intro | exact ACoeL.refl _ | assumption | omega | rfl | (dsimp only; omega) | (refine ⟨?_, ?_⟩) | intro (_ : _ = true) | exact fun _ _ => rfl | (intro i hi; rcases i with _ | _ | _ | _ | i <;> first | rfl | omega) | fail)); all_goals ((try simp only [Int.toNat_natCast, Int.toNat_zero]); omega)
  repeat refine W_seq ?_
  refine' W_run tys_ok EE_ok false false [Hint.of b4] rfl ?ap35 ?k35
  case ap35 => (repeat' (first | exact True.intro | exact ACoeL.refl _ | assumption | omega | rfl | (dsimp only; omega) | (refine ⟨?_, ?_⟩) | intro (_ : _ = true) | exact fun _ _ => rfl | (intro i hi; rcases i with _ | _ | _ | _ | i <;> first | rfl | omega) | fail)); all_goals ((try simp only [Int.toNat_natCast, Int.toNat_zero]); omega)
  repeat refine W_seq ?_
  refine W_if rfl True.intro (fun h6 => ?_) (fun h6 => ?_)
  · simp at h6
  refine W_skip ?_
  repeat refine W_seq ?_
  refine' W_run tys_ok EE_ok false false [Hint.of c1] rfl ?ap37 ?k37
  case ap37 => (repeat' (first | exact True.intro | exact ACoeL.refl _ | assumption | omega | rfl | (dsimp only; omega) | (refine ⟨?_, ?_⟩) | intro (_ : _ = true) | exact fun _ _ => rfl | (intro i hi; rcases i with _ | _ | _ | _ | i <;> first | rfl | omega) | fail)); all_goals ((try simp only [Int.toNat_natCast, Int.toNat_zero]); omega)
  repeat refine W_seq ?_
  refine' W_run tys_ok EE_ok false false [Hint.of c2] rfl ?ap38 ?k38
  case ap38 => (repeat' (first | exact True.intro | exact ACoeL.refl _ | assumption | omega | rfl | (dsimp only; omega) | (refine ⟨?_, ?_⟩) | intro (_ : _ = true) | exact fun _ _ => rfl | (intro i hi; rcases i with _ | _ | _ | _ | i <;> first | rfl | omega) | fail)); all_goals ((try simp only [Int.toNat_natCast, Int.toNat_zero]); omega)
  repeat refine W_seq ?_
  refine' W_run tys_ok EE_ok false false [Hint.of works_ok] rfl ?ap39 ?k39
  case ap39 => (repeat' (first | exact True.intro | exact ACoeL.refl _ | assumption | omega | rfl | (dsimp only; omega) | (refine ⟨?_, ?_⟩) | intro (_ : _ = true) | exact fun _ _ => rfl | (intro i hi; rcases i with _ | _ | _ | _ | i <;> first | rfl | omega) | fail)); all_goals ((try simp only [Int.toNat_natCast, Int.toNat_zero]); omega)
  refine W_ret ⟨_, _, rfl, ?_, Bo_eq (by simp)⟩
  · repeat' (first | exact True.intro | exact ACoeL.refl _ | assumption | omega | rfl | (dsimp only; omega) | (refine ⟨?_, ?_⟩) | intro (_ : _ = true) | exact fun _ _ => rfl | (intro i hi; rcases i with _ | _ | _ | _ | i <;> first | rfl | omega) | fail)

theorem StackShifts_ok (a b : List Int) (most : Int) (hl : a.length < 1152921504606846976) (hl2 : b.length < 1152921504606846976) : Pure Tryd.prog GG 6 [aL a, aL b, I most] (Bo true) := by
  have h1 := Shift_ok a b most hl hl2
  have h2 := ShiftR_ok a b most hl hl2
  obtain ⟨x, hx⟩ : ∃ x, ShiftS a b most = x := ⟨_, rfl⟩
  rw [hx] at h1 h2
  refine Pure.fn tys_ok Tryd.func6 (by kernel_rfl) rfl rfl fun O => ?_
  repeat refine W_seq ?_
  refine' W_run tys_ok EE_ok false false [] rfl ?ap42 ?k42
  case ap42 => (repeat' (first | exact True.intro | exact ACoeL.refl _ | assumption | omega | rfl | (dsimp only; omega) | (refine ⟨?_, ?_⟩) | intro (_ : _ = true) | exact fun _ _ => rfl | (intro i hi; rcases i with _ | _ | _ | _ | i <;> first | rfl | omega) | fail)); all_goals ((try simp only [Int.toNat_natCast, Int.toNat_zero]); omega)
  repeat refine W_seq ?_
  refine' W_run tys_ok EE_ok false false [Hint.of h1] rfl ?ap43 ?k43
  case ap43 => (repeat' (first | exact True.intro | exact ACoeL.refl _ | assumption | omega | rfl | (dsimp only; omega) | (refine ⟨?_, ?_⟩) | intro (_ : _ = true) | exact fun _ _ => rfl | (intro i hi; rcases i with _ | _ | _ | _ | i <;> first | rfl | omega) | fail)); all_goals ((try simp only [Int.toNat_natCast, Int.toNat_zero]); omega)
  repeat refine W_seq ?_
  refine' W_run tys_ok EE_ok false false [Hint.of h2] rfl ?ap44 ?k44
  case ap44 => (repeat' (first | exact True.intro | exact ACoeL.refl _ | assumption | omega | rfl | (dsimp only; omega) | (refine ⟨?_, ?_⟩) | intro (_ : _ = true) | exact fun _ _ => rfl | (intro i hi; rcases i with _ | _ | _ | _ | i <;> first | rfl | omega) | fail)); all_goals ((try simp only [Int.toNat_natCast, Int.toNat_zero]); omega)
  repeat refine W_seq ?_
  refine' W_run tys_ok EE_ok false false [Hint.of works_ok] rfl ?ap45 ?k45
  case ap45 => (repeat' (first | exact True.intro | exact ACoeL.refl _ | assumption | omega | rfl | (dsimp only; omega) | (refine ⟨?_, ?_⟩) | intro (_ : _ = true) | exact fun _ _ => rfl | (intro i hi; rcases i with _ | _ | _ | _ | i <;> first | rfl | omega) | fail)); all_goals ((try simp only [Int.toNat_natCast, Int.toNat_zero]); omega)
  refine W_ret ⟨_, _, rfl, ?_, Bo_eq (by simp)⟩
  · repeat' (first | exact True.intro | exact ACoeL.refl _ | assumption | omega | rfl | (dsimp only; omega) | (refine ⟨?_, ?_⟩) | intro (_ : _ = true) | exact fun _ _ => rfl | (intro i hi; rcases i with _ | _ | _ | _ | i <;> first | rfl | omega) | fail)
theorem StackHonest_ok (g : List Strip) (sum : Int) (ns : NmL) (hg : GB g) (hn : ns.length < 1152921504606846976) : Pure Tryd.prog GG 12 [aG g, .agg [I sum, .p (pNN ns)]] (Bo true) := by
  obtain ⟨x, hx⟩ : ∃ x, HonestS g sum ns = x := ⟨_, rfl⟩
  have a1 := Honest_ok g sum ns hg hn
  have a2 := HonestR_ok g sum ns hg hn
  rw [hx] at a1 a2
  refine Pure.fn tys_ok Tryd.func12 (by kernel_rfl) rfl rfl fun O => ?_
  repeat refine W_seq ?_
  refine' W_run tys_ok EE_ok false false [] rfl ?ap48 ?k48
  case ap48 => (repeat' (first | exact True.intro | exact ACoeL.refl _ | assumption | omega | rfl | (dsimp only; omega) | (refine ⟨?_, ?_⟩) | intro (_ : _ = true) | exact fun _ _ => rfl | (intro i hi; rcases i with _ | _ | _ | _ | i <;> first | rfl | omega) | fail)); all_goals ((try simp only [Int.toNat_natCast, Int.toNat_zero]); omega)
  repeat refine W_seq ?_
  refine' W_run tys_ok EE_ok false false [Hint.of a1] rfl ?ap49 ?k49
  case ap49 => (repeat' (first | exact True.intro | exact ACoeL.refl _ | assumption | omega | rfl | (dsimp only; omega) | (refine ⟨?_, ?_⟩) | intro (_ : _ = true) | exact fun _ _ => rfl | (intro i hi; rcases i with _ | _ | _ | _ | i <;> first | rfl | omega) | fail)); all_goals ((try simp only [Int.toNat_natCast, Int.toNat_zero]); omega)
  repeat refine W_seq ?_
  refine' W_run tys_ok EE_ok false false [Hint.of a2] rfl ?ap50 ?k50
  case ap50 => (repeat' (first | exact True.intro | exact ACoeL.refl _ | assumption | omega | rfl | (dsimp only; omega) | (refine ⟨?_, ?_⟩) | intro (_ : _ = true) | exact fun _ _ => rfl | (intro i hi; rcases i with _ | _ | _ | _ | i <;> first | rfl | omega) | fail)); all_goals ((try simp only [Int.toNat_natCast, Int.toNat_zero]); omega)
  repeat refine W_seq ?_
  refine' W_run tys_ok EE_ok false false [Hint.of works_ok] rfl ?ap51 ?k51
  case ap51 => (repeat' (first | exact True.intro | exact ACoeL.refl _ | assumption | omega | rfl | (dsimp only; omega) | (refine ⟨?_, ?_⟩) | intro (_ : _ = true) | exact fun _ _ => rfl | (intro i hi; rcases i with _ | _ | _ | _ | i <;> first | rfl | omega) | fail)); all_goals ((try simp only [Int.toNat_natCast, Int.toNat_zero]); omega)
  refine W_ret ⟨_, _, rfl, ?_, Bo_eq (by simp)⟩
  · repeat' (first | exact True.intro | exact ACoeL.refl _ | assumption | omega | rfl | (dsimp only; omega) | (refine ⟨?_, ?_⟩) | intro (_ : _ = true) | exact fun _ _ => rfl | (intro i hi; rcases i with _ | _ | _ | _ | i <;> first | rfl | omega) | fail)
end Go.Proofs.YtobpnmljijeadaaDoor.A

/- Rows: what arguments hold, and what stands behind the call. -/
set_option linter.unusedVariables false
set_option linter.unusedSimpArgs false
namespace Go.Proofs.YtobpnmljijeadaaDoor.A
open Go Go.ChangeShapes Go.WideShapes Go.RowKit

abbrev NoO : Nat → Prop := fun _ => False

section
variable {H : Type} {enc : TypeId × Value → H} {P : Program}

theorem Grows.same {W W' : World} (h : Grows W W') {p : MemPlace} (hp : p.block < W.heap.size) : W.sameAt W' p := by
  cases p with
  | cell b off =>
    have := h.old b hp
    simp only [World.sameAt, World.cell?, this]
  | map b => exact h.old b hp

theorem Grows.kept {W W' : World} (h : Grows W W') (may : MemPlace → Prop) : W.keptBut W' may := by
  refine ⟨h.os, h.output, fun i hi => ?_⟩
  rw [h.old i hi]
  obtain ⟨o, ho⟩ : ∃ o, W.heap[i]? = some o := ⟨W.heap[i], by simp [hi]⟩
  rw [ho]
  cases o with
  | cells c t fr => exact ⟨rfl, rfl, rfl, fun _ _ => rfl⟩
  | map es clock => exact .inr ⟨rfl, rfl⟩
  | _ => rfl

theorem trodAll_grows {W W' : World} (hg : Grows W W') (hl : laidOutB P = true) (hm : mapsRowed P = true) (hs : ∀ t e, t < P.types.size → P.underlying t = some (.slice e) → 0 < P.cellsOf e) : ∀ {ts : List TypeId} {vs : List Value} {ds : List (DataW H)} {ps : List MemPlace},
    (∀ t ∈ ts, t < P.types.size) → DataW.TrodAll enc P W 0 (fun _ => true) true ts vs ds ps → DataW.TrodAll enc P W' 0 (fun b => decide (b < W.heap.size)) true ts vs ds ps
  | [], [], [], _, _, h => h
  | t :: ts, v :: vs, d :: ds, _, hT, ⟨p, q, ⟨n, h1⟩, h2, e⟩ => by
    have hlt := DataW.trod_lt n _ _ _ h1
    refine ⟨p, q, ⟨n, DataW.trod_stays (kids_rows hl hm) (fun ht hu => hs _ _ ht hu) (fun e => by cases e) (hT t (by simp)) h1 (fun x hx => hg.same (hlt x hx)) (fun x hx => decide_eq_true (hlt x hx))⟩, trodAll_grows hg hl hm hs (fun t ht => hT t (by simp [ht])) h2, e⟩

/-- Behind a call that turned nothing and gave true. -/
theorem post_grows {fn : Func} {s : ChangeSpec} {apart fresh handsOn : Bool} {W W' : World} {args : Array Value} {ds gs : List (DataW H)} {before : List MemPlace} {tb : TypeId}
    (hl : laidOutB P = true) (hm : mapsRowed P = true) (hs : ∀ t e, t < P.types.size → P.underlying t = some (.slice e) → 0 < P.cellsOf e) (hT : ∀ t ∈ fn.params.toList, t < P.types.size)
    (hvars : s.vars = []) (hW : DataW.Whole enc P fn.params.toList s.vars apart W args.toList ds gs before) (hg : Grows W W')
    (hres : fn.resultTypes = #[tb]) (htb : P.underlying tb = some .bool) (hfn : s.fn H (ds ++ gs) = { results := [.lit (.bool true)], args := ds }) :
    s.post enc P fn apart fresh handsOn false W args (.bool true) W' := by
  have hW' := hW
  obtain ⟨p, q, hA, hV, rfl, hfz, hnd⟩ := hW
  refine ⟨ds, gs, _, [], p, [], hW', ?_, ?_, ?_, hg.kept _, fun h => by cases h⟩
  · rw [hfn, hres]
    exact trodAll_mk1 (shut_bool htb true)
  · rw [hfn]
    exact trodAll_grows hg hl hm hs hT hA
  · rw [hfn, hvars]; rfl

/-! ### What arguments hold -/
/-- A struct, by its parts. -/
theorem rd_struct {W : World} {sp : Nat → Bool} {held : Bool} {t : TypeId} {n : Nat} {cs : List Value} {x : DataW H × List MemPlace} {i : TI} {l : List (Nat × Nat)} (hT : TIOk P t i) (htd : i.td = .struct l)
    (h : DataW.trod enc P W 0 sp held n t cs = some x) : cs.length = P.cellsOf t ∧ ∃ (xs : List (DataW H × List MemPlace)) (n' : Nat), x.1 = .agg (xs.map (·.1)) ∧ xs.length = l.length ∧ x.1.weights P t = DataW.weightsEach P (l.map (·.2)) (xs.map (·.1)) ∧
      ∀ (j o u : Nat), l[j]? = some (o, u) → DataW.trod enc P W 0 sp held n' u ((cs.drop o).take (P.cellsOf u)) = xs[j]? := by
  obtain ⟨d, hd, hof⟩ := hT.und
  rw [htd] at hof
  obtain ⟨fs, rfl, hfs⟩ := TD.of_struct hof
  obtain ⟨xs, n', _, rfl, hl, hxl, hf⟩ := DataW.trod_struct hd h
  subst hfs
  refine ⟨hl, xs, n', rfl, by rw [hxl]; simp, ?_, fun j o u hj => ?_⟩
  · simp only [DataW.weights, hd, List.map_map]
    rfl
  · simp only [List.getElem?_map, Option.map_eq_some_iff, Array.getElem?_toList] at hj
    obtain ⟨f, hf1, hf2⟩ := hj
    simp only [Prod.mk.injEq] at hf2
    obtain ⟨rfl, rfl⟩ := hf2
    exact hf j f hf1
def intOf : Value → Int
  | .int _ n => n
  | _ => 0
theorem rd_ints {W : World} {sp : Nat → Bool} {held : Bool} {t e : TypeId} {n : Nat} {cs : List Value} {x : DataW H × List MemPlace} (ht : P.underlying t = some (.slice e)) (he : P.underlying e = some (.int .i64)) (hc : P.cellsOf e = 1) (hb : 8 ≤ P.bytesOf e)
    (h : DataW.trod enc P W 0 sp held n t cs = some x) (hw : ∀ k ∈ x.1.weights P t, k ≤ reachBytes) : ∃ (v : Value) (l : List Int), cs = [v] ∧ l.length < 1152921504606846976 ∧ PR W NoO (pL l) v := by
  rcases Go.Deep.open_slice1 ht hc h with ⟨rfl, _⟩ | ⟨a, len, cap, m, n', V, D, Pl, rfl, _, hlc, hcm, hmm, rfl, hx⟩
  · exact ⟨_, [], rfl, by decide, .ro 1 0 0 _ none (fun _ _ => undef) (Nat.le_refl _) (by decide) (fun i hi => absurd hi (Nat.not_lt_zero i)) (fun h => absurd h (by decide)) (fun i j hi => absurd hi (Nat.not_lt_zero i)) (fun i j hi => absurd hi (Nat.not_lt_zero i))⟩
  · have hlm : len ≤ m := by rw [hmm]; split <;> omega
    have hV : ∀ i, i < m → ∃ k, V i = .int .i64 k := fun i hi => by
      obtain ⟨k, hk, _⟩ := DataW.trod_int he (hx i hi).2
      exact ⟨k, by simpa using hk⟩
    have hVi : ∀ i, i < m → V i = .int .i64 (intOf (V i)) := fun i hi => by
      obtain ⟨k, hk⟩ := hV i hi
      rw [hk]; rfl
    have hwl : len * 8 ≤ reachBytes := by
      have := hw ((((List.range len).map D).length + ((List.range (m - len)).map fun j => D (len + j)).length) * P.bytesOf e) (by simp [DataW.weights, ht])
      simp only [List.length_map, List.length_range] at this
      have h8 : len * 8 ≤ (len + (m - len)) * P.bytesOf e := Nat.mul_le_mul (by omega) hb
      omega
    have hr : reachBytes < 140737488355328 := by decide
    refine ⟨_, (List.range len).map fun i => intOf (V i), rfl, by simp; omega, ?_⟩
    have hat : ∀ i, i < len → ((List.range len).map fun i => intOf (V i)).getD i 0 = intOf (V i) := fun i hi => by
      simp [List.getD_eq_getElem?_getD, hi]
    show PR W NoO (.ro 1 ((List.range len).map fun i => intOf (V i)).length _) _
    rw [List.length_map, List.length_range]
    obtain ⟨b, o, spot⟩ := a
    refine .ro 1 len cap _ _ (fun i _ => V i) hlc (by decide) (fun i hi => rfl) (fun hn => ?_) (fun i j hi hj => ?_) (fun i j hi hj => ?_)
    · have hsp : spot = none := by simpa [Addr.add] using World.cell?_spot (hx 0 (by omega)).1
      subst hsp
      refine ⟨b, o, rfl, fun h => h, fun i j hi hj => ?_⟩
      have := (hx i (by omega)).1
      rw [add_plain] at this
      rw [show j = 0 by omega, Nat.mul_one, Nat.add_zero]
      exact this
    · rw [hVi i (by omega)]; rfl
    · have hj0 : j = 0 := by omega
      subst hj0
      show PR W NoO (pI (((List.range len).map fun i => intOf (V i)).getD i 0)) (V i)
      rw [hat i hi, hVi i (by omega)]
      exact .v _
end
end Go.Proofs.YtobpnmljijeadaaDoor.A

/- Rows: a law by its contract. -/
set_option linter.unusedVariables false
set_option linter.unusedSimpArgs false
namespace Go.Proofs.YtobpnmljijeadaaDoor.A
open Go Go.ChangeShapes Go.WideShapes Go.RowKit

theorem own_ : ownKnob Tryd.prog.godebug = none := by kernel_rfl
theorem laidOut_ : laidOutB Tryd.prog = true := by kernel_rfl
theorem mapsRowed_ : mapsRowed Tryd.prog = true := by kernel_rfl
theorem full_ : ∀ t e, t < Tryd.prog.types.size → Tryd.prog.underlying t = some (.slice e) → 0 < Tryd.prog.cellsOf e := by
  have h : ((List.range Tryd.prog.types.size).all fun t => match Tryd.prog.underlying t with | some (.slice e) => decide (0 < Tryd.prog.cellsOf e) | _ => true) = true := by kernel_rfl
  intro t e hl ht
  have := List.all_eq_true.1 h t (List.mem_range.2 hl)
  rw [ht] at this
  simpa using this
theorem ub : Tryd.prog.underlying 4 = some .bool := by kernel_rfl
theorem ui : Tryd.prog.underlying 3 = some (.int .i64) := by kernel_rfl
theorem ci : Tryd.prog.cellsOf 3 = 1 := by kernel_rfl
theorem bi : Tryd.prog.bytesOf 3 = 8 := by kernel_rfl
theorem uI : Tryd.prog.underlying 32 = some (.slice 3) := by kernel_rfl

/-- One start: all variables as they settle, the listed one as the text lays it. -/
noncomputable def laidWorld (os : Os) : World :=
  let w0 := World.holding Tryd.prog os ⟨#[], #[], []⟩
  { w0 with heap := w0.heap.modify 0 fun
      | .cells _ t frozen => .cells #[.int .i64 0, .int .i64 1] t frozen
      | o => o }
abbrev laidL {H : Type} : List (String × DataW H) := [("paravane/stack.nothing", Rows.laid_paravane_stack_nothing)]
theorem laid_met (os : Os) (args : Array Value) : laidMetH Tryd.prog laidL ((laidWorld os).forCall (fun _ _ => 0) ⟨#[], args, []⟩).memory := by
  rw [Go.MakeChecks.laidMetH_plain _ _ _ rfl]
  exact laidMet_of_run (ps := [.cell 0 0, .cell 0 1]) 8 (by kernel_rfl) (by kernel_rfl) (by kernel_rfl)

theorem gN : Tryd.prog.globalNamed "paravane/stack.nothing" = some 0 := by kernel_rfl
theorem gT : (Tryd.prog.globals[0]?).map (·.type) = some 92 := by kernel_rfl
theorem tkL : TIOk Tryd.prog 92 ⟨.struct [(0, 3), (1, 3)], 2, 16, [.int .i64 0, .int .i64 0]⟩ := tys_ok _ _ rfl
theorem glob_ok {W : World} (h : laidMetH Tryd.prog laidL W) : GlobOk GG NoO W := by
  rw [Go.MakeChecks.laidMetH_plain _ _ _ rfl] at h
  obtain ⟨ps, ⟨g, t, cs, fuel, p, q, e1, e2, e3, e4, _, _⟩, _⟩ := h
  rw [gN, Option.some.injEq] at e1
  subst e1
  rw [gT, Option.some.injEq] at e2
  subst e2
  obtain ⟨hl, xs, n', hx, hxl, _, hf⟩ := rd_struct tkL rfl e4
  have hc2 : Tryd.prog.cellsOf 92 = 2 := by kernel_rfl
  rw [hc2] at hl
  have f0 := hf 0 0 3 rfl
  have f1 := hf 1 1 3 rfl
  rw [ci] at f0 f1
  match xs, hxl with
  | [y0, y1], _ =>
    simp only [List.map_cons, List.map_nil, DataW.agg.injEq, List.cons.injEq] at hx
    simp only [List.getElem?_cons_zero, List.getElem?_cons_succ] at f0 f1
    obtain ⟨k0, g0, g0', _⟩ := DataW.trod_int ui f0
    obtain ⟨k1, g1, g1', _⟩ := DataW.trod_int ui f1
    rw [g0'] at hx
    rw [g1'] at hx
    simp only [DataW.lit.injEq, Lit.int.injEq, true_and, and_true] at hx
    have hx0 : (0 : Int) = k0 := by have := hx; unfold Rows.laid_paravane_stack_nothing at this; simp only [DataW.agg.injEq, List.cons.injEq, DataW.lit.injEq, Lit.int.injEq, true_and, and_true] at this; exact this.1
    have hx1 : (1 : Int) = k1 := by have := hx; unfold Rows.laid_paravane_stack_nothing at this; simp only [DataW.agg.injEq, List.cons.injEq, DataW.lit.injEq, Lit.int.injEq, true_and, and_true] at this; exact this.2
    obtain ⟨v0, v1, hcs⟩ : ∃ v0 v1, cs.toList = [v0, v1] := by
      revert hl
      generalize cs.toList = z
      intro hl
      match z, hl with
      | [v0, v1], _ => exact ⟨v0, v1, rfl⟩
    rw [hcs] at g0 g1
    simp only [List.drop_zero, List.take_succ_cons, List.take_zero, List.cons.injEq, and_true, List.drop_succ_cons] at g0 g1
    have c0 := World.var?_cell gN e3 0
    have c1 := World.var?_cell gN e3 1
    have a0 : cs[0]? = some v0 := by rw [← Array.getElem?_toList, hcs]; rfl
    have a1 : cs[1]? = some v1 := by rw [← Array.getElem?_toList, hcs]; rfl
    rw [a0, g0, ← hx0] at c0
    rw [a1, g1, ← hx1] at c1
    intro gg cc hgg
    have : gg = 0 ∧ cc = [.v (.int .i64 0), .v (.int .i64 1)] := by
      unfold GG at hgg
      rw [get_cons] at hgg
      by_cases e : 0 = gg
      · subst e; rw [if_pos rfl, Option.some.injEq] at hgg; exact ⟨rfl, hgg.symm⟩
      · rw [if_neg e] at hgg; cases hgg
    obtain ⟨rfl, rfl⟩ := this
    refine .rp [.v (.int .i64 0), .v (.int .i64 1)] 0 0 0 (fun j => .int .i64 j) (fun j hj => ?_) (fun j hj => ?_)
    · rcases j with _ | _ | j
      · exact ⟨c0, fun h => h⟩
      · exact ⟨c1, fun h => h⟩
      · have hj2 : j + 1 + 1 < 2 := hj
        omega
    · rcases j with _ | _ | j
      · exact .v _
      · exact .v _
      · have hj2 : j + 1 + 1 < 2 := hj
        omega

theorem VRs_nil {O : Nat → Prop} {W : World} : VRs O S0 ρ0 W [] [] := ⟨rfl, fun j hj => absurd hj (Nat.not_lt_zero j)⟩
theorem weights_app {H : Type} {P : Program} {us : List TypeId} {k : Nat} : ∀ {ts : List TypeId} {ds : List (DataW H)}, k ∈ DataW.weightsEach P ts ds → k ∈ DataW.weightsEach P (ts ++ us) ds
  | [], ds, h => by cases ds <;> simp [DataW.weightsEach] at h
  | t :: ts, [], h => by simp [DataW.weightsEach] at h
  | t :: ts, d :: ds, h => by
    simp only [List.cons_append, DataW.weightsEach, List.mem_append] at h ⊢
    exact h.imp id weights_app
set_option maxRecDepth 100000 in
/-- A law lifted: from its contract, whatever fits its parameters. -/
theorem lift_law {s : ChangeSpec} {f : FuncId} {fn : Func} (hf : Tryd.prog.funcs[f]? = some fn) (noInit : Tryd.prog.inits.idxOf? f = none) (hT : (fn.params.toList.all fun t => decide (t < Tryd.prog.types.size)) = true)
    (hvars : s.vars = []) (hres : fn.resultTypes = #[4]) (hfn : ∀ (H : Type) (ds : List (DataW H)), ds.length = fn.params.size → s.fn H (ds ++ []) = { results := [.lit (.bool true)], args := ds })
    (hlaw : ∀ (H : Type) (enc : TypeId × Value → H) (W : World) (base : Nat) (args : List Value) (ds : List (DataW H)) (p : List MemPlace),
      (∀ (j : Nat) t v, fn.params.toList[j]? = some t → args[j]? = some v → Value.okWide Tryd.prog W .any base t v) →
      DataW.TrodAll enc Tryd.prog W 0 (fun _ => true) true fn.params.toList args ds p → (∀ k ∈ DataW.weightsEach Tryd.prog fn.params.toList ds, k ≤ reachBytes) →
      ∃ avs, VRs NoO S0 ρ0 W avs args ∧ Pure Tryd.prog GG f avs (Bo true) ∧ ds.length = fn.params.size)
    (wargs : Array Value) (os : Os) (started : os.Started) (H : Type) (enc : TypeId × Value → H)
    (w1 : ((laidWorld os).forCall (fun _ _ => 0) ⟨#[], wargs, []⟩).variablesB Tryd.prog = true)
    (w2 : (((laidWorld os).forCall (fun _ _ => 0) ⟨#[], wargs, []⟩).heap.toList.drop Tryd.prog.globals.size).take ((begin Tryd.prog (fun _ _ => 0) default).world.heap.size - Tryd.prog.globals.size) =
      (begin Tryd.prog (fun _ _ => 0) default).world.heap.toList.drop Tryd.prog.globals.size)
    (w3 : Input.okWideB Tryd.prog ((laidWorld os).forCall (fun _ _ => 0) ⟨#[], wargs, []⟩) f ⟨#[], wargs, []⟩ = true)
    (w4 : s.preB enc Tryd.prog fn [] false ((laidWorld os).forCall (fun _ _ => 0) ⟨#[], wargs, []⟩).memory wargs 8 = true)
    (w5 : s.sizedB enc Tryd.prog fn false ((laidWorld os).forCall (fun _ _ => 0) ⟨#[], wargs, []⟩).memory wargs 8 = true) :
    ReturnsInHanded {} Tryd.checked os f .any (fun w args => (s.pre enc Tryd.prog fn [] false w args ∧ laidMetH Tryd.prog laidL w) ∧ sizedMet enc Tryd.prog fn (OpenSpec.ofChange s) false w args)
      (s.post enc Tryd.prog fn false true false false) := by
  refine returnsInHanded_of_change_and (C := Tryd.checked) (X := fun w _ => laidMetH Tryd.prog laidL w) (fun _ _ _ hh h => h.of_heap hh) own_ started noInit hf
    (ChangeSpec.witness_at (enc := enc) (C := Tryd.checked) (os := os) (X := fun w _ => laidMetH Tryd.prog laidL w) false (laidWorld os) wargs 8 rfl w1 w2 w3 w4 w5 (laid_met os _)) ?_
  intro W base args ds gs before hval hW _ hsz hL _
  have hW' := hW
  obtain ⟨p, q, hA, hV, rfl, hfz, hnd⟩ := hW
  have hgs : gs = [] := by
    rw [hvars] at hV
    exact (trodVars_none hV).1
  subst hgs
  have hvt : s.plain.varTypes Tryd.prog = [] ∨ True := .inr trivial
  have hwt : ∀ k ∈ DataW.weightsEach Tryd.prog fn.params.toList ds, k ≤ reachBytes := by
    intro k hk
    have hk' : k ∈ DataW.weightsEach Tryd.prog (fn.params.toList ++ s.plain.varTypes Tryd.prog) (ds ++ []) := by
      rw [List.append_nil]
      exact weights_app hk
    have := List.all_eq_true.1 hsz k hk'
    simpa using this
  obtain ⟨avs, h1, h2, h3⟩ := hlaw H enc W base args.toList ds p (fun j t v ht hv => by
    rw [Array.getElem?_toList] at ht hv
    exact hval j t v ht hv) hA hwt
  have hc := h2.calls NoO W args.toList (fun b h => h.elim) (glob_ok hL) h1
  rw [Array.toArray_toList] at hc
  refine hc.mono fun e W' ⟨cv, he, hv, hg⟩ => ⟨cv, he, ?_⟩
  have hcv : cv = .bool true := hv.val
  subst hcv
  exact post_grows laidOut_ mapsRowed_ full_ (fun t ht => of_decide_eq_true (List.all_eq_true.1 hT t ht)) hvars hW' hg hres ub (hfn H ds h3)
end Go.Proofs.YtobpnmljijeadaaDoor.A
