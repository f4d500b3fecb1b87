/- Proved here: for every input, the law StackShifts returns true, and each argument reads afterwards as it read before; the one listed variable is tied to the program's text (the tied card). No condition beside the row's own. -/
import Derived.Test.YtobpnmljijeadaaDoorK9
set_option linter.unusedVariables false
set_option linter.unusedSimpArgs false
set_option maxRecDepth 100000
namespace Go.Proofs.YtobpnmljijeadaaDoor.A
open Go Go.ChangeShapes Go.WideShapes Go.RowKit

section
variable {H : Type} {enc : TypeId × Value → H} {W : World} {base : Nat}
theorem rdA_ints {v : Value} {d : DataW H} {p : List MemPlace} (hv : Value.okWide Tryd.prog W .any base 32 v) (h : DataW.Trod enc Tryd.prog W 0 (fun _ => true) true 32 v d p) (hw : ∀ k ∈ d.weights Tryd.prog 32, k ≤ reachBytes) :
    ∃ l : List Int, l.length < 1152921504606846976 ∧ VR NoO S0 ρ0 W (aL l) v := by
  obtain ⟨n, hn⟩ := h
  obtain ⟨a, len, cap, rfl⟩ := okWide_slice uI hv
  obtain ⟨v', l, e, hl, hp⟩ := rd_ints uI ui ci (by rw [bi]; exact Nat.le_refl _) hn hw
  have e' : v' = .slice a len cap := by
    have e2 : [Value.slice a len cap] = [v'] := e
    simpa using e2.symm
  subst e'
  exact ⟨l, hl, hp.toS0⟩
theorem rdA_int {v : Value} {d : DataW H} {p : List MemPlace} (hv : Value.okWide Tryd.prog W .any base 3 v) (h : DataW.Trod enc Tryd.prog W 0 (fun _ => true) true 3 v d p) :
    ∃ n : Int, VR NoO S0 ρ0 W (I n) v := by
  obtain ⟨n, rfl⟩ := okWide_int ui hv
  exact ⟨n, .p (.v _)⟩
end
theorem VRs_cons {O : Nat → Prop} {W : World} {a : AV} {l : List AV} {c : Value} {cs : List Value} (h : VR O S0 ρ0 W a c) (h' : VRs O S0 ρ0 W l cs) : VRs O S0 ρ0 W (a :: l) (c :: cs) := VRs.cons_iff.2 ⟨h, h'⟩

theorem shifts_law (H : Type) (enc : TypeId × Value → H) (W : World) (base : Nat) (args : List Value) (ds : List (DataW H)) (p : List MemPlace)
    (hval : ∀ (j : Nat) t v, ([32, 32, 3] : List TypeId)[j]? = some t → args[j]? = some v → Value.okWide Tryd.prog W .any base t v)
    (hA : DataW.TrodAll enc Tryd.prog W 0 (fun _ => true) true [32, 32, 3] args ds p) (hw : ∀ k ∈ DataW.weightsEach Tryd.prog [32, 32, 3] ds, k ≤ reachBytes) :
    ∃ avs, VRs NoO S0 ρ0 W avs args ∧ Pure Tryd.prog GG 6 avs (Bo true) ∧ ds.length = 3 := by
  obtain ⟨v0, _, d0, _, _, _, rfl, rfl, _, h0, hA⟩ := trodAll_cons hA
  obtain ⟨v1, _, d1, _, _, _, rfl, rfl, _, h1, hA⟩ := trodAll_cons hA
  obtain ⟨v2, _, d2, _, _, _, rfl, rfl, _, h2, hA⟩ := trodAll_cons hA
  obtain ⟨rfl, rfl, _⟩ := trodAll_nil hA
  obtain ⟨a, ha, va⟩ := rdA_ints (hval 0 _ v0 rfl rfl) h0 (fun k hk => hw k (DataW.weights_mem_each (j := 0) rfl rfl k hk))
  obtain ⟨b, hb, vb⟩ := rdA_ints (hval 1 _ v1 rfl rfl) h1 (fun k hk => hw k (DataW.weights_mem_each (j := 1) rfl rfl k hk))
  obtain ⟨n, vn⟩ := rdA_int (hval 2 _ v2 rfl rfl) h2
  exact ⟨[aL a, aL b, I n], VRs_cons va (VRs_cons vb (VRs_cons vn VRs_nil)), StackShifts_ok a b n ha hb, rfl⟩

set_option maxRecDepth 100000 in
theorem shifts_lifted (os : Os) (started : os.Started) (H : Type) (enc : TypeId × Value → H) :
    ReturnsInHanded {} Tryd.checked os 6 .any (fun w args => (Rows.stackShiftsSpec.pre enc Tryd.prog Tryd.f6 [] false w args ∧ laidMetH Tryd.prog laidL w) ∧ sizedMet enc Tryd.prog Tryd.f6 (OpenSpec.ofChange Rows.stackShiftsSpec) false w args)
      (Rows.stackShiftsSpec.post enc Tryd.prog Tryd.f6 false true false false) :=
  lift_law (s := Rows.stackShiftsSpec) Tryd.func6 (by kernel_rfl) (by kernel_rfl) rfl (by kernel_rfl)
    (fun H ds hd => by
      match ds, hd with
      | [d1, d2, d3], _ => rfl)
    (fun H enc W base args ds p h1 h2 h3 => shifts_law H enc W base args ds p h1 h2 h3)
    #[.slice none 0 0, .slice none 0 0, .int .i64 0] os started H enc (by kernel_rfl) (by kernel_rfl) (by kernel_rfl) (by kernel_rfl) (by kernel_rfl)

theorem shifts_holds : Rows.StackShiftsSaid :=
  OpenClaim.holds_of_wide 6 Tryd.f6 rfl rfl rfl rfl rfl rfl rfl ⟨rfl, rfl, rfl, rfl, rfl⟩ rfl rfl rfl rfl rfl (by kernel_rfl) Tryd.func6 (by kernel_rfl)
    (of_decide_eq_true (by kernel_rfl)) (by unfold Func.isWrapper; rw [if_neg (of_decide_eq_false (by kernel_rfl))]; exact ⟨rfl, rfl⟩)
    (fun os started H enc _ => shifts_lifted os started H enc)
end Go.Proofs.YtobpnmljijeadaaDoor.A
namespace Go.Proofs.YtobpnmljijeadaaDoor
open Go
theorem stackShifts_card : Rows.StackShiftsCardSaid :=
  Claim7.holds_tied_plain_at .later [] [.data] true (true, "cca61c2ba53a0d9f84ddbcd0609e2c308d8f5be75e9aeeaf19be9e5cbdc858f6") false
    A.shifts_holds (fun _ h => by cases h) (by kernel_rfl) (fun _ h => by cases h) stackShifts_row_tie rfl ⟨rfl, rfl⟩ (by kernel_rfl) rfl
    (fun f fn hf hfn => by
      obtain rfl : f = 6 := Option.some.inj ((show Tryd.prog.funcNamed "paravane/paravanelaw09.StackShifts" = some 6 by kernel_rfl).symm.trans hf) |>.symm
      obtain rfl : fn = Tryd.f6 := (Option.some.inj (Tryd.func6.symm.trans hfn)).symm
      exact ⟨by kernel_rfl, fun j t ht => by
        have hm : t ∈ Tryd.f6.params.toList := by
          rw [← Array.getElem?_toList] at ht
          exact List.mem_of_getElem? ht
        have hall : (Tryd.f6.params.toList.all fun t => !Tryd.prog.wantsStandIn t) = true := by kernel_rfl
        have := List.all_eq_true.1 hall t hm
        exact (show Tryd.prog.wantsStandIn t = false by simpa using this)⟩)
    (by kernel_rfl)
#print axioms stackShifts_card
end Go.Proofs.YtobpnmljijeadaaDoor
