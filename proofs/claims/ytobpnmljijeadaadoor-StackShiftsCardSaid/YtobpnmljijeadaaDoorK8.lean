/- Part 8 of what the laws of this seat lean on: C23, C24, C25, C26. -/
import Derived.Test.YtobpnmljijeadaaDoorK7
/- Contracts: the reference's Used and line. -/
set_option linter.unusedVariables false
set_option linter.unusedSimpArgs false
namespace Go.Proofs.YtobpnmljijeadaaDoor.A
open Go

theorem up_eq {x d : Int} (h : 1 ≤ d) : -((-x) / d) = (x + d - 1) / d := by
  have h1 := Int.emod_add_mul_ediv (x + d - 1) d
  have h2 := Int.emod_nonneg (x + d - 1) (show d ≠ 0 by omega)
  have h3 := Int.emod_lt_of_pos (x + d - 1) (show 0 < d by omega)
  have h4 : (-x) / d = -((x + d - 1) / d) := by
    refine ((Int.ediv_emod_unique (a := -x) (b := d) (r := d - 1 - (x + d - 1) % d) (q := -((x + d - 1) / d)) (by omega)).2 ⟨?_, by omega, by omega⟩).1
    rw [Int.mul_neg]; omega
  omega
def uAt (m : Mute) (t0 v : Int) (s : Strip) : Int := bif usedB m t0 v s then arriveS t0 v s.off else -1
def usedV (g : List Strip) (m : Mute) (t0 v : Int) : List Int := g.map (uAt m t0 v)
theorem usedV_len {g : List Strip} {m : Mute} {t0 v : Int} : (usedV g m t0 v).length = g.length := by simp [usedV]
theorem usedV_at {g : List Strip} {m : Mute} {t0 v : Int} {k : Nat} (h : k < g.length) : (usedV g m t0 v).getD k 0 = uAt m t0 v (stripAt g k) := by
  simp [usedV, stripAt, List.getD_eq_getElem?_getD, List.getElem?_map, List.getElem?_eq_getElem h]

theorem UsedR_ok (g : List Strip) (m : Mute) (t0 v : Int) (hg : GOk g) (hm : MOk m) (ht0 : 0 ≤ t0 ∧ t0 ≤ 63) (hv : 1 ≤ v ∧ v ≤ 1000) :
    Pure Tryd.prog GG 91 [aG g, m.enc, I t0, I v] (aL (usedV g m t0 v)) := by
  have hlen := hg.n1
  have hd0 := hm.d0
  have hd1 := hm.d1
  have hs0 := hm.s0
  have hs1 := hm.s1
  have ht := hm.t0
  have ht1 := hm.t1
  refine Pure.fn tys_ok Tryd.func91 (by kernel_rfl) rfl rfl fun O => ?_
  repeat refine W_seq ?_
  refine' W_run tys_ok EE_ok false false [] rfl ?ap2 ?k2
  case ap2 => (repeat' (first | exact True.intro | exact ACoeL.refl _ | assumption | omega | rfl | (dsimp only; omega) | (refine ⟨?_, ?_⟩) | intro (_ : _ = true) | exact fun _ _ => rfl | fail)); all_goals ((try simp only [Int.toNat_natCast]); omega)
  repeat refine W_seq ?_
  refine' W_run tys_ok EE_ok false false [] rfl ?ap3 ?k3
  case ap3 => (repeat' (first | exact True.intro | exact ACoeL.refl _ | assumption | omega | rfl | (dsimp only; omega) | (refine ⟨?_, ?_⟩) | intro (_ : _ = true) | exact fun _ _ => rfl | fail)); all_goals ((try simp only [Int.toNat_natCast]); omega)
  repeat refine W_seq ?_
  refine' W_run tys_ok EE_ok false false [] rfl ?ap4 ?k4
  case ap4 => (repeat' (first | exact True.intro | exact ACoeL.refl _ | assumption | omega | rfl | (dsimp only; omega) | (refine ⟨?_, ?_⟩) | intro (_ : _ = true) | exact fun _ _ => rfl | fail)); all_goals ((try simp only [Int.toNat_natCast]); omega)
  repeat refine W_seq ?_
  refine W_block ?_
  refine W_le (Le_nil 9 3 1 (numA (usedV g m t0 v)) rfl) (Sub_of rfl) ?_
  refine W_loop (X := Nat) (fun k => ⟨[(0, aG g), (2, I t0), (3, I v), (5, .bp 0 0), (9, .row 1 1 k), (10, I k)], ⟨2, [(0, .box [I m.start, I m.n, I m.d, I m.stretch]), (1, .row 3 1 k (numA (usedV g m t0 v)))]⟩⟩)
    (fun k => k ≤ g.length) (fun k => g.length - k) 0 (by omega) ?_ ?_ ?_
  · refine Le_mk ?_ ?_ <;> (repeat' (first | exact True.intro | refine ⟨ACoe.refl _, rfl, ?_⟩ | refine ⟨⟨ACoeL.refl _, rfl, rfl⟩, rfl, ?_⟩ | refine ⟨trivial, rfl, ?_⟩ | refine ⟨⟨rfl, rfl⟩, rfl, ?_⟩ | refine ⟨⟨rfl, rfl, rfl, fun i hi => ⟨ACoeL.refl _, rfl, rfl⟩⟩, rfl, ?_⟩ | refine ⟨⟨rfl, rfl, rfl, fun i hi => absurd hi (Nat.not_lt_zero i)⟩, rfl, ?_⟩ | refine ⟨⟨rfl, rfl, rfl⟩, rfl, ?_⟩ | fail))
  · exact fun x => Sub_of rfl
  · intro k hk
    repeat refine W_seq ?_
    refine' W_run tys_ok EE_ok false false [] rfl ?ap6 ?k6
    case ap6 => (repeat' (first | exact True.intro | exact ACoeL.refl _ | assumption | omega | rfl | (dsimp only; omega) | (refine ⟨?_, ?_⟩) | intro (_ : _ = true) | exact fun _ _ => rfl | fail)); all_goals ((try simp only [Int.toNat_natCast]); omega)
    repeat refine W_seq ?_
    refine W_if rfl True.intro (fun h1 => ?_) (fun h1 => ?_)
    · refine W_skip ?_
      simp only [decide_eq_true_eq] at h1
      have hlt : k < g.length := by omega
      have ho0 := hg.o0 k hlt
      have ho1 := hg.o1 k hlt
      have hA : ArrB t0 v (stripAt g k).off := ⟨ht0.1, ht0.2, hv.1, hv.2, ho0, ho1⟩
      have hAl := hA.le
      have hsl : (stripAt g k).sam.length ≤ 64 := by rw [hg.len k hlt]; exact hg.l1
      have hmul := hm.mul ho0 ho1
      have hq := hm.quo ho0 ho1
      have hup : -((-(m.n * (stripAt g k).off)) / m.d) = (m.n * (stripAt g k).off + m.d - 1) / m.d := up_eq hd0
      have hU : Pure Tryd.prog GG 44 [I (m.n * (stripAt g k).off), I m.d] (I ((m.n * (stripAt g k).off + m.d - 1) / m.d)) := by
        have := Up_ok (m.n * (stripAt g k).off) m.d (by omega) (by omega) ⟨by omega, by omega⟩
        rwa [hup] at this
      have hat := usedV_at (g := g) (m := m) (t0 := t0) (v := v) hlt
      repeat refine W_seq ?_
      refine W_block ?_
      repeat refine W_seq ?_
      refine' W_run tys_ok EE_ok false false [Hint.of (arriveR_ok t0 v (stripAt g k).off hA)] rfl ?ap8 ?k8
      case ap8 => (repeat' (first | exact True.intro | exact ACoeL.refl _ | assumption | omega | rfl | (dsimp only; omega) | (refine ⟨?_, ?_⟩) | intro (_ : _ = true) | exact fun _ _ => rfl | fail)); all_goals ((try simp only [Int.toNat_natCast]); omega)
      obtain ⟨ar, har⟩ : ∃ ar, arriveS t0 v (stripAt g k).off = ar := ⟨_, rfl⟩
      rw [har] at hAl
      refine W_le (σ' := ⟨[(0, aG g), (2, I t0), (3, I v), (5, .bp 0 0), (9, .row 1 1 k), (10, I k), (11, I ar)], ⟨2, [(0, .box [I m.start, I m.n, I m.d, I m.stretch]), (1, .row 3 1 k (numA (usedV g m t0 v)))]⟩⟩) (Le_mk ⟨ACoe.refl _, rfl, ACoe.refl _, rfl, ACoe.refl _, rfl, ACoe.refl _, rfl, ACoe.refl _, rfl, ACoe.refl _, rfl, I_eq har, rfl, trivial⟩ ⟨⟨ACoeL.refl _, rfl, rfl⟩, rfl, ⟨rfl, rfl, rfl, fun i hi => ⟨ACoeL.refl _, rfl, rfl⟩⟩, rfl, trivial⟩) (Sub_of rfl) ?_
      repeat refine W_seq ?_
      refine' W_any tys_ok EE_ok mixed false [Hint.of hU] rfl (fun te ts => by kernel_rfl) (by kernel_rfl) ?ap9 ?k9
      case ap9 => (repeat' (first | exact True.intro | exact ACoeL.refl _ | assumption | omega | rfl | (dsimp only; omega) | (refine ⟨?_, ?_⟩) | intro (_ : _ = true) | exact fun _ _ => rfl | fail)); all_goals ((try simp only [Int.toNat_natCast]); omega)
      have hv' : (bif (bif decide (ar ≥ ((stripAt g k).sam.length : Int)) then true else decide (ar < m.start + (m.n * (stripAt g k).off + m.d - 1) / m.d)) then true else decide (ar - t0 > m.stretch)) = !usedB m t0 v (stripAt g k) := by
        unfold usedB mutedS startS
        rw [har]
        by_cases hx : ar < ((stripAt g k).sam.length : Int)
        · rw [show decide (ar ≥ ((stripAt g k).sam.length : Int)) = false from decide_eq_false (by omega), show decide (ar < ((stripAt g k).sam.length : Int)) = true from decide_eq_true (by omega)]
          simp
        · rw [show decide (ar ≥ ((stripAt g k).sam.length : Int)) = true from decide_eq_true (by omega), show decide (ar < ((stripAt g k).sam.length : Int)) = false from decide_eq_false (by omega)]
          simp
      repeat refine W_seq ?_
      refine W_cut ⟨[(0, aG g), (2, I t0), (3, I v), (5, .bp 0 0), (9, .row 1 1 k), (10, I k), (11, I (uAt m t0 v (stripAt g k)))], ⟨2, [(0, .box [I m.start, I m.n, I m.d, I m.stretch]), (1, .row 3 1 k (numA (usedV g m t0 v)))]⟩⟩ ?_ ?_
      · repeat refine W_seq ?_
        refine W_if rfl True.intro (fun h2 => ?_) (fun h2 => ?_)
        · have h3 : usedB m t0 v (stripAt g k) = false := by rw [← Bool.not_eq_true', ← hv']; exact h2
          repeat refine W_seq ?_
          refine' W_run tys_ok EE_ok false false [] rfl ?ap11 ?k11
          case ap11 => (repeat' (first | exact True.intro | exact ACoeL.refl _ | assumption | omega | rfl | (dsimp only; omega) | (refine ⟨?_, ?_⟩) | intro (_ : _ = true) | exact fun _ _ => rfl | fail)); all_goals ((try simp only [Int.toNat_natCast]); omega)
          refine ⟨Le_mk ⟨ACoe.refl _, rfl, ACoe.refl _, rfl, ACoe.refl _, rfl, ACoe.refl _, rfl, ACoe.refl _, rfl, ACoe.refl _, rfl, I_eq ?_, rfl, trivial⟩ ⟨⟨ACoeL.refl _, rfl, rfl⟩, rfl, ⟨rfl, rfl, rfl, fun i hi => ⟨ACoeL.refl _, rfl, rfl⟩⟩, rfl, trivial⟩, Sub_of rfl⟩
          rw [uAt, h3]; rfl
        · have h3 : usedB m t0 v (stripAt g k) = true := by rw [← Bool.not_eq_false', ← hv']; exact h2
          refine W_skip ?_
          refine ⟨Le_mk ⟨ACoe.refl _, rfl, ACoe.refl _, rfl, ACoe.refl _, rfl, ACoe.refl _, rfl, ACoe.refl _, rfl, ACoe.refl _, rfl, I_eq ?_, rfl, trivial⟩ ⟨⟨ACoeL.refl _, rfl, rfl⟩, rfl, ⟨rfl, rfl, rfl, fun i hi => ⟨ACoeL.refl _, rfl, rfl⟩⟩, rfl, trivial⟩, Sub_of rfl⟩
          rw [uAt, h3, cond_true, har]
      repeat refine W_seq ?_
      refine' W_run tys_ok EE_ok false false [] rfl ?ap12 ?k12
      case ap12 => (repeat' (first | exact True.intro | exact ACoeL.refl _ | assumption | omega | rfl | (dsimp only; omega) | (refine ⟨?_, ?_⟩) | intro (_ : _ = true) | exact fun _ _ => rfl | fail)); all_goals ((try simp only [Int.toNat_natCast]); omega)
      repeat refine W_seq ?_
      refine' W_run tys_ok EE_ok false false [] rfl ?ap13 ?k13
      case ap13 => (repeat' (first | exact True.intro | exact ACoeL.refl _ | assumption | omega | rfl | (dsimp only; omega) | (refine ⟨?_, ?_⟩) | intro (_ : _ = true) | exact fun _ _ => rfl | fail)); all_goals ((try simp only [Int.toNat_natCast]); omega)
      have hrow : ∀ D, OCoe D (.row 3 1 (k + 1) (fun j => if j < k then numA (usedV g m t0 v) j else (fun q' => List.take 1 (List.drop (q' * 1) [I (uAt m t0 v (stripAt g k))])) (j - k))) (.row 3 1 (k + 1) (numA (usedV g m t0 v))) := fun D =>
        row_snoc (f2 := fun q' => List.take 1 (List.drop (q' * 1) [I (uAt m t0 v (stripAt g k))])) (by rw [numA, hat]; rfl) (fun i => rfl)
      exact ⟨k + 1, by omega, by omega, Le_mk (by (repeat' (first | exact True.intro | refine ⟨ACoe.refl _, rfl, ?_⟩ | refine ⟨⟨ACoeL.refl _, rfl, rfl⟩, rfl, ?_⟩ | refine ⟨trivial, rfl, ?_⟩ | refine ⟨⟨rfl, rfl⟩, rfl, ?_⟩ | refine ⟨⟨rfl, rfl, rfl, fun i hi => ⟨ACoeL.refl _, rfl, rfl⟩⟩, rfl, ?_⟩ | refine ⟨⟨rfl, rfl, rfl, fun i hi => absurd hi (Nat.not_lt_zero i)⟩, rfl, ?_⟩ | refine ⟨⟨rfl, rfl, rfl⟩, rfl, ?_⟩ | fail))) ⟨⟨ACoeL.refl _, rfl, rfl⟩, rfl, hrow _, rfl, trivial⟩⟩
    · refine W_exit ?_
      simp only [decide_eq_false_iff_not] at h1
      have hke : k = g.length := by omega
      subst hke
      repeat refine W_seq ?_
      refine' W_run tys_ok EE_ok false false [] rfl ?ap14 ?k14
      case ap14 => (repeat' (first | exact True.intro | exact ACoeL.refl _ | assumption | omega | rfl | (dsimp only; omega) | (refine ⟨?_, ?_⟩) | intro (_ : _ = true) | exact fun _ _ => rfl | fail)); all_goals ((try simp only [Int.toNat_natCast]); omega)
      refine W_ret ⟨_, _, rfl, ?_, ?_⟩
      · repeat' (first | exact True.intro | exact ACoeL.refl _ | assumption | omega | rfl | (dsimp only; omega) | (refine ⟨?_, ?_⟩) | intro (_ : _ = true) | exact fun _ _ => rfl | fail)
      exact ACoe_eq (by show AV.p (PV.ro 1 g.length _) = AV.p (PV.ro 1 (usedV g m t0 v).length _); rw [usedV_len]; rfl)

/-! ### line -/
theorem usedF_append {m : Mute} {t0 v : Int} : ∀ {l l' : List Strip} {i : Nat}, usedF m t0 v (l ++ l') i = usedF m t0 v l i ++ usedF m t0 v l' (i + l.length)
  | [], l', i => by simp [usedF]
  | s :: r, l', i => by
    rw [List.cons_append, usedF_cons, usedF_cons, usedF_append, List.length_cons, show i + 1 + r.length = i + (r.length + 1) by omega]
    cases usedB m t0 v s <;> rfl
/-- What a line keeps of the first strips. -/
def lineK (g : List Strip) (m : Mute) (t0 v : Int) (k : Nat) : List (Nat × Int) := kept g (usedF m t0 v (g.take k) 0)
theorem kept_append {g : List Strip} {l l' : List (Nat × Int)} : kept g (l ++ l') = kept g l ++ kept g l' := by simp [kept]
def takes (g : List Strip) (m : Mute) (t0 v : Int) (k : Nat) : Bool := bif usedB m t0 v (stripAt g k) then knownB (smpAt g (k, arriveS t0 v (stripAt g k).off)) else false
theorem lineK_succ {g : List Strip} {m : Mute} {t0 v : Int} {k : Nat} (h : k < g.length) :
    lineK g m t0 v (k + 1) = bif takes g m t0 v k then lineK g m t0 v k ++ [(k, arriveS t0 v (stripAt g k).off)] else lineK g m t0 v k := by
  unfold lineK takes
  rw [take_snoc h default, usedF_append, List.length_take, Nat.zero_add, Nat.min_eq_left (by omega), kept_append]
  show _ ++ kept g (usedF m t0 v [stripAt g k] k) = _
  rw [usedF_cons]
  cases usedB m t0 v (stripAt g k) with
  | false => simp [usedF, kept]
  | true =>
    simp only [cond_true, usedF, kept, List.filter_cons, List.filter_nil]
    cases knownB (smpAt g (k, arriveS t0 v (stripAt g k).off)) <;> simp
theorem lineK_all {g : List Strip} {m : Mute} {t0 v : Int} : lineK g m t0 v g.length = lineL g m t0 v := by
  rw [lineK, List.take_length]; rfl
theorem lineK_at {g : List Strip} {m : Mute} {t0 v : Int} {k : Nat} (h : k < g.length) (ht : takes g m t0 v k = true) :
    (lineL g m t0 v).getD (lineK g m t0 v k).length (0, 0) = (k, arriveS t0 v (stripAt g k).off) := by
  have h1 : lineL g m t0 v = lineK g m t0 v (k + 1) ++ kept g (usedF m t0 v (g.drop (k + 1)) (0 + (g.take (k + 1)).length)) := by
    rw [lineK, ← kept_append, ← usedF_append, List.take_append_drop]; rfl
  rw [h1, lineK_succ h, ht, cond_true, List.append_assoc, List.getD_eq_getElem?_getD, List.getElem?_append_right (by omega)]
  simp
theorem lineK_len {g : List Strip} {m : Mute} {t0 v : Int} {k : Nat} : (lineK g m t0 v k).length ≤ k := by
  have h1 := kept_len (g := g) (l := usedF m t0 v (g.take k) 0)
  have h2 := usedF_len (m := m) (t0 := t0) (v := v) (l := g.take k) (i := 0)
  have h3 := List.length_take_le k g
  unfold lineK
  omega

theorem lineR_ok (g : List Strip) (m : Mute) (t0 v : Int) (hg : GOk g) (hm : MOk m) (ht0 : 0 ≤ t0 ∧ t0 ≤ 63) (hv : 1 ≤ v ∧ v ≤ 1000) :
    Pure Tryd.prog GG 58 [aG g, m.enc, I t0, I v] (.agg [I (lineSum g m t0 v), .p (pNs (lineL g m t0 v))]) := by
  have hlen := hg.n1
  have huv := usedV_len (g := g) (m := m) (t0 := t0) (v := v)
  obtain ⟨uv, hu⟩ : ∃ uv, usedV g m t0 v = uv := ⟨_, rfl⟩
  have hUs := UsedR_ok g m t0 v hg hm ht0 hv
  rw [hu] at hUs huv
  refine Pure.fn tys_ok Tryd.func58 (by kernel_rfl) rfl rfl fun O => ?_
  repeat refine W_seq ?_
  refine' W_run tys_ok EE_ok false false [] rfl ?ap17 ?k17
  case ap17 => (repeat' (first | exact True.intro | exact ACoeL.refl _ | assumption | omega | rfl | (dsimp only; omega) | (refine ⟨?_, ?_⟩) | intro (_ : _ = true) | exact fun _ _ => rfl | fail)); all_goals ((try simp only [Int.toNat_natCast]); omega)
  repeat refine W_seq ?_
  refine' W_run tys_ok EE_ok false false [] rfl ?ap18 ?k18
  case ap18 => (repeat' (first | exact True.intro | exact ACoeL.refl _ | assumption | omega | rfl | (dsimp only; omega) | (refine ⟨?_, ?_⟩) | intro (_ : _ = true) | exact fun _ _ => rfl | fail)); all_goals ((try simp only [Int.toNat_natCast]); omega)
  repeat refine W_seq ?_
  refine' W_run tys_ok EE_ok false false [Hint.of hUs] rfl ?ap19 ?k19
  case ap19 => (repeat' (first | exact True.intro | exact ACoeL.refl _ | assumption | omega | rfl | (dsimp only; omega) | (refine ⟨?_, ?_⟩) | intro (_ : _ = true) | exact fun _ _ => rfl | fail)); all_goals ((try simp only [Int.toNat_natCast]); omega)
  repeat refine W_seq ?_
  refine' W_run tys_ok EE_ok false false [] rfl ?ap20 ?k20
  case ap20 => (repeat' (first | exact True.intro | exact ACoeL.refl _ | assumption | omega | rfl | (dsimp only; omega) | (refine ⟨?_, ?_⟩) | intro (_ : _ = true) | exact fun _ _ => rfl | fail)); all_goals ((try simp only [Int.toNat_natCast]); omega)
  repeat refine W_seq ?_
  refine W_block ?_
  refine W_le (Le_nilBox 2 1 59 2 (namedA (lineL g m t0 v)) rfl rfl) (Sub_of rfl) ?_
  refine W_loop (X := Nat) (fun k => ⟨[(0, aG g), (8, .bp 1 0), (9, .bp 2 0), (10, aL uv), (11, I k)], ⟨4, [(0, .dead), (1, .box [I 0, .p (.v (.slice none 0 0))]), (2, .box [I (sumL (smpAt g) (lineK g m t0 v k)), .row 3 2 (lineK g m t0 v k).length]), (3, .row 59 2 (lineK g m t0 v k).length (namedA (lineL g m t0 v)))]⟩⟩)
    (fun k => k ≤ g.length) (fun k => g.length - k) 0 (by omega) ?_ ?_ ?_
  · refine Le_mk ?_ ?_ <;> (repeat' (first | exact True.intro | refine ⟨ACoe.refl _, rfl, ?_⟩ | refine ⟨⟨ACoeL.refl _, rfl, rfl⟩, rfl, ?_⟩ | refine ⟨trivial, rfl, ?_⟩ | refine ⟨⟨rfl, rfl⟩, rfl, ?_⟩ | refine ⟨⟨rfl, rfl, rfl, fun i hi => ⟨ACoeL.refl _, rfl, rfl⟩⟩, rfl, ?_⟩ | refine ⟨⟨rfl, rfl, rfl, fun i hi => absurd hi (Nat.not_lt_zero i)⟩, rfl, ?_⟩ | refine ⟨⟨rfl, rfl, rfl⟩, rfl, ?_⟩ | fail))
  · exact fun x => Sub_of rfl
  · intro k hk
    repeat refine W_seq ?_
    refine' W_run tys_ok EE_ok false false [] rfl ?ap22 ?k22
    case ap22 => (repeat' (first | exact True.intro | exact ACoeL.refl _ | assumption | omega | rfl | (dsimp only; omega) | (refine ⟨?_, ?_⟩) | intro (_ : _ = true) | exact fun _ _ => rfl | fail)); all_goals ((try simp only [Int.toNat_natCast]); omega)
    repeat refine W_seq ?_
    refine W_if rfl True.intro (fun h1 => ?_) (fun h1 => ?_)
    · refine W_skip ?_
      simp only [decide_eq_true_eq] at h1
      have hlt : k < g.length := by omega
      have hat := usedV_at (g := g) (m := m) (t0 := t0) (v := v) hlt
      rw [hu] at hat
      obtain ⟨ar, har⟩ : ∃ ar, arriveS t0 v (stripAt g k).off = ar := ⟨_, rfl⟩
      have hA : ArrB t0 v (stripAt g k).off := ⟨ht0.1, ht0.2, hv.1, hv.2, hg.o0 k hlt, hg.o1 k hlt⟩
      have hAl := hA.le
      rw [har] at hAl
      obtain ⟨u, hub⟩ : ∃ u, usedB m t0 v (stripAt g k) = u := ⟨_, rfl⟩
      have huu : uv.getD k 0 = bif u then ar else -1 := by rw [hat, uAt, hub, har]
      have hin : u = true → ar < (stripAt g k).sam.length := fun h => by
        have h2 := hub.trans h
        unfold usedB at h2
        rw [har] at h2
        cases hd : decide (ar < ((stripAt g k).sam.length : Int)) with
        | true => exact of_decide_eq_true hd
        | false => rw [hd] at h2; simp at h2
      have hge : decide (uv.getD k 0 ≥ 0) = u := by
        rw [huu]; cases u
        · rfl
        · exact decide_eq_true (by simp only [cond_true]; omega)
      have hup : 0 ≤ uv.getD k 0 → uv.getD k 0 = ar ∧ ar < (stripAt g k).sam.length := fun h => by
        have : u = true := by rw [← hge]; exact decide_eq_true h
        exact ⟨by rw [huu, this]; rfl, hin this⟩
      have hup2 : 0 ≤ uv.getD k 0 → uv.getD k 0 < (stripAt g k).sam.length := fun h => by have := hup h; omega
      have hkl := lineK_len (g := g) (m := m) (t0 := t0) (v := v) (k := k)
      have hsb := sumL_bound (f := smpAt g) (B := 32767) (by omega) (kept_bound (g := g) (l := usedF m t0 v (g.take k) 0))
      have hsb' : -(32767 * ((lineK g m t0 v k).length : Int)) ≤ sumL (smpAt g) (lineK g m t0 v k) ∧ sumL (smpAt g) (lineK g m t0 v k) ≤ 32767 * (lineK g m t0 v k).length := hsb
      have htk : takes g m t0 v k = bif u then knownB ((stripAt g k).sam.getD ar.toNat 0) else false := by rw [takes, hub, har]; rfl
      have hks := lineK_succ (g := g) (m := m) (t0 := t0) (v := v) hlt
      rw [har] at hks
      repeat refine W_seq ?_
      refine W_block ?_
      repeat refine W_seq ?_
      refine' W_any tys_ok EE_ok mixed false [Hint.of (knownR_ok ((stripAt g k).sam.getD (uv.getD k 0).toNat 0))] rfl (fun te ts => by kernel_rfl) (by kernel_rfl) ?ap24 ?k24
      case ap24 => (repeat' (first | exact True.intro | exact ACoeL.refl _ | assumption | omega | rfl | (dsimp only; omega) | (refine ⟨?_, ?_⟩) | intro (_ : _ = true) | exact fun _ _ => rfl | fail)); all_goals (((try simp only [Int.toNat_natCast]); grind))
      have hv' : (bif decide (uv.getD k 0 ≥ 0) then knownB ((stripAt g k).sam.getD (uv.getD k 0).toNat 0) else false) = takes g m t0 v k := by
        rw [htk, hge]
        cases u with
        | false => rfl
        | true => rw [huu]; rfl
      repeat refine W_seq ?_
      refine W_if rfl True.intro (fun h2 => ?_) (fun h2 => ?_)
      · have h3 : takes g m t0 v k = true := by rw [← hv']; exact h2
        have h4 : u = true := by
          cases u with
          | true => rfl
          | false => rw [htk] at h3; simp at h3
        subst h4
        simp only [cond_true] at huu
        have h5 := hin rfl
        rw [htk, cond_true] at h3
        have h6 := within_iff.1 h3
        rw [← huu] at h5 h6 hAl
        repeat refine W_seq ?_
        refine' W_any tys_ok EE_ok mixed false [] rfl (fun te ts => by kernel_rfl) (by kernel_rfl) ?ap26 ?k26
        case ap26 => (repeat' (first | exact True.intro | exact ACoeL.refl _ | assumption | omega | rfl | (dsimp only; omega) | (refine ⟨?_, ?_⟩) | intro (_ : _ = true) | exact fun _ _ => rfl | fail)); all_goals ((try simp only [Int.toNat_natCast]); omega)
        repeat refine W_seq ?_
        refine' W_any tys_ok EE_ok mixed false [] rfl (fun te ts => by kernel_rfl) (by kernel_rfl) ?ap27 ?k27
        case ap27 => (repeat' (first | exact True.intro | exact ACoeL.refl _ | assumption | omega | rfl | (dsimp only; omega) | (refine ⟨?_, ?_⟩) | intro (_ : _ = true) | exact fun _ _ => rfl | fail)); all_goals ((try simp only [Int.toNat_natCast]); omega)
        repeat refine W_seq ?_
        refine' W_run tys_ok EE_ok false false [] rfl ?ap28 ?k28
        case ap28 => (repeat' (first | exact True.intro | exact ACoeL.refl _ | assumption | omega | rfl | (dsimp only; omega) | (refine ⟨?_, ?_⟩) | intro (_ : _ = true) | exact fun _ _ => rfl | fail)); all_goals ((try simp only [Int.toNat_natCast]); omega)
        have h3' : takes g m t0 v k = true := by rw [htk, cond_true]; exact h3
        have hat2 := lineK_at (g := g) (m := m) (t0 := t0) (v := v) hlt h3'
        rw [har, ← huu] at hat2
        rw [h3', cond_true, ← huu] at hks
        refine ⟨k + 1, by omega, by omega, ?_⟩
        rw [hks, List.length_append]
        have hrow : ∀ D, OCoe D (.row 59 2 ((lineK g m t0 v k).length + 1) (fun j => if j < (lineK g m t0 v k).length then namedA (lineL g m t0 v) j else (fun q => List.take 2 (List.drop (q * 2) [I k, I (uv.getD k 0)])) (j - (lineK g m t0 v k).length))) (.row 59 2 ((lineK g m t0 v k).length + 1) (namedA (lineL g m t0 v))) := fun D =>
          row_snoc (f2 := fun q => List.take 2 (List.drop (q * 2) [I k, I (uv.getD k 0)])) (by simp only [namedA, hat2]; rfl) (fun i => rfl)
        refine Le_mk (by (repeat' (first | exact True.intro | refine ⟨ACoe.refl _, rfl, ?_⟩ | refine ⟨⟨ACoeL.refl _, rfl, rfl⟩, rfl, ?_⟩ | refine ⟨trivial, rfl, ?_⟩ | refine ⟨⟨rfl, rfl⟩, rfl, ?_⟩ | refine ⟨⟨rfl, rfl, rfl, fun i hi => ⟨ACoeL.refl _, rfl, rfl⟩⟩, rfl, ?_⟩ | refine ⟨⟨rfl, rfl, rfl, fun i hi => absurd hi (Nat.not_lt_zero i)⟩, rfl, ?_⟩ | refine ⟨⟨rfl, rfl, rfl⟩, rfl, ?_⟩ | fail))) ⟨trivial, rfl, ⟨ACoeL.refl _, rfl, rfl⟩, rfl, ⟨ACoeL.cons (I_eq ?_) (ACoeL.cons (ACoe.refl _) ACoeL.nil), rfl, rfl⟩, rfl, hrow _, rfl, trivial⟩
        rw [sumL_append]; simp only [sumL, Int.add_zero]; rfl
      · have h3 : takes g m t0 v k = false := by rw [← hv']; exact h2
        rw [h3, cond_false] at hks
        refine W_skip ?_
        repeat refine W_seq ?_
        refine' W_run tys_ok EE_ok false false [] rfl ?ap29 ?k29
        case ap29 => (repeat' (first | exact True.intro | exact ACoeL.refl _ | assumption | omega | rfl | (dsimp only; omega) | (refine ⟨?_, ?_⟩) | intro (_ : _ = true) | exact fun _ _ => rfl | fail)); all_goals ((try simp only [Int.toNat_natCast]); omega)
        refine ⟨k + 1, by omega, by omega, ?_⟩
        rw [hks]
        exact Le_mk (by (repeat' (first | exact True.intro | refine ⟨ACoe.refl _, rfl, ?_⟩ | refine ⟨⟨ACoeL.refl _, rfl, rfl⟩, rfl, ?_⟩ | refine ⟨trivial, rfl, ?_⟩ | refine ⟨⟨rfl, rfl⟩, rfl, ?_⟩ | refine ⟨⟨rfl, rfl, rfl, fun i hi => ⟨ACoeL.refl _, rfl, rfl⟩⟩, rfl, ?_⟩ | refine ⟨⟨rfl, rfl, rfl, fun i hi => absurd hi (Nat.not_lt_zero i)⟩, rfl, ?_⟩ | refine ⟨⟨rfl, rfl, rfl⟩, rfl, ?_⟩ | fail))) ⟨trivial, rfl, ⟨ACoeL.refl _, rfl, rfl⟩, rfl, ⟨ACoeL.refl _, rfl, rfl⟩, rfl, ⟨rfl, rfl, rfl, fun i hi => ⟨ACoeL.refl _, rfl, rfl⟩⟩, rfl, trivial⟩
    · refine W_exit ?_
      simp only [decide_eq_false_iff_not] at h1
      have hke : k = g.length := by omega
      subst hke
      rw [lineK_all]
      repeat refine W_seq ?_
      refine' W_run tys_ok EE_ok false false [] rfl ?ap30 ?k30
      case ap30 => (repeat' (first | exact True.intro | exact ACoeL.refl _ | assumption | omega | rfl | (dsimp only; omega) | (refine ⟨?_, ?_⟩) | intro (_ : _ = true) | exact fun _ _ => rfl | fail)); all_goals ((try simp only [Int.toNat_natCast]); omega)
      refine W_ret ⟨_, _, rfl, ?_, ACoe.refl _⟩
      · repeat' (first | exact True.intro | exact ACoeL.refl _ | assumption | omega | rfl | (dsimp only; omega) | (refine ⟨?_, ?_⟩) | intro (_ : _ = true) | exact fun _ _ => rfl | fail)
end Go.Proofs.YtobpnmljijeadaaDoor.A

/- Contracts: the reference's Stack, windows, alike, Alike. -/
set_option linter.unusedVariables false
set_option linter.unusedSimpArgs false
namespace Go.Proofs.YtobpnmljijeadaaDoor.A
open Go

theorem StackR_ok (g : List Strip) (m : Mute) (vs : List Int) (hg : GB g) (hvs : vs.length < 1152921504606846976) : Pure Tryd.prog GG 21 [aG g, m.enc, aL vs] (.tup [.p (pLines (StackS g m vs).1), I (StackS g m vs).2]) := by
  refine Pure.fn tys_ok Tryd.func21 (by kernel_rfl) rfl rfl fun O => ?_
  repeat refine W_seq ?_
  refine' W_run tys_ok EE_ok false false [] rfl ?ap2 ?k2
  case ap2 => (repeat' (first | exact True.intro | exact ACoeL.refl _ | assumption | omega | rfl | (dsimp only; omega) | (refine ⟨?_, ?_⟩) | intro (_ : _ = true) | exact fun _ _ => rfl | fail)); all_goals ((try simp only [Int.toNat_natCast, Int.toNat_zero]); omega)
  repeat refine W_seq ?_
  refine' W_run tys_ok EE_ok false false [Hint.of (gatherR_ok g hg)] rfl ?ap3 ?k3
  case ap3 => (repeat' (first | exact True.intro | exact ACoeL.refl _ | assumption | omega | rfl | (dsimp only; omega) | (refine ⟨?_, ?_⟩) | intro (_ : _ = true) | exact fun _ _ => rfl | fail)); all_goals ((try simp only [Int.toNat_natCast, Int.toNat_zero]); omega)
  repeat refine W_seq ?_
  refine W_if rfl True.intro (fun h1 => ?_) (fun h1 => ?_)
  · have hgb : gatherB g = false := by simpa using h1
    repeat refine W_seq ?_
    refine' W_run tys_ok EE_ok false false [] rfl ?ap5 ?k5
    case ap5 => (repeat' (first | exact True.intro | exact ACoeL.refl _ | assumption | omega | rfl | (dsimp only; omega) | (refine ⟨?_, ?_⟩) | intro (_ : _ = true) | exact fun _ _ => rfl | fail)); all_goals ((try simp only [Int.toNat_natCast, Int.toNat_zero]); omega)
    refine W_ret ⟨_, _, rfl, ?_, (by simp only [StackS, hgb, Bool.false_and, cond_false, errS]; exact ACoe_tup (ACoeL.cons ACoe_nilLines (ACoeL.refl _)))⟩
    · repeat' (first | exact True.intro | exact ACoeL.refl _ | assumption | omega | rfl | (dsimp only; omega) | (refine ⟨?_, ?_⟩) | intro (_ : _ = true) | exact fun _ _ => rfl | fail)
  have hgb : gatherB g = true := by simpa using h1
  have hgo := GOk.of hgb
  have hgl := hgo.len
  have hg0 := hgo.n0
  refine W_skip ?_
  repeat refine W_seq ?_
  refine' W_run tys_ok EE_ok false false [Hint.of (CheckMuteR_ok m)] rfl ?ap7 ?k7
  case ap7 => (repeat' (first | exact True.intro | exact ACoeL.refl _ | assumption | omega | rfl | (dsimp only; omega) | (refine ⟨?_, ?_⟩) | intro (_ : _ = true) | exact fun _ _ => rfl | fail)); all_goals ((try simp only [Int.toNat_natCast, Int.toNat_zero]); omega)
  repeat refine W_seq ?_
  refine' W_run tys_ok EE_ok false false [] rfl ?ap8 ?k8
  case ap8 => (repeat' (first | exact True.intro | exact ACoeL.refl _ | assumption | omega | rfl | (dsimp only; omega) | (refine ⟨?_, ?_⟩) | intro (_ : _ = true) | exact fun _ _ => rfl | fail)); all_goals ((try simp only [Int.toNat_natCast, Int.toNat_zero]); omega)
  repeat refine W_seq ?_
  refine W_if rfl True.intro (fun h2 => ?_) (fun h2 => ?_)
  · have hmo : m.ok = false := by
      cases hm : m.ok with
      | false => rfl
      | true => simp [Mute.err, hm] at h2
    repeat refine W_seq ?_
    refine' W_run tys_ok EE_ok false false [] rfl ?ap10 ?k10
    case ap10 => (repeat' (first | exact True.intro | exact ACoeL.refl _ | assumption | omega | rfl | (dsimp only; omega) | (refine ⟨?_, ?_⟩) | intro (_ : _ = true) | exact fun _ _ => rfl | fail)); all_goals ((try simp only [Int.toNat_natCast, Int.toNat_zero]); omega)
    refine W_ret ⟨_, _, rfl, ?_, (by simp only [StackS, hgb, hmo, Bool.and_false, cond_false, errS, cond_true]; exact ACoe_tup (ACoeL.cons ACoe_nilLines (ACoeL.refl _)))⟩
    · repeat' (first | exact True.intro | exact ACoeL.refl _ | assumption | omega | rfl | (dsimp only; omega) | (refine ⟨?_, ?_⟩) | intro (_ : _ = true) | exact fun _ _ => rfl | fail)
  have hmo : m.ok = true := by
    cases hm : m.ok with
    | true => rfl
    | false => simp [Mute.err, hm] at h2
  have hmk := MOk.of hmo
  have h2' : (gatherB g && m.ok) = true := by rw [hgb, hmo]; rfl
  have hL : len0 g ≤ 64 := by have := hgo.l1; unfold len0; omega
  refine W_skip ?_
  repeat refine W_seq ?_
  refine' W_run tys_ok EE_ok false false [Hint.of (velocitiesR_ok vs (stripAt g 0).sam.length hvs)] rfl ?ap12 ?k12
  case ap12 => (repeat' (first | exact True.intro | exact ACoeL.refl _ | assumption | omega | rfl | (dsimp only; omega) | (refine ⟨?_, ?_⟩) | intro (_ : _ = true) | exact fun _ _ => rfl | fail)); all_goals ((try simp only [Int.toNat_natCast, Int.toNat_zero]); omega)
  repeat refine W_seq ?_
  refine W_if rfl True.intro (fun h3 => ?_) (fun h3 => ?_)
  · have h4 : velOk g vs = false := by have h3' : (!velOk g vs) = true := h3; simpa using h3'
    repeat refine W_seq ?_
    refine' W_run tys_ok EE_ok false false [] rfl ?ap14 ?k14
    case ap14 => (repeat' (first | exact True.intro | exact ACoeL.refl _ | assumption | omega | rfl | (dsimp only; omega) | (refine ⟨?_, ?_⟩) | intro (_ : _ = true) | exact fun _ _ => rfl | fail)); all_goals ((try simp only [Int.toNat_natCast, Int.toNat_zero]); omega)
    refine W_ret ⟨_, _, rfl, ?_, (by simp only [StackS, h2', h4, cond_false, cond_true]; exact ACoe_tup (ACoeL.cons ACoe_nilLines (ACoeL.refl _)))⟩
    · repeat' (first | exact True.intro | exact ACoeL.refl _ | assumption | omega | rfl | (dsimp only; omega) | (refine ⟨?_, ?_⟩) | intro (_ : _ = true) | exact fun _ _ => rfl | fail)
  have h4 : velOk g vs = true := by have h3' : (!velOk g vs) = false := h3; simpa using h3'
  obtain ⟨h5, h6⟩ := velOk_iff h4
  refine W_skip ?_
  repeat refine W_seq ?_
  refine' W_run tys_ok EE_ok false false [] rfl ?ap16 ?k16
  case ap16 => (repeat' (first | exact True.intro | exact ACoeL.refl _ | assumption | omega | rfl | (dsimp only; omega) | (refine ⟨?_, ?_⟩) | intro (_ : _ = true) | exact fun _ _ => rfl | fail)); all_goals ((try simp only [Int.toNat_natCast, Int.toNat_zero]); omega)
  repeat refine W_seq ?_
  refine' W_run tys_ok EE_ok false false [] rfl ?ap17 ?k17
  case ap17 => (repeat' (first | exact True.intro | exact ACoeL.refl _ | assumption | omega | rfl | (dsimp only; omega) | (refine ⟨?_, ?_⟩) | intro (_ : _ = true) | exact fun _ _ => rfl | fail)); all_goals ((try simp only [Int.toNat_natCast, Int.toNat_zero]); omega)
  repeat refine W_seq ?_
  refine W_block ?_
  refine W_le (Le_nil 9 56 2 (lineA (StackL g m vs)) rfl) (Sub_of rfl) ?_
  refine W_loop (X := Nat) (fun k => ⟨[(0, aG g), (2, aL vs), (4, .bp 0 0), (9, .row 1 2 k), (10, I k)], ⟨2, [(0, .box [I m.start, I m.n, I m.d, I m.stretch]), (1, .row 56 2 k (lineA (StackL g m vs)))]⟩⟩)
    (fun k => k ≤ vs.length) (fun k => vs.length - k) 0 (by omega) ?_ ?_ ?_
  · refine Le_mk ?_ ?_ <;> (repeat' (first | exact True.intro | refine ⟨ACoe.refl _, rfl, ?_⟩ | refine ⟨⟨ACoeL.refl _, rfl, rfl⟩, rfl, ?_⟩ | refine ⟨trivial, rfl, ?_⟩ | refine ⟨⟨rfl, rfl⟩, rfl, ?_⟩ | refine ⟨⟨rfl, rfl, rfl, fun i hi => ⟨ACoeL.refl _, rfl, rfl⟩⟩, rfl, ?_⟩ | refine ⟨⟨rfl, rfl, rfl, fun i hi => absurd hi (Nat.not_lt_zero i)⟩, rfl, ?_⟩ | refine ⟨⟨rfl, rfl, rfl⟩, rfl, ?_⟩ | fail))
  · exact fun x => Sub_of rfl
  · intro k hk
    repeat refine W_seq ?_
    refine' W_run tys_ok EE_ok false false [] rfl ?ap19 ?k19
    case ap19 => (repeat' (first | exact True.intro | exact ACoeL.refl _ | assumption | omega | rfl | (dsimp only; omega) | (refine ⟨?_, ?_⟩) | intro (_ : _ = true) | exact fun _ _ => rfl | fail)); all_goals ((try simp only [Int.toNat_natCast, Int.toNat_zero]); omega)
    repeat refine W_seq ?_
    refine W_if rfl True.intro (fun h7 => ?_) (fun h7 => ?_)
    · refine W_skip ?_
      simp only [decide_eq_true_eq] at h7
      have hlt : k < vs.length := by omega
      have hv := within_iff.1 (all_getD h5 hlt)
      have hat := StackL_at (g := g) (m := m) hlt
      repeat refine W_seq ?_
      refine W_block ?_
      repeat refine W_seq ?_
      refine' W_any tys_ok EE_ok mixed false [Hint.of (lineR_ok g m k (vs.getD k 0) hgo hmk ⟨by omega, by omega⟩ hv)] rfl (fun te ts => by kernel_rfl) (by kernel_rfl) ?ap21 ?k21
      case ap21 => (repeat' (first | exact True.intro | exact ACoeL.refl _ | assumption | omega | rfl | (dsimp only; omega) | (refine ⟨?_, ?_⟩) | intro (_ : _ = true) | exact fun _ _ => rfl | fail)); all_goals ((try simp only [Int.toNat_natCast, Int.toNat_zero]); omega)
      repeat refine W_seq ?_
      refine' W_run tys_ok EE_ok false false [] rfl ?ap22 ?k22
      case ap22 => (repeat' (first | exact True.intro | exact ACoeL.refl _ | assumption | omega | rfl | (dsimp only; omega) | (refine ⟨?_, ?_⟩) | intro (_ : _ = true) | exact fun _ _ => rfl | fail)); all_goals ((try simp only [Int.toNat_natCast, Int.toNat_zero]); omega)
      have hrow : ∀ D, OCoe D (.row 56 2 (k + 1) (fun j => if j < k then lineA (StackL g m vs) j else (fun q => List.take 2 (List.drop (q * 2) [I (lineSum g m k (vs.getD k 0)), .p (pNs (lineL g m k (vs.getD k 0)))])) (j - k))) (.row 56 2 (k + 1) (lineA (StackL g m vs))) := fun D =>
        row_snoc (f2 := fun q => List.take 2 (List.drop (q * 2) [I (lineSum g m k (vs.getD k 0)), .p (pNs (lineL g m k (vs.getD k 0)))])) (by rw [lineA, hat]; rfl) (fun i => rfl)
      exact ⟨k + 1, by omega, by omega, Le_mk (by (repeat' (first | exact True.intro | refine ⟨ACoe.refl _, rfl, ?_⟩ | refine ⟨⟨ACoeL.refl _, rfl, rfl⟩, rfl, ?_⟩ | refine ⟨trivial, rfl, ?_⟩ | refine ⟨⟨rfl, rfl⟩, rfl, ?_⟩ | refine ⟨⟨rfl, rfl, rfl, fun i hi => ⟨ACoeL.refl _, rfl, rfl⟩⟩, rfl, ?_⟩ | refine ⟨⟨rfl, rfl, rfl, fun i hi => absurd hi (Nat.not_lt_zero i)⟩, rfl, ?_⟩ | refine ⟨⟨rfl, rfl, rfl⟩, rfl, ?_⟩ | fail))) ⟨⟨ACoeL.refl _, rfl, rfl⟩, rfl, hrow _, rfl, trivial⟩⟩
    · refine W_exit ?_
      simp only [decide_eq_false_iff_not] at h7
      have hke : k = vs.length := by omega
      subst hke
      repeat refine W_seq ?_
      refine' W_run tys_ok EE_ok false false [] rfl ?ap23 ?k23
      case ap23 => (repeat' (first | exact True.intro | exact ACoeL.refl _ | assumption | omega | rfl | (dsimp only; omega) | (refine ⟨?_, ?_⟩) | intro (_ : _ = true) | exact fun _ _ => rfl | fail)); all_goals ((try simp only [Int.toNat_natCast, Int.toNat_zero]); omega)
      refine W_ret ⟨_, _, rfl, ?_, ?_⟩
      · repeat' (first | exact True.intro | exact ACoeL.refl _ | assumption | omega | rfl | (dsimp only; omega) | (refine ⟨?_, ?_⟩) | intro (_ : _ = true) | exact fun _ _ => rfl | fail)
      simp only [StackS, h2', h4, cond_true]
      refine ACoe_tup (ACoeL.cons (ACoe_eq ?_) (ACoeL.refl _))
      rw [pLines, StackL_len]; rfl

theorem windowsR_ok (g : List Strip) (t0 h : Int) (hg : GOk g) : Pure Tryd.prog GG 61 [aG g, I t0, I h] (I (bif winB g t0 h then 0 else 93)) := by
  have hL : 1 ≤ len0 g ∧ len0 g ≤ 64 := by have := hg.l0; have := hg.l1; unfold len0; omega
  have hgl := hg.l1
  have hg0 := hg.n0
  refine Pure.fn tys_ok Tryd.func61 (by kernel_rfl) rfl rfl fun O => ?_
  repeat refine W_seq ?_
  refine' W_run tys_ok EE_ok false false [] rfl ?ap26 ?k26
  case ap26 => (repeat' (first | exact True.intro | exact ACoeL.refl _ | assumption | omega | rfl | (dsimp only; omega) | (refine ⟨?_, ?_⟩) | intro (_ : _ = true) | exact fun _ _ => rfl | fail)); all_goals ((try simp only [Int.toNat_natCast, Int.toNat_zero]); omega)
  repeat refine W_seq ?_
  refine' W_run tys_ok EE_ok false false [Hint.of (Between_ok t0 0 (((stripAt g 0).sam.length : Int) - 1)), Hint.of (Between_ok h 0 4)] rfl ?ap27 ?k27
  case ap27 => (repeat' (first | exact True.intro | exact ACoeL.refl _ | assumption | omega | rfl | (dsimp only; omega) | (refine ⟨?_, ?_⟩) | intro (_ : _ = true) | exact fun _ _ => rfl | fail)); all_goals ((try simp only [Int.toNat_natCast, Int.toNat_zero]); omega)
  have e : within t0 0 (((stripAt g 0).sam.length : Int) - 1) = within t0 0 (len0 g - 1) := rfl
  repeat refine W_seq ?_
  refine W_if rfl True.intro (fun hb => ?_) (fun hb => ?_)
  · repeat refine W_seq ?_
    refine' W_run tys_ok EE_ok false false [] rfl ?ap29 ?k29
    case ap29 => (repeat' (first | exact True.intro | exact ACoeL.refl _ | assumption | omega | rfl | (dsimp only; omega) | (refine ⟨?_, ?_⟩) | intro (_ : _ = true) | exact fun _ _ => rfl | fail)); all_goals ((try simp only [Int.toNat_natCast, Int.toNat_zero]); omega)
    refine W_ret ⟨_, _, rfl, ?_, I_eq (by rw [e] at hb; revert hb; unfold winB; cases within t0 0 (len0 g - 1) <;> cases within h 0 4 <;> simp)⟩
    · repeat' (first | exact True.intro | exact ACoeL.refl _ | assumption | omega | rfl | (dsimp only; omega) | (refine ⟨?_, ?_⟩) | intro (_ : _ = true) | exact fun _ _ => rfl | fail)
  · refine W_skip ?_
    repeat refine W_seq ?_
    refine' W_run tys_ok EE_ok false false [] rfl ?ap31 ?k31
    case ap31 => (repeat' (first | exact True.intro | exact ACoeL.refl _ | assumption | omega | rfl | (dsimp only; omega) | (refine ⟨?_, ?_⟩) | intro (_ : _ = true) | exact fun _ _ => rfl | fail)); all_goals ((try simp only [Int.toNat_natCast, Int.toNat_zero]); omega)
    refine W_ret ⟨_, _, rfl, ?_, I_eq (by rw [e] at hb; revert hb; unfold winB; cases within t0 0 (len0 g - 1) <;> cases within h 0 4 <;> simp)⟩
    · repeat' (first | exact True.intro | exact ACoeL.refl _ | assumption | omega | rfl | (dsimp only; omega) | (refine ⟨?_, ?_⟩) | intro (_ : _ = true) | exact fun _ _ => rfl | fail)

theorem lineL_mem {g : List Strip} {m : Mute} {t0 v : Int} {p : Nat × Int} (h : p ∈ lineL g m t0 v) : UOk g p ∧ -32767 ≤ smpAt g p ∧ smpAt g p ≤ 32767 :=
  ⟨usedL_ok (List.mem_filter.1 h).1, kept_bound p h⟩

theorem alikeR_ok (g : List Strip) (m : Mute) (t0 v h : Int) (hg : GOk g) (hm : MOk m) (ht0 : 0 ≤ t0 ∧ t0 < len0 g) (hv : 1 ≤ v ∧ v ≤ 1000) (hh : 0 ≤ h ∧ h ≤ 4) :
    Pure Tryd.prog GG 62 [aG g, m.enc, I t0, I v, I h] (.agg [I (likeS g m t0 v h).1, I (likeS g m t0 v h).2]) := by
  have hlen := hg.n1
  have hg0 := hg.n0
  have hL : len0 g ≤ 64 := by have := hg.l1; unfold len0; omega
  have hL0 : ((stripAt g 0).sam.length : Int) = len0 g := rfl
  have hgl := hg.l1
  have hw1 : 0 ≤ winA t0 h ∧ winA t0 h ≤ t0 ∧ t0 - h ≤ winA t0 h := by unfold winA; omega
  have hw2 : (winN g t0 h : Int) = min (len0 g - 1) (t0 + h) + 1 - winA t0 h := by unfold winN; omega
  have hw3 : winN g t0 h ≤ 9 := by omega
  obtain ⟨a, ha⟩ : ∃ a, winA t0 h = a := ⟨_, rfl⟩
  have hwa : max 0 (t0 - h) = a := ha
  rw [ha] at hw1 hw2
  have hbt : ∀ j : Nat, j < winN g t0 h → LB g (usedL g m (a + j) v) := fun j hj => LB.of (by have := usedL_len (g := g) (m := m) (t0 := a + j) (v := v); omega)
  have hNb : ∀ k, k ≤ winN g t0 h → -(274861129984 * (k : Int)) ≤ sumN (alikeN g m v a) k ∧ sumN (alikeN g m v a) k ≤ 274861129984 * k := fun k hk => sumN_bound fun j hj => (hbt j (by omega)).nd.1
  have hDb : ∀ k, k ≤ winN g t0 h → -(274861129984 * (k : Int)) ≤ sumN (alikeD g m v a) k ∧ sumN (alikeD g m v a) k ≤ 274861129984 * k := fun k hk => sumN_bound fun j hj => (hbt j (by omega)).nd.2
  refine Pure.fn tys_ok Tryd.func62 (by kernel_rfl) rfl rfl fun O => ?_
  repeat refine W_seq ?_
  refine' W_run tys_ok EE_ok false false [] rfl ?ap34 ?k34
  case ap34 => (repeat' (first | exact True.intro | exact ACoeL.refl _ | assumption | omega | rfl | (dsimp only; omega) | (refine ⟨?_, ?_⟩) | intro (_ : _ = true) | exact fun _ _ => rfl | fail)); all_goals ((try simp only [Int.toNat_natCast, Int.toNat_zero]); omega)
  repeat refine W_seq ?_
  refine' W_run tys_ok EE_ok false false [] rfl ?ap35 ?k35
  case ap35 => (repeat' (first | exact True.intro | exact ACoeL.refl _ | assumption | omega | rfl | (dsimp only; omega) | (refine ⟨?_, ?_⟩) | intro (_ : _ = true) | exact fun _ _ => rfl | fail)); all_goals ((try simp only [Int.toNat_natCast, Int.toNat_zero]); omega)
  repeat refine W_seq ?_
  refine' W_run tys_ok EE_ok false false [] rfl ?ap36 ?k36
  case ap36 => (repeat' (first | exact True.intro | exact ACoeL.refl _ | assumption | omega | rfl | (dsimp only; omega) | (refine ⟨?_, ?_⟩) | intro (_ : _ = true) | exact fun _ _ => rfl | fail)); all_goals ((try simp only [Int.toNat_natCast, Int.toNat_zero]); omega)
  repeat refine W_seq ?_
  refine W_block ?_
  refine W_loop (X := Nat) (fun k => ⟨[(0, aG g), (2, I t0), (3, I v), (4, I h), (6, .bp 0 0), (10, .bp 1 0), (11, .bp 2 0), (12, I (a + k))], ⟨3, [(0, .box [I m.start, I m.n, I m.d, I m.stretch]), (1, .box [I 0, I 0]), (2, .box [I (sumN (alikeN g m v a) k), I (sumN (alikeD g m v a) k)])]⟩⟩)
    (fun k => k ≤ winN g t0 h) (fun k => winN g t0 h - k) 0 (by omega) ?_ ?_ ?_
  · exact Le_mk ⟨ACoe.refl _, rfl, ACoe.refl _, rfl, ACoe.refl _, rfl, ACoe.refl _, rfl, ACoe.refl _, rfl, ACoe.refl _, rfl, ACoe.refl _, rfl, I_eq (by show max 0 (t0 - h) = a + (0 : Nat); omega), rfl, trivial⟩ ⟨⟨ACoeL.refl _, rfl, rfl⟩, rfl, ⟨ACoeL.refl _, rfl, rfl⟩, rfl, ⟨ACoeL.refl _, rfl, rfl⟩, rfl, trivial⟩
  · exact fun x => Sub_of rfl
  · intro k hk
    repeat refine W_seq ?_
    refine' W_run tys_ok EE_ok false false [] rfl ?ap37 ?k37
    case ap37 => (repeat' (first | exact True.intro | exact ACoeL.refl _ | assumption | omega | rfl | (dsimp only; omega) | (refine ⟨?_, ?_⟩) | intro (_ : _ = true) | exact fun _ _ => rfl | fail)); all_goals ((try simp only [Int.toNat_natCast, Int.toNat_zero]); omega)
    repeat refine W_seq ?_
    refine W_if rfl True.intro (fun h1 => ?_) (fun h1 => ?_)
    · refine W_skip ?_
      have h1' : a + k ≤ t0 + h ∧ a + k < len0 g := by
        rw [← hL0]
        cases hd : decide (a + (k : Int) ≤ t0 + h) with
        | false => rw [hd] at h1; simp at h1
        | true =>
          rw [hd, cond_true] at h1
          exact ⟨of_decide_eq_true hd, of_decide_eq_true h1⟩
      have hlt : k < winN g t0 h := by omega
      have ht : 0 ≤ a + k ∧ a + k ≤ 63 := by omega
      have hN1 := hNb k (by omega); have hN2 := hNb (k + 1) (by omega)
      have hD1 := hDb k (by omega); have hD2 := hDb (k + 1) (by omega)
      simp only [sumN] at hN2 hD2
      have hall := hbt k hlt
      have hnd := hall.nd
      have hB1 := hall.n; have hB2 := hall.s; have hB3 := hall.q
      have hln := lineR_ok g m (a + k) v hg hm ht hv
      have hmem : ∀ j, j < (lineL g m (a + k) v).length → UOk g ((lineL g m (a + k) v).getD j (0, 0)) ∧ -32767 ≤ smpAt g ((lineL g m (a + k) v).getD j (0, 0)) ∧ smpAt g ((lineL g m (a + k) v).getD j (0, 0)) ≤ 32767 := fun j hj => lineL_mem (getD_mem hj _)
      have hsub : ∀ j, -(1073676289 * ((j : Nat) : Int)) ≤ sumL (sqAt g) ((lineL g m (a + k) v).take j) ∧ sumL (sqAt g) ((lineL g m (a + k) v).take j) ≤ 1073676289 * j := fun j => by
        have h1 := sumL_bound (f := sqAt g) (B := 1073676289) (by omega) (l := (lineL g m (a + k) v).take j) (fun p hp => sq_bound (g := g) (l := usedL g m (a + k) v) p (List.mem_of_mem_take hp))
        have h2 := List.length_take_le j (lineL g m (a + k) v)
        omega
      have hnx1 : sumN (alikeN g m v a) (k + 1) = sumN (alikeN g m v a) k + lineSum g m (a + k) v * lineSum g m (a + k) v := rfl
      have hnx2 : sumN (alikeD g m v a) (k + 1) = sumN (alikeD g m v a) k + ((lineL g m (a + k) v).length : Int) * sumL (sqAt g) (lineL g m (a + k) v) := rfl
      change (kept g (usedL g m (a + k) v)).length ≤ 16 at hB1
      change (-274861129984 ≤ lineSum g m (a + k) v * lineSum g m (a + k) v ∧ lineSum g m (a + k) v * lineSum g m (a + k) v ≤ 274861129984) ∧ (-274861129984 ≤ ((lineL g m (a + k) v).length : Int) * sumL (sqAt g) (lineL g m (a + k) v) ∧ ((lineL g m (a + k) v).length : Int) * sumL (sqAt g) (lineL g m (a + k) v) ≤ 274861129984) at hnd
      obtain ⟨L, hLL⟩ : ∃ L, lineL g m (a + k) v = L := ⟨_, rfl⟩
      have hB1' : L.length ≤ 16 := by rw [← hLL]; exact hB1
      rw [hLL] at hln hmem hsub hnd hnx2
      obtain ⟨sm, hsm⟩ : ∃ sm, lineSum g m (a + k) v = sm := ⟨_, rfl⟩
      rw [hsm] at hln hnd hnx1
      repeat refine W_seq ?_
      refine W_block ?_
      repeat refine W_seq ?_
      refine' W_run tys_ok EE_ok false false [Hint.of hln] rfl ?ap39 ?k39
      case ap39 => (repeat' (first | exact True.intro | exact ACoeL.refl _ | assumption | omega | rfl | (dsimp only; omega) | (refine ⟨?_, ?_⟩) | intro (_ : _ = true) | exact fun _ _ => rfl | fail)); all_goals ((try simp only [Int.toNat_natCast, Int.toNat_zero]); omega)
      repeat refine W_seq ?_
      refine' W_run tys_ok EE_ok false false [] rfl ?ap40 ?k40
      case ap40 => (repeat' (first | exact True.intro | exact ACoeL.refl _ | assumption | omega | rfl | (dsimp only; omega) | (refine ⟨?_, ?_⟩) | intro (_ : _ = true) | exact fun _ _ => rfl | fail)); all_goals ((try simp only [Int.toNat_natCast, Int.toNat_zero]); omega)
      repeat refine W_seq ?_
      refine' W_run tys_ok EE_ok false false [] rfl ?ap41 ?k41
      case ap41 => (repeat' (first | exact True.intro | exact ACoeL.refl _ | assumption | omega | rfl | (dsimp only; omega) | (refine ⟨?_, ?_⟩) | intro (_ : _ = true) | exact fun _ _ => rfl | fail)); all_goals ((try simp only [Int.toNat_natCast, Int.toNat_zero]); omega)
      repeat refine W_seq ?_
      refine W_block ?_
      refine W_loop (X := Nat) (fun j => ⟨[(0, aG g), (2, I t0), (3, I v), (4, I h), (6, .bp 0 0), (10, .bp 1 0), (11, .bp 2 0), (12, I (a + k)), (13, .bp 3 0), (14, I (sumL (sqAt g) (L.take j))), (15, I j)], ⟨4, [(0, .box [I m.start, I m.n, I m.d, I m.stretch]), (1, .box [I 0, I 0]), (2, .box [I (sumN (alikeN g m v a) k), I (sumN (alikeD g m v a) k)]), (3, .box [I sm, .p (pNs L)])]⟩⟩)
        (fun j => j ≤ L.length) (fun j => L.length - j) 0 (by omega) ?_ ?_ ?_
      · exact Le_mk ⟨ACoe.refl _, rfl, ACoe.refl _, rfl, ACoe.refl _, rfl, ACoe.refl _, rfl, ACoe.refl _, rfl, ACoe.refl _, rfl, ACoe.refl _, rfl, ACoe.refl _, rfl, ACoe.refl _, rfl, ACoe.refl _, rfl, ACoe.refl _, rfl, trivial⟩ ⟨⟨ACoeL.refl _, rfl, rfl⟩, rfl, ⟨⟨ACoeL.refl _, rfl, rfl⟩, rfl, ⟨⟨ACoeL.refl _, rfl, rfl⟩, rfl, ⟨⟨ACoeL.refl _, rfl, rfl⟩, rfl, trivial⟩⟩⟩⟩
      · exact fun x => Sub_of rfl
      · intro j hj
        repeat refine W_seq ?_
        refine' W_run tys_ok EE_ok false false [] rfl ?ap42 ?k42
        case ap42 => (repeat' (first | exact True.intro | exact ACoeL.refl _ | assumption | omega | rfl | (dsimp only; omega) | (refine ⟨?_, ?_⟩) | intro (_ : _ = true) | exact fun _ _ => rfl | fail)); all_goals ((try simp only [Int.toNat_natCast, Int.toNat_zero]); omega)
        repeat refine W_seq ?_
        refine W_if rfl True.intro (fun h2 => ?_) (fun h2 => ?_)
        · refine W_skip ?_
          simp only [decide_eq_true_eq] at h2
          have hjl : j < L.length := by omega
          have hp := hmem j hjl
          have hsn := take_snoc hjl (0, 0)
          have hs1 := hsub j
          obtain ⟨⟨i, t⟩, hpk⟩ : ∃ p, L.getD j (0, 0) = p := ⟨_, rfl⟩
          have hpk1 : (L.getD j (0, 0)).1 = i := by rw [hpk]
          have hpk2 : (L.getD j (0, 0)).2 = t := by rw [hpk]
          have q0 : 0 ≤ (L.getD j (0, 0)).2 := hp.1.t0
          have q1 : (L.getD j (0, 0)).2.toNat < (stripAt g (L.getD j (0, 0)).1).sam.length := hp.1.t1
          have q2 : (L.getD j (0, 0)).2 < (stripAt g (L.getD j (0, 0)).1).sam.length := hp.1.t2
          have q3 : (L.getD j (0, 0)).1 < g.length := hp.1.i
          repeat refine W_seq ?_
          refine W_block ?_
          repeat refine W_seq ?_
          refine' W_any tys_ok EE_ok mixed false [] rfl (fun te ts => by kernel_rfl) (by kernel_rfl) ?ap44 ?k44
          case ap44 => (repeat' (first | exact True.intro | exact ACoeL.refl _ | assumption | omega | rfl | (dsimp only; omega) | (refine ⟨?_, ?_⟩) | intro (_ : _ = true) | exact fun _ _ => rfl | fail)); all_goals ((try simp only [Int.toNat_natCast, Int.toNat_zero]); omega)
          obtain ⟨x, hx⟩ : ∃ x, smpAt g (L.getD j (0, 0)) = x := ⟨_, rfl⟩
          refine W_le (σ' := ⟨[(0, aG g), (2, I t0), (3, I v), (4, I h), (6, .bp 0 0), (10, .bp 1 0), (11, .bp 2 0), (12, I (a + k)), (13, .bp 3 0), (14, I (sumL (sqAt g) (L.take j))), (15, I j), (16, I x)], ⟨4, [(0, .box [I m.start, I m.n, I m.d, I m.stretch]), (1, .box [I 0, I 0]), (2, .box [I (sumN (alikeN g m v a) k), I (sumN (alikeD g m v a) k)]), (3, .box [I sm, .p (pNs L)])]⟩⟩) (Le_mk ⟨ACoe.refl _, rfl, ACoe.refl _, rfl, ACoe.refl _, rfl, ACoe.refl _, rfl, ACoe.refl _, rfl, ACoe.refl _, rfl, ACoe.refl _, rfl, ACoe.refl _, rfl, ACoe.refl _, rfl, ACoe.refl _, rfl, ACoe.refl _, rfl, I_eq hx, rfl, trivial⟩ ⟨⟨ACoeL.refl _, rfl, rfl⟩, rfl, ⟨ACoeL.refl _, rfl, rfl⟩, rfl, ⟨ACoeL.refl _, rfl, rfl⟩, rfl, ⟨ACoeL.refl _, rfl, rfl⟩, rfl, trivial⟩) (Sub_of rfl) ?_
          have hxb := hp.2
          rw [hx] at hxb
          have hxx := mul_bound (a := x) (b := x) (A := 32767) (B := 32767) (by omega) (by omega) (by omega) (by omega)
          repeat refine W_seq ?_
          refine' W_run tys_ok EE_ok false false [] rfl ?ap45 ?k45
          case ap45 => (repeat' (first | exact True.intro | exact ACoeL.refl _ | assumption | omega | rfl | (dsimp only; omega) | (refine ⟨?_, ?_⟩) | intro (_ : _ = true) | exact fun _ _ => rfl | fail)); all_goals ((try simp only [Int.toNat_natCast, Int.toNat_zero]); omega)
          repeat refine W_seq ?_
          refine' W_run tys_ok EE_ok false false [] rfl ?ap46 ?k46
          case ap46 => (repeat' (first | exact True.intro | exact ACoeL.refl _ | assumption | omega | rfl | (dsimp only; omega) | (refine ⟨?_, ?_⟩) | intro (_ : _ = true) | exact fun _ _ => rfl | fail)); all_goals ((try simp only [Int.toNat_natCast, Int.toNat_zero]); omega)
          have hsq : sumL (sqAt g) (L.take (j + 1)) = sumL (sqAt g) (L.take j) + x * x := by
            rw [hsn, sumL_append]; simp only [sumL, Int.add_zero, sqAt, hx]
          refine ⟨j + 1, by omega, by omega, ?_⟩
          rw [hsq]
          exact Le_mk ⟨ACoe.refl _, rfl, ACoe.refl _, rfl, ACoe.refl _, rfl, ACoe.refl _, rfl, ACoe.refl _, rfl, ACoe.refl _, rfl, ACoe.refl _, rfl, ACoe.refl _, rfl, ACoe.refl _, rfl, ACoe.refl _, rfl, ACoe.refl _, rfl, trivial⟩ ⟨⟨ACoeL.refl _, rfl, rfl⟩, rfl, ⟨⟨ACoeL.refl _, rfl, rfl⟩, rfl, ⟨⟨ACoeL.refl _, rfl, rfl⟩, rfl, ⟨⟨ACoeL.refl _, rfl, rfl⟩, rfl, trivial⟩⟩⟩⟩
        · refine W_exit ?_
          simp only [decide_eq_false_iff_not] at h2
          have hje : j = L.length := by omega
          subst hje
          rw [List.take_length]
          repeat refine W_seq ?_
          refine' W_run tys_ok EE_ok false false [] rfl ?ap47 ?k47
          case ap47 => (repeat' (first | exact True.intro | exact ACoeL.refl _ | assumption | omega | rfl | (dsimp only; omega) | (refine ⟨?_, ?_⟩) | intro (_ : _ = true) | exact fun _ _ => rfl | fail)); all_goals ((try simp only [Int.toNat_natCast, Int.toNat_zero]); omega)
          repeat refine W_seq ?_
          refine' W_run tys_ok EE_ok false false [] rfl ?ap48 ?k48
          case ap48 => (repeat' (first | exact True.intro | exact ACoeL.refl _ | assumption | omega | rfl | (dsimp only; omega) | (refine ⟨?_, ?_⟩) | intro (_ : _ = true) | exact fun _ _ => rfl | fail)); all_goals ((try simp only [Int.toNat_natCast, Int.toNat_zero]); omega)
          refine ⟨k + 1, by omega, by omega, ?_⟩
          rw [hnx1, hnx2]
          exact Le_mk ⟨ACoe.refl _, rfl, ACoe.refl _, rfl, ACoe.refl _, rfl, ACoe.refl _, rfl, ACoe.refl _, rfl, ACoe.refl _, rfl, ACoe.refl _, rfl, I_eq (by omega), rfl, trivial⟩ ⟨⟨ACoeL.refl _, rfl, rfl⟩, rfl, ⟨ACoeL.refl _, rfl, rfl⟩, rfl, ⟨ACoeL.refl _, rfl, rfl⟩, rfl, trivial⟩
    · refine W_exit ?_
      have h1' : ¬ (a + k ≤ t0 + h ∧ a + k < len0 g) := by
        rintro ⟨x1, x2⟩
        have e1 : (bif decide (a + (k : Int) ≤ t0 + h) then decide (a + (k : Int) < len0 g) else false) = true := by
          rw [decide_eq_true x1, decide_eq_true x2]; rfl
        exact absurd (e1.symm.trans h1) (by decide)
      have hke : k = winN g t0 h := by omega
      subst hke
      repeat refine W_seq ?_
      refine' W_run tys_ok EE_ok false false [] rfl ?ap49 ?k49
      case ap49 => (repeat' (first | exact True.intro | exact ACoeL.refl _ | assumption | omega | rfl | (dsimp only; omega) | (refine ⟨?_, ?_⟩) | intro (_ : _ = true) | exact fun _ _ => rfl | fail)); all_goals ((try simp only [Int.toNat_natCast, Int.toNat_zero]); omega)
      repeat refine W_seq ?_
      refine W_if rfl True.intro (fun h3 => ?_) (fun h3 => ?_)
      · have h3 : (sumN (alikeD g m v a) (winN g t0 h) == 0) = true := h3
        repeat refine W_seq ?_
        refine' W_run tys_ok EE_ok false false [] rfl ?ap51 ?k51
        case ap51 => (repeat' (first | exact True.intro | exact ACoeL.refl _ | assumption | omega | rfl | (dsimp only; omega) | (refine ⟨?_, ?_⟩) | intro (_ : _ = true) | exact fun _ _ => rfl | fail)); all_goals ((try simp only [Int.toNat_natCast, Int.toNat_zero]); omega)
        refine W_ret ⟨_, _, rfl, ?_, (by simp only [likeS, likeD, ha, h3]; exact ACoe.refl _)⟩
        · repeat' (first | exact True.intro | exact ACoeL.refl _ | assumption | omega | rfl | (dsimp only; omega) | (refine ⟨?_, ?_⟩) | intro (_ : _ = true) | exact fun _ _ => rfl | fail)
      · have h3 : (sumN (alikeD g m v a) (winN g t0 h) == 0) = false := h3
        refine W_skip ?_
        repeat refine W_seq ?_
        refine' W_run tys_ok EE_ok false false [] rfl ?ap53 ?k53
        case ap53 => (repeat' (first | exact True.intro | exact ACoeL.refl _ | assumption | omega | rfl | (dsimp only; omega) | (refine ⟨?_, ?_⟩) | intro (_ : _ = true) | exact fun _ _ => rfl | fail)); all_goals ((try simp only [Int.toNat_natCast, Int.toNat_zero]); omega)
        refine W_ret ⟨_, _, rfl, ?_, (by simp only [likeS, likeD, likeN, ha, h3]; exact ACoe.refl _)⟩
        · repeat' (first | exact True.intro | exact ACoeL.refl _ | assumption | omega | rfl | (dsimp only; omega) | (refine ⟨?_, ?_⟩) | intro (_ : _ = true) | exact fun _ _ => rfl | fail)

theorem Alike2R_ok (g : List Strip) (m : Mute) (t0 v h : Int) (hg : GB g) : Pure Tryd.prog GG 24 [aG g, m.enc, I t0, I v, I h] (.tup [.agg [I (AlikeS g m t0 v h).1.1, I (AlikeS g m t0 v h).1.2], I (AlikeS g m t0 v h).2]) := by
  refine Pure.fn tys_ok Tryd.func24 (by kernel_rfl) rfl rfl fun O => ?_
  repeat refine W_seq ?_
  refine' W_run tys_ok EE_ok false false [] rfl ?ap56 ?k56
  case ap56 => (repeat' (first | exact True.intro | exact ACoeL.refl _ | assumption | omega | rfl | (dsimp only; omega) | (refine ⟨?_, ?_⟩) | intro (_ : _ = true) | exact fun _ _ => rfl | fail)); all_goals ((try simp only [Int.toNat_natCast, Int.toNat_zero]); omega)
  repeat refine W_seq ?_
  refine' W_run tys_ok EE_ok false false [Hint.of (gatherR_ok g hg)] rfl ?ap57 ?k57
  case ap57 => (repeat' (first | exact True.intro | exact ACoeL.refl _ | assumption | omega | rfl | (dsimp only; omega) | (refine ⟨?_, ?_⟩) | intro (_ : _ = true) | exact fun _ _ => rfl | fail)); all_goals ((try simp only [Int.toNat_natCast, Int.toNat_zero]); omega)
  repeat refine W_seq ?_
  refine W_if rfl True.intro (fun h1 => ?_) (fun h1 => ?_)
  · have hgb : gatherB g = false := by simpa using h1
    repeat refine W_seq ?_
    refine' W_run tys_ok EE_ok false false [] rfl ?ap59 ?k59
    case ap59 => (repeat' (first | exact True.intro | exact ACoeL.refl _ | assumption | omega | rfl | (dsimp only; omega) | (refine ⟨?_, ?_⟩) | intro (_ : _ = true) | exact fun _ _ => rfl | fail)); all_goals ((try simp only [Int.toNat_natCast, Int.toNat_zero]); omega)
    refine W_ret ⟨_, _, rfl, ?_, (by simp only [AlikeS, hgb, Bool.false_and, cond_false, errS]; exact ACoe.refl _)⟩
    · repeat' (first | exact True.intro | exact ACoeL.refl _ | assumption | omega | rfl | (dsimp only; omega) | (refine ⟨?_, ?_⟩) | intro (_ : _ = true) | exact fun _ _ => rfl | fail)
  have hgb : gatherB g = true := by simpa using h1
  have hgo := GOk.of hgb
  refine W_skip ?_
  repeat refine W_seq ?_
  refine' W_run tys_ok EE_ok false false [Hint.of (CheckMuteR_ok m)] rfl ?ap61 ?k61
  case ap61 => (repeat' (first | exact True.intro | exact ACoeL.refl _ | assumption | omega | rfl | (dsimp only; omega) | (refine ⟨?_, ?_⟩) | intro (_ : _ = true) | exact fun _ _ => rfl | fail)); all_goals ((try simp only [Int.toNat_natCast, Int.toNat_zero]); omega)
  repeat refine W_seq ?_
  refine' W_run tys_ok EE_ok false false [] rfl ?ap62 ?k62
  case ap62 => (repeat' (first | exact True.intro | exact ACoeL.refl _ | assumption | omega | rfl | (dsimp only; omega) | (refine ⟨?_, ?_⟩) | intro (_ : _ = true) | exact fun _ _ => rfl | fail)); all_goals ((try simp only [Int.toNat_natCast, Int.toNat_zero]); omega)
  repeat refine W_seq ?_
  refine W_if rfl True.intro (fun h2 => ?_) (fun h2 => ?_)
  · have hmo : m.ok = false := by
      cases hm : m.ok with
      | false => rfl
      | true => simp [Mute.err, hm] at h2
    repeat refine W_seq ?_
    refine' W_run tys_ok EE_ok false false [] rfl ?ap64 ?k64
    case ap64 => (repeat' (first | exact True.intro | exact ACoeL.refl _ | assumption | omega | rfl | (dsimp only; omega) | (refine ⟨?_, ?_⟩) | intro (_ : _ = true) | exact fun _ _ => rfl | fail)); all_goals ((try simp only [Int.toNat_natCast, Int.toNat_zero]); omega)
    refine W_ret ⟨_, _, rfl, ?_, (by simp only [AlikeS, hgb, hmo, Bool.and_false, cond_false, errS, cond_true]; exact ACoe.refl _)⟩
    · repeat' (first | exact True.intro | exact ACoeL.refl _ | assumption | omega | rfl | (dsimp only; omega) | (refine ⟨?_, ?_⟩) | intro (_ : _ = true) | exact fun _ _ => rfl | fail)
  have hmo : m.ok = true := by
    cases hm : m.ok with
    | true => rfl
    | false => simp [Mute.err, hm] at h2
  have hmk := MOk.of hmo
  have h2' : (gatherB g && m.ok) = true := by rw [hgb, hmo]; rfl
  refine W_skip ?_
  repeat refine W_seq ?_
  refine' W_run tys_ok EE_ok false false [Hint.of (windowsR_ok g t0 h hgo)] rfl ?ap66 ?k66
  case ap66 => (repeat' (first | exact True.intro | exact ACoeL.refl _ | assumption | omega | rfl | (dsimp only; omega) | (refine ⟨?_, ?_⟩) | intro (_ : _ = true) | exact fun _ _ => rfl | fail)); all_goals ((try simp only [Int.toNat_natCast, Int.toNat_zero]); omega)
  repeat refine W_seq ?_
  refine' W_run tys_ok EE_ok false false [] rfl ?ap67 ?k67
  case ap67 => (repeat' (first | exact True.intro | exact ACoeL.refl _ | assumption | omega | rfl | (dsimp only; omega) | (refine ⟨?_, ?_⟩) | intro (_ : _ = true) | exact fun _ _ => rfl | fail)); all_goals ((try simp only [Int.toNat_natCast, Int.toNat_zero]); omega)
  repeat refine W_seq ?_
  refine W_if rfl True.intro (fun h3 => ?_) (fun h3 => ?_)
  · have h4 : winB g t0 h = false := by cases hw : winB g t0 h with
      | false => rfl
      | true => have h3 : ((bif winB g t0 h then (0 : Int) else 93) != 0) = true := h3
                rw [hw] at h3; simp at h3
    repeat refine W_seq ?_
    refine' W_run tys_ok EE_ok false false [] rfl ?ap69 ?k69
    case ap69 => (repeat' (first | exact True.intro | exact ACoeL.refl _ | assumption | omega | rfl | (dsimp only; omega) | (refine ⟨?_, ?_⟩) | intro (_ : _ = true) | exact fun _ _ => rfl | fail)); all_goals ((try simp only [Int.toNat_natCast, Int.toNat_zero]); omega)
    refine W_ret ⟨_, _, rfl, ?_, (by simp only [AlikeS, h2', h4, cond_false, cond_true]; exact ACoe.refl _)⟩
    · repeat' (first | exact True.intro | exact ACoeL.refl _ | assumption | omega | rfl | (dsimp only; omega) | (refine ⟨?_, ?_⟩) | intro (_ : _ = true) | exact fun _ _ => rfl | fail)
  have h4 : winB g t0 h = true := by cases hw : winB g t0 h with
    | true => rfl
    | false => have h3 : ((bif winB g t0 h then (0 : Int) else 93) != 0) = false := h3
               rw [hw] at h3; simp at h3
  have h5 := winB_iff.1 h4
  refine W_skip ?_
  repeat refine W_seq ?_
  refine' W_run tys_ok EE_ok false false [Hint.of (Between_ok v 1 1000)] rfl ?ap71 ?k71
  case ap71 => (repeat' (first | exact True.intro | exact ACoeL.refl _ | assumption | omega | rfl | (dsimp only; omega) | (refine ⟨?_, ?_⟩) | intro (_ : _ = true) | exact fun _ _ => rfl | fail)); all_goals ((try simp only [Int.toNat_natCast, Int.toNat_zero]); omega)
  repeat refine W_seq ?_
  refine W_if rfl True.intro (fun h6 => ?_) (fun h6 => ?_)
  · have h7 : within v 1 1000 = false := by simpa using h6
    repeat refine W_seq ?_
    refine' W_run tys_ok EE_ok false false [] rfl ?ap73 ?k73
    case ap73 => (repeat' (first | exact True.intro | exact ACoeL.refl _ | assumption | omega | rfl | (dsimp only; omega) | (refine ⟨?_, ?_⟩) | intro (_ : _ = true) | exact fun _ _ => rfl | fail)); all_goals ((try simp only [Int.toNat_natCast, Int.toNat_zero]); omega)
    refine W_ret ⟨_, _, rfl, ?_, (by simp only [AlikeS, h2', h4, h7, cond_false, cond_true]; exact ACoe.refl _)⟩
    · repeat' (first | exact True.intro | exact ACoeL.refl _ | assumption | omega | rfl | (dsimp only; omega) | (refine ⟨?_, ?_⟩) | intro (_ : _ = true) | exact fun _ _ => rfl | fail)
  have h7 : within v 1 1000 = true := by simpa using h6
  have h8 := within_iff.1 h7
  refine W_skip ?_
  repeat refine W_seq ?_
  refine' W_run tys_ok EE_ok false false [Hint.of (alikeR_ok g m t0 v h hgo hmk ⟨by omega, by omega⟩ h8 h5.2)] rfl ?ap75 ?k75
  case ap75 => (repeat' (first | exact True.intro | exact ACoeL.refl _ | assumption | omega | rfl | (dsimp only; omega) | (refine ⟨?_, ?_⟩) | intro (_ : _ = true) | exact fun _ _ => rfl | fail)); all_goals ((try simp only [Int.toNat_natCast, Int.toNat_zero]); omega)
  refine W_ret ⟨_, _, rfl, ?_, (by simp only [AlikeS, h2', h4, h7, cond_true]; exact ACoe.refl _)⟩
  · repeat' (first | exact True.intro | exact ACoeL.refl _ | assumption | omega | rfl | (dsimp only; omega) | (refine ⟨?_, ?_⟩) | intro (_ : _ = true) | exact fun _ _ => rfl | fail)
end Go.Proofs.YtobpnmljijeadaaDoor.A

/- Contracts: the reference's Least, enough, chosen, Picks. -/
set_option linter.unusedVariables false
set_option linter.unusedSimpArgs false
namespace Go.Proofs.YtobpnmljijeadaaDoor.A
open Go

def ltB (a b c d : Int) : Bool := decide (a * d < c * b)
theorem ltB_ne {a b c d : Int} (hb : 1 ≤ b) (hd : 1 ≤ d) (h : a / b ≠ c / d) : ltB a b c d = decide (a / b < c / d) := by
  have a1 := Int.emod_add_mul_ediv a b
  have a2 := Int.emod_nonneg a (show b ≠ 0 by omega)
  have a3 := Int.emod_lt_of_pos a (show 0 < b by omega)
  have c1 := Int.emod_add_mul_ediv c d
  have c2 := Int.emod_nonneg c (show d ≠ 0 by omega)
  have c3 := Int.emod_lt_of_pos c (show 0 < d by omega)
  unfold ltB
  rcases Int.lt_or_gt_of_ne h with h1 | h1
  · rw [decide_eq_true h1, decide_eq_true_eq]
    have e1 : b * (a / b) + b ≤ b * (c / d) := by
      have := Int.mul_le_mul_of_nonneg_left (show a / b + 1 ≤ c / d by omega) (show 0 ≤ b by omega)
      rw [Int.mul_add, Int.mul_one] at this; omega
    have e2 : a * d < (b * (c / d)) * d := Int.mul_lt_mul_of_pos_right (by omega) (by omega)
    have e3 : (d * (c / d)) * b ≤ c * b := Int.mul_le_mul_of_nonneg_right (by omega) (by omega)
    have e4 : (b * (c / d)) * d = (d * (c / d)) * b := by grind
    omega
  · rw [show decide (a / b < c / d) = false from decide_eq_false (by omega), decide_eq_false_iff_not]
    have e1 : d * (c / d) + d ≤ d * (a / b) := by
      have := Int.mul_le_mul_of_nonneg_left (show c / d + 1 ≤ a / b by omega) (show 0 ≤ d by omega)
      rw [Int.mul_add, Int.mul_one] at this; omega
    have e2 : c * b < (d * (a / b)) * b := Int.mul_lt_mul_of_pos_right (by omega) (by omega)
    have e3 : (b * (a / b)) * d ≤ a * d := Int.mul_le_mul_of_nonneg_right (by omega) (by omega)
    have e4 : (b * (a / b)) * d = (d * (a / b)) * b := by grind
    omega
theorem ltB_rem {a b c d : Int} (h : a / b = c / d) : ltB a b c d = ltB (a % b) b (c % d) d := by
  have a1 := Int.emod_add_mul_ediv a b
  have c1 := Int.emod_add_mul_ediv c d
  unfold ltB
  have e1 : a * d = a % b * d + b * (c / d) * d := by
    rw [← h, ← Int.add_mul, a1]
  have e2 : c * b = c % d * b + b * (c / d) * d := by
    have : b * (c / d) * d = d * (c / d) * b := by grind
    rw [this, ← Int.add_mul, c1]
  rw [e1, e2]
  congr 1
  exact propext ⟨fun h => by omega, fun h => by omega⟩
theorem ltB_zero {a b c d : Int} (ha : 0 ≤ a) (hb : 1 ≤ b) (hc : 0 ≤ c) (hd : 1 ≤ d) (h : a = 0 ∨ c = 0) : ltB a b c d = bif a == 0 then c != 0 else false := by
  unfold ltB
  by_cases h1 : a = 0
  · subst h1
    rw [Int.zero_mul]
    by_cases h2 : c = 0
    · subst h2; simp
    · have := Int.mul_pos (show 0 < c by omega) (show 0 < b by omega)
      simp [this, h2, bne]
  · have h2 : c = 0 := by omega
    subst h2
    have := Int.mul_nonneg ha (show 0 ≤ d by omega)
    have h3 : (a == 0) = false := by simpa using h1
    rw [h3, Int.zero_mul]
    simp; omega
theorem ltB_swap {a b c d : Int} : ltB d c b a = ltB a b c d := by
  unfold ltB; rw [Int.mul_comm d a, Int.mul_comm b c]

abbrev Q4 := Int × Int × Int × Int
structure QOk (x : Q4) : Prop where
  a0 : 0 ≤ x.1
  a1 : x.1 ≤ 4611686018427387904
  b0 : 1 ≤ x.2.1
  b1 : x.2.1 ≤ 4611686018427387904
  c0 : 0 ≤ x.2.2.1
  c1 : x.2.2.1 ≤ 4611686018427387904
  d0 : 1 ≤ x.2.2.2
  d1 : x.2.2.2 ≤ 4611686018427387904
theorem Least_ok (a b c d : Int) (h : QOk (a, b, c, d)) : Pure Tryd.prog GG 94 [I a, I b, I c, I d] (Bo (ltB a b c d)) := by
  obtain ⟨r, hr⟩ : ∃ r, ltB a b c d = r := ⟨_, rfl⟩
  rw [hr]
  refine Pure.fn tys_ok Tryd.func94 (by kernel_rfl) rfl rfl fun O => ?_
  repeat refine W_seq ?_
  refine' W_run tys_ok EE_ok false false [] rfl ?ap2 ?k2
  case ap2 => (repeat' (first | exact True.intro | exact ACoeL.refl _ | assumption | omega | rfl | (dsimp only; omega) | (refine ⟨?_, ?_⟩) | intro (_ : _ = true) | exact fun _ _ => rfl | fail)); all_goals ((try simp only [Int.toNat_natCast, Int.toNat_zero]); omega)
  repeat refine W_seq ?_
  refine W_block ?_
  refine W_loop (X := Q4) (fun x => ⟨[(0, I x.1), (1, I x.2.1), (2, I x.2.2.1), (3, I x.2.2.2)], ⟨0, []⟩⟩)
    (fun x => QOk x ∧ ltB x.1 x.2.1 x.2.2.1 x.2.2.2 = r) (fun x => (x.2.1 + x.2.2.2).toNat) (a, b, c, d) ⟨h, hr⟩ ?_ ?_ ?_
  · exact Le_mk ⟨ACoe.refl _, rfl, ACoe.refl _, rfl, ACoe.refl _, rfl, ACoe.refl _, rfl, trivial⟩ trivial
  · exact fun x => Sub_of rfl
  · rintro ⟨a, b, c, d⟩ ⟨hq, hr⟩
    obtain ⟨a0, a1, b0, b1, c0, c1, d0, d1⟩ := hq
    simp only at a0 a1 b0 b1 c0 c1 d0 d1 hr
    have q1 : a.tdiv b = a / b := Int.tdiv_eq_ediv_of_nonneg a0
    have q2 : c.tdiv d = c / d := Int.tdiv_eq_ediv_of_nonneg c0
    have q3 : a.tmod b = a % b := Int.tmod_eq_emod_of_nonneg a0
    have q4 : c.tmod d = c % d := Int.tmod_eq_emod_of_nonneg c0
    have s1 := ediv_bound (a := a) (b := b) (A := 4611686018427387904) (by omega) a1 b0
    have s2 := ediv_bound (a := c) (b := d) (A := 4611686018427387904) (by omega) c1 d0
    have r1 := Int.emod_nonneg a (show b ≠ 0 by omega)
    have r2 := Int.emod_lt_of_pos a (show 0 < b by omega)
    have r3 := Int.emod_nonneg c (show d ≠ 0 by omega)
    have r4 := Int.emod_lt_of_pos c (show 0 < d by omega)
    repeat refine W_seq ?_
    refine W_block ?_
    repeat refine W_seq ?_
    refine' W_any tys_ok EE_ok mixed false [] rfl (fun te ts => by kernel_rfl) (by kernel_rfl) ?ap3 ?k3
    case ap3 => (repeat' (first | exact True.intro | exact ACoeL.refl _ | assumption | omega | rfl | (dsimp only; omega) | (refine ⟨?_, ?_⟩) | intro (_ : _ = true) | exact fun _ _ => rfl | fail)); all_goals ((try simp only [Int.toNat_natCast, Int.toNat_zero]); omega)
    repeat refine W_seq ?_
    refine W_if rfl True.intro (fun h1 => ?_) (fun h1 => ?_)
    · have h2 : a / b ≠ c / d := by
        have h1 : (a.tdiv b != c.tdiv d) = true := h1
        rw [q1, q2] at h1; simpa using h1
      repeat refine W_seq ?_
      refine' W_any tys_ok EE_ok mixed false [] rfl (fun te ts => by kernel_rfl) (by kernel_rfl) ?ap5 ?k5
      case ap5 => (repeat' (first | exact True.intro | exact ACoeL.refl _ | assumption | omega | rfl | (dsimp only; omega) | (refine ⟨?_, ?_⟩) | intro (_ : _ = true) | exact fun _ _ => rfl | fail)); all_goals ((try simp only [Int.toNat_natCast, Int.toNat_zero]); omega)
      refine W_ret ⟨_, _, rfl, ?_, Bo_eq (by rw [← hr, ltB_ne b0 d0 h2, ← q1, ← q2])⟩
      · repeat' (first | exact True.intro | exact ACoeL.refl _ | assumption | omega | rfl | (dsimp only; omega) | (refine ⟨?_, ?_⟩) | intro (_ : _ = true) | exact fun _ _ => rfl | fail)
    have h2 : a / b = c / d := by
      have h1 : (a.tdiv b != c.tdiv d) = false := h1
      rw [q1, q2] at h1; simpa using h1
    rw [ltB_rem h2] at hr
    refine W_skip ?_
    repeat refine W_seq ?_
    refine' W_any tys_ok EE_ok mixed false [] rfl (fun te ts => by kernel_rfl) (by kernel_rfl) ?ap7 ?k7
    case ap7 => (repeat' (first | exact True.intro | exact ACoeL.refl _ | assumption | omega | rfl | (dsimp only; omega) | (refine ⟨?_, ?_⟩) | intro (_ : _ = true) | exact fun _ _ => rfl | fail)); all_goals ((try simp only [Int.toNat_natCast, Int.toNat_zero]); omega)
    obtain ⟨x, hx⟩ : ∃ x, a % b = x := ⟨_, rfl⟩
    obtain ⟨y, hy⟩ : ∃ y, c % d = y := ⟨_, rfl⟩
    rw [hx, hy] at hr
    rw [hx] at q3 r1 r2
    rw [hy] at q4 r3 r4
    refine W_le (σ' := ⟨[(0, I x), (1, I b), (2, I y), (3, I d)], ⟨0, []⟩⟩) (Le_mk ⟨I_eq q3, rfl, ACoe.refl _, rfl, I_eq q4, rfl, ACoe.refl _, rfl, trivial⟩ trivial) (Sub.refl _) ?_
    repeat refine W_seq ?_
    refine' W_run tys_ok EE_ok false false [] rfl ?ap8 ?k8
    case ap8 => (repeat' (first | exact True.intro | exact ACoeL.refl _ | assumption | omega | rfl | (dsimp only; omega) | (refine ⟨?_, ?_⟩) | intro (_ : _ = true) | exact fun _ _ => rfl | fail)); all_goals ((try simp only [Int.toNat_natCast, Int.toNat_zero]); omega)
    repeat refine W_seq ?_
    refine W_if rfl True.intro (fun h3 => ?_) (fun h3 => ?_)
    · have h4 : x = 0 ∨ y = 0 := by
        have h3 : (bif x == 0 then true else y == 0) = true := h3
        by_cases hx0 : x = 0
        · exact .inl hx0
        · rw [show (x == 0) = false by simpa using hx0] at h3; exact .inr (by simpa using h3)
      repeat refine W_seq ?_
      refine' W_run tys_ok EE_ok false false [] rfl ?ap10 ?k10
      case ap10 => (repeat' (first | exact True.intro | exact ACoeL.refl _ | assumption | omega | rfl | (dsimp only; omega) | (refine ⟨?_, ?_⟩) | intro (_ : _ = true) | exact fun _ _ => rfl | fail)); all_goals ((try simp only [Int.toNat_natCast, Int.toNat_zero]); omega)
      refine W_ret ⟨_, _, rfl, ?_, Bo_eq (by rw [← hr, ltB_zero r1 b0 r3 d0 h4])⟩
      · repeat' (first | exact True.intro | exact ACoeL.refl _ | assumption | omega | rfl | (dsimp only; omega) | (refine ⟨?_, ?_⟩) | intro (_ : _ = true) | exact fun _ _ => rfl | fail)
    · have h4 : x ≠ 0 ∧ y ≠ 0 := by
        have h3 : (bif x == 0 then true else y == 0) = false := h3
        by_cases hx0 : x = 0
        · rw [hx0] at h3; simp at h3
        · rw [show (x == 0) = false by simpa using hx0] at h3; exact ⟨hx0, by simpa using h3⟩
      refine W_skip ?_
      repeat refine W_seq ?_
      refine' W_run tys_ok EE_ok false false [] rfl ?ap12 ?k12
      case ap12 => (repeat' (first | exact True.intro | exact ACoeL.refl _ | assumption | omega | rfl | (dsimp only; omega) | (refine ⟨?_, ?_⟩) | intro (_ : _ = true) | exact fun _ _ => rfl | fail)); all_goals ((try simp only [Int.toNat_natCast, Int.toNat_zero]); omega)
      refine ⟨(d, y, b, x), ⟨⟨by dsimp only; omega, by dsimp only; omega, by dsimp only; omega, by dsimp only; omega, by dsimp only; omega, by dsimp only; omega, by dsimp only; omega, by dsimp only; omega⟩, ?_⟩, by dsimp only; omega, Le_mk ⟨ACoe.refl _, rfl, ACoe.refl _, rfl, ACoe.refl _, rfl, ACoe.refl _, rfl, trivial⟩ trivial⟩
      rw [← hr]; exact ltB_swap

theorem enough_ok (x y p : Int × Int) (hx : LkOk x) (hy : LkOk y) (hp : PtOk p) : Pure Tryd.prog GG 68 [aP x, aP p, aP y] (Bo (leastB x y p)) := by
  obtain ⟨a, b⟩ := x
  obtain ⟨c, d⟩ := y
  obtain ⟨n, e⟩ := p
  have x1 := hx.n0; have x2 := hx.n1; have x3 := hx.d0; have x4 := hx.d1
  have y1 := hy.n0; have y2 := hy.n1; have y3 := hy.d0; have y4 := hy.d1
  have p1 := hp.n0; have p2 := hp.n1; have p3 := hp.d1
  simp only at x1 x2 x3 x4 y1 y2 y3 y4 p1 p2 p3
  have q1 := mul_nn x1 x2 (show 0 ≤ e by omega) p3
  have q2 := mul_nn y1 y2 (show 0 ≤ n by omega) (show n ≤ 64 by omega)
  refine Pure.fn tys_ok Tryd.func68 (by kernel_rfl) rfl rfl fun O => ?_
  repeat refine W_seq ?_
  refine' W_run tys_ok EE_ok false false [] rfl ?ap14 ?k14
  case ap14 => (repeat' (first | exact True.intro | exact ACoeL.refl _ | assumption | omega | rfl | (dsimp only; omega) | (refine ⟨?_, ?_⟩) | intro (_ : _ = true) | exact fun _ _ => rfl | fail)); all_goals ((try simp only [Int.toNat_natCast, Int.toNat_zero]); omega)
  repeat refine W_seq ?_
  refine' W_run tys_ok EE_ok false false [Hint.of (Least_ok (a * e) b (c * n) d ⟨by dsimp only; omega, by dsimp only; omega, by dsimp only; omega, by dsimp only; omega, by dsimp only; omega, by dsimp only; omega, by dsimp only; omega, by dsimp only; omega⟩)] rfl ?ap15 ?k15
  case ap15 => (repeat' (first | exact True.intro | exact ACoeL.refl _ | assumption | omega | rfl | (dsimp only; omega) | (refine ⟨?_, ?_⟩) | intro (_ : _ = true) | exact fun _ _ => rfl | fail)); all_goals ((try simp only [Int.toNat_natCast, Int.toNat_zero]); omega)
  refine W_ret ⟨_, _, rfl, ?_, ?_⟩
  · repeat' (first | exact True.intro | exact ACoeL.refl _ | assumption | omega | rfl | (dsimp only; omega) | (refine ⟨?_, ?_⟩) | intro (_ : _ = true) | exact fun _ _ => rfl | fail)
  refine Bo_eq ?_
  show (!ltB (a * e) b (c * n) d) = leastB (a, b) (c, d) (n, e)
  unfold ltB leastB
  rw [← decide_not]
  congr 1
  show (¬ a * e * d < c * n * b) = (c * n * b ≤ a * e * d)
  exact propext ⟨fun h => by omega, fun h => by omega⟩

/-! ### chosen -/
def ascF (l : List Int) : Nat → Bool
  | 0 => true
  | k + 1 => ascF l k && (((k : Int) == 0) || decide (l.getD (k - 1) 0 < l.getD k 0))
theorem chF_eq {l : List Int} : ∀ {n : Nat}, n ≤ l.length → chF l n = ((l.take n).all (fun x => within x 1 1000) && ascF l n)
  | 0, _ => by simp [chF, ascF]
  | n + 1, h => by
    rw [chF, ascF, chF_eq (by omega), take_snoc (show n < l.length by omega) 0, List.all_append]
    simp only [List.all_cons, List.all_nil, Bool.and_true]
    cases (l.take n).all (fun x => within x 1 1000) <;> cases ascF l n <;> cases within (l.getD n 0) 1 1000 <;> simp
def chosenS (g : List Strip) (m : Mute) (t0 h : Int) (l : List Int) (p : Int × Int) : Int := bif m.ok then askedS g t0 h l p else 91
theorem chosen_ok (g : List Strip) (m : Mute) (t0 h : Int) (l : List Int) (p : Int × Int) (hg : GOk g) (hl : l.length < 1152921504606846976) :
    Pure Tryd.prog GG 67 [aG g, m.enc, I t0, I h, aL l, aP p] (I (chosenS g m t0 h l p)) := by
  refine Pure.fn tys_ok Tryd.func67 (by kernel_rfl) rfl rfl fun O => ?_
  repeat refine W_seq ?_
  refine' W_run tys_ok EE_ok false false [] rfl ?ap18 ?k18
  case ap18 => (repeat' (first | exact True.intro | exact ACoeL.refl _ | assumption | omega | rfl | (dsimp only; omega) | (refine ⟨?_, ?_⟩) | intro (_ : _ = true) | exact fun _ _ => rfl | fail)); all_goals ((try simp only [Int.toNat_natCast, Int.toNat_zero]); omega)
  repeat refine W_seq ?_
  refine' W_run tys_ok EE_ok false false [Hint.of (CheckMuteR_ok m)] rfl ?ap19 ?k19
  case ap19 => (repeat' (first | exact True.intro | exact ACoeL.refl _ | assumption | omega | rfl | (dsimp only; omega) | (refine ⟨?_, ?_⟩) | intro (_ : _ = true) | exact fun _ _ => rfl | fail)); all_goals ((try simp only [Int.toNat_natCast, Int.toNat_zero]); omega)
  repeat refine W_seq ?_
  refine' W_run tys_ok EE_ok false false [] rfl ?ap20 ?k20
  case ap20 => (repeat' (first | exact True.intro | exact ACoeL.refl _ | assumption | omega | rfl | (dsimp only; omega) | (refine ⟨?_, ?_⟩) | intro (_ : _ = true) | exact fun _ _ => rfl | fail)); all_goals ((try simp only [Int.toNat_natCast, Int.toNat_zero]); omega)
  repeat refine W_seq ?_
  refine W_if rfl True.intro (fun h2 => ?_) (fun h2 => ?_)
  · have hmo : m.ok = false := by
      cases hm : m.ok with
      | false => rfl
      | true => simp [Mute.err, hm] at h2
    repeat refine W_seq ?_
    refine' W_run tys_ok EE_ok false false [] rfl ?ap22 ?k22
    case ap22 => (repeat' (first | exact True.intro | exact ACoeL.refl _ | assumption | omega | rfl | (dsimp only; omega) | (refine ⟨?_, ?_⟩) | intro (_ : _ = true) | exact fun _ _ => rfl | fail)); all_goals ((try simp only [Int.toNat_natCast, Int.toNat_zero]); omega)
    refine W_ret ⟨_, _, rfl, ?_, I_eq (by simp only [chosenS, Mute.err, hmo, cond_false])⟩
    · repeat' (first | exact True.intro | exact ACoeL.refl _ | assumption | omega | rfl | (dsimp only; omega) | (refine ⟨?_, ?_⟩) | intro (_ : _ = true) | exact fun _ _ => rfl | fail)
  have hmo : m.ok = true := by
    cases hm : m.ok with
    | true => rfl
    | false => simp [Mute.err, hm] at h2
  refine W_skip ?_
  repeat refine W_seq ?_
  refine' W_run tys_ok EE_ok false false [Hint.of (windowsR_ok g t0 h hg)] rfl ?ap24 ?k24
  case ap24 => (repeat' (first | exact True.intro | exact ACoeL.refl _ | assumption | omega | rfl | (dsimp only; omega) | (refine ⟨?_, ?_⟩) | intro (_ : _ = true) | exact fun _ _ => rfl | fail)); all_goals ((try simp only [Int.toNat_natCast, Int.toNat_zero]); omega)
  repeat refine W_seq ?_
  refine' W_run tys_ok EE_ok false false [] rfl ?ap25 ?k25
  case ap25 => (repeat' (first | exact True.intro | exact ACoeL.refl _ | assumption | omega | rfl | (dsimp only; omega) | (refine ⟨?_, ?_⟩) | intro (_ : _ = true) | exact fun _ _ => rfl | fail)); all_goals ((try simp only [Int.toNat_natCast, Int.toNat_zero]); omega)
  repeat refine W_seq ?_
  refine W_if rfl True.intro (fun h3 => ?_) (fun h3 => ?_)
  · have h4 : winB g t0 h = false := by cases hw : winB g t0 h with
      | false => rfl
      | true => have h3 : ((bif winB g t0 h then (0 : Int) else 93) != 0) = true := h3
                rw [hw] at h3; simp at h3
    repeat refine W_seq ?_
    refine' W_run tys_ok EE_ok false false [] rfl ?ap27 ?k27
    case ap27 => (repeat' (first | exact True.intro | exact ACoeL.refl _ | assumption | omega | rfl | (dsimp only; omega) | (refine ⟨?_, ?_⟩) | intro (_ : _ = true) | exact fun _ _ => rfl | fail)); all_goals ((try simp only [Int.toNat_natCast, Int.toNat_zero]); omega)
    refine W_ret ⟨_, _, rfl, ?_, I_eq (by simp only [chosenS, askedS, hmo, h4, Bool.false_and, cond_false, cond_true])⟩
    · repeat' (first | exact True.intro | exact ACoeL.refl _ | assumption | omega | rfl | (dsimp only; omega) | (refine ⟨?_, ?_⟩) | intro (_ : _ = true) | exact fun _ _ => rfl | fail)
  have h4 : winB g t0 h = true := by cases hw : winB g t0 h with
    | true => rfl
    | false => have h3 : ((bif winB g t0 h then (0 : Int) else 93) != 0) = false := h3
               rw [hw] at h3; simp at h3
  refine W_skip ?_
  repeat refine W_seq ?_
  refine' W_run tys_ok EE_ok false false [] rfl ?ap29 ?k29
  case ap29 => (repeat' (first | exact True.intro | exact ACoeL.refl _ | assumption | omega | rfl | (dsimp only; omega) | (refine ⟨?_, ?_⟩) | intro (_ : _ = true) | exact fun _ _ => rfl | fail)); all_goals ((try simp only [Int.toNat_natCast, Int.toNat_zero]); omega)
  have hc : (bif (bif decide (p.1 < 1) then true else decide (p.1 > p.2)) then true else decide (p.2 > 64)) = !partB p := by
    unfold partB within
    by_cases u1 : p.1 < 1 <;> by_cases u2 : p.1 > p.2 <;> by_cases u3 : p.2 > 64 <;> simp [u1, u2, u3] <;> omega
  repeat refine W_seq ?_
  refine W_if rfl True.intro (fun h5 => ?_) (fun h5 => ?_)
  · have h6 : partB p = false := by rw [← Bool.not_eq_true', ← hc]; exact h5
    repeat refine W_seq ?_
    refine' W_run tys_ok EE_ok false false [] rfl ?ap31 ?k31
    case ap31 => (repeat' (first | exact True.intro | exact ACoeL.refl _ | assumption | omega | rfl | (dsimp only; omega) | (refine ⟨?_, ?_⟩) | intro (_ : _ = true) | exact fun _ _ => rfl | fail)); all_goals ((try simp only [Int.toNat_natCast, Int.toNat_zero]); omega)
    refine W_ret ⟨_, _, rfl, ?_, I_eq (by simp only [chosenS, askedS, hmo, h4, h6, Bool.true_and, cond_false, cond_true])⟩
    · repeat' (first | exact True.intro | exact ACoeL.refl _ | assumption | omega | rfl | (dsimp only; omega) | (refine ⟨?_, ?_⟩) | intro (_ : _ = true) | exact fun _ _ => rfl | fail)
  have h6 : partB p = true := by rw [← Bool.not_eq_false', ← hc]; exact h5
  refine W_skip ?_
  repeat refine W_seq ?_
  refine' W_run tys_ok EE_ok false false [Hint.of (Between_ok l.length 1 32), Hint.of (velocitiesR_ok l l.length hl)] rfl ?ap33 ?k33
  case ap33 => (repeat' (first | exact True.intro | exact ACoeL.refl _ | assumption | omega | rfl | (dsimp only; omega) | (refine ⟨?_, ?_⟩) | intro (_ : _ = true) | exact fun _ _ => rfl | fail)); all_goals ((try simp only [Int.toNat_natCast, Int.toNat_zero]); omega)
  obtain ⟨b0, hb0⟩ : ∃ b0, (bif within l.length 1 32 then (bif l.all (fun n => within n 1 1000) then ((l.length : Int) == (l.length : Int)) else false) else false) = b0 := ⟨_, rfl⟩
  have hb0' : b0 = (within l.length 1 32 && l.all (fun n => within n 1 1000)) := by
    rw [← hb0, beq_self_eq_true]
    cases within l.length 1 32 <;> cases l.all (fun n => within n 1 1000) <;> rfl
  repeat refine W_seq ?_
  refine' W_run tys_ok EE_ok false false [] rfl ?ap34 ?k34
  case ap34 => (repeat' (first | exact True.intro | exact ACoeL.refl _ | assumption | omega | rfl | (dsimp only; omega) | (refine ⟨?_, ?_⟩) | intro (_ : _ = true) | exact fun _ _ => rfl | fail)); all_goals ((try simp only [Int.toNat_natCast, Int.toNat_zero]); omega)
  repeat refine W_seq ?_
  refine W_block ?_
  refine W_loop (X := Nat) (fun k => ⟨[(4, aL l), (15, Bo (b0 && ascF l k)), (16, I k)], ⟨2, [(0, .dead), (1, .dead)]⟩⟩)
    (fun k => 1 ≤ k ∧ k ≤ l.length + 1 ∧ (l.length = 0 ∨ k ≤ l.length)) (fun k => l.length - k) 1 (by omega) ?_ ?_ ?_
  · refine Le_mk ⟨ACoe.refl _, rfl, Bo_eq ?_, rfl, ACoe.refl _, rfl, trivial⟩ (by (repeat' (first | exact True.intro | refine ⟨ACoe.refl _, rfl, ?_⟩ | refine ⟨⟨ACoeL.refl _, rfl, rfl⟩, rfl, ?_⟩ | refine ⟨trivial, rfl, ?_⟩ | refine ⟨⟨rfl, rfl⟩, rfl, ?_⟩ | refine ⟨⟨rfl, rfl, rfl, fun i hi => ⟨ACoeL.refl _, rfl, rfl⟩⟩, rfl, ?_⟩ | refine ⟨⟨rfl, rfl, rfl, fun i hi => absurd hi (Nat.not_lt_zero i)⟩, rfl, ?_⟩ | refine ⟨⟨rfl, rfl, rfl⟩, rfl, ?_⟩ | fail)))
    show _ = (b0 && ascF l 1)
    rw [show ascF l 1 = true by simp [ascF], Bool.and_true]
    exact hb0
  · exact fun x => Sub_of rfl
  · rintro k ⟨hk1, hk2, hk3⟩
    repeat refine W_seq ?_
    refine' W_run tys_ok EE_ok false false [] rfl ?ap35 ?k35
    case ap35 => (repeat' (first | exact True.intro | exact ACoeL.refl _ | assumption | omega | rfl | (dsimp only; omega) | (refine ⟨?_, ?_⟩) | intro (_ : _ = true) | exact fun _ _ => rfl | fail)); all_goals ((try simp only [Int.toNat_natCast, Int.toNat_zero]); omega)
    repeat refine W_seq ?_
    refine W_if rfl True.intro (fun h7 => ?_) (fun h7 => ?_)
    · refine W_skip ?_
      simp only [decide_eq_true_eq] at h7
      have hlt : k < l.length := by omega
      repeat refine W_seq ?_
      refine W_block ?_
      repeat refine W_seq ?_
      refine' W_any tys_ok EE_ok mixed false [] rfl (fun te ts => by kernel_rfl) (by kernel_rfl) ?ap37 ?k37
      case ap37 => (repeat' (first | exact True.intro | exact ACoeL.refl _ | assumption | omega | rfl | (dsimp only; omega) | (refine ⟨?_, ?_⟩) | intro (_ : _ = true) | exact fun _ _ => rfl | fail)); all_goals ((try simp only [Int.toNat_natCast, Int.toNat_zero]); omega)
      repeat refine W_seq ?_
      refine' W_run tys_ok EE_ok false false [] rfl ?ap38 ?k38
      case ap38 => (repeat' (first | exact True.intro | exact ACoeL.refl _ | assumption | omega | rfl | (dsimp only; omega) | (refine ⟨?_, ?_⟩) | intro (_ : _ = true) | exact fun _ _ => rfl | fail)); all_goals ((try simp only [Int.toNat_natCast, Int.toNat_zero]); omega)
      refine ⟨k + 1, ⟨by omega, by omega, by omega⟩, by omega, Le_mk ⟨ACoe.refl _, rfl, Bo_eq ?_, rfl, ACoe.refl _, rfl, trivial⟩ (by (repeat' (first | exact True.intro | refine ⟨ACoe.refl _, rfl, ?_⟩ | refine ⟨⟨ACoeL.refl _, rfl, rfl⟩, rfl, ?_⟩ | refine ⟨trivial, rfl, ?_⟩ | refine ⟨⟨rfl, rfl⟩, rfl, ?_⟩ | refine ⟨⟨rfl, rfl, rfl, fun i hi => ⟨ACoeL.refl _, rfl, rfl⟩⟩, rfl, ?_⟩ | refine ⟨⟨rfl, rfl, rfl, fun i hi => absurd hi (Nat.not_lt_zero i)⟩, rfl, ?_⟩ | refine ⟨⟨rfl, rfl, rfl⟩, rfl, ?_⟩ | fail)))⟩
      show (bif b0 && ascF l k then decide (l.getD ((k : Int) - 1).toNat 0 < l.getD k 0) else false) = (b0 && ascF l (k + 1))
      rw [show ((k : Int) - 1).toNat = k - 1 by omega, ascF, show ((k : Int) == 0) = false by simp; omega]
      cases b0 <;> cases ascF l k <;> simp
    · refine W_exit ?_
      simp only [decide_eq_false_iff_not] at h7
      have hfin : (b0 && ascF l k) = chB l := by
        rw [chB, chF_eq (Nat.le_refl _), List.take_length, hb0', Bool.and_assoc]
        by_cases h0 : l.length = 0
        · have : within (l.length : Int) 1 32 = false := by
            rw [Bool.eq_false_iff]; intro hw; have := within_iff.1 hw; omega
          rw [this]; simp
        · rw [show k = l.length by omega]
      repeat refine W_seq ?_
      refine' W_run tys_ok EE_ok false false [] rfl ?ap39 ?k39
      case ap39 => (repeat' (first | exact True.intro | exact ACoeL.refl _ | assumption | omega | rfl | (dsimp only; omega) | (refine ⟨?_, ?_⟩) | intro (_ : _ = true) | exact fun _ _ => rfl | fail)); all_goals ((try simp only [Int.toNat_natCast, Int.toNat_zero]); omega)
      repeat refine W_seq ?_
      refine W_if rfl True.intro (fun h8 => ?_) (fun h8 => ?_)
      · have h9 : chB l = false := by
          have h8' : (!(b0 && ascF l k)) = true := h8
          rw [Bool.not_eq_true'] at h8'; rw [← hfin]; exact h8'
        repeat refine W_seq ?_
        refine' W_run tys_ok EE_ok false false [] rfl ?ap41 ?k41
        case ap41 => (repeat' (first | exact True.intro | exact ACoeL.refl _ | assumption | omega | rfl | (dsimp only; omega) | (refine ⟨?_, ?_⟩) | intro (_ : _ = true) | exact fun _ _ => rfl | fail)); all_goals ((try simp only [Int.toNat_natCast, Int.toNat_zero]); omega)
        refine W_ret ⟨_, _, rfl, ?_, I_eq (by simp only [chosenS, askedS, hmo, h4, h6, h9, Bool.true_and, cond_false, cond_true])⟩
        · repeat' (first | exact True.intro | exact ACoeL.refl _ | assumption | omega | rfl | (dsimp only; omega) | (refine ⟨?_, ?_⟩) | intro (_ : _ = true) | exact fun _ _ => rfl | fail)
      · have h9 : chB l = true := by
          have h8' : (!(b0 && ascF l k)) = false := h8
          rw [Bool.not_eq_false'] at h8'; rw [← hfin]; exact h8'
        refine W_skip ?_
        repeat refine W_seq ?_
        refine' W_run tys_ok EE_ok false false [] rfl ?ap43 ?k43
        case ap43 => (repeat' (first | exact True.intro | exact ACoeL.refl _ | assumption | omega | rfl | (dsimp only; omega) | (refine ⟨?_, ?_⟩) | intro (_ : _ = true) | exact fun _ _ => rfl | fail)); all_goals ((try simp only [Int.toNat_natCast, Int.toNat_zero]); omega)
        refine W_ret ⟨_, _, rfl, ?_, I_eq (by simp only [chosenS, askedS, hmo, h4, h6, h9, Bool.true_and, cond_true])⟩
        · repeat' (first | exact True.intro | exact ACoeL.refl _ | assumption | omega | rfl | (dsimp only; omega) | (refine ⟨?_, ?_⟩) | intro (_ : _ = true) | exact fun _ _ => rfl | fail)

/-! ### Picks -/
theorem PicksR_ok (g : List Strip) (m : Mute) (t0 h : Int) (l : List Int) (p : Int × Int) (hg : GB g) (hl : l.length < 1152921504606846976) : Pure Tryd.prog GG 26 [aG g, m.enc, I t0, I h, aL l, aP p] (.tup [aL (PicksS g m t0 h l p).1, I (PicksS g m t0 h l p).2]) := by
  refine Pure.fn tys_ok Tryd.func26 (by kernel_rfl) rfl rfl fun O => ?_
  repeat refine W_seq ?_
  refine' W_run tys_ok EE_ok false false [] rfl ?ap46 ?k46
  case ap46 => (repeat' (first | exact True.intro | exact ACoeL.refl _ | assumption | omega | rfl | (dsimp only; omega) | (refine ⟨?_, ?_⟩) | intro (_ : _ = true) | exact fun _ _ => rfl | fail)); all_goals ((try simp only [Int.toNat_natCast, Int.toNat_zero]); omega)
  repeat refine W_seq ?_
  refine' W_run tys_ok EE_ok false false [Hint.of (gatherR_ok g hg)] rfl ?ap47 ?k47
  case ap47 => (repeat' (first | exact True.intro | exact ACoeL.refl _ | assumption | omega | rfl | (dsimp only; omega) | (refine ⟨?_, ?_⟩) | intro (_ : _ = true) | exact fun _ _ => rfl | fail)); all_goals ((try simp only [Int.toNat_natCast, Int.toNat_zero]); omega)
  repeat refine W_seq ?_
  refine W_if rfl True.intro (fun h1 => ?_) (fun h1 => ?_)
  · have hgb : gatherB g = false := by simpa using h1
    repeat refine W_seq ?_
    refine' W_run tys_ok EE_ok false false [] rfl ?ap49 ?k49
    case ap49 => (repeat' (first | exact True.intro | exact ACoeL.refl _ | assumption | omega | rfl | (dsimp only; omega) | (refine ⟨?_, ?_⟩) | intro (_ : _ = true) | exact fun _ _ => rfl | fail)); all_goals ((try simp only [Int.toNat_natCast, Int.toNat_zero]); omega)
    refine W_ret ⟨_, _, rfl, ?_, (by simp only [PicksS, hgb, Bool.false_and, cond_false, errS]; exact ACoe_tup (ACoeL.cons ACoe_nilL (ACoeL.refl _)))⟩
    · repeat' (first | exact True.intro | exact ACoeL.refl _ | assumption | omega | rfl | (dsimp only; omega) | (refine ⟨?_, ?_⟩) | intro (_ : _ = true) | exact fun _ _ => rfl | fail)
  have hgb : gatherB g = true := by simpa using h1
  have hgo := GOk.of hgb
  refine W_skip ?_
  repeat refine W_seq ?_
  refine' W_run tys_ok EE_ok false false [Hint.of (chosen_ok g m t0 h l p hgo hl)] rfl ?ap51 ?k51
  case ap51 => (repeat' (first | exact True.intro | exact ACoeL.refl _ | assumption | omega | rfl | (dsimp only; omega) | (refine ⟨?_, ?_⟩) | intro (_ : _ = true) | exact fun _ _ => rfl | fail)); all_goals ((try simp only [Int.toNat_natCast, Int.toNat_zero]); omega)
  repeat refine W_seq ?_
  refine' W_run tys_ok EE_ok false false [] rfl ?ap52 ?k52
  case ap52 => (repeat' (first | exact True.intro | exact ACoeL.refl _ | assumption | omega | rfl | (dsimp only; omega) | (refine ⟨?_, ?_⟩) | intro (_ : _ = true) | exact fun _ _ => rfl | fail)); all_goals ((try simp only [Int.toNat_natCast, Int.toNat_zero]); omega)
  have hps : (chosenS g m t0 h l p != 0) = true → PicksS g m t0 h l p = ([], chosenS g m t0 h l p) := fun hz => by
    unfold PicksS chosenS errS Mute.err at *
    rw [hgb]
    cases hm : m.ok with
    | false => rfl
    | true =>
      rw [hm, cond_true] at hz
      have : (askedS g t0 h l p == 0) = false := by simpa [bne] using hz
      simp only [Bool.and_self, cond_true, this, cond_false]
  repeat refine W_seq ?_
  refine W_if rfl True.intro (fun h2 => ?_) (fun h2 => ?_)
  · repeat refine W_seq ?_
    refine' W_run tys_ok EE_ok false false [] rfl ?ap54 ?k54
    case ap54 => (repeat' (first | exact True.intro | exact ACoeL.refl _ | assumption | omega | rfl | (dsimp only; omega) | (refine ⟨?_, ?_⟩) | intro (_ : _ = true) | exact fun _ _ => rfl | fail)); all_goals ((try simp only [Int.toNat_natCast, Int.toNat_zero]); omega)
    refine W_ret ⟨_, _, rfl, ?_, (by rw [hps h2]; exact ACoe_tup (ACoeL.cons ACoe_nilL (ACoeL.refl _)))⟩
    · repeat' (first | exact True.intro | exact ACoeL.refl _ | assumption | omega | rfl | (dsimp only; omega) | (refine ⟨?_, ?_⟩) | intro (_ : _ = true) | exact fun _ _ => rfl | fail)
  have hmo : m.ok = true := by
    cases hm : m.ok with
    | true => rfl
    | false => simp [chosenS, hm] at h2
  have hmk := MOk.of hmo
  have h2' : (gatherB g && m.ok) = true := by rw [hgb, hmo]; rfl
  have h4 : (askedS g t0 h l p == 0) = true := by
    have h2 : (chosenS g m t0 h l p != 0) = false := h2
    rw [chosenS, hmo, cond_true] at h2
    simpa [bne] using h2
  have hk := AskOk.of (by simpa using h4)
  have hn := hk.n.2
  refine W_skip ?_
  repeat refine W_seq ?_
  refine' W_run tys_ok EE_ok false false [] rfl ?ap56 ?k56
  case ap56 => (repeat' (first | exact True.intro | exact ACoeL.refl _ | assumption | omega | rfl | (dsimp only; omega) | (refine ⟨?_, ?_⟩) | intro (_ : _ = true) | exact fun _ _ => rfl | fail)); all_goals ((try simp only [Int.toNat_natCast, Int.toNat_zero]); omega)
  repeat refine W_seq ?_
  refine' W_run tys_ok EE_ok false false [] rfl ?ap57 ?k57
  case ap57 => (repeat' (first | exact True.intro | exact ACoeL.refl _ | assumption | omega | rfl | (dsimp only; omega) | (refine ⟨?_, ?_⟩) | intro (_ : _ = true) | exact fun _ _ => rfl | fail)); all_goals ((try simp only [Int.toNat_natCast, Int.toNat_zero]); omega)
  repeat refine W_seq ?_
  refine W_block ?_
  refine W_le (Le_nil 15 3 1 (numA (PicksL g m t0 h l p)) rfl) (Sub_of rfl) ?_
  refine W_loop (X := Nat) (fun k => ⟨[(0, aG g), (2, I t0), (3, I h), (4, aL l), (7, .bp 0 0), (11, .bp 1 0), (15, .row 2 1 ((l.take k).filter (pickB g m t0 h l p)).length), (16, I k)], ⟨3, [(0, .box [I m.start, I m.n, I m.d, I m.stretch]), (1, .box [I p.1, I p.2]), (2, .row 3 1 ((l.take k).filter (pickB g m t0 h l p)).length (numA (PicksL g m t0 h l p)))]⟩⟩)
    (fun k => k ≤ l.length) (fun k => l.length - k) 0 (by omega) ?_ ?_ ?_
  · refine Le_mk ?_ ?_ <;> (repeat' (first | exact True.intro | refine ⟨ACoe.refl _, rfl, ?_⟩ | refine ⟨⟨ACoeL.refl _, rfl, rfl⟩, rfl, ?_⟩ | refine ⟨trivial, rfl, ?_⟩ | refine ⟨⟨rfl, rfl⟩, rfl, ?_⟩ | refine ⟨⟨rfl, rfl, rfl, fun i hi => ⟨ACoeL.refl _, rfl, rfl⟩⟩, rfl, ?_⟩ | refine ⟨⟨rfl, rfl, rfl, fun i hi => absurd hi (Nat.not_lt_zero i)⟩, rfl, ?_⟩ | refine ⟨⟨rfl, rfl, rfl⟩, rfl, ?_⟩ | fail))
  · exact fun x => Sub_of rfl
  · intro k hkl
    repeat refine W_seq ?_
    refine' W_run tys_ok EE_ok false false [] rfl ?ap59 ?k59
    case ap59 => (repeat' (first | exact True.intro | exact ACoeL.refl _ | assumption | omega | rfl | (dsimp only; omega) | (refine ⟨?_, ?_⟩) | intro (_ : _ = true) | exact fun _ _ => rfl | fail)); all_goals ((try simp only [Int.toNat_natCast, Int.toNat_zero]); omega)
    repeat refine W_seq ?_
    refine W_if rfl True.intro (fun h5 => ?_) (fun h5 => ?_)
    · refine W_skip ?_
      simp only [decide_eq_true_eq] at h5
      have hlt : k < l.length := by omega
      have hv := hk.v k hlt
      have hsn := take_snoc hlt 0
      obtain ⟨n, hnn⟩ : ∃ n, ((l.take k).filter (pickB g m t0 h l p)).length = n := ⟨_, rfl⟩
      have hcl : n ≤ 32 := by
        have := List.length_filter_le (pickB g m t0 h l p) (l.take k)
        have := List.length_take_le k l
        omega
      have hat := fun h8 => filter_at (p := pickB g m t0 h l p) hlt h8
      rw [hnn] at hat
      rw [hnn]
      repeat refine W_seq ?_
      refine W_block ?_
      repeat refine W_seq ?_
      refine' W_run tys_ok EE_ok false false [] rfl ?ap61 ?k61
      case ap61 => (repeat' (first | exact True.intro | exact ACoeL.refl _ | assumption | omega | rfl | (dsimp only; omega) | (refine ⟨?_, ?_⟩) | intro (_ : _ = true) | exact fun _ _ => rfl | fail)); all_goals ((try simp only [Int.toNat_natCast, Int.toNat_zero]); omega)
      repeat refine W_seq ?_
      refine' W_run tys_ok EE_ok false false [] rfl ?ap62 ?k62
      case ap62 => (repeat' (first | exact True.intro | exact ACoeL.refl _ | assumption | omega | rfl | (dsimp only; omega) | (refine ⟨?_, ?_⟩) | intro (_ : _ = true) | exact fun _ _ => rfl | fail)); all_goals ((try simp only [Int.toNat_natCast, Int.toNat_zero]); omega)
      repeat refine W_seq ?_
      refine W_block ?_
      refine W_loop (X := Nat) (fun j => ⟨[(0, aG g), (2, I t0), (3, I h), (4, aL l), (7, .bp 0 0), (11, .bp 1 0), (15, .row 2 1 n), (16, I k), (17, Bo ((l.take j).all fun y => leastB (likeS g m t0 (l.getD k 0) h) (likeS g m t0 y h) p)), (18, I j)], ⟨3, [(0, .box [I m.start, I m.n, I m.d, I m.stretch]), (1, .box [I p.1, I p.2]), (2, .row 3 1 n (numA (PicksL g m t0 h l p)))]⟩⟩)
        (fun j => j ≤ l.length) (fun j => l.length - j) 0 (by omega) ?_ ?_ ?_
      · refine Le_mk ?_ ?_ <;> (repeat' (first | exact True.intro | refine ⟨ACoe.refl _, rfl, ?_⟩ | refine ⟨⟨ACoeL.refl _, rfl, rfl⟩, rfl, ?_⟩ | refine ⟨trivial, rfl, ?_⟩ | refine ⟨⟨rfl, rfl⟩, rfl, ?_⟩ | refine ⟨⟨rfl, rfl, rfl, fun i hi => ⟨ACoeL.refl _, rfl, rfl⟩⟩, rfl, ?_⟩ | refine ⟨⟨rfl, rfl, rfl, fun i hi => absurd hi (Nat.not_lt_zero i)⟩, rfl, ?_⟩ | refine ⟨⟨rfl, rfl, rfl⟩, rfl, ?_⟩ | fail))
      · exact fun x => Sub_of rfl
      · intro j hj
        repeat refine W_seq ?_
        refine' W_run tys_ok EE_ok false false [] rfl ?ap64 ?k64
        case ap64 => (repeat' (first | exact True.intro | exact ACoeL.refl _ | assumption | omega | rfl | (dsimp only; omega) | (refine ⟨?_, ?_⟩) | intro (_ : _ = true) | exact fun _ _ => rfl | fail)); all_goals ((try simp only [Int.toNat_natCast, Int.toNat_zero]); omega)
        repeat refine W_seq ?_
        refine W_if rfl True.intro (fun h6 => ?_) (fun h6 => ?_)
        · refine W_skip ?_
          simp only [decide_eq_true_eq] at h6
          have hjl : j < l.length := by omega
          have hvj := hk.v j hjl
          repeat refine W_seq ?_
          refine W_block ?_
          repeat refine W_seq ?_
          refine' W_any tys_ok EE_ok mixed false [Hint.of (alikeR_ok g m t0 (l.getD k 0) h hgo hmk hk.w.1 hv hk.w.2), Hint.of (alikeR_ok g m t0 (l.getD j 0) h hgo hmk hk.w.1 hvj hk.w.2), Hint.of (enough_ok (likeS g m t0 (l.getD k 0) h) (likeS g m t0 (l.getD j 0) h) p (likeS_ok hgo hk.w.1 hk.w.2) (likeS_ok hgo hk.w.1 hk.w.2) hk.p)] rfl (fun te ts => by kernel_rfl) (by kernel_rfl) ?ap66 ?k66
          case ap66 => (repeat' (first | exact True.intro | exact ACoeL.refl _ | assumption | omega | rfl | (dsimp only; omega) | (refine ⟨?_, ?_⟩) | intro (_ : _ = true) | exact fun _ _ => rfl | fail)); all_goals ((try simp only [Int.toNat_natCast, Int.toNat_zero]); omega)
          repeat refine W_seq ?_
          refine' W_run tys_ok EE_ok false false [] rfl ?ap67 ?k67
          case ap67 => (repeat' (first | exact True.intro | exact ACoeL.refl _ | assumption | omega | rfl | (dsimp only; omega) | (refine ⟨?_, ?_⟩) | intro (_ : _ = true) | exact fun _ _ => rfl | fail)); all_goals ((try simp only [Int.toNat_natCast, Int.toNat_zero]); omega)
          refine ⟨j + 1, by omega, by omega, Le_mk ⟨ACoe.refl _, rfl, ACoe.refl _, rfl, ACoe.refl _, rfl, ACoe.refl _, rfl, ACoe.refl _, rfl, ACoe.refl _, rfl, ACoe.refl _, rfl, ACoe.refl _, rfl, Bo_eq ?_, rfl, ACoe.refl _, rfl, trivial⟩ (by (repeat' (first | exact True.intro | refine ⟨ACoe.refl _, rfl, ?_⟩ | refine ⟨⟨ACoeL.refl _, rfl, rfl⟩, rfl, ?_⟩ | refine ⟨trivial, rfl, ?_⟩ | refine ⟨⟨rfl, rfl⟩, rfl, ?_⟩ | refine ⟨⟨rfl, rfl, rfl, fun i hi => ⟨ACoeL.refl _, rfl, rfl⟩⟩, rfl, ?_⟩ | refine ⟨⟨rfl, rfl, rfl, fun i hi => absurd hi (Nat.not_lt_zero i)⟩, rfl, ?_⟩ | refine ⟨⟨rfl, rfl, rfl⟩, rfl, ?_⟩ | fail)))⟩
          rw [take_snoc hjl 0, List.all_append]
          simp only [List.all_cons, List.all_nil, Bool.and_true]
          show (bif _ then leastB (likeS g m t0 (l.getD k 0) h) (likeS g m t0 (l.getD j 0) h) p else false) = _
          cases ((l.take j).all fun y => leastB (likeS g m t0 (l.getD k 0) h) (likeS g m t0 y h) p) <;> rfl
        · refine W_exit ?_
          simp only [decide_eq_false_iff_not] at h6
          have hje : j = l.length := by omega
          subst hje
          rw [List.take_length]
          have hall : (l.all fun y => leastB (likeS g m t0 (l.getD k 0) h) (likeS g m t0 y h) p) = pickB g m t0 h l p (l.getD k 0) := by
            rw [pickB, likesL, List.all_map]; rfl
          rw [hall]
          repeat refine W_seq ?_
          refine' W_run tys_ok EE_ok false false [] rfl ?ap68 ?k68
          case ap68 => (repeat' (first | exact True.intro | exact ACoeL.refl _ | assumption | omega | rfl | (dsimp only; omega) | (refine ⟨?_, ?_⟩) | intro (_ : _ = true) | exact fun _ _ => rfl | fail)); all_goals ((try simp only [Int.toNat_natCast, Int.toNat_zero]); omega)
          repeat refine W_seq ?_
          refine W_if rfl True.intro (fun h7 => ?_) (fun h7 => ?_)
          · have h8 : pickB g m t0 h l p (l.getD k 0) = true := h7
            have hft : ((l.take (k + 1)).filter (pickB g m t0 h l p)) = ((l.take k).filter (pickB g m t0 h l p)) ++ [l.getD k 0] := by
              rw [hsn, List.filter_append, List.filter_cons, if_pos h8]; rfl
            repeat refine W_seq ?_
            refine' W_run tys_ok EE_ok false false [] rfl ?ap70 ?k70
            case ap70 => (repeat' (first | exact True.intro | exact ACoeL.refl _ | assumption | omega | rfl | (dsimp only; omega) | (refine ⟨?_, ?_⟩) | intro (_ : _ = true) | exact fun _ _ => rfl | fail)); all_goals ((try simp only [Int.toNat_natCast, Int.toNat_zero]); omega)
            repeat refine W_seq ?_
            refine' W_run tys_ok EE_ok false false [] rfl ?ap71 ?k71
            case ap71 => (repeat' (first | exact True.intro | exact ACoeL.refl _ | assumption | omega | rfl | (dsimp only; omega) | (refine ⟨?_, ?_⟩) | intro (_ : _ = true) | exact fun _ _ => rfl | fail)); all_goals ((try simp only [Int.toNat_natCast, Int.toNat_zero]); omega)
            have hrow : ∀ D, OCoe D (.row 3 1 (n + 1) (fun j => if j < n then numA (PicksL g m t0 h l p) j else (fun q => List.take 1 (List.drop (q * 1) [I (l.getD k 0)])) (j - n))) (.row 3 1 (n + 1) (numA (PicksL g m t0 h l p))) := fun D =>
              row_snoc (f2 := fun q => List.take 1 (List.drop (q * 1) [I (l.getD k 0)])) (by rw [numA, PicksL, hat h8]; rfl) (fun i => rfl)
            refine ⟨k + 1, by omega, by omega, ?_⟩
            rw [hft, List.length_append, hnn]
            exact Le_mk (by (repeat' (first | exact True.intro | refine ⟨ACoe.refl _, rfl, ?_⟩ | refine ⟨⟨ACoeL.refl _, rfl, rfl⟩, rfl, ?_⟩ | refine ⟨trivial, rfl, ?_⟩ | refine ⟨⟨rfl, rfl⟩, rfl, ?_⟩ | refine ⟨⟨rfl, rfl, rfl, fun i hi => ⟨ACoeL.refl _, rfl, rfl⟩⟩, rfl, ?_⟩ | refine ⟨⟨rfl, rfl, rfl, fun i hi => absurd hi (Nat.not_lt_zero i)⟩, rfl, ?_⟩ | refine ⟨⟨rfl, rfl, rfl⟩, rfl, ?_⟩ | fail))) ⟨⟨ACoeL.refl _, rfl, rfl⟩, rfl, ⟨ACoeL.refl _, rfl, rfl⟩, rfl, hrow _, rfl, trivial⟩
          · have h8 : pickB g m t0 h l p (l.getD k 0) = false := h7
            have hft : ((l.take (k + 1)).filter (pickB g m t0 h l p)) = ((l.take k).filter (pickB g m t0 h l p)) := by
              rw [hsn, List.filter_append, List.filter_cons, if_neg (by rw [h8]; decide)]; simp
            refine W_skip ?_
            repeat refine W_seq ?_
            refine' W_run tys_ok EE_ok false false [] rfl ?ap72 ?k72
            case ap72 => (repeat' (first | exact True.intro | exact ACoeL.refl _ | assumption | omega | rfl | (dsimp only; omega) | (refine ⟨?_, ?_⟩) | intro (_ : _ = true) | exact fun _ _ => rfl | fail)); all_goals ((try simp only [Int.toNat_natCast, Int.toNat_zero]); omega)
            refine ⟨k + 1, by omega, by omega, ?_⟩
            rw [hft, hnn]
            refine Le_mk ?_ ?_ <;> (repeat' (first | exact True.intro | refine ⟨ACoe.refl _, rfl, ?_⟩ | refine ⟨⟨ACoeL.refl _, rfl, rfl⟩, rfl, ?_⟩ | refine ⟨trivial, rfl, ?_⟩ | refine ⟨⟨rfl, rfl⟩, rfl, ?_⟩ | refine ⟨⟨rfl, rfl, rfl, fun i hi => ⟨ACoeL.refl _, rfl, rfl⟩⟩, rfl, ?_⟩ | refine ⟨⟨rfl, rfl, rfl, fun i hi => absurd hi (Nat.not_lt_zero i)⟩, rfl, ?_⟩ | refine ⟨⟨rfl, rfl, rfl⟩, rfl, ?_⟩ | fail))
    · refine W_exit ?_
      simp only [decide_eq_false_iff_not] at h5
      have hke : k = l.length := by omega
      subst hke
      rw [List.take_length]
      repeat refine W_seq ?_
      refine' W_run tys_ok EE_ok false false [] rfl ?ap74 ?k74
      case ap74 => (repeat' (first | exact True.intro | exact ACoeL.refl _ | assumption | omega | rfl | (dsimp only; omega) | (refine ⟨?_, ?_⟩) | intro (_ : _ = true) | exact fun _ _ => rfl | fail)); all_goals ((try simp only [Int.toNat_natCast, Int.toNat_zero]); omega)
      refine W_ret ⟨_, _, rfl, ?_, ?_⟩
      · repeat' (first | exact True.intro | exact ACoeL.refl _ | assumption | omega | rfl | (dsimp only; omega) | (refine ⟨?_, ?_⟩) | intro (_ : _ = true) | exact fun _ _ => rfl | fail)
      simp only [PicksS, h2', h4, cond_true]
      exact ACoe.refl _
end Go.Proofs.YtobpnmljijeadaaDoor.A

/- Contracts: the reference's Echo. -/
set_option linter.unusedVariables false
set_option linter.unusedSimpArgs false
namespace Go.Proofs.YtobpnmljijeadaaDoor.A
open Go

theorem stepE_nn {p r n : Int} {s : St3} (hp : 0 ≤ p) (hs : 0 ≤ s.1) : 0 ≤ (stepE p r n s).1 := by
  unfold stepE
  cases (bif decide (s.1 > 0) then decide (n ≥ s.2.2) else false) <;> simp only [cond_true, cond_false] <;> assumption
theorem echoP_nn {l : List Int} {p : Int} (hp : 0 ≤ p) : ∀ {parts : List Int} {s : St3}, 0 ≤ s.1 → 0 ≤ (echoP l p parts s).1
  | [], s, hs => hs
  | r :: t, s, hs => echoP_nn hp (parts := t) (stepE_nn hp hs)
theorem echoF_nn {l parts : List Int} : ∀ {k : Nat}, 0 ≤ (echoF l parts k).1
  | 0 => by simp [echoF]
  | k + 1 => echoP_nn (by omega) echoF_nn
theorem stepE_eq {p r n : Int} {s : St3} (hs : 0 ≤ s.1) : stepE p r n s = bif (bif s.1 == 0 then true else decide (n < s.2.2)) then (p, r, n) else s := by
  unfold stepE
  by_cases h : s.1 = 0
  · rw [decide_eq_false (by omega), show (s.1 == 0) = true by simpa using h]; rfl
  · rw [decide_eq_true (by omega), show (s.1 == 0) = false by simpa using h]
    by_cases h2 : n < s.2.2
    · rw [decide_eq_true h2, show decide (n ≥ s.2.2) = false from decide_eq_false (by omega)]; rfl
    · rw [decide_eq_false h2, show decide (n ≥ s.2.2) = true from decide_eq_true (by omega)]; rfl

theorem EchoR_ok (l : List Int) (longest : Int) (parts : List Int) (hl : l.length < 1152921504606846976) (hpl : parts.length < 1152921504606846976) :
    Pure Tryd.prog GG 40 [aL l, I longest, aL parts] (.tup [I (EchoS l longest parts).1.1, I (EchoS l longest parts).1.2.1, I (EchoS l longest parts).1.2.2, I (EchoS l longest parts).2]) := by
  refine Pure.fn tys_ok Tryd.func40 (by kernel_rfl) rfl rfl fun O => ?_
  repeat refine W_seq ?_
  refine' W_run tys_ok EE_ok false false [] rfl ?ap2 ?k2
  case ap2 => (repeat' (first | exact True.intro | exact ACoeL.refl _ | assumption | omega | rfl | (dsimp only; omega) | (refine ⟨?_, ?_⟩) | intro (_ : _ = true) | exact fun _ _ => rfl | fail)); all_goals ((try simp only [Int.toNat_natCast, Int.toNat_zero]); omega)
  repeat refine W_seq ?_
  refine' W_run tys_ok EE_ok false false [Hint.of (numbersR_ok l hl)] rfl ?ap3 ?k3
  case ap3 => (repeat' (first | exact True.intro | exact ACoeL.refl _ | assumption | omega | rfl | (dsimp only; omega) | (refine ⟨?_, ?_⟩) | intro (_ : _ = true) | exact fun _ _ => rfl | fail)); all_goals ((try simp only [Int.toNat_natCast, Int.toNat_zero]); omega)
  repeat refine W_seq ?_
  refine W_if rfl True.intro (fun h1 => ?_) (fun h1 => ?_)
  · simp only [Bool.not_eq_true'] at h1
    repeat refine W_seq ?_
    refine' W_run tys_ok EE_ok false false [] rfl ?ap5 ?k5
    case ap5 => (repeat' (first | exact True.intro | exact ACoeL.refl _ | assumption | omega | rfl | (dsimp only; omega) | (refine ⟨?_, ?_⟩) | intro (_ : _ = true) | exact fun _ _ => rfl | fail)); all_goals ((try simp only [Int.toNat_natCast, Int.toNat_zero]); omega)
    refine W_ret ⟨_, _, rfl, ?_, (by simp only [EchoS, h1, cond_false]; exact ACoe.refl _)⟩
    · repeat' (first | exact True.intro | exact ACoeL.refl _ | assumption | omega | rfl | (dsimp only; omega) | (refine ⟨?_, ?_⟩) | intro (_ : _ = true) | exact fun _ _ => rfl | fail)
  simp only [Bool.not_eq_false'] at h1
  obtain ⟨hnb, hl1⟩ := NumB.of h1
  refine W_skip ?_
  repeat refine W_seq ?_
  refine' W_run tys_ok EE_ok false false [Hint.of (Between_ok longest 1 63), Hint.of (Between_ok parts.length 1 16)] rfl ?ap7 ?k7
  case ap7 => (repeat' (first | exact True.intro | exact ACoeL.refl _ | assumption | omega | rfl | (dsimp only; omega) | (refine ⟨?_, ?_⟩) | intro (_ : _ = true) | exact fun _ _ => rfl | fail)); all_goals ((try simp only [Int.toNat_natCast, Int.toNat_zero]); omega)
  repeat refine W_seq ?_
  refine' W_run tys_ok EE_ok false false [] rfl ?ap8 ?k8
  case ap8 => (repeat' (first | exact True.intro | exact ACoeL.refl _ | assumption | omega | rfl | (dsimp only; omega) | (refine ⟨?_, ?_⟩) | intro (_ : _ = true) | exact fun _ _ => rfl | fail)); all_goals ((try simp only [Int.toNat_natCast, Int.toNat_zero]); omega)
  repeat refine W_seq ?_
  refine W_block ?_
  refine W_loop (X := Nat) (fun k => ⟨[(0, aL l), (1, I longest), (2, aL parts), (10, Bo (within longest 1 63 && (within parts.length 1 16 && (parts.take k).all fun r => within r (-64) 64))), (11, I k)], ⟨0, []⟩⟩)
    (fun k => k ≤ parts.length) (fun k => parts.length - k) 0 (by omega) ?_ ?_ ?_
  · refine Le_mk ⟨ACoe.refl _, rfl, ACoe.refl _, rfl, ACoe.refl _, rfl, Bo_eq ?_, rfl, ACoe.refl _, rfl, trivial⟩ trivial
    cases within longest 1 63 <;> simp
  · exact fun x => Sub_of rfl
  · intro k hk
    repeat refine W_seq ?_
    refine' W_run tys_ok EE_ok false false [] rfl ?ap9 ?k9
    case ap9 => (repeat' (first | exact True.intro | exact ACoeL.refl _ | assumption | omega | rfl | (dsimp only; omega) | (refine ⟨?_, ?_⟩) | intro (_ : _ = true) | exact fun _ _ => rfl | fail)); all_goals ((try simp only [Int.toNat_natCast, Int.toNat_zero]); omega)
    repeat refine W_seq ?_
    refine W_if rfl True.intro (fun h2 => ?_) (fun h2 => ?_)
    · refine W_skip ?_
      simp only [decide_eq_true_eq] at h2
      have hlt : k < parts.length := by omega
      repeat refine W_seq ?_
      refine W_block ?_
      repeat refine W_seq ?_
      refine' W_run tys_ok EE_ok false false [Hint.of (Between_ok (parts.getD k 0) (-64) 64)] rfl ?ap11 ?k11
      case ap11 => (repeat' (first | exact True.intro | exact ACoeL.refl _ | assumption | omega | rfl | (dsimp only; omega) | (refine ⟨?_, ?_⟩) | intro (_ : _ = true) | exact fun _ _ => rfl | fail)); all_goals ((try simp only [Int.toNat_natCast, Int.toNat_zero]); omega)
      repeat refine W_seq ?_
      refine' W_run tys_ok EE_ok false false [] rfl ?ap12 ?k12
      case ap12 => (repeat' (first | exact True.intro | exact ACoeL.refl _ | assumption | omega | rfl | (dsimp only; omega) | (refine ⟨?_, ?_⟩) | intro (_ : _ = true) | exact fun _ _ => rfl | fail)); all_goals ((try simp only [Int.toNat_natCast, Int.toNat_zero]); omega)
      refine ⟨k + 1, by omega, by omega, Le_mk ⟨ACoe.refl _, rfl, ACoe.refl _, rfl, ACoe.refl _, rfl, Bo_eq ?_, rfl, ACoe.refl _, rfl, trivial⟩ trivial⟩
      rw [take_snoc hlt 0, List.all_append]
      simp only [List.all_cons, List.all_nil, Bool.and_true]
      show (bif _ then within (parts.getD k 0) (-64) 64 else false) = _
      cases within longest 1 63 <;> cases within parts.length 1 16 <;> cases ((parts.take k).all fun r => within r (-64) 64) <;> rfl
    · refine W_exit ?_
      simp only [decide_eq_false_iff_not] at h2
      have hke : k = parts.length := by omega
      subst hke
      rw [List.take_length]
      repeat refine W_seq ?_
      refine' W_run tys_ok EE_ok false false [] rfl ?ap13 ?k13
      case ap13 => (repeat' (first | exact True.intro | exact ACoeL.refl _ | assumption | omega | rfl | (dsimp only; omega) | (refine ⟨?_, ?_⟩) | intro (_ : _ = true) | exact fun _ _ => rfl | fail)); all_goals ((try simp only [Int.toNat_natCast, Int.toNat_zero]); omega)
      repeat refine W_seq ?_
      refine W_if rfl True.intro (fun h3 => ?_) (fun h3 => ?_)
      · have h4 : echoOk longest parts = false := by
          have h3' : (!echoOk longest parts) = true := h3
          simpa using h3'
        repeat refine W_seq ?_
        refine' W_run tys_ok EE_ok false false [] rfl ?ap15 ?k15
        case ap15 => (repeat' (first | exact True.intro | exact ACoeL.refl _ | assumption | omega | rfl | (dsimp only; omega) | (refine ⟨?_, ?_⟩) | intro (_ : _ = true) | exact fun _ _ => rfl | fail)); all_goals ((try simp only [Int.toNat_natCast, Int.toNat_zero]); omega)
        refine W_ret ⟨_, _, rfl, ?_, (by simp only [EchoS, h1, h4, cond_true, cond_false]; exact ACoe.refl _)⟩
        · repeat' (first | exact True.intro | exact ACoeL.refl _ | assumption | omega | rfl | (dsimp only; omega) | (refine ⟨?_, ?_⟩) | intro (_ : _ = true) | exact fun _ _ => rfl | fail)
      have h4 : echoOk longest parts = true := by
        have h3' : (!echoOk longest parts) = false := h3
        simpa using h3'
      have h5 := h4
      simp only [echoOk, Bool.and_eq_true, within_iff] at h5
      obtain ⟨hlo, hpn, hall⟩ := h5
      refine W_skip ?_
      repeat refine W_seq ?_
      refine' W_run tys_ok EE_ok false false [] rfl ?ap17 ?k17
      case ap17 => (repeat' (first | exact True.intro | exact ACoeL.refl _ | assumption | omega | rfl | (dsimp only; omega) | (refine ⟨?_, ?_⟩) | intro (_ : _ = true) | exact fun _ _ => rfl | fail)); all_goals ((try simp only [Int.toNat_natCast, Int.toNat_zero]); omega)
      repeat refine W_seq ?_
      refine' W_run tys_ok EE_ok false false [] rfl ?ap18 ?k18
      case ap18 => (repeat' (first | exact True.intro | exact ACoeL.refl _ | assumption | omega | rfl | (dsimp only; omega) | (refine ⟨?_, ?_⟩) | intro (_ : _ = true) | exact fun _ _ => rfl | fail)); all_goals ((try simp only [Int.toNat_natCast, Int.toNat_zero]); omega)
      repeat refine W_seq ?_
      refine W_block ?_
      refine W_loop (X := Nat) (fun k => ⟨[(0, aL l), (1, I longest), (2, aL parts), (12, I (echoF l parts k).1), (13, I (echoF l parts k).2.1), (14, I (echoF l parts k).2.2), (15, I ((k : Int) + 1))], ⟨0, []⟩⟩)
        (fun k => (k : Int) ≤ longest) (fun k => 64 - k) 0 (by simp; omega) ?_ ?_ ?_
      · exact Le_mk ⟨ACoe.refl _, rfl, ACoe.refl _, rfl, ACoe.refl _, rfl, ACoe.refl _, rfl, ACoe.refl _, rfl, ACoe.refl _, rfl, ACoe.refl _, rfl, trivial⟩ trivial
      · exact fun x => Sub_of rfl
      · intro k hk
        repeat refine W_seq ?_
        refine' W_run tys_ok EE_ok false false [] rfl ?ap19 ?k19
        case ap19 => (repeat' (first | exact True.intro | exact ACoeL.refl _ | assumption | omega | rfl | (dsimp only; omega) | (refine ⟨?_, ?_⟩) | intro (_ : _ = true) | exact fun _ _ => rfl | fail)); all_goals ((try simp only [Int.toNat_natCast, Int.toNat_zero]); omega)
        repeat refine W_seq ?_
        refine W_if rfl True.intro (fun h5 => ?_) (fun h5 => ?_)
        · refine W_skip ?_
          simp only [decide_eq_true_eq] at h5
          obtain ⟨s0, hs0⟩ : ∃ s0, echoF l parts k = s0 := ⟨_, rfl⟩
          have hs00 : 0 ≤ s0.1 := by rw [← hs0]; exact echoF_nn
          rw [hs0]
          repeat refine W_seq ?_
          refine W_block ?_
          repeat refine W_seq ?_
          refine' W_run tys_ok EE_ok false false [] rfl ?ap21 ?k21
          case ap21 => (repeat' (first | exact True.intro | exact ACoeL.refl _ | assumption | omega | rfl | (dsimp only; omega) | (refine ⟨?_, ?_⟩) | intro (_ : _ = true) | exact fun _ _ => rfl | fail)); all_goals ((try simp only [Int.toNat_natCast, Int.toNat_zero]); omega)
          repeat refine W_seq ?_
          refine W_block ?_
          refine W_loop (X := Nat) (fun i => ⟨[(0, aL l), (1, I longest), (2, aL parts), (12, I (echoP l ((k : Int) + 1) (parts.take i) s0).1), (13, I (echoP l ((k : Int) + 1) (parts.take i) s0).2.1), (14, I (echoP l ((k : Int) + 1) (parts.take i) s0).2.2), (15, I ((k : Int) + 1)), (16, I i)], ⟨0, []⟩⟩)
            (fun i => i ≤ parts.length) (fun i => parts.length - i) 0 (by omega) ?_ ?_ ?_
          · exact Le_mk ⟨ACoe.refl _, rfl, ACoe.refl _, rfl, ACoe.refl _, rfl, ACoe.refl _, rfl, ACoe.refl _, rfl, ACoe.refl _, rfl, ACoe.refl _, rfl, ACoe.refl _, rfl, trivial⟩ trivial
          · exact fun x => Sub_of rfl
          · intro i hi
            repeat refine W_seq ?_
            refine' W_run tys_ok EE_ok false false [] rfl ?ap22 ?k22
            case ap22 => (repeat' (first | exact True.intro | exact ACoeL.refl _ | assumption | omega | rfl | (dsimp only; omega) | (refine ⟨?_, ?_⟩) | intro (_ : _ = true) | exact fun _ _ => rfl | fail)); all_goals ((try simp only [Int.toNat_natCast, Int.toNat_zero]); omega)
            repeat refine W_seq ?_
            refine W_if rfl True.intro (fun h6 => ?_) (fun h6 => ?_)
            · refine W_skip ?_
              simp only [decide_eq_true_eq] at h6
              have hlt : i < parts.length := by omega
              have hr := within_iff.1 (all_getD hall hlt)
              obtain ⟨s, hs⟩ : ∃ s, echoP l ((k : Int) + 1) (parts.take i) s0 = s := ⟨_, rfl⟩
              have hsnn : 0 ≤ s.1 := by rw [← hs]; exact echoP_nn (by omega) hs00
              have hsn : echoP l ((k : Int) + 1) (parts.take (i + 1)) s0 = stepE ((k : Int) + 1) (parts.getD i 0) (eS (woL l ((k : Int) + 1) (parts.getD i 0))) s := by
                rw [take_snoc hlt 0, echoP, List.foldl_append]
                show stepE _ _ _ (echoP l ((k : Int) + 1) (parts.take i) s0) = _
                rw [hs]
              have hcon := withoutR_ok l ((k : Int) + 1) (parts.getD i 0) hnb ⟨by omega, by omega⟩ hr
              obtain ⟨w, hw⟩ : ∃ w, woL l ((k : Int) + 1) (parts.getD i 0) = w := ⟨_, rfl⟩
              have hwl : w.length = l.length := by rw [← hw, woL_len]
              have hwb : ∀ x ∈ w, -131073 ≤ x ∧ x ≤ 131073 := by rw [← hw]; exact woL_bound hnb hr
              have hlen := hnb.1
              rw [hw] at hsn hcon
              rw [hs]
              repeat refine W_seq ?_
              refine W_block ?_
              repeat refine W_seq ?_
              refine' W_run tys_ok EE_ok false false [Hint.of hcon] rfl ?ap24 ?k24
              case ap24 => (repeat' (first | exact True.intro | exact ACoeL.refl _ | assumption | omega | rfl | (dsimp only; omega) | (refine ⟨?_, ?_⟩) | intro (_ : _ = true) | exact fun _ _ => rfl | fail)); all_goals ((try simp only [Int.toNat_natCast, Int.toNat_zero]); omega)
              repeat refine W_seq ?_
              refine' W_run tys_ok EE_ok false false [] rfl ?ap25 ?k25
              case ap25 => (repeat' (first | exact True.intro | exact ACoeL.refl _ | assumption | omega | rfl | (dsimp only; omega) | (refine ⟨?_, ?_⟩) | intro (_ : _ = true) | exact fun _ _ => rfl | fail)); all_goals ((try simp only [Int.toNat_natCast, Int.toNat_zero]); omega)
              repeat refine W_seq ?_
              refine' W_run tys_ok EE_ok false false [] rfl ?ap26 ?k26
              case ap26 => (repeat' (first | exact True.intro | exact ACoeL.refl _ | assumption | omega | rfl | (dsimp only; omega) | (refine ⟨?_, ?_⟩) | intro (_ : _ = true) | exact fun _ _ => rfl | fail)); all_goals ((try simp only [Int.toNat_natCast, Int.toNat_zero]); omega)
              repeat refine W_seq ?_
              refine W_block ?_
              refine W_loop (X := Nat) (fun j => ⟨[(0, aL l), (1, I longest), (2, aL parts), (12, I s.1), (13, I s.2.1), (14, I s.2.2), (15, I ((k : Int) + 1)), (16, I i), (17, aL w), (18, I (eS (w.take j))), (19, I j)], ⟨0, []⟩⟩)
                (fun j => j ≤ w.length) (fun j => w.length - j) 0 (by omega) ?_ ?_ ?_
              · exact Le_mk ⟨ACoe.refl _, rfl, ACoe.refl _, rfl, ACoe.refl _, rfl, ACoe.refl _, rfl, ACoe.refl _, rfl, ACoe.refl _, rfl, ACoe.refl _, rfl, ACoe.refl _, rfl, ACoe.refl _, rfl, ACoe.refl _, rfl, ACoe.refl _, rfl, trivial⟩ trivial
              · exact fun x => Sub_of rfl
              · intro j hj
                repeat refine W_seq ?_
                refine' W_run tys_ok EE_ok false false [] rfl ?ap27 ?k27
                case ap27 => (repeat' (first | exact True.intro | exact ACoeL.refl _ | assumption | omega | rfl | (dsimp only; omega) | (refine ⟨?_, ?_⟩) | intro (_ : _ = true) | exact fun _ _ => rfl | fail)); all_goals ((try simp only [Int.toNat_natCast, Int.toNat_zero]); omega)
                repeat refine W_seq ?_
                refine W_if rfl True.intro (fun h7 => ?_) (fun h7 => ?_)
                · refine W_skip ?_
                  simp only [decide_eq_true_eq] at h7
                  have hjl : j < w.length := by omega
                  have hjs : eS (w.take (j + 1)) = eS (w.take j) + w.getD j 0 * w.getD j 0 := by
                    rw [take_snoc hjl 0, eS_append]; simp [eS]
                  have hb1 := hwb _ (getD_mem hjl 0)
                  have hb2 := mul_bound (a := w.getD j 0) (b := w.getD j 0) (A := 131073) (B := 131073) hb1.1 hb1.2 hb1.1 hb1.2
                  have hb3 := eS_bound (B := 131073) (by omega) hwb
                  have hb4 := eS_take (l := w) j
                  have hb5 := eS_nonneg (w.take j)
                  repeat refine W_seq ?_
                  refine W_block ?_
                  repeat refine W_seq ?_
                  refine' W_any tys_ok EE_ok mixed false [] rfl (fun te ts => by kernel_rfl) (by kernel_rfl) ?ap29 ?k29
                  case ap29 => (repeat' (first | exact True.intro | exact ACoeL.refl _ | assumption | omega | rfl | (dsimp only; omega) | (refine ⟨?_, ?_⟩) | intro (_ : _ = true) | exact fun _ _ => rfl | fail)); all_goals ((try simp only [Int.toNat_natCast, Int.toNat_zero]); omega)
                  repeat refine W_seq ?_
                  refine' W_run tys_ok EE_ok false false [] rfl ?ap30 ?k30
                  case ap30 => (repeat' (first | exact True.intro | exact ACoeL.refl _ | assumption | omega | rfl | (dsimp only; omega) | (refine ⟨?_, ?_⟩) | intro (_ : _ = true) | exact fun _ _ => rfl | fail)); all_goals ((try simp only [Int.toNat_natCast, Int.toNat_zero]); omega)
                  refine ⟨j + 1, by omega, by omega, ?_⟩
                  rw [hjs]
                  exact Le_mk ⟨ACoe.refl _, rfl, ACoe.refl _, rfl, ACoe.refl _, rfl, ACoe.refl _, rfl, ACoe.refl _, rfl, ACoe.refl _, rfl, ACoe.refl _, rfl, ACoe.refl _, rfl, ACoe.refl _, rfl, ACoe.refl _, rfl, ACoe.refl _, rfl, trivial⟩ trivial
                · refine W_exit ?_
                  simp only [decide_eq_false_iff_not] at h7
                  have hje : j = w.length := by omega
                  subst hje
                  rw [List.take_length]
                  have hse := stepE_eq (p := (k : Int) + 1) (r := parts.getD i 0) (n := eS w) hsnn
                  repeat refine W_seq ?_
                  refine' W_run tys_ok EE_ok false false [] rfl ?ap31 ?k31
                  case ap31 => (repeat' (first | exact True.intro | exact ACoeL.refl _ | assumption | omega | rfl | (dsimp only; omega) | (refine ⟨?_, ?_⟩) | intro (_ : _ = true) | exact fun _ _ => rfl | fail)); all_goals ((try simp only [Int.toNat_natCast, Int.toNat_zero]); omega)
                  repeat refine W_seq ?_
                  refine W_if rfl True.intro (fun h8 => ?_) (fun h8 => ?_)
                  · have h8' : (bif s.1 == 0 then true else decide (eS w < s.2.2)) = true := h8
                    rw [h8', cond_true] at hse
                    repeat refine W_seq ?_
                    refine' W_any tys_ok EE_ok mixed false [] rfl (fun te ts => by kernel_rfl) (by kernel_rfl) ?ap33 ?k33
                    case ap33 => (repeat' (first | exact True.intro | exact ACoeL.refl _ | assumption | omega | rfl | (dsimp only; omega) | (refine ⟨?_, ?_⟩) | intro (_ : _ = true) | exact fun _ _ => rfl | fail)); all_goals ((try simp only [Int.toNat_natCast, Int.toNat_zero]); omega)
                    repeat refine W_seq ?_
                    refine' W_run tys_ok EE_ok false false [] rfl ?ap34 ?k34
                    case ap34 => (repeat' (first | exact True.intro | exact ACoeL.refl _ | assumption | omega | rfl | (dsimp only; omega) | (refine ⟨?_, ?_⟩) | intro (_ : _ = true) | exact fun _ _ => rfl | fail)); all_goals ((try simp only [Int.toNat_natCast, Int.toNat_zero]); omega)
                    refine ⟨i + 1, by omega, by omega, ?_⟩
                    rw [hsn, hse]
                    exact Le_mk ⟨ACoe.refl _, rfl, ACoe.refl _, rfl, ACoe.refl _, rfl, ACoe.refl _, rfl, ACoe.refl _, rfl, ACoe.refl _, rfl, ACoe.refl _, rfl, ACoe.refl _, rfl, trivial⟩ trivial
                  · have h8' : (bif s.1 == 0 then true else decide (eS w < s.2.2)) = false := h8
                    rw [h8', cond_false] at hse
                    refine W_skip ?_
                    repeat refine W_seq ?_
                    refine' W_run tys_ok EE_ok false false [] rfl ?ap35 ?k35
                    case ap35 => (repeat' (first | exact True.intro | exact ACoeL.refl _ | assumption | omega | rfl | (dsimp only; omega) | (refine ⟨?_, ?_⟩) | intro (_ : _ = true) | exact fun _ _ => rfl | fail)); all_goals ((try simp only [Int.toNat_natCast, Int.toNat_zero]); omega)
                    refine ⟨i + 1, by omega, by omega, ?_⟩
                    rw [hsn, hse]
                    exact Le_mk ⟨ACoe.refl _, rfl, ACoe.refl _, rfl, ACoe.refl _, rfl, ACoe.refl _, rfl, ACoe.refl _, rfl, ACoe.refl _, rfl, ACoe.refl _, rfl, ACoe.refl _, rfl, trivial⟩ trivial
            · refine W_exit ?_
              simp only [decide_eq_false_iff_not] at h6
              have hie : i = parts.length := by omega
              subst hie
              rw [List.take_length]
              have hnx : echoF l parts (k + 1) = echoP l ((k : Int) + 1) parts s0 := by rw [echoF, hs0]
              repeat refine W_seq ?_
              refine' W_run tys_ok EE_ok false false [] rfl ?ap36 ?k36
              case ap36 => (repeat' (first | exact True.intro | exact ACoeL.refl _ | assumption | omega | rfl | (dsimp only; omega) | (refine ⟨?_, ?_⟩) | intro (_ : _ = true) | exact fun _ _ => rfl | fail)); all_goals ((try simp only [Int.toNat_natCast, Int.toNat_zero]); omega)
              refine ⟨k + 1, by omega, by omega, ?_⟩
              rw [hnx]
              exact Le_mk ⟨ACoe.refl _, rfl, ACoe.refl _, rfl, ACoe.refl _, rfl, ACoe.refl _, rfl, ACoe.refl _, rfl, ACoe.refl _, rfl, I_eq (by omega), rfl, trivial⟩ trivial
        · refine W_exit ?_
          simp only [decide_eq_false_iff_not] at h5
          have hke : k = longest.toNat := by omega
          subst hke
          repeat refine W_seq ?_
          refine' W_run tys_ok EE_ok false false [] rfl ?ap37 ?k37
          case ap37 => (repeat' (first | exact True.intro | exact ACoeL.refl _ | assumption | omega | rfl | (dsimp only; omega) | (refine ⟨?_, ?_⟩) | intro (_ : _ = true) | exact fun _ _ => rfl | fail)); all_goals ((try simp only [Int.toNat_natCast, Int.toNat_zero]); omega)
          refine W_ret ⟨_, _, rfl, ?_, (by simp only [EchoS, h1, h4, cond_true]; exact ACoe.refl _)⟩
          · repeat' (first | exact True.intro | exact ACoeL.refl _ | assumption | omega | rfl | (dsimp only; omega) | (refine ⟨?_, ?_⟩) | intro (_ : _ = true) | exact fun _ _ => rfl | fail)
end Go.Proofs.YtobpnmljijeadaaDoor.A
