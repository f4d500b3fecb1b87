/- Part 6 of what the laws of this seat lean on: C9, C10, C11, C12, C13, C14, C15, C16. -/
import Derived.Test.YtobpnmljijeadaaDoorK5
/- Contracts: likenesses. -/
set_option linter.unusedVariables false
set_option linter.unusedSimpArgs false
namespace Go.Proofs.YtobpnmljijeadaaDoor.A
open Go

def sumN (f : Nat → Int) : Nat → Int
  | 0 => 0
  | n + 1 => sumN f n + f n
theorem sumN_bound {f : Nat → Int} {B : Int} : ∀ {n : Nat}, (∀ j, j < n → -B ≤ f j ∧ f j ≤ B) → -(B * n) ≤ sumN f n ∧ sumN f n ≤ B * n
  | 0, _ => by simp [sumN]
  | n + 1, h => by
    have h1 := h n (by omega)
    have h2 := sumN_bound (f := f) (B := B) (n := n) (fun j hj => h j (by omega))
    simp only [sumN, Int.natCast_add, Int.mul_add, Int.natCast_one, Int.mul_one]
    omega
def sqAt (g : List Strip) (p : Nat × Int) : Int := smpAt g p * smpAt g p
def lineSq (g : List Strip) (m : Mute) (t v : Int) : Int := sumL (sqAt g) (lineL g m t v)
def alikeN (g : List Strip) (m : Mute) (v a : Int) (j : Nat) : Int := lineSum g m (a + j) v * lineSum g m (a + j) v
def alikeD (g : List Strip) (m : Mute) (v a : Int) (j : Nat) : Int := ((lineL g m (a + j) v).length : Int) * lineSq g m (a + j) v
def likeN (g : List Strip) (m : Mute) (t0 v h : Int) : Int := sumN (alikeN g m v (winA t0 h)) (winN g t0 h)
def likeD (g : List Strip) (m : Mute) (t0 v h : Int) : Int := sumN (alikeD g m v (winA t0 h)) (winN g t0 h)
def likeS (g : List Strip) (m : Mute) (t0 v h : Int) : Int × Int := bif likeD g m t0 v h == 0 then (0, 1) else (likeN g m t0 v h, likeD g m t0 v h)

theorem sq_bound {g : List Strip} {l : List (Nat × Int)} : ∀ p ∈ kept g l, -1073676289 ≤ sqAt g p ∧ sqAt g p ≤ 1073676289 := fun p hp => by
  have := kept_bound p hp
  have := mul_bound (a := smpAt g p) (b := smpAt g p) (A := 32767) (B := 32767) (by omega) (by omega) (by omega) (by omega)
  exact ⟨by unfold sqAt; omega, by unfold sqAt; omega⟩
structure LB (g : List Strip) (l : List (Nat × Int)) : Prop where
  n : (kept g l).length ≤ 16
  s : -524272 ≤ sumL (smpAt g) (kept g l) ∧ sumL (smpAt g) (kept g l) ≤ 524272
  q : -17178820624 ≤ sumL (sqAt g) (kept g l) ∧ sumL (sqAt g) (kept g l) ≤ 17178820624
theorem LB.of {g : List Strip} {l : List (Nat × Int)} (h : l.length ≤ 16) : LB g l := by
  have h1 := kept_len (g := g) (l := l)
  have h2 := sumL_bound (f := smpAt g) (B := 32767) (by omega) (kept_bound (g := g) (l := l))
  have h3 := sumL_bound (f := sqAt g) (B := 1073676289) (by omega) (sq_bound (g := g) (l := l))
  exact ⟨by omega, by omega, by omega⟩
theorem LB.nd {g : List Strip} {l : List (Nat × Int)} (h : LB g l) : (-274861129984 ≤ sumL (smpAt g) (kept g l) * sumL (smpAt g) (kept g l) ∧ sumL (smpAt g) (kept g l) * sumL (smpAt g) (kept g l) ≤ 274861129984) ∧
    (-274861129984 ≤ ((kept g l).length : Int) * sumL (sqAt g) (kept g l) ∧ ((kept g l).length : Int) * sumL (sqAt g) (kept g l) ≤ 274861129984) := by
  have h1 := h.n; have h2 := h.s; have h3 := h.q
  have h4 := mul_bound (a := sumL (smpAt g) (kept g l)) (b := sumL (smpAt g) (kept g l)) (A := 524272) (B := 524272) (by omega) (by omega) (by omega) (by omega)
  have h5 := mul_bound (a := ((kept g l).length : Int)) (b := sumL (sqAt g) (kept g l)) (A := 16) (B := 17178820624) (by omega) (by omega) (by omega) (by omega)
  exact ⟨by omega, by omega⟩

theorem alike_ok (g : List Strip) (m : Mute) (t0 v h : Int) (hg : GOk g) (hm : MOk m) (ht0 : 0 ≤ t0 ∧ t0 < len0 g) (hv : 1 ≤ v ∧ v ≤ 1000) (hh : 0 ≤ h ∧ h ≤ 4) :
    Pure Tryd.prog GG 60 [aGM g m, I t0, I v, I h] (.agg [I (likeS g m t0 v h).1, I (likeS g m t0 v h).2]) := by
  have hlen := hg.n1
  have hL : len0 g ≤ 64 := by have := hg.l1; unfold len0; omega
  have hw1 : 0 ≤ winA t0 h ∧ winA t0 h ≤ t0 ∧ t0 - h ≤ winA t0 h := by unfold winA; omega
  have hw2 : (winN g t0 h : Int) = min (len0 g - 1) (t0 + h) + 1 - winA t0 h := by unfold winN; omega
  have hw3 : winN g t0 h ≤ 9 := by omega
  obtain ⟨a, ha⟩ : ∃ a, winA t0 h = a := ⟨_, rfl⟩
  rw [ha] at hw1 hw2
  have hbt : ∀ j : Nat, j < winN g t0 h → LB g (usedL g m (a + j) v) := fun j hj => LB.of (by have := usedL_len (g := g) (m := m) (t0 := a + j) (v := v); omega)
  have hNb : ∀ k, k ≤ winN g t0 h → -(274861129984 * (k : Int)) ≤ sumN (alikeN g m v a) k ∧ sumN (alikeN g m v a) k ≤ 274861129984 * k := fun k hk => sumN_bound fun j hj => (hbt j (by omega)).nd.1
  have hDb : ∀ k, k ≤ winN g t0 h → -(274861129984 * (k : Int)) ≤ sumN (alikeD g m v a) k ∧ sumN (alikeD g m v a) k ≤ 274861129984 * k := fun k hk => sumN_bound fun j hj => (hbt j (by omega)).nd.2
  refine Pure.fn tys_ok Tryd.func60 (by kernel_rfl) rfl rfl fun O => ?_
  repeat refine W_seq ?_
  refine' W_run tys_ok EE_ok false false [] rfl ?ap2 ?k2
  case ap2 => repeat' (first | exact True.intro | exact ACoeL.refl _ | assumption | omega | rfl | (dsimp only; omega) | (refine ⟨?_, ?_⟩) | intro (_ : _ = true) | exact fun _ _ => rfl)
  repeat refine W_seq ?_
  refine' W_run tys_ok EE_ok false false [] rfl ?ap3 ?k3
  case ap3 => repeat' (first | exact True.intro | exact ACoeL.refl _ | assumption | omega | rfl | (dsimp only; omega) | (refine ⟨?_, ?_⟩) | intro (_ : _ = true) | exact fun _ _ => rfl)
  repeat refine W_seq ?_
  refine' W_run tys_ok EE_ok false false [Hint.of (windows_ok g m t0 h)] rfl ?ap4 ?k4
  case ap4 => repeat' (first | exact True.intro | exact ACoeL.refl _ | assumption | omega | rfl | (dsimp only; omega) | (refine ⟨?_, ?_⟩) | intro (_ : _ = true) | exact fun _ _ => rfl)
  repeat refine W_seq ?_
  refine W_block ?_
  refine W_range (ls := fun _ => (0, default)) 0 (fun k => ⟨5, [(0, .box ((cGM g m).map AV.p)), (1, .box [I v]), (2, .box [I 0, I 0]), (3, .box [I (sumN (alikeN g m v a) k), I (sumN (alikeD g m v a) k)]), (4, .fg 0 true)]⟩)
    rfl True.intro (windows1_ok g m t0 h hg ht0 hh) (.inl rfl) (nofg_of rfl) (Le_mk ?_ ⟨⟨ACoeL.refl _, rfl, rfl⟩, rfl, ⟨ACoeL.refl _, rfl, rfl⟩, rfl, ⟨ACoeL.refl _, rfl, rfl⟩, rfl, ⟨ACoeL.refl _, rfl, rfl⟩, rfl, ⟨rfl, rfl⟩, rfl, trivial⟩) (Sub_of rfl)
    (fun k _ => rfl) rfl (fun k _ => rfl) (fun k => Dom_of rfl) (fun k => Sub_of rfl) (fun k => rfl) (fun k => fg_of rfl) (fun k hk O' ls1 hls1 => ?_) ?_
  · repeat' (first | exact trivial | refine ⟨ACoe.refl _, rfl, ?_⟩)
  · have ht : 0 ≤ a + k ∧ a + k ≤ 63 := by omega
    have hN1 := hNb k (by omega); have hN2 := hNb (k + 1) (by omega)
    have hD1 := hDb k (by omega); have hD2 := hDb (k + 1) (by omega)
    simp only [sumN] at hN2 hD2
    have hall := hbt k hk
    obtain ⟨ul, hu⟩ : ∃ ul, usedL g m (a + k) v = ul := ⟨_, rfl⟩
    have hul := usedL_len (g := g) (m := m) (t0 := a + k) (v := v)
    have hmem : ∀ j, j < ul.length → UOk g (ul.getD j (0, 0)) := fun j hj => usedL_ok (by rw [← hu] at hj ⊢; exact getD_mem hj _)
    have hit := used1_ok g m (a + k) v hg hm ht hv
    rw [hu] at hit hul hall
    simp only [winY, ha]
    repeat refine W_seq ?_
    refine' W_run tys_ok EE_ok false false [] rfl ?ap5 ?k5
    case ap5 => repeat' (first | exact True.intro | exact ACoeL.refl _ | assumption | omega | rfl | (dsimp only; omega) | (refine ⟨?_, ?_⟩) | intro (_ : _ = true) | exact fun _ _ => rfl)
    refine ⟨rfl, rfl, fg_of rfl, fun ls2 hls2 => ?_⟩
    repeat refine W_seq ?_
    refine W_block ?_
    repeat refine W_seq ?_
    refine' W_run tys_ok EE_ok false false [] rfl ?ap6 ?k6
    case ap6 => repeat' (first | exact True.intro | exact ACoeL.refl _ | assumption | omega | rfl | (dsimp only; omega) | (refine ⟨?_, ?_⟩) | intro (_ : _ = true) | exact fun _ _ => rfl)
    repeat refine W_seq ?_
    refine' W_run tys_ok EE_ok false false [Hint.of (used_ok g m (a + k) v)] rfl ?ap7 ?k7
    case ap7 => repeat' (first | exact True.intro | exact ACoeL.refl _ | assumption | omega | rfl | (dsimp only; omega) | (refine ⟨?_, ?_⟩) | intro (_ : _ = true) | exact fun _ _ => rfl)
    repeat refine W_seq ?_
    refine W_block ?_
    refine W_range (ls := ls2) 1 (fun j => ⟨9, [(0, .box ((cGM g m).map AV.p)), (1, .box [I v]), (2, .box [I 0, I 0]), (3, .box [I (sumN (alikeN g m v a) k), I (sumN (alikeD g m v a) k)]), (4, .fg 0 true), (5, .box [I (sumL (smpAt g) (kept g (ul.take j)))]), (6, .box [I (sumL (sqAt g) (kept g (ul.take j)))]), (7, .box [I (kept g (ul.take j)).length]), (8, .fg 1 true)]⟩)
      rfl True.intro hit (.inr ⟨_, 4, 0, rfl, rfl, rfl⟩) (nofg_of rfl) (Le_mk ?_ ⟨⟨ACoeL.refl _, rfl, rfl⟩, rfl, ⟨ACoeL.refl _, rfl, rfl⟩, rfl, ⟨ACoeL.refl _, rfl, rfl⟩, rfl, ⟨ACoeL.refl _, rfl, rfl⟩, rfl, ⟨rfl, rfl⟩, rfl, ⟨ACoeL.refl _, rfl, rfl⟩, rfl, ⟨ACoeL.refl _, rfl, rfl⟩, rfl, ⟨ACoeL.refl _, rfl, rfl⟩, rfl, ⟨rfl, rfl⟩, rfl, trivial⟩) (Sub_of rfl)
      (fun k _ => rfl) rfl (fun k _ => rfl) (fun k => Dom_of rfl) (fun k => Sub_of rfl) (fun k => rfl) (fun k => fg_of rfl) (fun j hj O'' ls3 hls3 => ?_) ?_
    · repeat' (first | exact trivial | refine ⟨ACoe.refl _, rfl, ?_⟩)
    · have hp := hmem j hj
      have hsn := take_snoc hj (0, 0)
      have hy : usedY g m (a + k) v j = [I (ul.getD j (0, 0)).1, I (ul.getD j (0, 0)).2] := by rw [usedY, hu]
      obtain ⟨⟨i, t⟩, hpk⟩ : ∃ p, ul.getD j (0, 0) = p := ⟨_, rfl⟩
      rw [hpk] at hp hsn hy
      have h0 : 0 ≤ t := hp.t0
      have h1 : t.toNat < (stripAt g i).sam.length := hp.t1
      have h2 : t < (stripAt g i).sam.length := hp.t2
      have h3 : i < g.length := hp.i
      have hB := LB.of (g := g) (l := ul.take j) (by have := List.length_take_le j ul; omega)
      have hB1 := hB.n; have hB2 := hB.s; have hB3 := hB.q
      rw [hy]
      repeat refine W_seq ?_
      refine' W_run tys_ok EE_ok false false [] rfl ?ap8 ?k8
      case ap8 => repeat' (first | exact True.intro | exact ACoeL.refl _ | assumption | omega | rfl | (dsimp only; omega) | (refine ⟨?_, ?_⟩) | intro (_ : _ = true) | exact fun _ _ => rfl)
      repeat refine W_seq ?_
      refine' W_run tys_ok EE_ok false false [] rfl ?ap9 ?k9
      case ap9 => repeat' (first | exact True.intro | exact ACoeL.refl _ | assumption | omega | rfl | (dsimp only; omega) | (refine ⟨?_, ?_⟩) | intro (_ : _ = true) | exact fun _ _ => rfl)
      refine ⟨rfl, rfl, fg_of rfl, fun ls4 hls4 => ?_⟩
      repeat refine W_seq ?_
      refine W_block ?_
      repeat refine W_seq ?_
      refine' W_run tys_ok EE_ok false false [] rfl ?ap10 ?k10
      case ap10 => repeat' (first | exact True.intro | exact ACoeL.refl _ | assumption | omega | rfl | (dsimp only; omega) | (refine ⟨?_, ?_⟩) | intro (_ : _ = true) | exact fun _ _ => rfl)
      repeat refine W_seq ?_
      refine' W_run tys_ok EE_ok false false [Hint.of (known_ok (smpAt g (i, t)))] rfl ?ap11 ?k11
      case ap11 => repeat' (first | exact True.intro | exact ACoeL.refl _ | assumption | omega | rfl | (dsimp only; omega) | (refine ⟨?_, ?_⟩) | intro (_ : _ = true) | exact fun _ _ => rfl)
      repeat refine W_seq ?_
      refine W_if rfl True.intro (fun h4 => ?_) (fun h4 => ?_)
      · have h4 : knownB (smpAt g (i, t)) = true := h4
        have h5 : -32767 ≤ (stripAt g (i : Int).toNat).sam.getD t.toNat 0 ∧ (stripAt g (i : Int).toNat).sam.getD t.toNat 0 ≤ 32767 := within_iff.1 h4
        have h6 := mul_bound (a := (stripAt g (i : Int).toNat).sam.getD t.toNat 0) (b := (stripAt g (i : Int).toNat).sam.getD t.toNat 0) (A := 32767) (B := 32767) (by omega) (by omega) (by omega) (by omega)
        have hks : kept g (ul.take (j + 1)) = kept g (ul.take j) ++ [(i, t)] := by rw [hsn, kept_snoc, h4, cond_true]
        repeat refine W_seq ?_
        refine' W_any tys_ok EE_ok mixed false [] rfl (fun te ts => by kernel_rfl) (by kernel_rfl) ?ap13 ?k13
        case ap13 => repeat' (first | exact True.intro | exact ACoeL.refl _ | assumption | omega | rfl | (dsimp only; omega) | (refine ⟨?_, ?_⟩) | intro (_ : _ = true) | exact fun _ _ => rfl)
        refine ⟨rfl, ?_⟩
        rw [hks]
        refine Le_mk trivial ⟨⟨ACoeL.refl _, rfl, rfl⟩, rfl, ⟨ACoeL.refl _, rfl, rfl⟩, rfl, ⟨ACoeL.refl _, rfl, rfl⟩, rfl, ⟨ACoeL.refl _, rfl, rfl⟩, rfl, ⟨rfl, rfl⟩, rfl, ⟨ACoeL.cons (I_eq ?_) ACoeL.nil, rfl, rfl⟩, rfl, ⟨ACoeL.cons (I_eq ?_) ACoeL.nil, rfl, rfl⟩, rfl, ⟨ACoeL.cons (I_eq ?_) ACoeL.nil, rfl, rfl⟩, rfl, ⟨rfl, rfl⟩, rfl, trivial⟩
        · rw [sumL_append]; simp only [sumL, Int.add_zero]; rfl
        · rw [sumL_append]; simp only [sumL, Int.add_zero]; rfl
        · simp
      · have hks : kept g (ul.take (j + 1)) = kept g (ul.take j) := by rw [hsn, kept_snoc, show knownB (smpAt g (i, t)) = false from h4, cond_false]
        refine W_skip ?_
        refine ⟨rfl, ?_⟩
        rw [hks]
        exact Le_mk trivial ⟨⟨ACoeL.refl _, rfl, rfl⟩, rfl, ⟨ACoeL.refl _, rfl, rfl⟩, rfl, ⟨ACoeL.refl _, rfl, rfl⟩, rfl, ⟨ACoeL.refl _, rfl, rfl⟩, rfl, ⟨rfl, rfl⟩, rfl, ⟨ACoeL.refl _, rfl, rfl⟩, rfl, ⟨ACoeL.refl _, rfl, rfl⟩, rfl, ⟨ACoeL.refl _, rfl, rfl⟩, rfl, ⟨rfl, rfl⟩, rfl, trivial⟩
    · rw [List.take_length]
      have hd1 := hall.nd
      have hB1 := hall.n; have hB2 := hall.s; have hB3 := hall.q
      simp only [alikeN, alikeD, lineSum, lineSq, lineL, hu] at hN2 hD2
      repeat refine W_seq ?_
      refine' W_any tys_ok EE_ok mixed false [] rfl (fun te ts => by kernel_rfl) (by kernel_rfl) ?ap14 ?k14
      case ap14 => repeat' (first | exact True.intro | exact ACoeL.refl _ | assumption | omega | rfl | (dsimp only; omega) | (refine ⟨?_, ?_⟩) | intro (_ : _ = true) | exact fun _ _ => rfl)
      refine ⟨rfl, ?_⟩
      refine Le_mk trivial ⟨⟨ACoeL.refl _, rfl, rfl⟩, rfl, ⟨ACoeL.refl _, rfl, rfl⟩, rfl, ⟨ACoeL.refl _, rfl, rfl⟩, rfl, ⟨ACoeL.cons (I_eq ?_) (ACoeL.cons (I_eq ?_) ACoeL.nil), rfl, rfl⟩, rfl, ⟨rfl, rfl⟩, rfl, trivial⟩
      · simp only [sumN, alikeN, lineSum, lineL, hu]
      · simp only [sumN, alikeD, lineSq, lineL, hu]
  · repeat refine W_seq ?_
    refine' W_run tys_ok EE_ok false false [] rfl ?ap15 ?k15
    case ap15 => repeat' (first | exact True.intro | exact ACoeL.refl _ | assumption | omega | rfl | (dsimp only; omega) | (refine ⟨?_, ?_⟩) | intro (_ : _ = true) | exact fun _ _ => rfl)
    repeat refine W_seq ?_
    refine W_if rfl True.intro (fun h1 => ?_) (fun h1 => ?_)
    · have h1 : (sumN (alikeD g m v a) (winN g t0 h) == 0) = true := h1
      repeat refine W_seq ?_
      refine' W_run tys_ok EE_ok false false [] rfl ?ap17 ?k17
      case ap17 => repeat' (first | exact True.intro | exact ACoeL.refl _ | assumption | omega | rfl | (dsimp only; omega) | (refine ⟨?_, ?_⟩) | intro (_ : _ = true) | exact fun _ _ => rfl)
      refine W_ret ⟨_, _, rfl, ?_, (by simp only [likeS, likeD, ha, h1]; exact ACoe.refl _)⟩
      · repeat' (first | exact True.intro | exact ACoeL.refl _ | assumption | omega | rfl | (dsimp only; omega) | (refine ⟨?_, ?_⟩) | intro (_ : _ = true) | exact fun _ _ => rfl)
    · have h1 : (sumN (alikeD g m v a) (winN g t0 h) == 0) = false := h1
      refine W_skip ?_
      repeat refine W_seq ?_
      refine' W_run tys_ok EE_ok false false [] rfl ?ap19 ?k19
      case ap19 => repeat' (first | exact True.intro | exact ACoeL.refl _ | assumption | omega | rfl | (dsimp only; omega) | (refine ⟨?_, ?_⟩) | intro (_ : _ = true) | exact fun _ _ => rfl)
      refine W_ret ⟨_, _, rfl, ?_, (by simp only [likeS, likeD, likeN, ha, h1]; exact ACoe.refl _)⟩
      · repeat' (first | exact True.intro | exact ACoeL.refl _ | assumption | omega | rfl | (dsimp only; omega) | (refine ⟨?_, ?_⟩) | intro (_ : _ = true) | exact fun _ _ => rfl)
end Go.Proofs.YtobpnmljijeadaaDoor.A

/- Contracts: Alike, Stack. -/
set_option linter.unusedVariables false
set_option linter.unusedSimpArgs false
namespace Go.Proofs.YtobpnmljijeadaaDoor.A
open Go

def winB (g : List Strip) (t0 h : Int) : Bool := bif within t0 0 (len0 g - 1) then within h 0 4 else false
theorem window_ok (g : List Strip) (m : Mute) (t0 h : Int) (hg : GOk g) : Pure Tryd.prog GG 59 [aGM g m, I t0, I h] (I (bif winB g t0 h then 0 else 93)) := by
  have hL : 1 ≤ len0 g ∧ len0 g ≤ 64 := by have := hg.l0; have := hg.l1; unfold len0; omega
  refine Pure.fn tys_ok Tryd.func59 (by kernel_rfl) rfl rfl fun O => ?_
  repeat refine W_seq ?_
  refine' W_run tys_ok EE_ok false false [] rfl ?ap2 ?k2
  case ap2 => repeat' (first | exact True.intro | exact ACoeL.refl _ | assumption | omega | rfl | (dsimp only; omega) | (refine ⟨?_, ?_⟩) | intro (_ : _ = true) | exact fun _ _ => rfl | fail)
  repeat refine W_seq ?_
  refine' W_run tys_ok EE_ok false false [Hint.of (times_ok g m hg.n0), Hint.of (within_ok t0 0 (len0 g - 1)), Hint.of (within_ok h 0 4)] rfl ?ap3 ?k3
  case ap3 => repeat' (first | exact True.intro | exact ACoeL.refl _ | assumption | omega | rfl | (dsimp only; omega) | (refine ⟨?_, ?_⟩) | intro (_ : _ = true) | exact fun _ _ => rfl | fail)
  repeat refine W_seq ?_
  refine W_if rfl True.intro (fun hb => ?_) (fun hb => ?_)
  · repeat refine W_seq ?_
    refine' W_run tys_ok EE_ok false false [] rfl ?ap5 ?k5
    case ap5 => repeat' (first | exact True.intro | exact ACoeL.refl _ | assumption | omega | rfl | (dsimp only; omega) | (refine ⟨?_, ?_⟩) | intro (_ : _ = true) | exact fun _ _ => rfl | fail)
    refine W_ret ⟨_, _, rfl, ?_, I_eq (by revert hb; unfold winB; cases within t0 0 (len0 g - 1) <;> cases within h 0 4 <;> simp)⟩
    · repeat' (first | exact True.intro | exact ACoeL.refl _ | assumption | omega | rfl | (dsimp only; omega) | (refine ⟨?_, ?_⟩) | intro (_ : _ = true) | exact fun _ _ => rfl | fail)
  · refine W_skip ?_
    repeat refine W_seq ?_
    refine' W_run tys_ok EE_ok false false [] rfl ?ap7 ?k7
    case ap7 => repeat' (first | exact True.intro | exact ACoeL.refl _ | assumption | omega | rfl | (dsimp only; omega) | (refine ⟨?_, ?_⟩) | intro (_ : _ = true) | exact fun _ _ => rfl | fail)
    refine W_ret ⟨_, _, rfl, ?_, I_eq (by revert hb; unfold winB; cases within t0 0 (len0 g - 1) <;> cases within h 0 4 <;> simp)⟩
    · repeat' (first | exact True.intro | exact ACoeL.refl _ | assumption | omega | rfl | (dsimp only; omega) | (refine ⟨?_, ?_⟩) | intro (_ : _ = true) | exact fun _ _ => rfl | fail)
theorem winB_iff {g : List Strip} {t0 h : Int} : winB g t0 h = true ↔ (0 ≤ t0 ∧ t0 ≤ len0 g - 1) ∧ (0 ≤ h ∧ h ≤ 4) := by
  unfold winB
  rw [← within_iff, ← within_iff]
  cases within t0 0 (len0 g - 1) <;> cases within h 0 4 <;> simp

def errS (g : List Strip) (m : Mute) : Int := bif gatherB g then m.err else 90
theorem firstS_gm (g : List Strip) (m : Mute) : firstS [gatheredS g, m.err] = errS g m := by
  rw [firstS_two]; unfold errS gatheredS
  cases gatherB g <;> rfl
theorem errS_zero {g : List Strip} {m : Mute} (h : (firstS [gatheredS g, m.err] != 0) = false) : GOk g ∧ MOk m := by
  rw [firstS_gm] at h
  unfold errS Mute.err at h
  cases hg : gatherB g with
  | false => rw [hg] at h; simp at h
  | true => cases hm : m.ok with
    | false => rw [hg, hm] at h; simp at h
    | true => exact ⟨GOk.of hg, MOk.of hm⟩
theorem errS_ne {g : List Strip} {m : Mute} (h : (firstS [gatheredS g, m.err] != 0) = true) : (gatherB g && m.ok) = false := by
  rw [firstS_gm] at h
  unfold errS Mute.err at h
  cases hg : gatherB g <;> cases hm : m.ok <;> rw [hg, hm] at h <;> simp at h ⊢

def AlikeS (g : List Strip) (m : Mute) (t0 v h : Int) : (Int × Int) × Int :=
  bif gatherB g && m.ok then (bif winB g t0 h then (bif within v 1 1000 then (likeS g m t0 v h, 0) else ((0, 0), 92)) else ((0, 0), 93)) else ((0, 0), errS g m)

theorem Alike2_ok (g : List Strip) (m : Mute) (t0 v h : Int) (hg : GB g) : Pure Tryd.prog GG 23 [aG g, m.enc, I t0, I v, I h] (.tup [.agg [I (AlikeS g m t0 v h).1.1, I (AlikeS g m t0 v h).1.2], I (AlikeS g m t0 v h).2]) := by
  refine Pure.fn tys_ok Tryd.func23 (by kernel_rfl) rfl rfl fun O => ?_
  repeat refine W_seq ?_
  refine' W_run tys_ok EE_ok false false [] rfl ?ap10 ?k10
  case ap10 => repeat' (first | exact True.intro | exact ACoeL.refl _ | assumption | omega | rfl | (dsimp only; omega) | (refine ⟨?_, ?_⟩) | intro (_ : _ = true) | exact fun _ _ => rfl | fail)
  repeat refine W_seq ?_
  refine' W_any tys_ok EE_ok mixed false [Hint.of (gathered_ok g hg), Hint.of (CheckMute_ok m), Hint.of (first_ok [gatheredS g, m.err] (by simp))] rfl (fun te ts => by kernel_rfl) (by kernel_rfl) ?ap11 ?k11
  case ap11 => (repeat' (first | exact True.intro | exact ACoeL.refl _ | assumption | omega | rfl | (dsimp only; omega) | (refine ⟨?_, ?_⟩) | intro (_ : _ = true) | exact fun _ _ => rfl | fail)); all_goals (first | exact ACoeL.cons (ACoe_ro (n := 2) (fun i hi => by rcases i with _ | _ | i; rfl; rfl; omega)) ACoeL.nil | (intro i hi; rcases i with _ | _ | i; rfl; rfl; omega))
  repeat refine W_seq ?_
  refine' W_run tys_ok EE_ok false false [] rfl ?ap12 ?k12
  case ap12 => repeat' (first | exact True.intro | exact ACoeL.refl _ | assumption | omega | rfl | (dsimp only; omega) | (refine ⟨?_, ?_⟩) | intro (_ : _ = true) | exact fun _ _ => rfl | fail)
  repeat refine W_seq ?_
  refine W_if rfl True.intro (fun h1 => ?_) (fun h1 => ?_)
  · have h2 := errS_ne h1
    repeat refine W_seq ?_
    refine' W_run tys_ok EE_ok false false [] rfl ?ap14 ?k14
    case ap14 => repeat' (first | exact True.intro | exact ACoeL.refl _ | assumption | omega | rfl | (dsimp only; omega) | (refine ⟨?_, ?_⟩) | intro (_ : _ = true) | exact fun _ _ => rfl | fail)
    refine W_ret ⟨_, _, rfl, ?_, (by simp only [AlikeS, h2, cond_false, ← firstS_gm]; exact ACoe.refl _)⟩
    · repeat' (first | exact True.intro | exact ACoeL.refl _ | assumption | omega | rfl | (dsimp only; omega) | (refine ⟨?_, ?_⟩) | intro (_ : _ = true) | exact fun _ _ => rfl | fail)
  obtain ⟨hgo, hmo⟩ := errS_zero h1
  have h2 : (gatherB g && m.ok) = true := by rw [hgo.b, hmo.b]; rfl
  refine W_skip ?_
  repeat refine W_seq ?_
  refine' W_run tys_ok EE_ok false false [] rfl ?ap16 ?k16
  case ap16 => repeat' (first | exact True.intro | exact ACoeL.refl _ | assumption | omega | rfl | (dsimp only; omega) | (refine ⟨?_, ?_⟩) | intro (_ : _ = true) | exact fun _ _ => rfl | fail)
  repeat refine W_seq ?_
  refine W_block ?_
  repeat refine W_seq ?_
  refine' W_run tys_ok EE_ok false false [Hint.of (window_ok g m t0 h hgo)] rfl ?ap17 ?k17
  case ap17 => repeat' (first | exact True.intro | exact ACoeL.refl _ | assumption | omega | rfl | (dsimp only; omega) | (refine ⟨?_, ?_⟩) | intro (_ : _ = true) | exact fun _ _ => rfl | fail)
  repeat refine W_seq ?_
  refine W_if rfl True.intro (fun h3 => ?_) (fun h3 => ?_)
  · have h4 : winB g t0 h = false := by cases hw : winB g t0 h with
      | false => rfl
      | true => have h3 : ((bif winB g t0 h then (0 : Int) else 93) != 0) = true := h3
                rw [hw] at h3; simp at h3
    repeat refine W_seq ?_
    refine' W_run tys_ok EE_ok false false [] rfl ?ap19 ?k19
    case ap19 => repeat' (first | exact True.intro | exact ACoeL.refl _ | assumption | omega | rfl | (dsimp only; omega) | (refine ⟨?_, ?_⟩) | intro (_ : _ = true) | exact fun _ _ => rfl | fail)
    refine W_ret ⟨_, _, rfl, ?_, (by simp only [AlikeS, h2, h4, cond_false, cond_true]; exact ACoe.refl _)⟩
    · repeat' (first | exact True.intro | exact ACoeL.refl _ | assumption | omega | rfl | (dsimp only; omega) | (refine ⟨?_, ?_⟩) | intro (_ : _ = true) | exact fun _ _ => rfl | fail)
  have h4 : winB g t0 h = true := by cases hw : winB g t0 h with
    | true => rfl
    | false => have h3 : ((bif winB g t0 h then (0 : Int) else 93) != 0) = false := h3
               rw [hw] at h3; simp at h3
  have h5 := winB_iff.1 h4
  repeat refine W_seq ?_
  refine' W_run tys_ok EE_ok false false [Hint.of (fast_ok v)] rfl ?ap21 ?k21
  case ap21 => repeat' (first | exact True.intro | exact ACoeL.refl _ | assumption | omega | rfl | (dsimp only; omega) | (refine ⟨?_, ?_⟩) | intro (_ : _ = true) | exact fun _ _ => rfl | fail)
  repeat refine W_seq ?_
  refine W_if rfl True.intro (fun h6 => ?_) (fun h6 => ?_)
  · have h7 : within v 1 1000 = false := by simpa using h6
    repeat refine W_seq ?_
    refine' W_run tys_ok EE_ok false false [] rfl ?ap23 ?k23
    case ap23 => repeat' (first | exact True.intro | exact ACoeL.refl _ | assumption | omega | rfl | (dsimp only; omega) | (refine ⟨?_, ?_⟩) | intro (_ : _ = true) | exact fun _ _ => rfl | fail)
    refine W_ret ⟨_, _, rfl, ?_, (by simp only [AlikeS, h2, h4, h7, cond_false, cond_true]; exact ACoe.refl _)⟩
    · repeat' (first | exact True.intro | exact ACoeL.refl _ | assumption | omega | rfl | (dsimp only; omega) | (refine ⟨?_, ?_⟩) | intro (_ : _ = true) | exact fun _ _ => rfl | fail)
  have h7 : within v 1 1000 = true := by simpa using h6
  have h8 := within_iff.1 h7
  refine W_skip ?_
  repeat refine W_seq ?_
  refine' W_run tys_ok EE_ok false false [Hint.of (alike_ok g m t0 v h hgo hmo ⟨by omega, by omega⟩ h8 h5.2)] rfl ?ap25 ?k25
  case ap25 => repeat' (first | exact True.intro | exact ACoeL.refl _ | assumption | omega | rfl | (dsimp only; omega) | (refine ⟨?_, ?_⟩) | intro (_ : _ = true) | exact fun _ _ => rfl | fail)
  refine W_ret ⟨_, _, rfl, ?_, (by simp only [AlikeS, h2, h4, h7, cond_true]; exact ACoe.refl _)⟩
  · repeat' (first | exact True.intro | exact ACoeL.refl _ | assumption | omega | rfl | (dsimp only; omega) | (refine ⟨?_, ?_⟩) | intro (_ : _ = true) | exact fun _ _ => rfl | fail)
end Go.Proofs.YtobpnmljijeadaaDoor.A

/- Contracts: Stack. -/
set_option linter.unusedVariables false
set_option linter.unusedSimpArgs false
namespace Go.Proofs.YtobpnmljijeadaaDoor.A
open Go

abbrev LineD := Int × List (Nat × Int)
def lineE (x : LineD) : List PV := [pI x.1, pNs x.2]
abbrev lineAt (l : List LineD) (i : Nat) : LineD := l.getD i (0, [])
def pLines (l : List LineD) : PV := .ro 2 l.length (fun i => lineE (lineAt l i))
def lineA (l : List LineD) (i : Nat) : List AV := [I (lineAt l i).1, .p (pNs (lineAt l i).2)]
def lineD (g : List Strip) (m : Mute) (vs : List Int) (t : Nat) : LineD := (lineSum g m t (vs.getD t 0), lineL g m t (vs.getD t 0))
def StackL (g : List Strip) (m : Mute) (vs : List Int) : List LineD := (List.range vs.length).map (lineD g m vs)
theorem StackL_len {g : List Strip} {m : Mute} {vs : List Int} : (StackL g m vs).length = vs.length := by simp [StackL]
theorem StackL_at {g : List Strip} {m : Mute} {vs : List Int} {t : Nat} (h : t < vs.length) : lineAt (StackL g m vs) t = lineD g m vs t := by
  simp [lineAt, StackL, List.getD_eq_getElem?_getD, h]
def velOk (g : List Strip) (vs : List Int) : Bool := bif velB vs then (vs.length : Int) == len0 g else false
def StackS (g : List Strip) (m : Mute) (vs : List Int) : List LineD × Int :=
  bif gatherB g && m.ok then (bif velOk g vs then (StackL g m vs, 0) else ([], 92)) else ([], errS g m)
theorem all_getD {l : List Int} {p : Int → Bool} (h : l.all p = true) {k : Nat} (hk : k < l.length) : p (l.getD k 0) = true := by
  have := List.all_eq_true.1 h (l.getD k 0) (getD_mem hk 0)
  exact this
theorem velOk_iff {g : List Strip} {vs : List Int} (h : velOk g vs = true) : velB vs = true ∧ (vs.length : Int) = len0 g := by
  unfold velOk at h
  cases hv : velB vs with
  | true => rw [hv] at h; exact ⟨rfl, by simpa using h⟩
  | false => rw [hv] at h; simp at h
theorem ACoe_nilLines : ACoe (.p (.v (.slice none 0 0))) (.p (pLines [])) := ACoe_nil (by decide) _

theorem Stack_ok (g : List Strip) (m : Mute) (vs : List Int) (hg : GB g) (hvs : vs.length < 1152921504606846976) : Pure Tryd.prog GG 20 [aG g, m.enc, aL vs] (.tup [.p (pLines (StackS g m vs).1), I (StackS g m vs).2]) := by
  refine Pure.fn tys_ok Tryd.func20 (by kernel_rfl) rfl rfl fun O => ?_
  repeat refine W_seq ?_
  refine' W_run tys_ok EE_ok false false [] rfl ?ap2 ?k2
  case ap2 => repeat' (first | exact True.intro | exact ACoeL.refl _ | assumption | omega | rfl | (dsimp only; omega) | (refine ⟨?_, ?_⟩) | intro (_ : _ = true) | exact fun _ _ => rfl | fail)
  repeat refine W_seq ?_
  refine' W_any tys_ok EE_ok mixed false [Hint.of (gathered_ok g hg), Hint.of (CheckMute_ok m), Hint.of (first_ok [gatheredS g, m.err] (by simp))] rfl (fun te ts => by kernel_rfl) (by kernel_rfl) ?ap3 ?k3
  case ap3 => (repeat' (first | exact True.intro | exact ACoeL.refl _ | assumption | omega | rfl | (dsimp only; omega) | (refine ⟨?_, ?_⟩) | intro (_ : _ = true) | exact fun _ _ => rfl | fail)); all_goals (first | exact ACoeL.cons (ACoe_ro (n := 2) (fun i hi => by rcases i with _ | _ | i; rfl; rfl; omega)) ACoeL.nil | (intro i hi; rcases i with _ | _ | i; rfl; rfl; omega))
  repeat refine W_seq ?_
  refine' W_run tys_ok EE_ok false false [] rfl ?ap4 ?k4
  case ap4 => repeat' (first | exact True.intro | exact ACoeL.refl _ | assumption | omega | rfl | (dsimp only; omega) | (refine ⟨?_, ?_⟩) | intro (_ : _ = true) | exact fun _ _ => rfl | fail)
  repeat refine W_seq ?_
  refine W_if rfl True.intro (fun h1 => ?_) (fun h1 => ?_)
  · have h2 := errS_ne h1
    repeat refine W_seq ?_
    refine' W_run tys_ok EE_ok false false [] rfl ?ap6 ?k6
    case ap6 => repeat' (first | exact True.intro | exact ACoeL.refl _ | assumption | omega | rfl | (dsimp only; omega) | (refine ⟨?_, ?_⟩) | intro (_ : _ = true) | exact fun _ _ => rfl | fail)
    refine W_ret ⟨_, _, rfl, ?_, (by simp only [StackS, h2, cond_false, ← firstS_gm]; exact ACoe_tup (ACoeL.cons ACoe_nilLines (ACoeL.refl _)))⟩
    · repeat' (first | exact True.intro | exact ACoeL.refl _ | assumption | omega | rfl | (dsimp only; omega) | (refine ⟨?_, ?_⟩) | intro (_ : _ = true) | exact fun _ _ => rfl | fail)
  obtain ⟨hgo, hmo⟩ := errS_zero h1
  have h2 : (gatherB g && m.ok) = true := by rw [hgo.b, hmo.b]; rfl
  have hL : len0 g ≤ 64 := by have := hgo.l1; unfold len0; omega
  refine W_skip ?_
  repeat refine W_seq ?_
  refine' W_run tys_ok EE_ok false false [] rfl ?ap8 ?k8
  case ap8 => repeat' (first | exact True.intro | exact ACoeL.refl _ | assumption | omega | rfl | (dsimp only; omega) | (refine ⟨?_, ?_⟩) | intro (_ : _ = true) | exact fun _ _ => rfl | fail)
  repeat refine W_seq ?_
  refine' W_run tys_ok EE_ok false false [Hint.of (velocities_ok g m vs hgo.n0 hvs)] rfl ?ap9 ?k9
  case ap9 => repeat' (first | exact True.intro | exact ACoeL.refl _ | assumption | omega | rfl | (dsimp only; omega) | (refine ⟨?_, ?_⟩) | intro (_ : _ = true) | exact fun _ _ => rfl | fail)
  repeat refine W_seq ?_
  refine W_if rfl True.intro (fun h3 => ?_) (fun h3 => ?_)
  · have h4 : velOk g vs = false := by have h3' : (!velOk g vs) = true := h3; simpa using h3'
    repeat refine W_seq ?_
    refine' W_run tys_ok EE_ok false false [] rfl ?ap11 ?k11
    case ap11 => repeat' (first | exact True.intro | exact ACoeL.refl _ | assumption | omega | rfl | (dsimp only; omega) | (refine ⟨?_, ?_⟩) | intro (_ : _ = true) | exact fun _ _ => rfl | fail)
    refine W_ret ⟨_, _, rfl, ?_, (by simp only [StackS, h2, h4, cond_false, cond_true]; exact ACoe_tup (ACoeL.cons ACoe_nilLines (ACoeL.refl _)))⟩
    · repeat' (first | exact True.intro | exact ACoeL.refl _ | assumption | omega | rfl | (dsimp only; omega) | (refine ⟨?_, ?_⟩) | intro (_ : _ = true) | exact fun _ _ => rfl | fail)
  have h4 : velOk g vs = true := by have h3' : (!velOk g vs) = false := h3; simpa using h3'
  obtain ⟨h5, h6⟩ := velOk_iff h4
  refine W_skip ?_
  repeat refine W_seq ?_
  refine' W_run tys_ok EE_ok false false [] rfl ?ap13 ?k13
  case ap13 => repeat' (first | exact True.intro | exact ACoeL.refl _ | assumption | omega | rfl | (dsimp only; omega) | (refine ⟨?_, ?_⟩) | intro (_ : _ = true) | exact fun _ _ => rfl | fail)
  repeat refine W_seq ?_
  refine' W_run tys_ok EE_ok false false [] rfl ?ap14 ?k14
  case ap14 => repeat' (first | exact True.intro | exact ACoeL.refl _ | assumption | omega | rfl | (dsimp only; omega) | (refine ⟨?_, ?_⟩) | intro (_ : _ = true) | exact fun _ _ => rfl | fail)
  repeat refine W_seq ?_
  refine W_block ?_
  refine W_le (Le_nil 10 56 2 (lineA (StackL g m vs)) rfl) (Sub_of rfl) ?_
  refine W_loop (X := Nat) (fun k => ⟨[(9, .bp 8 0), (10, .row 9 2 k), (29, aL vs), (30, I vs.length), (31, I k)], ⟨10, [(0, .dead), (5, .dead), (8, .box ((cGM g m).map AV.p)), (9, .row 56 2 k (lineA (StackL g m vs)))]⟩⟩)
    (fun k => k ≤ vs.length) (fun k => vs.length - k) 0 (by omega) ?_ ?_ ?_
  · refine Le_mk ?_ ?_ <;> (repeat' (first | exact True.intro | refine ⟨ACoe.refl _, rfl, ?_⟩ | refine ⟨⟨ACoeL.refl _, rfl, rfl⟩, rfl, ?_⟩ | refine ⟨trivial, rfl, ?_⟩ | refine ⟨⟨rfl, rfl⟩, rfl, ?_⟩ | refine ⟨⟨rfl, rfl, rfl, fun i hi => ⟨ACoeL.refl _, rfl, rfl⟩⟩, rfl, ?_⟩ | refine ⟨⟨rfl, rfl, rfl, fun i hi => absurd hi (Nat.not_lt_zero i)⟩, rfl, ?_⟩ | refine ⟨⟨rfl, rfl, rfl⟩, rfl, ?_⟩ | fail))
  · exact fun x => Sub_of rfl
  · intro k hk
    repeat refine W_seq ?_
    refine' W_run tys_ok EE_ok false false [] rfl ?ap16 ?k16
    case ap16 => repeat' (first | exact True.intro | exact ACoeL.refl _ | assumption | omega | rfl | (dsimp only; omega) | (refine ⟨?_, ?_⟩) | intro (_ : _ = true) | exact fun _ _ => rfl | fail)
    repeat refine W_seq ?_
    refine W_if rfl True.intro (fun h7 => ?_) (fun h7 => ?_)
    · refine W_skip ?_
      simp only [decide_eq_true_eq] at h7
      have hlt : k < vs.length := by omega
      have hv := within_iff.1 (all_getD h5 hlt)
      have hat := StackL_at (g := g) (m := m) hlt
      repeat refine W_seq ?_
      refine W_block ?_
      repeat refine W_seq ?_
      refine' W_run tys_ok EE_ok false false [] rfl ?ap18 ?k18
      case ap18 => repeat' (first | exact True.intro | exact ACoeL.refl _ | assumption | omega | rfl | (dsimp only; omega) | (refine ⟨?_, ?_⟩) | intro (_ : _ = true) | exact fun _ _ => rfl | fail)
      repeat refine W_seq ?_
      refine' W_run tys_ok EE_ok false false [Hint.of (line_ok g m k (vs.getD k 0) hgo hmo ⟨by omega, by omega⟩ hv)] rfl ?ap19 ?k19
      case ap19 => repeat' (first | exact True.intro | exact ACoeL.refl _ | assumption | omega | rfl | (dsimp only; omega) | (refine ⟨?_, ?_⟩) | intro (_ : _ = true) | exact fun _ _ => rfl | fail)
      repeat refine W_seq ?_
      refine' W_run tys_ok EE_ok false false [] rfl ?ap20 ?k20
      case ap20 => repeat' (first | exact True.intro | exact ACoeL.refl _ | assumption | omega | rfl | (dsimp only; omega) | (refine ⟨?_, ?_⟩) | intro (_ : _ = true) | exact fun _ _ => rfl | fail)
      have hrow : ∀ D, OCoe D (.row 56 2 (k + 1) (fun j => if j < k then lineA (StackL g m vs) j else (fun q => List.take 2 (List.drop (q * 2) [I (lineSum g m k (vs.getD k 0)), .p (pNs (lineL g m k (vs.getD k 0)))])) (j - k))) (.row 56 2 (k + 1) (lineA (StackL g m vs))) := fun D =>
        row_snoc (f2 := fun q => List.take 2 (List.drop (q * 2) [I (lineSum g m k (vs.getD k 0)), .p (pNs (lineL g m k (vs.getD k 0)))])) (by rw [lineA, hat]; rfl) (fun i => rfl)
      exact ⟨k + 1, by omega, by omega, Le_mk (by (repeat' (first | exact True.intro | refine ⟨ACoe.refl _, rfl, ?_⟩ | refine ⟨⟨ACoeL.refl _, rfl, rfl⟩, rfl, ?_⟩ | refine ⟨trivial, rfl, ?_⟩ | refine ⟨⟨rfl, rfl⟩, rfl, ?_⟩ | refine ⟨⟨rfl, rfl, rfl, fun i hi => ⟨ACoeL.refl _, rfl, rfl⟩⟩, rfl, ?_⟩ | refine ⟨⟨rfl, rfl, rfl, fun i hi => absurd hi (Nat.not_lt_zero i)⟩, rfl, ?_⟩ | refine ⟨⟨rfl, rfl, rfl⟩, rfl, ?_⟩ | fail))) ⟨trivial, rfl, trivial, rfl, ⟨ACoeL.refl _, rfl, rfl⟩, rfl, hrow _, rfl, trivial⟩⟩
    · refine W_exit ?_
      simp only [decide_eq_false_iff_not] at h7
      have hke : k = vs.length := by omega
      subst hke
      repeat refine W_seq ?_
      refine' W_run tys_ok EE_ok false false [] rfl ?ap21 ?k21
      case ap21 => repeat' (first | exact True.intro | exact ACoeL.refl _ | assumption | omega | rfl | (dsimp only; omega) | (refine ⟨?_, ?_⟩) | intro (_ : _ = true) | exact fun _ _ => rfl | fail)
      refine W_ret ⟨_, _, rfl, ?_, ?_⟩
      · repeat' (first | exact True.intro | exact ACoeL.refl _ | assumption | omega | rfl | (dsimp only; omega) | (refine ⟨?_, ?_⟩) | intro (_ : _ = true) | exact fun _ _ => rfl | fail)
      simp only [StackS, h2, h4, cond_true]
      refine ACoe_tup (ACoeL.cons (ACoe_eq ?_) (ACoeL.refl _))
      rw [pLines, StackL_len]; rfl
end Go.Proofs.YtobpnmljijeadaaDoor.A

/- Contracts: products of 128 bits; likenesses against each other. -/
set_option linter.unusedVariables false
set_option linter.unusedSimpArgs false
namespace Go.Proofs.YtobpnmljijeadaaDoor.A
open Go

abbrev U (n : Int) : AV := .p (.v (.int .u64 n))
theorem U_eq {a b : Int} (h : a = b) : ACoe (U a) (U b) := h ▸ ACoe.refl _
theorem and_mask {a : Int} (h0 : 0 ≤ a) (h1 : a ≤ 18446744073709551615) : IntKind.u64.wrap (BitVec.ofInt IntKind.u64.bits a &&& BitVec.ofInt IntKind.u64.bits 4294967295).toNat = a % 4294967296 := by
  obtain ⟨n, rfl⟩ : ∃ n : Nat, a = n := ⟨a.toNat, by omega⟩
  have e1 : (BitVec.ofInt 64 (n : Int) &&& BitVec.ofInt 64 4294967295).toNat = n % 4294967296 := by
    rw [BitVec.toNat_and]
    have h2 : (BitVec.ofInt 64 (n : Int)).toNat = n := by
      rw [BitVec.toNat_ofInt]; omega
    have h3 : (BitVec.ofInt 64 4294967295).toNat = 2 ^ 32 - 1 := by decide
    rw [h2, h3, Nat.and_two_pow_sub_one_eq_mod]
  show IntKind.u64.wrap ((BitVec.ofInt 64 (n : Int) &&& BitVec.ofInt 64 4294967295).toNat : Int) = _
  rw [e1]
  have : ((n % 4294967296 : Nat) : Int) = (n : Int) % 4294967296 := by omega
  rw [this]
  exact wrap_rng .u64 _ ⟨by omega, trivial⟩
theorem shr32 {a : Int} (h : 0 ≤ a) : a.fdiv (2 ^ (min (32 : Int).toNat IntKind.u64.bits)) = a / 4294967296 := by
  have : (2 : Int) ^ (min (32 : Int).toNat IntKind.u64.bits) = 4294967296 := by decide
  rw [this, Int.fdiv_eq_ediv_of_nonneg _ (by decide)]
theorem mul_hi {x1 x0 y1 y0 : Int} (h0 : 0 ≤ x0 ∧ x0 < 4294967296) (h1 : 0 ≤ y0 ∧ y0 < 4294967296) (h2 : 0 ≤ x1) (h3 : 0 ≤ y1) :
    ((x1 * 4294967296 + x0) * (y1 * 4294967296 + y0)) / 18446744073709551616 = x1 * y1 + (x1 * y0 + x0 * y0 / 4294967296) / 4294967296 + ((x1 * y0 + x0 * y0 / 4294967296) % 4294967296 + x0 * y1) / 4294967296 := by
  have e : (x1 * 4294967296 + x0) * (y1 * 4294967296 + y0) = x1 * y1 * 18446744073709551616 + (x1 * y0 + x0 * y1) * 4294967296 + x0 * y0 := by grind
  rw [e]
  have p0 : 0 ≤ x0 * y0 := Int.mul_nonneg h0.1 h1.1
  have p1 : 0 ≤ x1 * y0 := Int.mul_nonneg h2 h1.1
  have p2 : 0 ≤ x0 * y1 := Int.mul_nonneg h0.1 h3
  have p3 : 0 ≤ x1 * y1 := Int.mul_nonneg h2 h3
  generalize x0 * y0 = a at *
  generalize x1 * y0 = b at *
  generalize x0 * y1 = c at *
  generalize x1 * y1 = d at *
  omega

theorem wrap_u64 {a : Int} (h : 0 ≤ a) : IntKind.u64.wrap a = a % 18446744073709551616 := by
  simp only [IntKind.wrap, IntKind.signed, IntKind.bits, Bool.false_and, Bool.false_eq_true, if_false]
  rfl

theorem Mul64_ok (a b : Int) (ha : 0 ≤ a ∧ a ≤ 18446744073709551615) (hb : 0 ≤ b ∧ b ≤ 18446744073709551615) : Pure Tryd.prog GG 93 [U a, U b] (.tup [U (a * b / 18446744073709551616), U (a * b % 18446744073709551616)]) := by
  have mk := and_mask ha.1 ha.2
  have mk2 := and_mask hb.1 hb.2
  obtain ⟨x0, hx0⟩ : ∃ x, a % 4294967296 = x := ⟨_, rfl⟩
  obtain ⟨x1, hx1⟩ : ∃ x, a / 4294967296 = x := ⟨_, rfl⟩
  obtain ⟨y0, hy0⟩ : ∃ x, b % 4294967296 = x := ⟨_, rfl⟩
  obtain ⟨y1, hy1⟩ : ∃ x, b / 4294967296 = x := ⟨_, rfl⟩
  have b0 : 0 ≤ x0 ∧ x0 ≤ 4294967295 := by omega
  have b1 : 0 ≤ x1 ∧ x1 ≤ 4294967295 := by omega
  have c0 : 0 ≤ y0 ∧ y0 ≤ 4294967295 := by omega
  have c1 : 0 ≤ y1 ∧ y1 ≤ 4294967295 := by omega
  have hmul : ∀ {u v : Int}, 0 ≤ u ∧ u ≤ 4294967295 → 0 ≤ v ∧ v ≤ 4294967295 → 0 ≤ u * v ∧ u * v ≤ 18446744065119617025 := fun {u v} hu hv => by
    have := mul_bound (a := u) (b := v) (A := 4294967295) (B := 4294967295) (by omega) hu.2 (by omega) hv.2
    exact ⟨Int.mul_nonneg hu.1 hv.1, by omega⟩
  have p00 := hmul b0 c0; have p10 := hmul b1 c0; have p01 := hmul b0 c1; have p11 := hmul b1 c1
  have hi := mul_hi (x1 := x1) (x0 := x0) (y1 := y1) (y0 := y0) (by omega) (by omega) (by omega) (by omega)
  have hab : a * b = (x1 * 4294967296 + x0) * (y1 * 4294967296 + y0) := by
    rw [show x1 * 4294967296 + x0 = a by omega, show y1 * 4294967296 + y0 = b by omega]
  obtain ⟨t, ht⟩ : ∃ t, x1 * y0 + x0 * y0 / 4294967296 = t := ⟨_, rfl⟩
  have hab0 : 0 ≤ a * b := Int.mul_nonneg ha.1 hb.1
  refine Pure.fn tys_ok Tryd.func93 (by kernel_rfl) rfl rfl fun O => ?_
  repeat refine W_seq ?_
  refine' W_run tys_ok EE_ok false false [] rfl ?ap2 ?k2
  case ap2 => repeat' (first | exact True.intro | exact ACoeL.refl _ | assumption | omega | rfl | (dsimp only; omega) | (refine ⟨?_, ?_⟩) | intro (_ : _ = true) | exact fun _ _ => rfl | fail)
  repeat refine W_seq ?_
  refine' W_run tys_ok EE_ok false false [] rfl ?ap3 ?k3
  case ap3 => repeat' (first | exact True.intro | exact ACoeL.refl _ | assumption | omega | rfl | (dsimp only; omega) | (refine ⟨?_, ?_⟩) | intro (_ : _ = true) | exact fun _ _ => rfl | fail)
  repeat refine W_seq ?_
  refine' W_run tys_ok EE_ok false false [] rfl ?ap4 ?k4
  case ap4 => repeat' (first | exact True.intro | exact ACoeL.refl _ | assumption | omega | rfl | (dsimp only; omega) | (refine ⟨?_, ?_⟩) | intro (_ : _ = true) | exact fun _ _ => rfl | fail)
  repeat refine W_seq ?_
  refine' W_run tys_ok EE_ok false false [] rfl ?ap5 ?k5
  case ap5 => repeat' (first | exact True.intro | exact ACoeL.refl _ | assumption | omega | rfl | (dsimp only; omega) | (refine ⟨?_, ?_⟩) | intro (_ : _ = true) | exact fun _ _ => rfl | fail)
  repeat refine W_seq ?_
  refine' W_run tys_ok EE_ok false false [] rfl ?ap6 ?k6
  case ap6 => repeat' (first | exact True.intro | exact ACoeL.refl _ | assumption | omega | rfl | (dsimp only; omega) | (refine ⟨?_, ?_⟩) | intro (_ : _ = true) | exact fun _ _ => rfl | fail)
  refine W_le (σ' := ⟨[(0, U a), (1, U b), (6, U x0), (7, U x1), (8, U y0), (9, U y1)], ⟨0, []⟩⟩) (Le_mk ⟨ACoe.refl _, rfl, ACoe.refl _, rfl, U_eq (mk.trans hx0), rfl, U_eq ((shr32 ha.1).trans hx1), rfl, U_eq (mk2.trans hy0), rfl, U_eq ((shr32 hb.1).trans hy1), rfl, trivial⟩ trivial) (Sub.refl _) ?_
  repeat refine W_seq ?_
  refine' W_run tys_ok EE_ok false false [] rfl ?ap7 ?k7
  case ap7 => repeat' (first | exact True.intro | exact ACoeL.refl _ | assumption | omega | rfl | (dsimp only; omega) | (refine ⟨?_, ?_⟩) | intro (_ : _ = true) | exact fun _ _ => rfl | fail)
  repeat refine W_seq ?_
  refine' W_run tys_ok EE_ok false false [] rfl ?ap8 ?k8
  case ap8 => (repeat' (first | exact True.intro | exact ACoeL.refl _ | assumption | omega | rfl | (dsimp only; omega) | (refine ⟨?_, ?_⟩) | intro (_ : _ = true) | exact fun _ _ => rfl | fail)); all_goals (rw [shr32 (by omega)]; omega)
  refine W_le (σ' := ⟨[(0, U a), (1, U b), (6, U x0), (7, U x1), (8, U y0), (9, U y1), (11, U t)], ⟨0, []⟩⟩) (Le_mk ⟨ACoe.refl _, rfl, ACoe.refl _, rfl, ACoe.refl _, rfl, ACoe.refl _, rfl, ACoe.refl _, rfl, ACoe.refl _, rfl, U_eq (by rw [shr32 (by omega)]; exact ht), rfl, trivial⟩ trivial) (Sub.refl _) ?_
  have ht0 : 0 ≤ t ∧ t ≤ 18446744073709551615 := by omega
  have mk3 := and_mask ht0.1 ht0.2
  repeat refine W_seq ?_
  refine' W_run tys_ok EE_ok false false [] rfl ?ap9 ?k9
  case ap9 => repeat' (first | exact True.intro | exact ACoeL.refl _ | assumption | omega | rfl | (dsimp only; omega) | (refine ⟨?_, ?_⟩) | intro (_ : _ = true) | exact fun _ _ => rfl | fail)
  repeat refine W_seq ?_
  refine' W_run tys_ok EE_ok false false [] rfl ?ap10 ?k10
  case ap10 => repeat' (first | exact True.intro | exact ACoeL.refl _ | assumption | omega | rfl | (dsimp only; omega) | (refine ⟨?_, ?_⟩) | intro (_ : _ = true) | exact fun _ _ => rfl | fail)
  refine W_le (σ' := ⟨[(0, U a), (1, U b), (6, U x0), (7, U x1), (9, U y1), (12, U (t % 4294967296)), (13, U (t / 4294967296))], ⟨0, []⟩⟩) (Le_mk ⟨ACoe.refl _, rfl, ACoe.refl _, rfl, ACoe.refl _, rfl, ACoe.refl _, rfl, ACoe.refl _, rfl, U_eq mk3, rfl, U_eq (shr32 ht0.1), rfl, trivial⟩ trivial) (Sub.refl _) ?_
  repeat refine W_seq ?_
  refine' W_run tys_ok EE_ok false false [] rfl ?ap11 ?k11
  case ap11 => repeat' (first | exact True.intro | exact ACoeL.refl _ | assumption | omega | rfl | (dsimp only; omega) | (refine ⟨?_, ?_⟩) | intro (_ : _ = true) | exact fun _ _ => rfl | fail)
  have hs : (t % 4294967296 + x0 * y1).fdiv (2 ^ (min (32 : Int).toNat IntKind.u64.bits)) = (t % 4294967296 + x0 * y1) / 4294967296 := shr32 (by omega)
  have hhi : a * b / 18446744073709551616 = x1 * y1 + t / 4294967296 + (t % 4294967296 + x0 * y1) / 4294967296 := by rw [hab, hi, ht]
  have hq : a * b / 18446744073709551616 ≤ 18446744073709551615 := by
    have := Int.mul_le_mul ha.2 hb.2 hb.1 (by decide)
    omega
  repeat refine W_seq ?_
  refine' W_run tys_ok EE_ok false false [] rfl ?ap12 ?k12
  case ap12 => (repeat' (first | exact True.intro | exact ACoeL.refl _ | assumption | omega | rfl | (dsimp only; omega) | (refine ⟨?_, ?_⟩) | intro (_ : _ = true) | exact fun _ _ => rfl | fail)); all_goals (rw [hs]; omega)
  repeat refine W_seq ?_
  refine' W_run tys_ok EE_ok false true [] rfl ?ap13 ?k13
  case ap13 => repeat' (first | exact True.intro | exact ACoeL.refl _ | assumption | omega | rfl | (dsimp only; omega) | (refine ⟨?_, ?_⟩) | intro (_ : _ = true) | exact fun _ _ => rfl | fail)
  refine W_ret ⟨_, _, rfl, ?_, (ACoe_tup (ACoeL.cons (U_eq (by rw [hs, hhi])) (ACoeL.cons (U_eq (wrap_u64 hab0)) ACoeL.nil)))⟩
  · repeat' (first | exact True.intro | exact ACoeL.refl _ | assumption | omega | rfl | (dsimp only; omega) | (refine ⟨?_, ?_⟩) | intro (_ : _ = true) | exact fun _ _ => rfl | fail)
end Go.Proofs.YtobpnmljijeadaaDoor.A

/- Contracts: least, every, asked. -/
set_option linter.unusedVariables false
set_option linter.unusedSimpArgs false
namespace Go.Proofs.YtobpnmljijeadaaDoor.A
open Go

/-- A likeness, and a part. -/
structure LkOk (x : Int × Int) : Prop where
  n0 : 0 ≤ x.1
  n1 : x.1 ≤ 2473750169856
  d0 : 1 ≤ x.2
  d1 : x.2 ≤ 2473750169856
structure PtOk (p : Int × Int) : Prop where
  n0 : 1 ≤ p.1
  n1 : p.1 ≤ p.2
  d1 : p.2 ≤ 64
abbrev aP (x : Int × Int) : AV := .agg [I x.1, I x.2]
def leastB (x y p : Int × Int) : Bool := decide (y.1 * p.1 * x.2 ≤ x.1 * p.2 * y.2)
theorem mul_nn {a b A B : Int} (h1 : 0 ≤ a) (h2 : a ≤ A) (h3 : 0 ≤ b) (h4 : b ≤ B) : 0 ≤ a * b ∧ a * b ≤ A * B := ⟨Int.mul_nonneg h1 h3, Int.mul_le_mul h2 h4 h3 (by omega)⟩

theorem least_ok (x y p : Int × Int) (hx : LkOk x) (hy : LkOk y) (hp : PtOk p) : Pure Tryd.prog GG 64 [aP x, aP y, aP p] (Bo (leastB x y p)) := by
  obtain ⟨a, b⟩ := x
  obtain ⟨c, d⟩ := y
  obtain ⟨n, e⟩ := p
  have x1 := hx.n0; have x2 := hx.n1; have x3 := hx.d0; have x4 := hx.d1
  have y1 := hy.n0; have y2 := hy.n1; have y3 := hy.d0; have y4 := hy.d1
  have p1 := hp.n0; have p2 := hp.n1; have p3 := hp.d1
  simp only at x1 x2 x3 x4 y1 y2 y3 y4 p1 p2 p3
  have q1 := mul_nn x1 x2 (show 0 ≤ e by omega) p3
  have q2 := mul_nn y1 y2 (show 0 ≤ n by omega) (show n ≤ 64 by omega)
  have q3 := mul_nn q1.1 q1.2 (show 0 ≤ d by omega) y4
  have q4 := mul_nn q2.1 q2.2 (show 0 ≤ b by omega) x4
  refine Pure.fn tys_ok Tryd.func64 (by kernel_rfl) rfl rfl fun O => ?_
  repeat refine W_seq ?_
  refine' W_run tys_ok EE_ok false false [] rfl ?ap2 ?k2
  case ap2 => repeat' (first | exact True.intro | exact ACoeL.refl _ | assumption | omega | rfl | (dsimp only; omega) | (refine ⟨?_, ?_⟩) | intro (_ : _ = true) | exact fun _ _ => rfl | fail)
  repeat refine W_seq ?_
  refine' W_run tys_ok EE_ok false false [] rfl ?ap3 ?k3
  case ap3 => repeat' (first | exact True.intro | exact ACoeL.refl _ | assumption | omega | rfl | (dsimp only; omega) | (refine ⟨?_, ?_⟩) | intro (_ : _ = true) | exact fun _ _ => rfl | fail)
  repeat refine W_seq ?_
  refine W_if rfl True.intro (fun h1 => ?_) (fun h1 => ?_)
  · have h2 : a = c ∧ b = d := by
      have h1 : listEq [a, b] [c, d] = true := h1
      rw [listEq_iff] at h1
      simpa using h1
    obtain ⟨rfl, rfl⟩ := h2
    have h3 : a * n * b ≤ a * e * b := Int.mul_le_mul_of_nonneg_right (Int.mul_le_mul_of_nonneg_left p2 x1) (by omega)
    repeat refine W_seq ?_
    refine' W_run tys_ok EE_ok false false [] rfl ?ap5 ?k5
    case ap5 => repeat' (first | exact True.intro | exact ACoeL.refl _ | assumption | omega | rfl | (dsimp only; omega) | (refine ⟨?_, ?_⟩) | intro (_ : _ = true) | exact fun _ _ => rfl | fail)
    refine W_ret ⟨_, _, rfl, ?_, Bo_eq (by simp [leastB, h3])⟩
    · repeat' (first | exact True.intro | exact ACoeL.refl _ | assumption | omega | rfl | (dsimp only; omega) | (refine ⟨?_, ?_⟩) | intro (_ : _ = true) | exact fun _ _ => rfl | fail)
  · refine W_skip ?_
    repeat refine W_seq ?_
    refine' W_run tys_ok EE_ok false false [Hint.of (Mul64_ok (a * e) d (by omega) (by omega))] rfl ?ap7 ?k7
    case ap7 => repeat' (first | exact True.intro | exact ACoeL.refl _ | assumption | omega | rfl | (dsimp only; omega) | (refine ⟨?_, ?_⟩) | intro (_ : _ = true) | exact fun _ _ => rfl | fail)
    repeat refine W_seq ?_
    refine' W_run tys_ok EE_ok false false [Hint.of (Mul64_ok (c * n) b (by omega) (by omega))] rfl ?ap8 ?k8
    case ap8 => repeat' (first | exact True.intro | exact ACoeL.refl _ | assumption | omega | rfl | (dsimp only; omega) | (refine ⟨?_, ?_⟩) | intro (_ : _ = true) | exact fun _ _ => rfl | fail)
    have h3 : (bif decide (a * e * d / 18446744073709551616 > c * n * b / 18446744073709551616) then true else bif a * e * d / 18446744073709551616 == c * n * b / 18446744073709551616 then decide (a * e * d % 18446744073709551616 ≥ c * n * b % 18446744073709551616) else false) = leastB (a, b) (c, d) (n, e) := by
      simp only [leastB]
      generalize a * e * d = u at *
      generalize c * n * b = v at *
      by_cases h5 : u / 18446744073709551616 > v / 18446744073709551616
      · rw [decide_eq_true h5, cond_true]; symm; rw [decide_eq_true_eq]; omega
      · rw [decide_eq_false h5, cond_false]
        by_cases h6 : u / 18446744073709551616 = v / 18446744073709551616
        · have : (u / 18446744073709551616 == v / 18446744073709551616) = true := by simpa using h6
          rw [this, cond_true]
          by_cases h7 : v ≤ u
          · rw [decide_eq_true h7, decide_eq_true_eq]; omega
          · rw [decide_eq_false h7, decide_eq_false_iff_not]; omega
        · have : (u / 18446744073709551616 == v / 18446744073709551616) = false := by simpa using h6
          rw [this, cond_false]; symm; rw [decide_eq_false_iff_not]; omega
    repeat refine W_seq ?_
    refine' W_run tys_ok EE_ok false false [] rfl ?ap9 ?k9
    case ap9 => (repeat' (first | exact True.intro | exact ACoeL.refl _ | assumption | omega | rfl | (dsimp only; omega) | (refine ⟨?_, ?_⟩) | intro (_ : _ = true) | exact fun _ _ => rfl | fail)); all_goals (grind)
    refine W_ret ⟨_, _, rfl, ?_, Bo_eq h3⟩
    · repeat' (first | exact True.intro | exact ACoeL.refl _ | assumption | omega | rfl | (dsimp only; omega) | (refine ⟨?_, ?_⟩) | intro (_ : _ = true) | exact fun _ _ => rfl | fail)

def pLk (l : List (Int × Int)) : PV := .ro 2 l.length (fun i => [pI (l.getD i (0, 1)).1, pI (l.getD i (0, 1)).2])
theorem every_ok (l : List (Int × Int)) (hl : l.length < 1152921504606846976) (c1 c2 c3 c4 : PV) (p : Int × Int → Bool) (hp : ∀ x ∈ l, Pure Tryd.prog GG 66 [aP x, .p c1, .p c2, .p c3, .p c4] (Bo (p x))) :
    Pure Tryd.prog GG 65 [.p (pLk l), I (-1), .p (.fn (.func 66) [] [c1, c2, c3, c4])] (Bo (l.all p)) := by
  refine Pure.fn tys_ok Tryd.func65 (by kernel_rfl) rfl rfl fun O => ?_
  repeat refine W_seq ?_
  refine' W_run tys_ok EE_ok false false [] rfl ?ap12 ?k12
  case ap12 => repeat' (first | exact True.intro | exact ACoeL.refl _ | assumption | omega | rfl | (dsimp only; omega) | (refine ⟨?_, ?_⟩) | intro (_ : _ = true) | exact fun _ _ => rfl | fail)
  repeat refine W_seq ?_
  refine' W_run tys_ok EE_ok false false [] rfl ?ap13 ?k13
  case ap13 => repeat' (first | exact True.intro | exact ACoeL.refl _ | assumption | omega | rfl | (dsimp only; omega) | (refine ⟨?_, ?_⟩) | intro (_ : _ = true) | exact fun _ _ => rfl | fail)
  repeat refine W_seq ?_
  refine W_block ?_
  refine W_loop (X := Nat) (fun k => ⟨[(1, I (-1)), (2, .p (.fn (.func 66) [] [c1, c2, c3, c4])), (9, .p (pLk l)), (10, I l.length), (11, I k)], ⟨0, []⟩⟩)
    (fun k => k ≤ l.length ∧ l.all p = (l.drop k).all p) (fun k => l.length - k) 0 ⟨by omega, rfl⟩ ?_ ?_ ?_
  · exact Le_mk ⟨ACoe.refl _, rfl, ACoe.refl _, rfl, ACoe.refl _, rfl, ACoe.refl _, rfl, ACoe.refl _, rfl, trivial⟩ trivial
  · exact fun x => Sub.refl _
  · rintro k ⟨hk, hi⟩
    repeat refine W_seq ?_
    refine' W_run tys_ok EE_ok false false [] rfl ?ap14 ?k14
    case ap14 => repeat' (first | exact True.intro | exact ACoeL.refl _ | assumption | omega | rfl | (dsimp only; omega) | (refine ⟨?_, ?_⟩) | intro (_ : _ = true) | exact fun _ _ => rfl | fail)
    repeat refine W_seq ?_
    refine W_if rfl True.intro (fun h0 => ?_) (fun h0 => ?_)
    · refine W_skip ?_
      simp only [decide_eq_true_eq] at h0
      have hlt : k < l.length := by omega
      rw [drop_getD hlt (0, 1), List.all_cons] at hi
      have hne : ((k : Int) != -1) = true := by simp
      repeat refine W_seq ?_
      refine W_block ?_
      repeat refine W_seq ?_
      refine' W_run tys_ok EE_ok false false [] rfl ?ap16 ?k16
      case ap16 => repeat' (first | exact True.intro | exact ACoeL.refl _ | assumption | omega | rfl | (dsimp only; omega) | (refine ⟨?_, ?_⟩) | intro (_ : _ = true) | exact fun _ _ => rfl | fail)
      repeat refine W_seq ?_
      refine' W_run tys_ok EE_ok false false [Hint.of (hp _ (getD_mem hlt (0, 1)))] rfl ?ap17 ?k17
      case ap17 => repeat' (first | exact True.intro | exact ACoeL.refl _ | assumption | omega | rfl | (dsimp only; omega) | (refine ⟨?_, ?_⟩) | intro (_ : _ = true) | exact fun _ _ => rfl | fail)
      repeat refine W_seq ?_
      refine W_if rfl True.intro (fun h1 => ?_) (fun h1 => ?_)
      · have h2 : p (l.getD k (0, 1)) = false := by
          have h1 : (bif ((k : Int) != -1) then !p (l.getD k (0, 1)) else false) = true := h1
          rw [hne] at h1; simpa using h1
        rw [h2, Bool.false_and] at hi
        repeat refine W_seq ?_
        refine' W_run tys_ok EE_ok false false [] rfl ?ap19 ?k19
        case ap19 => repeat' (first | exact True.intro | exact ACoeL.refl _ | assumption | omega | rfl | (dsimp only; omega) | (refine ⟨?_, ?_⟩) | intro (_ : _ = true) | exact fun _ _ => rfl | fail)
        refine W_ret ⟨_, _, rfl, ?_, Bo_eq hi.symm⟩
        · repeat' (first | exact True.intro | exact ACoeL.refl _ | assumption | omega | rfl | (dsimp only; omega) | (refine ⟨?_, ?_⟩) | intro (_ : _ = true) | exact fun _ _ => rfl | fail)
      · have h2 : p (l.getD k (0, 1)) = true := by
          have h1 : (bif ((k : Int) != -1) then !p (l.getD k (0, 1)) else false) = false := h1
          rw [hne] at h1; simpa using h1
        rw [h2, Bool.true_and] at hi
        refine W_skip ?_
        repeat refine W_seq ?_
        refine' W_run tys_ok EE_ok false false [] rfl ?ap21 ?k21
        case ap21 => repeat' (first | exact True.intro | exact ACoeL.refl _ | assumption | omega | rfl | (dsimp only; omega) | (refine ⟨?_, ?_⟩) | intro (_ : _ = true) | exact fun _ _ => rfl | fail)
        exact ⟨k + 1, ⟨by omega, hi⟩, by omega, Le_mk ⟨ACoe.refl _, rfl, ACoe.refl _, rfl, ACoe.refl _, rfl, ACoe.refl _, rfl, ACoe.refl _, rfl, trivial⟩ trivial⟩
    · refine W_exit ?_
      simp only [decide_eq_false_iff_not] at h0
      have hke : k = l.length := by omega
      subst hke
      rw [List.drop_length] at hi
      repeat refine W_seq ?_
      refine' W_run tys_ok EE_ok false false [] rfl ?ap22 ?k22
      case ap22 => repeat' (first | exact True.intro | exact ACoeL.refl _ | assumption | omega | rfl | (dsimp only; omega) | (refine ⟨?_, ?_⟩) | intro (_ : _ = true) | exact fun _ _ => rfl | fail)
      refine W_ret ⟨_, _, rfl, ?_, Bo_eq hi.symm⟩
      · repeat' (first | exact True.intro | exact ACoeL.refl _ | assumption | omega | rfl | (dsimp only; omega) | (refine ⟨?_, ?_⟩) | intro (_ : _ = true) | exact fun _ _ => rfl | fail)

theorem Picks1_ok (l : List (Int × Int)) (hl : l.length < 1152921504606846976) (i : Nat) (hi : i < l.length) (y p : Int × Int) (hx : LkOk (l.getD i (0, 1))) (hy : LkOk y) (hp : PtOk p) :
    Pure Tryd.prog GG 66 [aP y, .p (.rp [.fn (.func 64) [] []] 0), .p (.rp [pLk l] 0), .p (.rp [pI i] 0), .p (.rp [pI p.1, pI p.2] 0)] (Bo (leastB (l.getD i (0, 1)) y p)) := by
  refine Pure.fn tys_ok Tryd.func66 (by kernel_rfl) rfl rfl fun O => ?_
  repeat refine W_seq ?_
  refine' W_run tys_ok EE_ok false false [] rfl ?ap25 ?k25
  case ap25 => repeat' (first | exact True.intro | exact ACoeL.refl _ | assumption | omega | rfl | (dsimp only; omega) | (refine ⟨?_, ?_⟩) | intro (_ : _ = true) | exact fun _ _ => rfl | fail)
  repeat refine W_seq ?_
  refine' W_any tys_ok EE_ok mixed false [Hint.of (least_ok (l.getD i (0, 1)) y p hx hy hp)] rfl (fun te ts => by kernel_rfl) (by kernel_rfl) ?ap26 ?k26
  case ap26 => repeat' (first | exact True.intro | exact ACoeL.refl _ | assumption | omega | rfl | (dsimp only; omega) | (refine ⟨?_, ?_⟩) | intro (_ : _ = true) | exact fun _ _ => rfl | fail)
  refine W_ret ⟨_, _, rfl, ?_, ACoe.refl _⟩
  · repeat' (first | exact True.intro | exact ACoeL.refl _ | assumption | omega | rfl | (dsimp only; omega) | (refine ⟨?_, ?_⟩) | intro (_ : _ = true) | exact fun _ _ => rfl | fail)

/-- Choices. -/
def chF (l : List Int) : Nat → Bool
  | 0 => true
  | k + 1 => chF l k && (within (l.getD k 0) 1 1000 && (((k : Int) == 0) || decide (l.getD (k - 1) 0 < l.getD k 0)))
def chB (l : List Int) : Bool := within l.length 1 32 && chF l l.length
def partB (p : Int × Int) : Bool := within p.1 1 p.2 && decide (p.2 ≤ 64)
def askedS (g : List Strip) (t0 h : Int) (l : List Int) (p : Int × Int) : Int := bif winB g t0 h && partB p then (bif chB l then 0 else 92) else 93
theorem asked_ok (g : List Strip) (m : Mute) (t0 h : Int) (l : List Int) (p : Int × Int) (hg : GOk g) (hl : l.length < 1152921504606846976) : Pure Tryd.prog GG 63 [aGM g m, I t0, I h, aL l, aP p] (I (askedS g t0 h l p)) := by
  refine Pure.fn tys_ok Tryd.func63 (by kernel_rfl) rfl rfl fun O => ?_
  repeat refine W_seq ?_
  refine' W_run tys_ok EE_ok false false [] rfl ?ap29 ?k29
  case ap29 => repeat' (first | exact True.intro | exact ACoeL.refl _ | assumption | omega | rfl | (dsimp only; omega) | (refine ⟨?_, ?_⟩) | intro (_ : _ = true) | exact fun _ _ => rfl | fail)
  repeat refine W_seq ?_
  refine' W_run tys_ok EE_ok false false [Hint.of (window_ok g m t0 h hg), Hint.of (within_ok p.1 1 p.2)] rfl ?ap30 ?k30
  case ap30 => repeat' (first | exact True.intro | exact ACoeL.refl _ | assumption | omega | rfl | (dsimp only; omega) | (refine ⟨?_, ?_⟩) | intro (_ : _ = true) | exact fun _ _ => rfl | fail)
  have hc : (bif (bif ((bif winB g t0 h then (0 : Int) else 93) != 0) then true else !within p.1 1 p.2) then true else decide (p.2 > 64)) = !(winB g t0 h && partB p) := by
    have : decide (p.2 > 64) = !decide (p.2 ≤ 64) := by rw [← decide_not]; congr 1; simp
    rw [this, partB]
    cases winB g t0 h <;> cases within p.1 1 p.2 <;> cases decide (p.2 ≤ 64) <;> rfl
  repeat refine W_seq ?_
  refine W_if rfl True.intro (fun h1 => ?_) (fun h1 => ?_)
  · have h2 : (winB g t0 h && partB p) = false := by rw [← Bool.not_eq_true']; exact hc.symm.trans h1
    repeat refine W_seq ?_
    refine' W_run tys_ok EE_ok false false [] rfl ?ap32 ?k32
    case ap32 => repeat' (first | exact True.intro | exact ACoeL.refl _ | assumption | omega | rfl | (dsimp only; omega) | (refine ⟨?_, ?_⟩) | intro (_ : _ = true) | exact fun _ _ => rfl | fail)
    refine W_ret ⟨_, _, rfl, ?_, I_eq (by rw [askedS, h2]; rfl)⟩
    · repeat' (first | exact True.intro | exact ACoeL.refl _ | assumption | omega | rfl | (dsimp only; omega) | (refine ⟨?_, ?_⟩) | intro (_ : _ = true) | exact fun _ _ => rfl | fail)
  have h2 : (winB g t0 h && partB p) = true := by rw [← Bool.not_eq_false']; exact hc.symm.trans h1
  refine W_skip ?_
  repeat refine W_seq ?_
  refine' W_run tys_ok EE_ok false false [Hint.of (within_ok l.length 1 32)] rfl ?ap34 ?k34
  case ap34 => repeat' (first | exact True.intro | exact ACoeL.refl _ | assumption | omega | rfl | (dsimp only; omega) | (refine ⟨?_, ?_⟩) | intro (_ : _ = true) | exact fun _ _ => rfl | fail)
  repeat refine W_seq ?_
  refine' W_run tys_ok EE_ok false false [] rfl ?ap35 ?k35
  case ap35 => repeat' (first | exact True.intro | exact ACoeL.refl _ | assumption | omega | rfl | (dsimp only; omega) | (refine ⟨?_, ?_⟩) | intro (_ : _ = true) | exact fun _ _ => rfl | fail)
  repeat refine W_seq ?_
  refine W_block ?_
  refine W_loop (X := Nat) (fun k => ⟨[(3, aL l), (11, Bo (within l.length 1 32 && chF l k)), (35, aL l), (36, I l.length), (37, I k)], ⟨2, [(0, .dead), (1, .dead)]⟩⟩)
    (fun k => k ≤ l.length) (fun k => l.length - k) 0 (by omega) ?_ ?_ ?_
  · refine Le_mk ⟨ACoe.refl _, rfl, Bo_eq (by simp [chF]), rfl, ACoe.refl _, rfl, ACoe.refl _, rfl, ACoe.refl _, rfl, trivial⟩ ?_
    (repeat' (first | exact True.intro | refine ⟨ACoe.refl _, rfl, ?_⟩ | refine ⟨⟨ACoeL.refl _, rfl, rfl⟩, rfl, ?_⟩ | refine ⟨trivial, rfl, ?_⟩ | refine ⟨⟨rfl, rfl⟩, rfl, ?_⟩ | refine ⟨⟨rfl, rfl, rfl, fun i hi => ⟨ACoeL.refl _, rfl, rfl⟩⟩, rfl, ?_⟩ | refine ⟨⟨rfl, rfl, rfl, fun i hi => absurd hi (Nat.not_lt_zero i)⟩, rfl, ?_⟩ | refine ⟨⟨rfl, rfl, rfl⟩, rfl, ?_⟩ | fail))
  · exact fun x => Sub_of rfl
  · intro k hk
    repeat refine W_seq ?_
    refine' W_run tys_ok EE_ok false false [] rfl ?ap36 ?k36
    case ap36 => repeat' (first | exact True.intro | exact ACoeL.refl _ | assumption | omega | rfl | (dsimp only; omega) | (refine ⟨?_, ?_⟩) | intro (_ : _ = true) | exact fun _ _ => rfl | fail)
    repeat refine W_seq ?_
    refine W_if rfl True.intro (fun h3 => ?_) (fun h3 => ?_)
    · refine W_skip ?_
      simp only [decide_eq_true_eq] at h3
      have hlt : k < l.length := by omega
      repeat refine W_seq ?_
      refine W_block ?_
      repeat refine W_seq ?_
      refine' W_run tys_ok EE_ok false false [] rfl ?ap38 ?k38
      case ap38 => repeat' (first | exact True.intro | exact ACoeL.refl _ | assumption | omega | rfl | (dsimp only; omega) | (refine ⟨?_, ?_⟩) | intro (_ : _ = true) | exact fun _ _ => rfl | fail)
      repeat refine W_seq ?_
      refine' W_run tys_ok EE_ok false false [Hint.of (fast_ok (l.getD k 0))] rfl ?ap39 ?k39
      case ap39 => (repeat' (first | exact True.intro | exact ACoeL.refl _ | assumption | omega | rfl | (dsimp only; omega) | (refine ⟨?_, ?_⟩) | intro (_ : _ = true) | exact fun _ _ => rfl | fail)); all_goals (grind)
      repeat refine W_seq ?_
      refine' W_run tys_ok EE_ok false false [] rfl ?ap40 ?k40
      case ap40 => repeat' (first | exact True.intro | exact ACoeL.refl _ | assumption | omega | rfl | (dsimp only; omega) | (refine ⟨?_, ?_⟩) | intro (_ : _ = true) | exact fun _ _ => rfl | fail)
      refine ⟨k + 1, by omega, by omega, Le_mk ⟨ACoe.refl _, rfl, Bo_eq ?_, rfl, ACoe.refl _, rfl, ACoe.refl _, rfl, ACoe.refl _, rfl, trivial⟩ (by (repeat' (first | exact True.intro | refine ⟨ACoe.refl _, rfl, ?_⟩ | refine ⟨⟨ACoeL.refl _, rfl, rfl⟩, rfl, ?_⟩ | refine ⟨trivial, rfl, ?_⟩ | refine ⟨⟨rfl, rfl⟩, rfl, ?_⟩ | refine ⟨⟨rfl, rfl, rfl, fun i hi => ⟨ACoeL.refl _, rfl, rfl⟩⟩, rfl, ?_⟩ | refine ⟨⟨rfl, rfl, rfl, fun i hi => absurd hi (Nat.not_lt_zero i)⟩, rfl, ?_⟩ | refine ⟨⟨rfl, rfl, rfl⟩, rfl, ?_⟩ | fail)))⟩
      show (bif (bif within l.length 1 32 && chF l k then within (l.getD k 0) 1 1000 else false) then (bif ((k : Int) == 0) then true else decide (l.getD ((k : Int) - 1).toNat 0 < l.getD k 0)) else false) = _
      rw [show ((k : Int) - 1).toNat = k - 1 by omega, chF]
      cases within l.length 1 32 <;> cases chF l k <;> cases within (l.getD k 0) 1 1000 <;> cases ((k : Int) == 0) <;> simp
    · refine W_exit ?_
      simp only [decide_eq_false_iff_not] at h3
      have hke : k = l.length := by omega
      subst hke
      repeat refine W_seq ?_
      refine' W_run tys_ok EE_ok false false [] rfl ?ap41 ?k41
      case ap41 => repeat' (first | exact True.intro | exact ACoeL.refl _ | assumption | omega | rfl | (dsimp only; omega) | (refine ⟨?_, ?_⟩) | intro (_ : _ = true) | exact fun _ _ => rfl | fail)
      repeat refine W_seq ?_
      refine W_if rfl True.intro (fun h4 => ?_) (fun h4 => ?_)
      · have h5 : chB l = false := by have h4 : (!chB l) = true := h4; simpa using h4
        repeat refine W_seq ?_
        refine' W_run tys_ok EE_ok false false [] rfl ?ap43 ?k43
        case ap43 => repeat' (first | exact True.intro | exact ACoeL.refl _ | assumption | omega | rfl | (dsimp only; omega) | (refine ⟨?_, ?_⟩) | intro (_ : _ = true) | exact fun _ _ => rfl | fail)
        refine W_ret ⟨_, _, rfl, ?_, I_eq (by rw [askedS, h2, h5]; rfl)⟩
        · repeat' (first | exact True.intro | exact ACoeL.refl _ | assumption | omega | rfl | (dsimp only; omega) | (refine ⟨?_, ?_⟩) | intro (_ : _ = true) | exact fun _ _ => rfl | fail)
      · have h5 : chB l = true := by have h4 : (!chB l) = false := h4; simpa using h4
        refine W_skip ?_
        repeat refine W_seq ?_
        refine' W_run tys_ok EE_ok false false [] rfl ?ap45 ?k45
        case ap45 => repeat' (first | exact True.intro | exact ACoeL.refl _ | assumption | omega | rfl | (dsimp only; omega) | (refine ⟨?_, ?_⟩) | intro (_ : _ = true) | exact fun _ _ => rfl | fail)
        refine W_ret ⟨_, _, rfl, ?_, I_eq (by rw [askedS, h2, h5]; rfl)⟩
        · repeat' (first | exact True.intro | exact ACoeL.refl _ | assumption | omega | rfl | (dsimp only; omega) | (refine ⟨?_, ?_⟩) | intro (_ : _ = true) | exact fun _ _ => rfl | fail)
end Go.Proofs.YtobpnmljijeadaaDoor.A

/- Contracts: Picks. -/
set_option linter.unusedVariables false
set_option linter.unusedSimpArgs false
namespace Go.Proofs.YtobpnmljijeadaaDoor.A
open Go

theorem sumL_nonneg {f : Nat × Int → Int} (h : ∀ p, 0 ≤ f p) : ∀ l, 0 ≤ sumL f l
  | [] => by simp [sumL]
  | p :: l => by have := h p; have := sumL_nonneg h l; simp only [sumL]; omega
theorem sumN_nonneg {f : Nat → Int} (h : ∀ p, 0 ≤ f p) : ∀ n, 0 ≤ sumN f n
  | 0 => by simp [sumN]
  | n + 1 => by have := h n; have := sumN_nonneg h n; simp only [sumN]; omega
theorem sq_nonneg (a : Int) : 0 ≤ a * a := by
  rcases Int.le_total 0 a with h | h
  · exact Int.mul_nonneg h h
  · exact Int.mul_nonneg_of_nonpos_of_nonpos h h
theorem likeS_ok {g : List Strip} {m : Mute} {t0 v h : Int} (hg : GOk g) (ht0 : 0 ≤ t0 ∧ t0 < len0 g) (hh : 0 ≤ h ∧ h ≤ 4) : LkOk (likeS g m t0 v h) := by
  have hlen := hg.n1
  have hw1 : 0 ≤ winA t0 h ∧ winA t0 h ≤ t0 ∧ t0 - h ≤ winA t0 h := by unfold winA; omega
  have hw2 : (winN g t0 h : Int) = min (len0 g - 1) (t0 + h) + 1 - winA t0 h := by unfold winN; omega
  have hw3 : winN g t0 h ≤ 9 := by omega
  have hbt : ∀ j : Nat, LB g (usedL g m (winA t0 h + j) v) := fun j => LB.of (by have := usedL_len (g := g) (m := m) (t0 := winA t0 h + j) (v := v); omega)
  have hN := sumN_bound (f := alikeN g m v (winA t0 h)) (n := winN g t0 h) fun j hj => (hbt j).nd.1
  have hD := sumN_bound (f := alikeD g m v (winA t0 h)) (n := winN g t0 h) fun j hj => (hbt j).nd.2
  have hN0 := sumN_nonneg (f := alikeN g m v (winA t0 h)) (fun j => sq_nonneg _) (winN g t0 h)
  have hD0 := sumN_nonneg (f := alikeD g m v (winA t0 h)) (fun j => Int.mul_nonneg (by omega) (sumL_nonneg (fun p => sq_nonneg _) _)) (winN g t0 h)
  unfold likeS
  have e1 : likeN g m t0 v h = sumN (alikeN g m v (winA t0 h)) (winN g t0 h) := rfl
  have e2 : likeD g m t0 v h = sumN (alikeD g m v (winA t0 h)) (winN g t0 h) := rfl
  cases hz : (likeD g m t0 v h == 0) with
  | true => exact ⟨by simp only [cond_true]; omega, by simp only [cond_true]; omega, by simp only [cond_true]; omega, by simp only [cond_true]; omega⟩
  | false =>
    have hz : likeD g m t0 v h ≠ 0 := by simpa using hz
    exact ⟨by simp only [cond_false]; omega, by simp only [cond_false]; omega, by simp only [cond_false]; omega, by simp only [cond_false]; omega⟩

def likesL (g : List Strip) (m : Mute) (t0 h : Int) (l : List Int) : List (Int × Int) := l.map fun v => likeS g m t0 v h
def pickB (g : List Strip) (m : Mute) (t0 h : Int) (l : List Int) (p : Int × Int) (v : Int) : Bool := (likesL g m t0 h l).all fun y => leastB (likeS g m t0 v h) y p
def PicksL (g : List Strip) (m : Mute) (t0 h : Int) (l : List Int) (p : Int × Int) : List Int := l.filter (pickB g m t0 h l p)
def PicksS (g : List Strip) (m : Mute) (t0 h : Int) (l : List Int) (p : Int × Int) : List Int × Int :=
  bif gatherB g && m.ok then (bif askedS g t0 h l p == 0 then (PicksL g m t0 h l p, 0) else ([], askedS g t0 h l p)) else ([], errS g m)
theorem likesL_at {g : List Strip} {m : Mute} {t0 h : Int} {l : List Int} {k : Nat} (hk : k < l.length) : (likesL g m t0 h l).getD k (0, 1) = likeS g m t0 (l.getD k 0) h := by
  simp [likesL, List.getD_eq_getElem?_getD, hk]
theorem chF_fast {l : List Int} : ∀ {n k : Nat}, chF l n = true → k < n → within (l.getD k 0) 1 1000 = true
  | 0, k, _, h => by omega
  | n + 1, k, h, hk => by
    simp only [chF, Bool.and_eq_true] at h
    by_cases e : k = n
    · subst e; exact h.2.1
    · exact chF_fast h.1 (by omega)
structure AskOk (g : List Strip) (t0 h : Int) (l : List Int) (p : Int × Int) : Prop where
  w : (0 ≤ t0 ∧ t0 < len0 g) ∧ (0 ≤ h ∧ h ≤ 4)
  p : PtOk p
  n : 1 ≤ l.length ∧ l.length ≤ 32
  v : ∀ k, k < l.length → 1 ≤ l.getD k 0 ∧ l.getD k 0 ≤ 1000
theorem AskOk.of {g : List Strip} {t0 h : Int} {l : List Int} {p : Int × Int} (hz : askedS g t0 h l p = 0) : AskOk g t0 h l p := by
  unfold askedS at hz
  cases h1 : winB g t0 h with
  | false => rw [h1] at hz; simp at hz
  | true => cases h2 : partB p with
    | false => rw [h1, h2] at hz; simp at hz
    | true => cases h3 : chB l with
      | false => rw [h1, h2, h3] at hz; simp at hz
      | true =>
        have w1 := winB_iff.1 h1
        simp only [partB, Bool.and_eq_true, decide_eq_true_eq, within_iff] at h2
        simp only [chB, Bool.and_eq_true, within_iff] at h3
        exact ⟨⟨⟨by omega, by omega⟩, w1.2⟩, ⟨by omega, by omega, by omega⟩, by omega, fun k hk => within_iff.1 (chF_fast h3.2 hk)⟩

def numA (l : List Int) (i : Nat) : List AV := [I (l.getD i 0)]
def lkA (l : List (Int × Int)) (i : Nat) : List AV := [I (l.getD i (0, 1)).1, I (l.getD i (0, 1)).2]
theorem filter_at {p : Int → Bool} {l : List Int} {k : Nat} (h : k < l.length) (hk : p (l.getD k 0) = true) : (l.filter p).getD ((l.take k).filter p).length 0 = l.getD k 0 := by
  have e : l = l.take k ++ (l.getD k 0 :: l.drop (k + 1)) := by rw [← drop_getD h, List.take_append_drop]
  have e2 : l.filter p = (l.take k).filter p ++ (l.getD k 0 :: (l.drop (k + 1)).filter p) := by
    conv => lhs; rw [e]
    rw [List.filter_append, List.filter_cons, if_pos hk]
  rw [e2]
  simp [List.getD_eq_getElem?_getD]
theorem ACoe_nilL : ACoe (.p (.v (.slice none 0 0))) (aL []) := ACoe_nil (by decide) _

theorem Picks_ok (g : List Strip) (m : Mute) (t0 h : Int) (l : List Int) (p : Int × Int) (hg : GB g) (hl : l.length < 1152921504606846976) : Pure Tryd.prog GG 25 [aG g, m.enc, I t0, I h, aL l, aP p] (.tup [aL (PicksS g m t0 h l p).1, I (PicksS g m t0 h l p).2]) := by
  refine Pure.fn tys_ok Tryd.func25 (by kernel_rfl) rfl rfl fun O => ?_
  repeat refine W_seq ?_
  refine' W_run tys_ok EE_ok false false [] rfl ?ap2 ?k2
  case ap2 => repeat' (first | exact True.intro | exact ACoeL.refl _ | assumption | omega | rfl | (dsimp only; omega) | (refine ⟨?_, ?_⟩) | intro (_ : _ = true) | exact fun _ _ => rfl | fail)
  repeat refine W_seq ?_
  refine' W_any tys_ok EE_ok mixed false [Hint.of (gathered_ok g hg), Hint.of (CheckMute_ok m), Hint.of (first_ok [gatheredS g, m.err] (by simp))] rfl (fun te ts => by kernel_rfl) (by kernel_rfl) ?ap3 ?k3
  case ap3 => (repeat' (first | exact True.intro | exact ACoeL.refl _ | assumption | omega | rfl | (dsimp only; omega) | (refine ⟨?_, ?_⟩) | intro (_ : _ = true) | exact fun _ _ => rfl | fail)); all_goals (first | exact ACoeL.cons (ACoe_ro (n := 2) (fun i hi => by rcases i with _ | _ | i; rfl; rfl; omega)) ACoeL.nil | (intro i hi; rcases i with _ | _ | i; rfl; rfl; omega))
  repeat refine W_seq ?_
  refine' W_run tys_ok EE_ok false false [] rfl ?ap4 ?k4
  case ap4 => repeat' (first | exact True.intro | exact ACoeL.refl _ | assumption | omega | rfl | (dsimp only; omega) | (refine ⟨?_, ?_⟩) | intro (_ : _ = true) | exact fun _ _ => rfl | fail)
  repeat refine W_seq ?_
  refine W_if rfl True.intro (fun h1 => ?_) (fun h1 => ?_)
  · have h2 := errS_ne h1
    repeat refine W_seq ?_
    refine' W_run tys_ok EE_ok false false [] rfl ?ap6 ?k6
    case ap6 => repeat' (first | exact True.intro | exact ACoeL.refl _ | assumption | omega | rfl | (dsimp only; omega) | (refine ⟨?_, ?_⟩) | intro (_ : _ = true) | exact fun _ _ => rfl | fail)
    refine W_ret ⟨_, _, rfl, ?_, (by simp only [PicksS, h2, cond_false, ← firstS_gm]; exact ACoe_tup (ACoeL.cons ACoe_nilL (ACoeL.refl _)))⟩
    · repeat' (first | exact True.intro | exact ACoeL.refl _ | assumption | omega | rfl | (dsimp only; omega) | (refine ⟨?_, ?_⟩) | intro (_ : _ = true) | exact fun _ _ => rfl | fail)
  obtain ⟨hgo, hmo⟩ := errS_zero h1
  have h2 : (gatherB g && m.ok) = true := by rw [hgo.b, hmo.b]; rfl
  refine W_skip ?_
  repeat refine W_seq ?_
  refine' W_run tys_ok EE_ok false false [] rfl ?ap8 ?k8
  case ap8 => repeat' (first | exact True.intro | exact ACoeL.refl _ | assumption | omega | rfl | (dsimp only; omega) | (refine ⟨?_, ?_⟩) | intro (_ : _ = true) | exact fun _ _ => rfl | fail)
  repeat refine W_seq ?_
  refine' W_run tys_ok EE_ok false false [Hint.of (asked_ok g m t0 h l p hgo hl)] rfl ?ap9 ?k9
  case ap9 => repeat' (first | exact True.intro | exact ACoeL.refl _ | assumption | omega | rfl | (dsimp only; omega) | (refine ⟨?_, ?_⟩) | intro (_ : _ = true) | exact fun _ _ => rfl | fail)
  repeat refine W_seq ?_
  refine' W_run tys_ok EE_ok false false [] rfl ?ap10 ?k10
  case ap10 => repeat' (first | exact True.intro | exact ACoeL.refl _ | assumption | omega | rfl | (dsimp only; omega) | (refine ⟨?_, ?_⟩) | intro (_ : _ = true) | exact fun _ _ => rfl | fail)
  repeat refine W_seq ?_
  refine W_if rfl True.intro (fun h3 => ?_) (fun h3 => ?_)
  · have h4 : (askedS g t0 h l p == 0) = false := by have h3 : (askedS g t0 h l p != 0) = true := h3; simpa [bne] using h3
    repeat refine W_seq ?_
    refine' W_run tys_ok EE_ok false false [] rfl ?ap12 ?k12
    case ap12 => repeat' (first | exact True.intro | exact ACoeL.refl _ | assumption | omega | rfl | (dsimp only; omega) | (refine ⟨?_, ?_⟩) | intro (_ : _ = true) | exact fun _ _ => rfl | fail)
    refine W_ret ⟨_, _, rfl, ?_, (by simp only [PicksS, h2, h4, cond_false, cond_true]; exact ACoe_tup (ACoeL.cons ACoe_nilL (ACoeL.refl _)))⟩
    · repeat' (first | exact True.intro | exact ACoeL.refl _ | assumption | omega | rfl | (dsimp only; omega) | (refine ⟨?_, ?_⟩) | intro (_ : _ = true) | exact fun _ _ => rfl | fail)
  have h4 : (askedS g t0 h l p == 0) = true := by have h3 : (askedS g t0 h l p != 0) = false := h3; simpa [bne] using h3
  have hk := AskOk.of (by simpa using h4)
  have hn := hk.n.2
  refine W_skip ?_
  repeat refine W_seq ?_
  refine' W_run tys_ok EE_ok false false [] rfl ?ap14 ?k14
  case ap14 => repeat' (first | exact True.intro | exact ACoeL.refl _ | assumption | omega | rfl | (dsimp only; omega) | (refine ⟨?_, ?_⟩) | intro (_ : _ = true) | exact fun _ _ => rfl | fail)
  repeat refine W_seq ?_
  refine' W_run tys_ok EE_ok false false [] rfl ?ap15 ?k15
  case ap15 => repeat' (first | exact True.intro | exact ACoeL.refl _ | assumption | omega | rfl | (dsimp only; omega) | (refine ⟨?_, ?_⟩) | intro (_ : _ = true) | exact fun _ _ => rfl | fail)
  obtain ⟨ls, hls⟩ : ∃ ls, likesL g m t0 h l = ls := ⟨_, rfl⟩
  have hll : l.length = ls.length := by rw [← hls]; simp [likesL]
  have hlk : ∀ k, k < l.length → ls.getD k (0, 1) = likeS g m t0 (l.getD k 0) h := fun k hk => by rw [← hls]; exact likesL_at hk
  have hlo : ∀ x ∈ ls, LkOk x := fun x hx => by
    rw [← hls] at hx
    simp only [likesL, List.mem_map] at hx
    obtain ⟨v, hv, rfl⟩ := hx
    exact likeS_ok hgo hk.w.1 hk.w.2
  repeat refine W_seq ?_
  refine W_block ?_
  refine W_le (Le_nilBox 10 0 92 2 (lkA ls) rfl rfl) (Sub_of rfl) ?_
  refine W_loop (X := Nat) (fun k => ⟨[(2, I t0), (3, I h), (4, aL l), (11, .bp 1 0), (15, .bp 9 0), (17, .bp 10 0), (45, aL l), (46, I l.length), (47, I k)], ⟨12, [(0, .dead), (1, .box [I p.1, I p.2]), (6, .dead), (9, .box ((cGM g m).map AV.p)), (10, .box [.row 11 2 k]), (11, .row 92 2 k (lkA ls))]⟩⟩)
    (fun k => k ≤ l.length) (fun k => l.length - k) 0 (by omega) ?_ ?_ ?_
  · refine Le_mk ?_ ?_ <;> (repeat' (first | exact True.intro | refine ⟨ACoe.refl _, rfl, ?_⟩ | refine ⟨⟨ACoeL.refl _, rfl, rfl⟩, rfl, ?_⟩ | refine ⟨trivial, rfl, ?_⟩ | refine ⟨⟨rfl, rfl⟩, rfl, ?_⟩ | refine ⟨⟨rfl, rfl, rfl, fun i hi => ⟨ACoeL.refl _, rfl, rfl⟩⟩, rfl, ?_⟩ | refine ⟨⟨rfl, rfl, rfl, fun i hi => absurd hi (Nat.not_lt_zero i)⟩, rfl, ?_⟩ | refine ⟨⟨rfl, rfl, rfl⟩, rfl, ?_⟩ | fail))
  · exact fun x => Sub_of rfl
  · intro k hkl
    repeat refine W_seq ?_
    refine' W_run tys_ok EE_ok false false [] rfl ?ap17 ?k17
    case ap17 => repeat' (first | exact True.intro | exact ACoeL.refl _ | assumption | omega | rfl | (dsimp only; omega) | (refine ⟨?_, ?_⟩) | intro (_ : _ = true) | exact fun _ _ => rfl | fail)
    repeat refine W_seq ?_
    refine W_if rfl True.intro (fun h5 => ?_) (fun h5 => ?_)
    · refine W_skip ?_
      simp only [decide_eq_true_eq] at h5
      have hlt : k < l.length := by omega
      have hv := hk.v k hlt
      have hat := hlk k hlt
      repeat refine W_seq ?_
      refine W_block ?_
      repeat refine W_seq ?_
      refine' W_run tys_ok EE_ok false false [] rfl ?ap19 ?k19
      case ap19 => repeat' (first | exact True.intro | exact ACoeL.refl _ | assumption | omega | rfl | (dsimp only; omega) | (refine ⟨?_, ?_⟩) | intro (_ : _ = true) | exact fun _ _ => rfl | fail)
      repeat refine W_seq ?_
      refine' W_any tys_ok EE_ok mixed false [Hint.of (alike_ok g m t0 (l.getD k 0) h hgo hmo hk.w.1 hv hk.w.2)] rfl (fun te ts => by kernel_rfl) (by kernel_rfl) ?ap20 ?k20
      case ap20 => repeat' (first | exact True.intro | exact ACoeL.refl _ | assumption | omega | rfl | (dsimp only; omega) | (refine ⟨?_, ?_⟩) | intro (_ : _ = true) | exact fun _ _ => rfl | fail)
      repeat refine W_seq ?_
      refine' W_run tys_ok EE_ok false false [] rfl ?ap21 ?k21
      case ap21 => repeat' (first | exact True.intro | exact ACoeL.refl _ | assumption | omega | rfl | (dsimp only; omega) | (refine ⟨?_, ?_⟩) | intro (_ : _ = true) | exact fun _ _ => rfl | fail)
      have hrow : ∀ D, OCoe D (.row 92 2 (k + 1) (fun j => if j < k then lkA ls j else (fun q => List.take 2 (List.drop (q * 2) [I (likeS g m t0 (l.getD k 0) h).1, I (likeS g m t0 (l.getD k 0) h).2])) (j - k))) (.row 92 2 (k + 1) (lkA ls)) := fun D =>
        row_snoc (f2 := fun q => List.take 2 (List.drop (q * 2) [I (likeS g m t0 (l.getD k 0) h).1, I (likeS g m t0 (l.getD k 0) h).2])) (by rw [lkA, hat]; rfl) (fun i => rfl)
      exact ⟨k + 1, by omega, by omega, Le_mk (by (repeat' (first | exact True.intro | refine ⟨ACoe.refl _, rfl, ?_⟩ | refine ⟨⟨ACoeL.refl _, rfl, rfl⟩, rfl, ?_⟩ | refine ⟨trivial, rfl, ?_⟩ | refine ⟨⟨rfl, rfl⟩, rfl, ?_⟩ | refine ⟨⟨rfl, rfl, rfl, fun i hi => ⟨ACoeL.refl _, rfl, rfl⟩⟩, rfl, ?_⟩ | refine ⟨⟨rfl, rfl, rfl, fun i hi => absurd hi (Nat.not_lt_zero i)⟩, rfl, ?_⟩ | refine ⟨⟨rfl, rfl, rfl⟩, rfl, ?_⟩ | fail))) ⟨trivial, rfl, ⟨ACoeL.refl _, rfl, rfl⟩, rfl, trivial, rfl, ⟨ACoeL.refl _, rfl, rfl⟩, rfl, ⟨ACoeL.refl _, rfl, rfl⟩, rfl, hrow _, rfl, trivial⟩⟩
    · refine W_exit ?_
      simp only [decide_eq_false_iff_not] at h5
      have hke : k = ls.length := by omega
      subst hke
      repeat refine W_seq ?_
      refine' W_run tys_ok EE_ok false false [] rfl ?ap22 ?k22
      case ap22 => repeat' (first | exact True.intro | exact ACoeL.refl _ | assumption | omega | rfl | (dsimp only; omega) | (refine ⟨?_, ?_⟩) | intro (_ : _ = true) | exact fun _ _ => rfl | fail)
      repeat refine W_seq ?_
      refine' W_run tys_ok EE_ok false false [] rfl ?ap23 ?k23
      case ap23 => repeat' (first | exact True.intro | exact ACoeL.refl _ | assumption | omega | rfl | (dsimp only; omega) | (refine ⟨?_, ?_⟩) | intro (_ : _ = true) | exact fun _ _ => rfl | fail)
      repeat refine W_seq ?_
      refine' W_run tys_ok EE_ok false false [] rfl ?ap24 ?k24
      case ap24 => repeat' (first | exact True.intro | exact ACoeL.refl _ | assumption | omega | rfl | (dsimp only; omega) | (refine ⟨?_, ?_⟩) | intro (_ : _ = true) | exact fun _ _ => rfl | fail)
      repeat refine W_seq ?_
      refine W_block ?_
      refine W_le (Le_nil 21 3 1 (numA (PicksL g m t0 h l p)) rfl) (Sub_of rfl) ?_
      refine W_loop (X := Nat) (fun k => ⟨[(11, .bp 1 0), (17, .bp 10 0), (20, .bp 12 0), (21, .row 13 1 ((l.take k).filter (pickB g m t0 h l p)).length), (60, aL l), (61, I l.length), (62, I k)], ⟨14, [(0, .dead), (1, .box [I p.1, I p.2]), (6, .dead), (9, .dead), (10, .box [.row 11 2 ls.length]), (11, .row 92 2 ls.length (lkA ls)), (12, .box [.p (.fn (.func 64) [] [])]), (13, .row 3 1 ((l.take k).filter (pickB g m t0 h l p)).length (numA (PicksL g m t0 h l p)))]⟩⟩)
        (fun k => k ≤ l.length) (fun k => l.length - k) 0 (by omega) ?_ ?_ ?_
      · refine Le_mk ?_ ?_ <;> (repeat' (first | exact True.intro | refine ⟨ACoe.refl _, rfl, ?_⟩ | refine ⟨⟨ACoeL.refl _, rfl, rfl⟩, rfl, ?_⟩ | refine ⟨trivial, rfl, ?_⟩ | refine ⟨⟨rfl, rfl⟩, rfl, ?_⟩ | refine ⟨⟨rfl, rfl, rfl, fun i hi => ⟨ACoeL.refl _, rfl, rfl⟩⟩, rfl, ?_⟩ | refine ⟨⟨rfl, rfl, rfl, fun i hi => absurd hi (Nat.not_lt_zero i)⟩, rfl, ?_⟩ | refine ⟨⟨rfl, rfl, rfl⟩, rfl, ?_⟩ | fail))
      · exact fun x => Sub_of rfl
      · intro k hkl2
        repeat refine W_seq ?_
        refine' W_run tys_ok EE_ok false false [] rfl ?ap26 ?k26
        case ap26 => repeat' (first | exact True.intro | exact ACoeL.refl _ | assumption | omega | rfl | (dsimp only; omega) | (refine ⟨?_, ?_⟩) | intro (_ : _ = true) | exact fun _ _ => rfl | fail)
        repeat refine W_seq ?_
        refine W_if rfl True.intro (fun h6 => ?_) (fun h6 => ?_)
        · refine W_skip ?_
          simp only [decide_eq_true_eq] at h6
          have hlt : k < l.length := by omega
          repeat refine W_seq ?_
          refine W_block ?_
          repeat refine W_seq ?_
          refine' W_run tys_ok EE_ok false false [] rfl ?ap28 ?k28
          case ap28 => repeat' (first | exact True.intro | exact ACoeL.refl _ | assumption | omega | rfl | (dsimp only; omega) | (refine ⟨?_, ?_⟩) | intro (_ : _ = true) | exact fun _ _ => rfl | fail)
          repeat refine W_seq ?_
          refine' W_run tys_ok EE_ok false false [Hint.of (every_ok ls (by omega) (.rp [.fn (.func 64) [] []] 0) (.rp [pLk ls] 0) (.rp [pI k] 0) (.rp [pI p.1, pI p.2] 0) (fun y => leastB (ls.getD k (0, 1)) y p) (fun x hx => Picks1_ok ls (by omega) k (by omega) x p (hlo _ (getD_mem (by omega) _)) (hlo x hx) hk.p))] rfl ?ap29 ?k29
          case ap29 => repeat' (first | exact True.intro | exact ACoeL.refl _ | assumption | omega | rfl | (dsimp only; omega) | (refine ⟨?_, ?_⟩) | intro (_ : _ = true) | exact fun _ _ => rfl | fail)
          have hall : (ls.all fun y => leastB (ls.getD k (0, 1)) y p) = pickB g m t0 h l p (l.getD k 0) := by rw [hlk k hlt, ← hls]; rfl
          have hsn := take_snoc hlt 0
          repeat refine W_seq ?_
          refine W_if rfl True.intro (fun h7 => ?_) (fun h7 => ?_)
          · have h8 : pickB g m t0 h l p (l.getD k 0) = true := by rw [← hall]; exact h7
            have hat := filter_at hlt h8
            have hft : ((l.take (k + 1)).filter (pickB g m t0 h l p)) = ((l.take k).filter (pickB g m t0 h l p)) ++ [l.getD k 0] := by
              rw [hsn, List.filter_append, List.filter_cons, if_pos h8]; rfl
            have hcl : ((l.take k).filter (pickB g m t0 h l p)).length ≤ 32 := by
              have := List.length_filter_le (pickB g m t0 h l p) (l.take k)
              have := List.length_take_le k l
              omega
            repeat refine W_seq ?_
            refine' W_run tys_ok EE_ok false false [] rfl ?ap31 ?k31
            case ap31 => repeat' (first | exact True.intro | exact ACoeL.refl _ | assumption | omega | rfl | (dsimp only; omega) | (refine ⟨?_, ?_⟩) | intro (_ : _ = true) | exact fun _ _ => rfl | fail)
            repeat refine W_seq ?_
            refine' W_run tys_ok EE_ok false false [] rfl ?ap32 ?k32
            case ap32 => repeat' (first | exact True.intro | exact ACoeL.refl _ | assumption | omega | rfl | (dsimp only; omega) | (refine ⟨?_, ?_⟩) | intro (_ : _ = true) | exact fun _ _ => rfl | fail)
            have hrow : ∀ D, OCoe D (.row 3 1 (((l.take k).filter (pickB g m t0 h l p)).length + 1) (fun j => if j < ((l.take k).filter (pickB g m t0 h l p)).length then numA (PicksL g m t0 h l p) j else (fun q => List.take 1 (List.drop (q * 1) [I (l.getD k 0)])) (j - ((l.take k).filter (pickB g m t0 h l p)).length))) (.row 3 1 (((l.take k).filter (pickB g m t0 h l p)).length + 1) (numA (PicksL g m t0 h l p))) := fun D =>
              row_snoc (f2 := fun q => List.take 1 (List.drop (q * 1) [I (l.getD k 0)])) (by rw [numA, PicksL, hat]; rfl) (fun i => rfl)
            refine ⟨k + 1, by omega, by omega, ?_⟩
            rw [hft, List.length_append]
            exact Le_mk (by (repeat' (first | exact True.intro | refine ⟨ACoe.refl _, rfl, ?_⟩ | refine ⟨⟨ACoeL.refl _, rfl, rfl⟩, rfl, ?_⟩ | refine ⟨trivial, rfl, ?_⟩ | refine ⟨⟨rfl, rfl⟩, rfl, ?_⟩ | refine ⟨⟨rfl, rfl, rfl, fun i hi => ⟨ACoeL.refl _, rfl, rfl⟩⟩, rfl, ?_⟩ | refine ⟨⟨rfl, rfl, rfl, fun i hi => absurd hi (Nat.not_lt_zero i)⟩, rfl, ?_⟩ | refine ⟨⟨rfl, rfl, rfl⟩, rfl, ?_⟩ | fail))) ⟨trivial, rfl, ⟨ACoeL.refl _, rfl, rfl⟩, rfl, trivial, rfl, trivial, rfl, ⟨ACoeL.refl _, rfl, rfl⟩, rfl, ⟨rfl, rfl, rfl, fun i hi => ⟨ACoeL.refl _, rfl, rfl⟩⟩, rfl, ⟨ACoeL.refl _, rfl, rfl⟩, rfl, hrow _, rfl, trivial⟩
          · have h8 : pickB g m t0 h l p (l.getD k 0) = false := by rw [← hall]; exact h7
            have hft : ((l.take (k + 1)).filter (pickB g m t0 h l p)) = ((l.take k).filter (pickB g m t0 h l p)) := by
              rw [hsn, List.filter_append, List.filter_cons, if_neg (by rw [h8]; decide)]; simp
            refine W_skip ?_
            repeat refine W_seq ?_
            refine' W_run tys_ok EE_ok false false [] rfl ?ap33 ?k33
            case ap33 => repeat' (first | exact True.intro | exact ACoeL.refl _ | assumption | omega | rfl | (dsimp only; omega) | (refine ⟨?_, ?_⟩) | intro (_ : _ = true) | exact fun _ _ => rfl | fail)
            refine ⟨k + 1, by omega, by omega, ?_⟩
            rw [hft]
            refine Le_mk ?_ ?_ <;> (repeat' (first | exact True.intro | refine ⟨ACoe.refl _, rfl, ?_⟩ | refine ⟨⟨ACoeL.refl _, rfl, rfl⟩, rfl, ?_⟩ | refine ⟨trivial, rfl, ?_⟩ | refine ⟨⟨rfl, rfl⟩, rfl, ?_⟩ | refine ⟨⟨rfl, rfl, rfl, fun i hi => ⟨ACoeL.refl _, rfl, rfl⟩⟩, rfl, ?_⟩ | refine ⟨⟨rfl, rfl, rfl, fun i hi => absurd hi (Nat.not_lt_zero i)⟩, rfl, ?_⟩ | refine ⟨⟨rfl, rfl, rfl⟩, rfl, ?_⟩ | fail))
        · refine W_exit ?_
          simp only [decide_eq_false_iff_not] at h6
          have hke : k = l.length := by omega
          subst hke
          rw [List.take_length]
          repeat refine W_seq ?_
          refine' W_run tys_ok EE_ok false false [] rfl ?ap35 ?k35
          case ap35 => repeat' (first | exact True.intro | exact ACoeL.refl _ | assumption | omega | rfl | (dsimp only; omega) | (refine ⟨?_, ?_⟩) | intro (_ : _ = true) | exact fun _ _ => rfl | fail)
          refine W_ret ⟨_, _, rfl, ?_, ?_⟩
          · repeat' (first | exact True.intro | exact ACoeL.refl _ | assumption | omega | rfl | (dsimp only; omega) | (refine ⟨?_, ?_⟩) | intro (_ : _ = true) | exact fun _ _ => rfl | fail)
          simp only [PicksS, h2, h4, cond_true]
          exact ACoe.refl _
end Go.Proofs.YtobpnmljijeadaaDoor.A

/- Contracts: copies; numbers without what comes again. -/
set_option linter.unusedVariables false
set_option linter.unusedSimpArgs false
namespace Go.Proofs.YtobpnmljijeadaaDoor.A
open Go

def numV (l : List Int) (i : Nat) : List Value := [.int .i64 (l.getD i 0)]
theorem Clone_ok (l : List Int) (hl : l.length * 8 ≤ 140737488355328) : Fresh Tryd.prog GG 75 [aL l] 3 1 l.length (numV l) := by
  refine Fresh.fn (t := 2) Tryd.func75 (by kernel_rfl) rfl rfl rfl (fun i _ => rfl) fun O => ?_
  repeat refine W_seq ?_
  refine' W_run tys_ok EE_ok false false [] rfl ?ap1 ?k1
  case ap1 => repeat' (first | exact True.intro | exact ACoeL.refl _ | assumption | omega | rfl | (dsimp only; omega) | (refine ⟨?_, ?_⟩) | intro (_ : _ = true) | exact fun _ _ => rfl | fail)
  repeat refine W_seq ?_
  refine' W_run tys_ok EE_ok false false [] rfl ?ap2 ?k2
  case ap2 => repeat' (first | exact True.intro | exact ACoeL.refl _ | assumption | omega | rfl | (dsimp only; omega) | (refine ⟨?_, ?_⟩) | intro (_ : _ = true) | exact fun _ _ => rfl | fail)
  repeat refine W_seq ?_
  refine W_ifN rfl True.intro (fun h0 => ?_) ?_
  · repeat refine W_seq ?_
    refine' W_run tys_ok EE_ok false false [] rfl ?ap3 ?k3
    case ap3 => repeat' (first | exact True.intro | exact ACoeL.refl _ | assumption | omega | rfl | (dsimp only; omega) | (refine ⟨?_, ?_⟩) | intro (_ : _ = true) | exact fun _ _ => rfl | fail)
    exact W_ret (.inr ⟨h0, rfl⟩)
  · refine W_skip ?_
    repeat refine W_seq ?_
    refine' W_run tys_ok EE_ok false false [] rfl ?ap4 ?k4
    case ap4 => repeat' (first | exact True.intro | exact ACoeL.refl _ | assumption | omega | rfl | (dsimp only; omega) | (refine ⟨?_, ?_⟩) | intro (_ : _ = true) | exact fun _ _ => rfl | fail)
    refine W_le (σ' := ⟨[(2, .row 0 1 l.length)], ⟨1, [(0, .row 3 1 l.length (fun i => (numV l i).map fun v => .p (.v v)))]⟩⟩) (Le_mk ⟨ACoe_eq (by rw [Nat.zero_add]), rfl, trivial⟩ ⟨⟨rfl, rfl, by rw [Nat.zero_add], fun i hi => ⟨ACoeL.refl _, rfl, rfl⟩⟩, rfl, trivial⟩) (Sub_of rfl) ?_
    exact W_ret (.inl ⟨0, _, rfl, rfl, fun i hi => rfl⟩)

/-- A row of numbers, one of them turned. -/
theorem row_set1 {D : Nat → Bool} {e n k : Nat} {f g : Nat → Int} {v : Int} (hv : v = g k) (h : ∀ i, i ≠ k → i < n → f i = g i) : OCoe D (.row e 1 n (fun j => if j = k then splice [I (f k)] 0 [I v] else [I (f j)])) (.row e 1 n (fun i => [I (g i)])) := by
  refine ⟨rfl, rfl, rfl, fun i hi => ?_⟩
  show ACoeL (if i = k then splice [I (f k)] 0 [I v] else [I (f i)]) [I (g i)] ∧ _ = (if i = k then splice [I (f k)] 0 [I v] else [I (f i)]).length ∧ _
  by_cases hik : i = k
  · subst hik
    rw [if_pos rfl, hv]
    exact ⟨ACoeL.refl _, rfl, rfl⟩
  · rw [if_neg hik, h i hik hi]
    exact ⟨ACoeL.refl _, rfl, rfl⟩

/-! ### Without -/
def woAt (l : List Int) (p q : Int) (i : Nat) : Int := if (i : Int) < p then l.getD i 0 else l.getD i 0 - (q * l.getD ((i : Int) - p).toNat 0) / 64
def woL (l : List Int) (p q : Int) : List Int := (List.range l.length).map (woAt l p q)
theorem woL_len {l : List Int} {p q : Int} : (woL l p q).length = l.length := by simp [woL]
theorem woL_at {l : List Int} {p q : Int} {i : Nat} (h : i < l.length) : (woL l p q).getD i 0 = woAt l p q i := by
  simp [woL, List.getD_eq_getElem?_getD, h]
def NumB (l : List Int) : Prop := l.length ≤ 64 ∧ ∀ i, -65536 ≤ l.getD i 0 ∧ l.getD i 0 ≤ 65536
theorem NumB.of {l : List Int} (h : numbersB l = true) : NumB l ∧ 1 ≤ l.length := by
  unfold numbersB at h
  cases hw : within l.length 1 64 with
  | false => rw [hw] at h; simp at h
  | true =>
    rw [hw, cond_true] at h
    have := within_iff.1 hw
    refine ⟨⟨by omega, fun i => ?_⟩, by omega⟩
    by_cases hi : i < l.length
    · exact within_iff.1 (all_getD h hi)
    · have : l.getD i 0 = 0 := by rw [List.getD_eq_getElem?_getD, List.getElem?_eq_none (by omega)]; rfl
      omega
theorem q_bound {q x : Int} (hq : -64 ≤ q ∧ q ≤ 64) (hx : -65536 ≤ x ∧ x ≤ 65536) : -4194304 ≤ q * x ∧ q * x ≤ 4194304 := by
  have := mul_bound (a := q) (b := x) (A := 64) (B := 65536) hq.1 hq.2 hx.1 hx.2
  omega

theorem without_ok (l : List Int) (p q : Int) (hl : NumB l) (hp : 1 ≤ p ∧ p ≤ 63) (hq : -64 ≤ q ∧ q ≤ 64) : Pure Tryd.prog GG 80 [aL l, I p, I q] (aL (woL l p q)) := by
  have hlen := hl.1
  refine Pure.fn tys_ok Tryd.func80 (by kernel_rfl) rfl rfl fun O => ?_
  repeat refine W_seq ?_
  refine' W_run tys_ok EE_ok false false [] rfl ?ap6 ?k6
  case ap6 => repeat' (first | exact True.intro | exact ACoeL.refl _ | assumption | omega | rfl | (dsimp only; omega) | (refine ⟨?_, ?_⟩) | intro (_ : _ = true) | exact fun _ _ => rfl | fail)
  repeat refine W_seq ?_
  refine W_pieces ?_
  refine WL_run tys_ok EE_ok false false 1 [] rfl True.intro ?_
  refine WL_op (OpW.r (fresh_w (Clone_ok l (by omega)) rfl rfl rfl True.intro rfl (ACoeL.refl _)) rfl) rfl (Form.dom (.new _)) ?_
  refine WL_run tys_ok EE_ok false false 1 [] rfl True.intro (WL_nil ?_)
  repeat refine W_seq ?_
  refine' W_run tys_ok EE_ok false false [] rfl ?ap7 ?k7
  case ap7 => repeat' (first | exact True.intro | exact ACoeL.refl _ | assumption | omega | rfl | (dsimp only; omega) | (refine ⟨?_, ?_⟩) | intro (_ : _ = true) | exact fun _ _ => rfl | fail)
  repeat refine W_seq ?_
  refine W_block ?_
  refine W_loop (X := Nat) (fun k => ⟨[(0, aL l), (1, I p), (2, I q), (7, .row 0 1 l.length), (8, I k)], ⟨1, [(0, .row 3 1 l.length (fun i => [I (if i < k then woAt l p q i else l.getD i 0)]))]⟩⟩)
    (fun k => p ≤ k ∧ k ≤ 128) (fun k => l.length - k) p.toNat (by omega) ?_ ?_ ?_
  · refine Le_mk ⟨ACoe.refl _, rfl, ACoe.refl _, rfl, ACoe.refl _, rfl, ACoe.refl _, rfl, I_eq (by omega), rfl, trivial⟩ ⟨⟨rfl, rfl, rfl, fun i hi => ⟨ACoeL.cons (I_eq ?_) ACoeL.nil, rfl, rfl⟩⟩, rfl, trivial⟩
    split
    · rw [woAt, if_pos (by omega)]
    · rfl
  · exact fun x => Sub_of rfl
  · rintro k ⟨hk1, hk2⟩
    repeat refine W_seq ?_
    refine' W_run tys_ok EE_ok false false [] rfl ?ap8 ?k8
    case ap8 => repeat' (first | exact True.intro | exact ACoeL.refl _ | assumption | omega | rfl | (dsimp only; omega) | (refine ⟨?_, ?_⟩) | intro (_ : _ = true) | exact fun _ _ => rfl | fail)
    repeat refine W_seq ?_
    refine W_if rfl True.intro (fun h1 => ?_) (fun h1 => ?_)
    · refine W_skip ?_
      simp only [decide_eq_true_eq] at h1
      have hlt : k < l.length := by omega
      have hb1 := hl.2 k
      have hb2 := hl.2 ((k : Int) - p).toNat
      have hb3 := q_bound hq hb2
      have hb4 := ediv_bound (a := q * l.getD ((k : Int) - p).toNat 0) (b := 64) (A := 4194304) (by omega) (by omega) (by omega)
      repeat refine W_seq ?_
      refine W_block ?_
      repeat refine W_seq ?_
      refine' W_any tys_ok EE_ok mixed false [Hint.of (down_ok (q * l.getD ((k : Int) - p).toNat 0) ⟨by omega, by omega⟩)] rfl (fun te ts => by kernel_rfl) (by kernel_rfl) ?ap10 ?k10
      case ap10 => (repeat' (first | exact True.intro | exact ACoeL.refl _ | assumption | omega | rfl | (dsimp only; omega) | (refine ⟨?_, ?_⟩) | intro (_ : _ = true) | exact fun _ _ => rfl | fail)); all_goals ((simp only [Int.toNat_natCast, Nat.lt_irrefl, if_false]; omega))
      repeat refine W_seq ?_
      refine' W_run tys_ok EE_ok false false [] rfl ?ap11 ?k11
      case ap11 => repeat' (first | exact True.intro | exact ACoeL.refl _ | assumption | omega | rfl | (dsimp only; omega) | (refine ⟨?_, ?_⟩) | intro (_ : _ = true) | exact fun _ _ => rfl | fail)
      refine ⟨k + 1, ⟨by omega, by omega⟩, by omega, Le_mk ⟨ACoe.refl _, rfl, ACoe.refl _, rfl, ACoe.refl _, rfl, ACoe.refl _, rfl, ACoe.refl _, rfl, trivial⟩ ⟨?_, rfl, trivial⟩⟩
      refine row_set1 (k := k) (f := fun i => if i < k then woAt l p q i else l.getD i 0) (g := fun i => if i < k + 1 then woAt l p q i else l.getD i 0) (v := (if k < k then woAt l p q k else l.getD k 0) - q * l.getD ((k : Int) - p).toNat 0 / 64) ?_ ?_
      · simp only [Nat.lt_irrefl, if_false, Nat.lt_succ_self, if_true]
        rw [woAt, if_neg (by omega)]
      · intro i hi hin
        by_cases h2 : i < k
        · rw [if_pos h2, if_pos (by omega)]
        · rw [if_neg h2, if_neg (by omega)]
    · refine W_exit ?_
      simp only [decide_eq_false_iff_not] at h1
      have hke : l.length ≤ k := by omega
      repeat refine W_seq ?_
      refine' W_run tys_ok EE_ok false false [] rfl ?ap12 ?k12
      case ap12 => repeat' (first | exact True.intro | exact ACoeL.refl _ | assumption | omega | rfl | (dsimp only; omega) | (refine ⟨?_, ?_⟩) | intro (_ : _ = true) | exact fun _ _ => rfl | fail)
      refine W_ret ⟨_, _, rfl, ?_, ?_⟩
      · repeat' (first | exact True.intro | exact ACoeL.refl _ | assumption | omega | rfl | (dsimp only; omega) | (refine ⟨?_, ?_⟩) | intro (_ : _ = true) | exact fun _ _ => rfl | fail)
      refine ACoe.trans (ACoe_ro (f' := fun i => [pI ((woL l p q).getD i 0)]) (fun i hi => ?_)) (ACoe_eq (by show AV.p (PV.ro 1 l.length _) = AV.p (PV.ro 1 (woL l p q).length _); rw [woL_len]))
      rw [woL_at hi]
      show [pI (if i < k then woAt l p q i else l.getD i 0)] = _
      rw [if_pos (by omega)]

def WithoutS (l : List Int) (p q : Int) : List Int × Int := bif numbersB l then (bif repeatS p q then (woL l p q, 0) else ([], 95)) else ([], 3)
theorem repeatS_iff {p q : Int} : repeatS p q = true ↔ (1 ≤ p ∧ p ≤ 63) ∧ (-64 ≤ q ∧ q ≤ 64) := by
  unfold repeatS
  rw [← within_iff, ← within_iff]
  cases within p 1 63 <;> cases within q (-64) 64 <;> simp
theorem Without_ok (l : List Int) (p q : Int) (hl : l.length < 1152921504606846976) : Pure Tryd.prog GG 37 [aL l, I p, I q] (.tup [aL (WithoutS l p q).1, I (WithoutS l p q).2]) := by
  have hc : ∀ a b : Bool, (bif !a then true else !b) = !(bif a then b else false) := by decide
  refine Pure.fn tys_ok Tryd.func37 (by kernel_rfl) rfl rfl fun O => ?_
  repeat refine W_seq ?_
  refine' W_run tys_ok EE_ok false false [] rfl ?ap15 ?k15
  case ap15 => repeat' (first | exact True.intro | exact ACoeL.refl _ | assumption | omega | rfl | (dsimp only; omega) | (refine ⟨?_, ?_⟩) | intro (_ : _ = true) | exact fun _ _ => rfl | fail)
  repeat refine W_seq ?_
  refine' W_run tys_ok EE_ok false false [Hint.of (numbers_ok l hl)] rfl ?ap16 ?k16
  case ap16 => repeat' (first | exact True.intro | exact ACoeL.refl _ | assumption | omega | rfl | (dsimp only; omega) | (refine ⟨?_, ?_⟩) | intro (_ : _ = true) | exact fun _ _ => rfl | fail)
  repeat refine W_seq ?_
  refine W_if rfl True.intro (fun h1 => ?_) (fun h1 => ?_)
  · simp only [Bool.not_eq_true'] at h1
    repeat refine W_seq ?_
    refine' W_run tys_ok EE_ok false false [] rfl ?ap18 ?k18
    case ap18 => repeat' (first | exact True.intro | exact ACoeL.refl _ | assumption | omega | rfl | (dsimp only; omega) | (refine ⟨?_, ?_⟩) | intro (_ : _ = true) | exact fun _ _ => rfl | fail)
    refine W_ret ⟨_, _, rfl, ?_, (by simp only [WithoutS, h1, cond_false]; exact ACoe_tup (ACoeL.cons ACoe_nilL (ACoeL.refl _)))⟩
    · repeat' (first | exact True.intro | exact ACoeL.refl _ | assumption | omega | rfl | (dsimp only; omega) | (refine ⟨?_, ?_⟩) | intro (_ : _ = true) | exact fun _ _ => rfl | fail)
  simp only [Bool.not_eq_false'] at h1
  refine W_skip ?_
  repeat refine W_seq ?_
  refine' W_run tys_ok EE_ok false false [Hint.of (within_ok p 1 63), Hint.of (repeats_ok q)] rfl ?ap20 ?k20
  case ap20 => repeat' (first | exact True.intro | exact ACoeL.refl _ | assumption | omega | rfl | (dsimp only; omega) | (refine ⟨?_, ?_⟩) | intro (_ : _ = true) | exact fun _ _ => rfl | fail)
  repeat refine W_seq ?_
  refine W_if rfl True.intro (fun h2 => ?_) (fun h2 => ?_)
  · have h3 : repeatS p q = false := by rw [← Bool.not_eq_true', repeatS, ← hc]; exact h2
    repeat refine W_seq ?_
    refine' W_run tys_ok EE_ok false false [] rfl ?ap22 ?k22
    case ap22 => repeat' (first | exact True.intro | exact ACoeL.refl _ | assumption | omega | rfl | (dsimp only; omega) | (refine ⟨?_, ?_⟩) | intro (_ : _ = true) | exact fun _ _ => rfl | fail)
    refine W_ret ⟨_, _, rfl, ?_, (by simp only [WithoutS, h1, h3, cond_true, cond_false]; exact ACoe_tup (ACoeL.cons ACoe_nilL (ACoeL.refl _)))⟩
    · repeat' (first | exact True.intro | exact ACoeL.refl _ | assumption | omega | rfl | (dsimp only; omega) | (refine ⟨?_, ?_⟩) | intro (_ : _ = true) | exact fun _ _ => rfl | fail)
  have h3 : repeatS p q = true := by rw [← Bool.not_eq_false', repeatS, ← hc]; exact h2
  have h4 := repeatS_iff.1 h3
  refine W_skip ?_
  repeat refine W_seq ?_
  refine' W_run tys_ok EE_ok false false [Hint.of (without_ok l p q (NumB.of h1).1 h4.1 h4.2)] rfl ?ap24 ?k24
  case ap24 => repeat' (first | exact True.intro | exact ACoeL.refl _ | assumption | omega | rfl | (dsimp only; omega) | (refine ⟨?_, ?_⟩) | intro (_ : _ = true) | exact fun _ _ => rfl | fail)
  refine W_ret ⟨_, _, rfl, ?_, (by simp only [WithoutS, h1, h3, cond_true]; exact ACoe.refl _)⟩
  · repeat' (first | exact True.intro | exact ACoeL.refl _ | assumption | omega | rfl | (dsimp only; omega) | (refine ⟨?_, ?_⟩) | intro (_ : _ = true) | exact fun _ _ => rfl | fail)
end Go.Proofs.YtobpnmljijeadaaDoor.A

/- Contracts: numbers with what comes again. -/
set_option linter.unusedVariables false
set_option linter.unusedSimpArgs false
namespace Go.Proofs.YtobpnmljijeadaaDoor.A
open Go

def wgo (l : List Int) (p q : Int) : Nat → List Int
  | 0 => []
  | k + 1 => wgo l p q k ++ [if (k : Int) < p then l.getD k 0 else l.getD k 0 + q * (wgo l p q k).getD ((k : Int) - p).toNat 0 / 64]
theorem wgo_len {l : List Int} {p q : Int} : ∀ k, (wgo l p q k).length = k
  | 0 => rfl
  | k + 1 => by simp [wgo, wgo_len k]
def wAt (l : List Int) (p q : Int) (i : Nat) : Int := (wgo l p q (i + 1)).getD i 0
theorem wgo_at {l : List Int} {p q : Int} {i : Nat} : ∀ k, i < k → (wgo l p q k).getD i 0 = wAt l p q i
  | 0, h => by omega
  | k + 1, h => by
    by_cases e : i = k
    · subst e; rfl
    · rw [← wgo_at k (by omega)]
      simp only [wgo, List.getD_eq_getElem?_getD]
      rw [List.getElem?_append_left (by rw [wgo_len]; omega)]
theorem wAt_eq {l : List Int} {p q : Int} (hp : 1 ≤ p) (k : Nat) : wAt l p q k = if (k : Int) < p then l.getD k 0 else l.getD k 0 + q * wAt l p q ((k : Int) - p).toNat / 64 := by
  have e : wAt l p q k = if (k : Int) < p then l.getD k 0 else l.getD k 0 + q * (wgo l p q k).getD ((k : Int) - p).toNat 0 / 64 := by
    simp only [wAt, wgo, List.getD_eq_getElem?_getD]
    rw [List.getElem?_append_right (by rw [wgo_len]; omega), wgo_len]
    simp
  rw [e]
  split
  · rfl
  · rw [wgo_at k (by omega)]
def withL (l : List Int) (p q : Int) : List Int := (List.range l.length).map (wAt l p q)
theorem withL_len {l : List Int} {p q : Int} : (withL l p q).length = l.length := by simp [withL]
theorem withL_at {l : List Int} {p q : Int} {i : Nat} (h : i < l.length) : (withL l p q).getD i 0 = wAt l p q i := by
  simp [withL, List.getD_eq_getElem?_getD, h]
abbrev enB (n : Int) : Bool := within n (-65536) 65536
def WithS (l : List Int) (p q : Int) : List Int × Int := bif numbersB l then (bif repeatS p q then (bif (withL l p q).all enB then (withL l p q, 0) else ([], 7)) else ([], 95)) else ([], 3)
theorem withL_bad {l : List Int} {p q : Int} {k : Nat} (hk : k < l.length) (h : enB (wAt l p q k) = false) : (withL l p q).all enB = false := by
  rw [Bool.eq_false_iff]
  intro hall
  have := all_getD hall (k := k) (by rw [withL_len]; exact hk)
  rw [withL_at hk, h] at this
  simp at this
theorem withL_good {l : List Int} {p q : Int} (h : ∀ i, i < l.length → enB (wAt l p q i) = true) : (withL l p q).all enB = true := by
  rw [List.all_eq_true]
  intro x hx
  simp only [withL, List.mem_map, List.mem_range] at hx
  obtain ⟨i, hi, rfl⟩ := hx
  exact h i hi

theorem With_ok (l : List Int) (p q : Int) (hl : l.length < 1152921504606846976) : Pure Tryd.prog GG 35 [aL l, I p, I q] (.tup [aL (WithS l p q).1, I (WithS l p q).2]) := by
  have hc : ∀ a b : Bool, (bif !a then true else !b) = !(bif a then b else false) := by decide
  refine Pure.fn tys_ok Tryd.func35 (by kernel_rfl) rfl rfl fun O => ?_
  repeat refine W_seq ?_
  refine' W_run tys_ok EE_ok false false [] rfl ?ap2 ?k2
  case ap2 => repeat' (first | exact True.intro | exact ACoeL.refl _ | assumption | omega | rfl | (dsimp only; omega) | (refine ⟨?_, ?_⟩) | intro (_ : _ = true) | exact fun _ _ => rfl | fail)
  repeat refine W_seq ?_
  refine' W_run tys_ok EE_ok false false [Hint.of (numbers_ok l hl)] rfl ?ap3 ?k3
  case ap3 => repeat' (first | exact True.intro | exact ACoeL.refl _ | assumption | omega | rfl | (dsimp only; omega) | (refine ⟨?_, ?_⟩) | intro (_ : _ = true) | exact fun _ _ => rfl | fail)
  repeat refine W_seq ?_
  refine W_if rfl True.intro (fun h1 => ?_) (fun h1 => ?_)
  · simp only [Bool.not_eq_true'] at h1
    repeat refine W_seq ?_
    refine' W_run tys_ok EE_ok false false [] rfl ?ap5 ?k5
    case ap5 => repeat' (first | exact True.intro | exact ACoeL.refl _ | assumption | omega | rfl | (dsimp only; omega) | (refine ⟨?_, ?_⟩) | intro (_ : _ = true) | exact fun _ _ => rfl | fail)
    refine W_ret ⟨_, _, rfl, ?_, (by simp only [WithS, h1, cond_false]; exact ACoe_tup (ACoeL.cons ACoe_nilL (ACoeL.refl _)))⟩
    · repeat' (first | exact True.intro | exact ACoeL.refl _ | assumption | omega | rfl | (dsimp only; omega) | (refine ⟨?_, ?_⟩) | intro (_ : _ = true) | exact fun _ _ => rfl | fail)
  simp only [Bool.not_eq_false'] at h1
  refine W_skip ?_
  repeat refine W_seq ?_
  refine' W_run tys_ok EE_ok false false [Hint.of (within_ok p 1 63), Hint.of (repeats_ok q)] rfl ?ap7 ?k7
  case ap7 => repeat' (first | exact True.intro | exact ACoeL.refl _ | assumption | omega | rfl | (dsimp only; omega) | (refine ⟨?_, ?_⟩) | intro (_ : _ = true) | exact fun _ _ => rfl | fail)
  repeat refine W_seq ?_
  refine W_if rfl True.intro (fun h2 => ?_) (fun h2 => ?_)
  · have h3 : repeatS p q = false := by rw [← Bool.not_eq_true', repeatS, ← hc]; exact h2
    repeat refine W_seq ?_
    refine' W_run tys_ok EE_ok false false [] rfl ?ap9 ?k9
    case ap9 => repeat' (first | exact True.intro | exact ACoeL.refl _ | assumption | omega | rfl | (dsimp only; omega) | (refine ⟨?_, ?_⟩) | intro (_ : _ = true) | exact fun _ _ => rfl | fail)
    refine W_ret ⟨_, _, rfl, ?_, (by simp only [WithS, h1, h3, cond_true, cond_false]; exact ACoe_tup (ACoeL.cons ACoe_nilL (ACoeL.refl _)))⟩
    · repeat' (first | exact True.intro | exact ACoeL.refl _ | assumption | omega | rfl | (dsimp only; omega) | (refine ⟨?_, ?_⟩) | intro (_ : _ = true) | exact fun _ _ => rfl | fail)
  have h3 : repeatS p q = true := by rw [← Bool.not_eq_false', repeatS, ← hc]; exact h2
  obtain ⟨hp, hq⟩ := repeatS_iff.1 h3
  have hnb := (NumB.of h1).1
  have hlen := hnb.1
  refine W_skip ?_
  repeat refine W_seq ?_
  refine W_pieces ?_
  refine WL_run tys_ok EE_ok false false 1 [] rfl True.intro ?_
  refine WL_op (OpW.r (fresh_w (Clone_ok l (by omega)) rfl rfl rfl True.intro rfl (ACoeL.refl _)) rfl) rfl (Form.dom (.new _)) ?_
  refine WL_run tys_ok EE_ok false false 1 [] rfl True.intro (WL_nil ?_)
  repeat refine W_seq ?_
  refine' W_run tys_ok EE_ok false false [] rfl ?ap11 ?k11
  case ap11 => repeat' (first | exact True.intro | exact ACoeL.refl _ | assumption | omega | rfl | (dsimp only; omega) | (refine ⟨?_, ?_⟩) | intro (_ : _ = true) | exact fun _ _ => rfl | fail)
  repeat refine W_seq ?_
  refine W_block ?_
  refine W_loop (X := Nat) (fun k => ⟨[(1, I p), (2, I q), (8, .row 0 1 l.length), (24, I l.length), (25, I k)], ⟨1, [(0, .row 3 1 l.length (fun i => [I (if i < k then wAt l p q i else l.getD i 0)]))]⟩⟩)
    (fun k => k ≤ l.length ∧ ∀ i, i < k → enB (wAt l p q i) = true) (fun k => l.length - k) 0 ⟨by omega, fun i hi => by omega⟩ ?_ ?_ ?_
  · exact Le_mk ⟨ACoe.refl _, rfl, ACoe.refl _, rfl, ACoe.refl _, rfl, ACoe.refl _, rfl, ACoe.refl _, rfl, trivial⟩ ⟨⟨rfl, rfl, rfl, fun i hi => ⟨ACoeL.refl _, rfl, rfl⟩⟩, rfl, trivial⟩
  · exact fun x => Sub_of rfl
  · rintro k ⟨hk, hen⟩
    repeat refine W_seq ?_
    refine' W_run tys_ok EE_ok false false [] rfl ?ap12 ?k12
    case ap12 => repeat' (first | exact True.intro | exact ACoeL.refl _ | assumption | omega | rfl | (dsimp only; omega) | (refine ⟨?_, ?_⟩) | intro (_ : _ = true) | exact fun _ _ => rfl | fail)
    repeat refine W_seq ?_
    refine W_if rfl True.intro (fun h4 => ?_) (fun h4 => ?_)
    · refine W_skip ?_
      simp only [decide_eq_true_eq] at h4
      have hlt : k < l.length := by omega
      have hb1 := hnb.2 k
      have hwe := wAt_eq (l := l) (q := q) hp.1 k
      repeat refine W_seq ?_
      refine W_block ?_
      repeat refine W_seq ?_
      refine' W_run tys_ok EE_ok false false [] rfl ?ap14 ?k14
      case ap14 => repeat' (first | exact True.intro | exact ACoeL.refl _ | assumption | omega | rfl | (dsimp only; omega) | (refine ⟨?_, ?_⟩) | intro (_ : _ = true) | exact fun _ _ => rfl | fail)
      repeat refine W_seq ?_
      refine' W_run tys_ok EE_ok false false [] rfl ?ap15 ?k15
      case ap15 => repeat' (first | exact True.intro | exact ACoeL.refl _ | assumption | omega | rfl | (dsimp only; omega) | (refine ⟨?_, ?_⟩) | intro (_ : _ = true) | exact fun _ _ => rfl | fail)
      repeat refine W_seq ?_
      refine W_if rfl True.intro (fun h5 => ?_) (fun h5 => ?_)
      · simp only [decide_eq_true_eq] at h5
        rw [if_neg (by omega)] at hwe
        have hb2 := within_iff.1 (hen ((k : Int) - p).toNat (by omega))
        have hb3 := q_bound hq hb2
        have hb4 := ediv_bound (a := q * wAt l p q ((k : Int) - p).toNat) (b := 64) (A := 4194304) (by omega) (by omega) (by omega)
        have hif : (if ((k : Int) - p).toNat < k then wAt l p q ((k : Int) - p).toNat else l.getD ((k : Int) - p).toNat 0) = wAt l p q ((k : Int) - p).toNat := if_pos (by omega)
        repeat refine W_seq ?_
        refine' W_any tys_ok EE_ok mixed false [Hint.of (down_ok (q * (if ((k : Int) - p).toNat < k then wAt l p q ((k : Int) - p).toNat else l.getD ((k : Int) - p).toNat 0)) (by rw [hif]; exact ⟨by omega, by omega⟩))] rfl (fun te ts => by kernel_rfl) (by kernel_rfl) ?ap17 ?k17
        case ap17 => (repeat' (first | exact True.intro | exact ACoeL.refl _ | assumption | omega | rfl | (dsimp only; omega) | (refine ⟨?_, ?_⟩) | intro (_ : _ = true) | exact fun _ _ => rfl | fail)); all_goals ((simp only [Int.toNat_natCast, Nat.lt_irrefl, if_false, hif]; omega))
        refine W_le (σ' := ⟨[(1, I p), (2, I q), (8, .row 0 1 l.length), (9, I k), (24, I l.length), (25, I k)], ⟨1, [(0, .row 3 1 l.length (fun i => [I (if i < k + 1 then wAt l p q i else l.getD i 0)]))]⟩⟩) (Le_mk (by (repeat' (first | exact True.intro | refine ⟨ACoe.refl _, rfl, ?_⟩ | refine ⟨⟨ACoeL.refl _, rfl, rfl⟩, rfl, ?_⟩ | refine ⟨trivial, rfl, ?_⟩ | refine ⟨⟨rfl, rfl⟩, rfl, ?_⟩ | refine ⟨⟨rfl, rfl, rfl, fun i hi => ⟨ACoeL.refl _, rfl, rfl⟩⟩, rfl, ?_⟩ | refine ⟨⟨rfl, rfl, rfl, fun i hi => absurd hi (Nat.not_lt_zero i)⟩, rfl, ?_⟩ | refine ⟨⟨rfl, rfl, rfl⟩, rfl, ?_⟩ | fail))) ⟨?_, rfl, trivial⟩) (Sub_of rfl) ?_
        · refine row_set1 (k := k) (f := fun i => if i < k then wAt l p q i else l.getD i 0) (g := fun i => if i < k + 1 then wAt l p q i else l.getD i 0) (v := (if k < k then wAt l p q k else l.getD k 0) + q * (if ((k : Int) - p).toNat < k then wAt l p q ((k : Int) - p).toNat else l.getD ((k : Int) - p).toNat 0) / 64) ?_ ?_
          · simp only [Nat.lt_irrefl, if_false, Nat.lt_succ_self, if_true, hif]
            rw [hwe]
          · intro i hi hin
            by_cases h8 : i < k
            · rw [if_pos h8, if_pos (by omega)]
            · rw [if_neg h8, if_neg (by omega)]
        repeat refine W_seq ?_
        refine' W_run tys_ok EE_ok false false [Hint.of (within_ok (if k < k + 1 then wAt l p q k else l.getD k 0) (-65536) 65536)] rfl ?ap18 ?k18
        case ap18 => repeat' (first | exact True.intro | exact ACoeL.refl _ | assumption | omega | rfl | (dsimp only; omega) | (refine ⟨?_, ?_⟩) | intro (_ : _ = true) | exact fun _ _ => rfl | fail)
        have hkk : (if k < k + 1 then wAt l p q k else l.getD k 0) = wAt l p q k := if_pos (Nat.lt_succ_self k)
        repeat refine W_seq ?_
        refine W_if rfl True.intro (fun h6 => ?_) (fun h6 => ?_)
        · have h7 : enB (wAt l p q k) = false := by rw [← hkk]; simpa using h6
          repeat refine W_seq ?_
          refine' W_run tys_ok EE_ok false false [] rfl ?ap20 ?k20
          case ap20 => repeat' (first | exact True.intro | exact ACoeL.refl _ | assumption | omega | rfl | (dsimp only; omega) | (refine ⟨?_, ?_⟩) | intro (_ : _ = true) | exact fun _ _ => rfl | fail)
          refine W_ret ⟨_, _, rfl, ?_, (by simp only [WithS, h1, h3, cond_true, withL_bad hlt h7, cond_false]; exact ACoe_tup (ACoeL.cons ACoe_nilL (ACoeL.refl _)))⟩
          · repeat' (first | exact True.intro | exact ACoeL.refl _ | assumption | omega | rfl | (dsimp only; omega) | (refine ⟨?_, ?_⟩) | intro (_ : _ = true) | exact fun _ _ => rfl | fail)
        · have h7 : enB (wAt l p q k) = true := by rw [← hkk]; simpa using h6
          refine W_skip ?_
          repeat refine W_seq ?_
          refine' W_run tys_ok EE_ok false false [] rfl ?ap22 ?k22
          case ap22 => repeat' (first | exact True.intro | exact ACoeL.refl _ | assumption | omega | rfl | (dsimp only; omega) | (refine ⟨?_, ?_⟩) | intro (_ : _ = true) | exact fun _ _ => rfl | fail)
          refine ⟨k + 1, ⟨by omega, fun i hi => ?_⟩, by omega, Le_mk (by (repeat' (first | exact True.intro | refine ⟨ACoe.refl _, rfl, ?_⟩ | refine ⟨⟨ACoeL.refl _, rfl, rfl⟩, rfl, ?_⟩ | refine ⟨trivial, rfl, ?_⟩ | refine ⟨⟨rfl, rfl⟩, rfl, ?_⟩ | refine ⟨⟨rfl, rfl, rfl, fun i hi => ⟨ACoeL.refl _, rfl, rfl⟩⟩, rfl, ?_⟩ | refine ⟨⟨rfl, rfl, rfl, fun i hi => absurd hi (Nat.not_lt_zero i)⟩, rfl, ?_⟩ | refine ⟨⟨rfl, rfl, rfl⟩, rfl, ?_⟩ | fail))) ⟨⟨rfl, rfl, rfl, fun i hi => ⟨ACoeL.refl _, rfl, rfl⟩⟩, rfl, trivial⟩⟩
          by_cases h9 : i = k
          · subst h9; exact h7
          · exact hen i (by omega)
      · simp only [decide_eq_false_iff_not] at h5
        rw [if_pos (by omega)] at hwe
        refine W_skip ?_
        refine W_le (σ' := ⟨[(1, I p), (2, I q), (8, .row 0 1 l.length), (9, I k), (24, I l.length), (25, I k)], ⟨1, [(0, .row 3 1 l.length (fun i => [I (if i < k + 1 then wAt l p q i else l.getD i 0)]))]⟩⟩) (Le_mk (by (repeat' (first | exact True.intro | refine ⟨ACoe.refl _, rfl, ?_⟩ | refine ⟨⟨ACoeL.refl _, rfl, rfl⟩, rfl, ?_⟩ | refine ⟨trivial, rfl, ?_⟩ | refine ⟨⟨rfl, rfl⟩, rfl, ?_⟩ | refine ⟨⟨rfl, rfl, rfl, fun i hi => ⟨ACoeL.refl _, rfl, rfl⟩⟩, rfl, ?_⟩ | refine ⟨⟨rfl, rfl, rfl, fun i hi => absurd hi (Nat.not_lt_zero i)⟩, rfl, ?_⟩ | refine ⟨⟨rfl, rfl, rfl⟩, rfl, ?_⟩ | fail))) ⟨⟨rfl, rfl, rfl, fun i hi => ⟨ACoeL.cons (I_eq ?_) ACoeL.nil, rfl, rfl⟩⟩, rfl, trivial⟩) (Sub_of rfl) ?_
        · by_cases h8 : i < k
          · rw [if_pos h8, if_pos (by omega)]
          · rw [if_neg h8]
            by_cases h9 : i = k
            · subst h9; rw [if_pos (by omega), hwe]
            · rw [if_neg (by omega)]
        repeat refine W_seq ?_
        refine' W_run tys_ok EE_ok false false [Hint.of (within_ok (if k < k + 1 then wAt l p q k else l.getD k 0) (-65536) 65536)] rfl ?ap23 ?k23
        case ap23 => repeat' (first | exact True.intro | exact ACoeL.refl _ | assumption | omega | rfl | (dsimp only; omega) | (refine ⟨?_, ?_⟩) | intro (_ : _ = true) | exact fun _ _ => rfl | fail)
        have hkk : (if k < k + 1 then wAt l p q k else l.getD k 0) = wAt l p q k := if_pos (Nat.lt_succ_self k)
        repeat refine W_seq ?_
        refine W_if rfl True.intro (fun h6 => ?_) (fun h6 => ?_)
        · have h7 : enB (wAt l p q k) = false := by rw [← hkk]; simpa using h6
          repeat refine W_seq ?_
          refine' W_run tys_ok EE_ok false false [] rfl ?ap25 ?k25
          case ap25 => repeat' (first | exact True.intro | exact ACoeL.refl _ | assumption | omega | rfl | (dsimp only; omega) | (refine ⟨?_, ?_⟩) | intro (_ : _ = true) | exact fun _ _ => rfl | fail)
          refine W_ret ⟨_, _, rfl, ?_, (by simp only [WithS, h1, h3, cond_true, withL_bad hlt h7, cond_false]; exact ACoe_tup (ACoeL.cons ACoe_nilL (ACoeL.refl _)))⟩
          · repeat' (first | exact True.intro | exact ACoeL.refl _ | assumption | omega | rfl | (dsimp only; omega) | (refine ⟨?_, ?_⟩) | intro (_ : _ = true) | exact fun _ _ => rfl | fail)
        · have h7 : enB (wAt l p q k) = true := by rw [← hkk]; simpa using h6
          refine W_skip ?_
          repeat refine W_seq ?_
          refine' W_run tys_ok EE_ok false false [] rfl ?ap27 ?k27
          case ap27 => repeat' (first | exact True.intro | exact ACoeL.refl _ | assumption | omega | rfl | (dsimp only; omega) | (refine ⟨?_, ?_⟩) | intro (_ : _ = true) | exact fun _ _ => rfl | fail)
          refine ⟨k + 1, ⟨by omega, fun i hi => ?_⟩, by omega, Le_mk (by (repeat' (first | exact True.intro | refine ⟨ACoe.refl _, rfl, ?_⟩ | refine ⟨⟨ACoeL.refl _, rfl, rfl⟩, rfl, ?_⟩ | refine ⟨trivial, rfl, ?_⟩ | refine ⟨⟨rfl, rfl⟩, rfl, ?_⟩ | refine ⟨⟨rfl, rfl, rfl, fun i hi => ⟨ACoeL.refl _, rfl, rfl⟩⟩, rfl, ?_⟩ | refine ⟨⟨rfl, rfl, rfl, fun i hi => absurd hi (Nat.not_lt_zero i)⟩, rfl, ?_⟩ | refine ⟨⟨rfl, rfl, rfl⟩, rfl, ?_⟩ | fail))) ⟨⟨rfl, rfl, rfl, fun i hi => ⟨ACoeL.refl _, rfl, rfl⟩⟩, rfl, trivial⟩⟩
          by_cases h9 : i = k
          · subst h9; exact h7
          · exact hen i (by omega)
    · refine W_exit ?_
      simp only [decide_eq_false_iff_not] at h4
      have hke : k = l.length := by omega
      subst hke
      have hgood := withL_good hen
      repeat refine W_seq ?_
      refine' W_run tys_ok EE_ok false false [] rfl ?ap28 ?k28
      case ap28 => repeat' (first | exact True.intro | exact ACoeL.refl _ | assumption | omega | rfl | (dsimp only; omega) | (refine ⟨?_, ?_⟩) | intro (_ : _ = true) | exact fun _ _ => rfl | fail)
      refine W_ret ⟨_, _, rfl, ?_, ?_⟩
      · repeat' (first | exact True.intro | exact ACoeL.refl _ | assumption | omega | rfl | (dsimp only; omega) | (refine ⟨?_, ?_⟩) | intro (_ : _ = true) | exact fun _ _ => rfl | fail)
      simp only [WithS, h1, h3, cond_true, hgood]
      refine ACoe_tup (ACoeL.cons (ACoe.trans (ACoe_ro (f' := fun i => [pI ((withL l p q).getD i 0)]) (fun i hi => ?_)) (ACoe_eq (by show AV.p (PV.ro 1 l.length _) = AV.p (PV.ro 1 (withL l p q).length _); rw [withL_len]))) (ACoeL.refl _))
      rw [withL_at hi]
      show [pI (if i < l.length then wAt l p q i else l.getD i 0)] = _
      rw [if_pos hi]
end Go.Proofs.YtobpnmljijeadaaDoor.A
