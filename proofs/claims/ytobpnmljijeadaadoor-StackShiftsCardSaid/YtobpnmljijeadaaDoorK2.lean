/- Part 2 of what the laws of this seat lean on: A10, A11, A12, A13, A13b, A14, A15, A16, A17. -/
import Derived.Test.YtobpnmljijeadaaDoorK1
/- Appends, literals, lengths, cuts, functions as values. -/
set_option linter.unusedVariables false
set_option linter.unusedSimpArgs false
namespace Go.Proofs.YtobpnmljijeadaaDoor.A
open Go

/-! ### Append -/
def srcX : AV → Option (List Prop × Nat × Nat × (Nat → List AV))
  | .p (.v (.string s)) => some ([], 1, s.size, fun i => [.p (.v (.int .u8 (byteAt s (i : Int))))])
  | _ => none

def srcT (S : Sto) (x : AV) : TD → Option (List Prop × Nat × Nat × (Nat → List AV))
  | .slice _ => srcOf S x
  | .str => srcX x
  | _ => none

def stepAppend (T : Nat → Option TI) (S : Sto) (ts : Array Nat) (s x : AV) : R3 :=
  match ts.toList with
  | [t, tx] => match T t, T tx with
    | some i, some ix => match i.td with
      | .slice e => match T e with
        | some ei => match srcT S x ix.td with
          | some (g, sz2, m, f2) => match Nat.beq sz2 ei.size, Nat.ble 1 ei.size, Nat.ble 1 ei.bytes with
            | true, true, true => match s with
              | .row k sz n => match S.at k with
                | some (.row e' sz' n' f) => match Nat.beq e e', Nat.beq sz ei.size, Nat.beq sz' ei.size with
                  | true, true, true => some ((n = n') :: ((n + m) * ei.bytes ≤ 140737488355328) :: g, .row k sz (n + m), S.put k (.row e sz (n + m) (fun i => if i < n then f i else f2 (i - n))))
                  | _, _, _ => none
                | _ => none
              | .p (.v (.slice none 0 0)) => some ((m * ei.bytes ≤ 140737488355328) :: g, .row S.nx sz2 m, S.new (.row e sz2 m f2))
              | _ => none
            | _, _, _ => none
          | none => none
        | none => none
      | _ => none
    | _, _ => none
  | _ => none

section
variable {P : Program} {O : Nat → Prop} {Γ : Ctx} {σ : Env} {o : Oper} {T : Nat → Option TI} {g : List Prop} {v : AV} {S' : Sto}

theorem row_blk {w : World} {base e sz n : Nat} {v : Value} {xs : List Value} (h : w.ownsRow base e sz v n xs) : (⟨v, fun _ => False⟩ : Loc).blk = v.ownBlock := by
  rcases h.2 with ⟨rfl, _⟩ | ⟨g, cap, cur, rfl, _⟩ <;> rfl
theorem row_slice {w : World} {base e sz n : Nat} {v : Value} {xs : List Value} (h : w.ownsRow base e sz v n xs) : ∃ a c, v = .slice a n c := by
  rcases h.2 with ⟨rfl, rfl⟩ | ⟨g, cap, cur, rfl, _⟩
  · exact ⟨_, _, rfl⟩
  · exact ⟨_, _, rfl⟩

theorem app_get {α : Type} (xs ys : List α) (n sz i j : Nat) (hx : xs.length = n * sz) (hj : j < sz) (d : α) :
    (xs ++ ys).getD (i * sz + j) d = if i < n then xs.getD (i * sz + j) d else ys.getD ((i - n) * sz + j) d := by
  simp only [List.getD_eq_getElem?_getD, List.getElem?_append, hx]
  by_cases hi : i < n
  · have : (i + 1) * sz ≤ n * sz := Nat.mul_le_mul_right _ hi
    rw [Nat.add_mul, Nat.one_mul] at this
    rw [if_pos (by omega), if_pos hi]
  · have h1 : n * sz ≤ i * sz := Nat.mul_le_mul_right _ (by omega)
    rw [if_neg (by omega), if_neg hi]
    congr 2
    rw [Nat.sub_mul]; omega

theorem byteCells_get (s : ByteArray) (i : Nat) (hi : i < s.size) : (byteCells s).getD i undef = .int .u8 (byteAt s (i : Int)) := by
  have h : i < s.data.toList.length := by simpa using hi
  unfold byteCells byteAt
  rw [getD_map _ _ _ h 0]
  simp

theorem srcX_ok {S : Sto} {ρ : Nat → Loc} {w : World} (hs : St O Γ S ρ w) {x : AV} {cv : Value} (hv : VR O S ρ w x cv) {sz m : Nat} {f : Nat → List AV} {ix : TI} {tx : Nat} (hT : TIOk P tx ix)
    (h : srcT S x ix.td = some (g, sz, m, f)) (hg : AllP g) :
    ∃ news, Src P sz tx cv m news w ∧ (∀ i, i < m → (f i).length = sz) ∧ ∀ i j, i < m → j < sz → VR O S ρ w ((f i).getD j .any) (news.getD (i * sz + j) undef) := by
  obtain ⟨d, hd, hof⟩ := hT.und
  unfold srcT at h
  split at h
  · rename_i e' htd
    rw [htd] at hof
    obtain rfl := TD.of_slice hof
    exact src_ok hs hv h hg hd
  · rename_i htd
    rw [htd] at hof
    obtain rfl := TD.of_str hof
    unfold srcX at h
    split at h
    case h_2 => simp at h
    rename_i s
    simp only [Option.some.injEq, Prod.mk.injEq] at h
    obtain ⟨rfl, rfl, rfl, rfl⟩ := h
    rw [hv.val]
    refine ⟨byteCells s, Src.ofString w hd s, fun i hi => rfl, fun i j hi hj => ?_⟩
    obtain rfl : j = 0 := by omega
    rw [show i * 1 + 0 = i by omega, byteCells_get s i hi]
    exact .p (.v _)
  · simp at h

theorem ok_append (hT : TOk P T) {ts : Array Nat} {x y : Operand} {u1 u2 : AV} (ho : o.op = .call { callee := .builtin .append, args := #[x, y], argTypes := ts }) (hx : HasV O Γ σ x u1) (hy : HasV O Γ σ y u2) (h : stepAppend T σ.S ts u1 u2 = some (g, v, S')) (hg : AllP g) : OpOk P O Γ σ o v S' := by
  unfold stepAppend at h
  split at h
  case h_2 => simp at h
  rename_i t tx hts
  have hts' : ts = #[t, tx] := by
    apply Array.ext'; simpa using hts
  subst hts'
  split at h
  case h_2 => simp at h
  rename_i i ix hi hix
  split at h
  case h_2 => simp at h
  rename_i e htd
  obtain ⟨d, hd, hof⟩ := (hT t i hi).und
  rw [htd] at hof
  obtain rfl := TD.of_slice hof
  split at h
  case h_2 => simp at h
  rename_i ei hei
  obtain ⟨ti, z, hti, hsz, hby, hz, hzc⟩ := (hT e ei hei).info
  have hzs : z.cells.size = ti.size := by
    have h1 := (hT e ei hei).len
    rw [← hzc] at h1
    rw [hsz, ← h1]; simp
  split at h
  case h_2 => simp at h
  rename_i g0 sz2 m f2 hsrc
  split at h
  case h_2 => simp at h
  rename_i hb1 hb2 hb3
  have hb1 := Nat.eq_of_beq_eq_true hb1
  have hb2 := Nat.le_of_ble_eq_true hb2
  have hb3 := Nat.le_of_ble_eq_true hb3
  subst hb1
  split at h
  · -- onto a row of the call's own
    rename_i k sz n
    split at h
    case h_2 => simp at h
    rename_i e' sz' n' f hk
    split at h
    case h_2 => simp at h
    rename_i hb4 hb5 hb6
    obtain rfl := Nat.eq_of_beq_eq_true hb4
    have hb5 := Nat.eq_of_beq_eq_true hb5
    have hb6 := Nat.eq_of_beq_eq_true hb6
    subst hb5
    subst hb6
    simp only [Option.some.injEq, Prod.mk.injEq] at h
    obtain ⟨rfl, rfl, rfl⟩ := h
    obtain ⟨hn, hbytes, hg⟩ := hg
    subst hn
    intro ρ a w hs hf he
    have h1 := hx ρ a w hs he
    obtain ⟨news, hS, hlen, hnew⟩ := srcX_ok hs (hy ρ a w hs he) (hT tx ix hix) hsrc hg
    generalize hav : a.eval x = av at h1
    cases h1 with
    | row _ _ _ ad l c hlt hh =>
      obtain ⟨_, h2⟩ := hh _ _ _ hk
      have h3 := h2 rfl
      obtain ⟨⟨xs, hown, hone, hc⟩, hzz⟩ := hs.objs _ _ hk
      rw [← h3] at hown
      rw [← hsz] at hown hS
      rw [← hby] at hbytes hb3
      have h63 : n + m ≤ maxLen := by
        have : n + m ≤ (n + m) * ti.bytes := Nat.le_mul_of_pos_right _ hb3
        simp only [maxLen]; omega
      obtain ⟨v', w', hrun, hown', hgrow, hblk, hsame⟩ := append_src_own (P := P) w 0 t tx o.type e ti z hd hti hz hzs _ n xs hown _ m news hS h63 hbytes (Nat.zero_le _)
      have hbk : (ρ k).blk = (Value.slice ad l c).ownBlock := by
        rw [Loc.blk, ← h3]; cases ad <;> rfl
      have hbk' : (⟨v', (ρ k).z⟩ : Loc).blk = v'.ownBlock := by
        obtain ⟨a', c', rfl⟩ := row_slice hown'
        cases a' <;> rfl
      have ht : Turns w w' (ρ k).blk := by
        rw [hbk]
        exact ⟨hgrow.os, hgrow.tape, hgrow.output, hgrow.size, fun b hb hne => hgrow.block b hb (fun e => hne e.symm)⟩
      have hto : (AObj.row e ei.size n f).to (ρ k) ⟨v', (ρ k).z⟩ (.row e ei.size (n + m) (fun i => if i < n then f i else f2 (i - n))) := by
        refine ⟨rfl, rfl, by omega, fun e0 => ?_⟩
        rw [hsame (by omega), h3]
      have hfr : ∀ b, ((⟨v', (ρ k).z⟩ : Loc).blk = some b ∨ (ρ k).z b) → ((ρ k).blk = some b ∨ (ρ k).z b) ∨ w.heap.size ≤ b := fun b hb => by
        rcases hb with hb | hb
        · rw [hbk'] at hb
          rcases hblk with h5 | h5
          · left; left; rw [hbk, ← h5]; exact hb
          · rw [h5] at hb; simp only [Option.some.injEq] at hb; right; omega
        · exact .inl (.inr hb)
      have he2 := evo_put hs hk _ ⟨v', (ρ k).z⟩ hto (fun _ => rfl) ht rfl hfr
      refine ⟨.value v', w', _, ?_, .inl ⟨v', rfl, ?_⟩, hs.put hk _ ⟨v', (ρ k).z⟩ hto (fun _ => rfl) ht rfl hfr hzz ?_, he2⟩
      · simp only [execOp, ho, resolve, invoke, builtin, Sem.run_bind, Sem.run_pure, Result.andThen_ok, List.map_toArray, List.map_cons, List.map_nil, hav, hrun]
      · obtain ⟨a', c', rfl⟩ := row_slice hown'
        refine .row k ei.size (n + m) a' _ c' (by rw [Sto.at_put, if_pos rfl]; rfl) (fun e2 m2 f2' hk2 => ?_)
        rw [Sto.at_put] at hk2
        simp only [if_true, Option.some.injEq, AObj.row.injEq] at hk2
        obtain ⟨_, _, rfl, _⟩ := hk2
        exact ⟨Nat.le_refl _, fun _ => by simp [updL]⟩
      · refine ⟨⟨xs ++ news, by rw [← hsz]; exact hown', fun x hx => ?_, fun i hi => ?_⟩, hzz⟩
        · rcases List.mem_append.1 hx with hx | hx
          · exact hone x hx
          · exact hS.one x hx
        · have hxl : xs.length = n * ei.size := by rw [← hsz]; exact hown.1
          simp only []
          by_cases hin : i < n
          · rw [if_pos hin]
            refine ⟨(hc i hin).1, fun j hj => ?_⟩
            rw [app_get xs news n ei.size i j hxl hj, if_pos hin]
            exact ((hc i hin).2 j hj).evo he2
          · rw [if_neg hin]
            refine ⟨hlen (i - n) (by omega), fun j hj => ?_⟩
            rw [app_get xs news n ei.size i j hxl hj, if_neg hin]
            exact (hnew (i - n) j (by omega) hj).evo he2
  · -- onto nil
    simp only [Option.some.injEq, Prod.mk.injEq] at h
    obtain ⟨rfl, rfl, rfl⟩ := h
    obtain ⟨hbytes, hg⟩ := hg
    intro ρ a w hs hf he
    have h1 := (hx ρ a w hs he).val
    obtain ⟨news, hS, hlen, hnew⟩ := srcX_ok hs (hy ρ a w hs he) (hT tx ix hix) hsrc hg
    have hown := World.ownsRow_nil w 0 e ti.size
    rw [← hsz] at hS
    rw [← hby] at hbytes hb3
    have h63 : 0 + m ≤ maxLen := by
      have : m ≤ m * ti.bytes := Nat.le_mul_of_pos_right _ hb3
      simp only [maxLen]; omega
    obtain ⟨v', w', hrun, hown', hgrow, hblk, hsame⟩ := append_src_own (P := P) w 0 t tx o.type e ti z hd hti hz hzs _ 0 [] hown _ m news hS h63 (by simpa using hbytes) (Nat.zero_le _)
    rw [Nat.zero_add, List.nil_append] at hown'
    have hG : Grows w w' := ⟨hgrow.os, hgrow.tape, hgrow.output, hgrow.size, fun b hb => hgrow.block b hb (by simp [Value.ownBlock])⟩
    have hbk' : (⟨v', fun _ => False⟩ : Loc).blk = v'.ownBlock := row_blk hown'
    have hfr : ∀ b, ((⟨v', fun _ => False⟩ : Loc).blk = some b ∨ (⟨v', fun _ => False⟩ : Loc).z b) → w.heap.size ≤ b := fun b hb => by
      rcases hb with hb | hb
      · rw [hbk'] at hb
        rcases hblk with h5 | h5
        · rw [h5] at hb; simp [Value.ownBlock] at hb
        · rw [h5] at hb; simp only [Option.some.injEq] at hb; omega
      · exact hb.elim
    have he2 := evo_new hs hf (.row e ei.size m f2) ⟨v', fun _ => False⟩ hG hfr
    refine ⟨.value v', w', _, ?_, .inl ⟨v', rfl, ?_⟩, hs.new hf (.row e ei.size m f2) ⟨v', fun _ => False⟩ hG hfr ?_, he2⟩
    · simp only [execOp, ho, resolve, invoke, builtin, Sem.run_bind, Sem.run_pure, Result.andThen_ok, List.map_toArray, List.map_cons, List.map_nil, h1, hrun]
    · obtain ⟨a', c', rfl⟩ := row_slice hown'
      refine .row σ.S.nx ei.size m a' _ c' (by rw [Sto.at_new, if_pos rfl]; rfl) (fun e2 m2 f2' hk2 => ?_)
      rw [Sto.at_new] at hk2
      simp only [if_true, Option.some.injEq, AObj.row.injEq] at hk2
      obtain ⟨_, _, rfl, _⟩ := hk2
      exact ⟨Nat.le_refl _, fun _ => by simp [updL]⟩
    · refine ⟨⟨news, by rw [← hsz]; exact hown', hS.one, fun i hi => ⟨hlen i hi, fun j hj => (hnew i j hi hj).evo he2⟩⟩, fun k hk => hk⟩
  · simp at h
end
end Go.Proofs.YtobpnmljijeadaaDoor.A

/- Literals, made rows, lengths, cuts, functions as values. -/
set_option linter.unusedVariables false
set_option linter.unusedSimpArgs false
namespace Go.Proofs.YtobpnmljijeadaaDoor.A
open Go

/-! ### Literals -/
theorem foldl_set (off : Nat) : ∀ (l : List Value) (k : Nat) (cells : Array Value), off + k + l.length ≤ cells.size →
    (l.zipIdx k).foldl (fun cs (c, j) => cs.setIfInBounds (off + j) c) cells = (splice cells.toList (off + k) l).toArray
  | [], k, cells, _ => by simp [splice]
  | x :: l, k, cells, h => by
    simp only [List.length_cons] at h
    simp only [List.zipIdx_cons, List.foldl_cons]
    rw [foldl_set off l (k + 1) (cells.setIfInBounds (off + k) x) (by simp; omega)]
    congr 1
    have := list_seg_step cells.toList (off + k) x l (by simp; omega)
    simpa [splice, Array.toList_setIfInBounds, Nat.add_assoc, Nat.add_comm 1] using this

def fillA (place : Nat → Option (Nat × Nat)) (cs : List AV) : List (Nat × List AV) → Option (List AV)
  | [] => some cs
  | (i, vs) :: rest => match place i with
    | some (off, size) => match Nat.beq vs.length size, Nat.ble (off + vs.length) cs.length with
      | true, true => fillA place (splice cs off vs) rest
      | _, _ => none
    | none => none

section
variable {P : Program} {O : Nat → Prop} {Γ : Ctx} {S : Sto} {ρ : Nat → Loc} {w : World}

theorem fill_ok {place : Nat → Option (Nat × Nat)} : ∀ (parts : List (Nat × Value)) (aparts : List (Nat × List AV)) (cells : Array Value) (cs cs' : List AV),
    parts.length = aparts.length → (∀ q, q < parts.length → (parts.getD q (0, undef)).1 = (aparts.getD q (0, [])).1 ∧ VRs O S ρ w (aparts.getD q (0, [])).2 (parts.getD q (0, undef)).2.cells.toList) →
    VRs O S ρ w cs cells.toList → fillA place cs aparts = some cs' → ∃ cells', Instr.fill place cells parts = some cells' ∧ VRs O S ρ w cs' cells'.toList ∧ cells'.size = cells.size ∧
      ∀ x ∈ cells'.toList, x ∈ cells.toList ∨ ∃ q, q < parts.length ∧ x ∈ (parts.getD q (0, undef)).2.cells.toList
  | [], [], cells, cs, cs', _, _, hv, h => by
    simp only [fillA, Option.some.injEq] at h; subst h
    exact ⟨cells, rfl, hv, rfl, fun x hx => .inl hx⟩
  | [], _ :: _, _, _, _, hl, _, _, _ => by simp at hl
  | _ :: _, [], _, _, _, hl, _, _, _ => by simp at hl
  | (i, u) :: parts, (i', vs) :: aparts, cells, cs, cs', hl, hp, hv, h => by
    have h0 := hp 0 (by simp)
    simp only [List.getD_cons_zero] at h0
    obtain ⟨rfl, hvu⟩ := h0
    unfold fillA at h
    cases hpl : place i with
    | none => rw [hpl] at h; simp at h
    | some os =>
      obtain ⟨off, size⟩ := os
      rw [hpl] at h
      simp only at h
      split at h
      case h_2 => simp at h
      rename_i hb1 hb2
      have hb1 := Nat.eq_of_beq_eq_true hb1
      have hb2 := Nat.le_of_ble_eq_true hb2
      have hul : u.cells.toList.length = vs.length := hvu.1
      have hcl : cells.toList.length = cs.length := hv.1
      have hfit : off + u.cells.toList.length ≤ cells.toList.length := by omega
      have hv2 : VRs O S ρ w (splice cs off vs) (splice cells.toList off u.cells.toList) := by
        refine ⟨by rw [splice_length _ _ _ hfit, splice_length _ _ _ hb2, hcl], fun j hj => ?_⟩
        rw [splice_length _ _ _ hb2] at hj
        rw [splice_get _ _ _ hb2, splice_get _ _ _ hfit, hul]
        by_cases hc : off ≤ j ∧ j < off + vs.length
        · rw [if_pos hc, if_pos hc]; exact hvu.2 _ (by omega)
        · rw [if_neg hc, if_neg hc]; exact hv.2 j hj
      have hlen2 : (splice cells.toList off u.cells.toList).length = cells.toList.length := splice_length _ _ _ hfit
      obtain ⟨cells', h1, h2, h3, h4⟩ := fill_ok parts aparts (splice cells.toList off u.cells.toList).toArray (splice cs off vs) cs' (by simpa using hl) (fun q hq => by have := hp (q + 1) (by simpa using hq); simpa using this) (by simpa using hv2) h
      refine ⟨cells', ?_, h2, by rw [h3, List.size_toArray, hlen2]; simp, fun x hx => ?_⟩
      · unfold Instr.fill
        have e1 : u.cells.size = size := by have : u.cells.size = u.cells.toList.length := by simp
                                            omega
        have e2 : ¬ (off + u.cells.size > cells.size) := by
          have : u.cells.size = u.cells.toList.length := by simp
          have : cells.size = cells.toList.length := by simp
          omega
        have e3 : u.cells.zipIdx.foldl (fun cs (c, j) => cs.setIfInBounds (off + j) c) cells = (splice cells.toList off u.cells.toList).toArray := by
          have := foldl_set off u.cells.toList 0 cells (by simpa using hfit)
          rw [← Array.foldl_toList, Array.toList_zipIdx]
          simpa using this
        simp only [hpl, e1, ne_eq, not_true, false_or, e1 ▸ e2, if_false, e3, h1]
        simp [← e1, e2, h1]
      · rcases h4 x hx with h5 | ⟨q, hq, h5⟩
        · simp only [splice, List.mem_append] at h5
          rcases h5 with (h5 | h5) | h5
          · exact .inl (List.mem_of_mem_take h5)
          · exact .inr ⟨0, by simp, by simpa using h5⟩
          · exact .inl (List.mem_of_mem_drop h5)
        · exact .inr ⟨q + 1, by simpa using hq, by simpa using h5⟩
end

/-- The parts of a literal. -/
def evParts (G : Nat → Option (List PV)) (e : List (Nat × AV)) : List (Nat × Operand) → Option (List Prop × List (Nat × List AV))
  | [] => some ([], [])
  | (i, x) :: r => match evF G e x with
    | some (g, v) => match cellsOf v, evParts G e r with
      | some cs, some (g', l) => some (g ++ g', (i, cs) :: l)
      | _, _ => none
    | none => none

def placeS (T : Nat → Option TI) (fs : List (Nat × Nat)) (i : Nat) : Option (Nat × Nat) :=
  match fs[i]? with
  | some (off, ft) => match T ft with
    | some fi => some (off, fi.size)
    | none => none
  | none => none

def allT (T : Nat → Option TI) : List (Nat × Nat) → Bool
  | [] => true
  | (_, ft) :: r => match T ft with
    | some _ => allT T r
    | none => false

def stepBuild (T : Nat → Option TI) (G : Nat → Option (List PV)) (σ : Env) (t : Nat) (parts : Array (Nat × Operand)) : R3 :=
  match T t, evParts G σ.e parts.toList with
  | some i, some (g, l) => match i.td with
    | .struct fs => match allT T fs, fillA (placeS T fs) (i.zero.map fun v => .p (.v v)) l with
      | true, some cs => some (g, .agg cs, σ.S)
      | _, _ => none
    | .arr n e => match T e with
      | some ei => match fillA (fun q => some (q * ei.size, ei.size)) (i.zero.map fun v => .p (.v v)) l with
        | some cs => some (g, .agg cs, σ.S)
        | none => none
      | none => none
    | _ => none
  | _, _ => none

def stepBuildSlice (T : Nat → Option TI) (G : Nat → Option (List PV)) (σ : Env) (t len : Nat) (parts : Array (Nat × Operand)) : R3 :=
  match T t, evParts G σ.e parts.toList with
  | some i, some (g, l) => match i.td with
    | .slice e => match T e with
      | some ei => match Nat.ble (len * ei.size) 16777216, Nat.ble 1 ei.size, fillA (fun q => some (q * ei.size, ei.size)) ((List.range (len * ei.size)).map fun j => .p (.v (ei.zero.getD (j % ei.size) undef))) l with
        | true, true, some cs => some (g, .row σ.S.nx ei.size len, σ.S.new (.row e ei.size len (fun q => (cs.drop (q * ei.size)).take ei.size)))
        | _, _, _ => none
      | none => none
    | _ => none
  | _, _ => none

section
variable {P : Program} {O : Nat → Prop} {Γ : Ctx} {σ : Env} {o : Oper} {T : Nat → Option TI} {g : List Prop} {v : AV} {S' : Sto}

theorem evParts_ok : ∀ {l : List (Nat × Operand)} {g : List Prop} {al : List (Nat × List AV)}, evParts Γ.G σ.e l = some (g, al) → AllP g → ∀ ρ a w, St O Γ σ.S ρ w → EnvOk O σ ρ a w →
    l.length = al.length ∧ ∀ q, q < l.length → ((l.map fun p => (p.1, a.eval p.2)).getD q (0, undef)).1 = (al.getD q (0, [])).1 ∧ VRs O σ.S ρ w (al.getD q (0, [])).2 ((l.map fun p => (p.1, a.eval p.2)).getD q (0, undef)).2.cells.toList ∧ ∀ x ∈ ((l.map fun p => (p.1, a.eval p.2)).getD q (0, undef)).2.cells.toList, x.oneCell' = true
  | [], g, al, h, _, ρ, a, w, _, _ => by
    simp only [evParts, Option.some.injEq, Prod.mk.injEq] at h
    obtain ⟨_, rfl⟩ := h
    exact ⟨rfl, fun q hq => absurd hq (by simp)⟩
  | (i, x) :: r, g, al, h, hg, ρ, a, w, hs, he => by
    unfold evParts at h
    split at h
    case h_2 => simp at h
    rename_i g1 v hv
    split at h
    case h_2 => simp at h
    rename_i cs g2 l2 hc hr
    simp only [Option.some.injEq, Prod.mk.injEq] at h
    obtain ⟨rfl, rfl⟩ := h
    obtain ⟨hg1, hg2⟩ := hg.append
    obtain ⟨h1, h2⟩ := evParts_ok hr hg2 ρ a w hs he
    have hx := (evF_has hv hg1 ρ a w hs he).cells hc
    refine ⟨by simp [h1], fun q hq => ?_⟩
    cases q with
    | zero => exact ⟨rfl, hx.1, hx.2⟩
    | succ q => simpa using h2 q (by simpa using hq)

theorem zero_VRs (S : Sto) (ρ : Nat → Loc) (w : World) (l : List Value) : VRs O S ρ w (l.map fun v => .p (.v v)) l :=
  ⟨by simp, fun j hj => by rw [getD_map _ _ _ (by simpa using hj) undef]; exact .p (.v _)⟩

theorem parts_map (a : Act) (parts : Array (Nat × Operand)) : (parts.map fun (i, x) => (i, a.eval x)).toList = parts.toList.map fun p => (p.1, a.eval p.2) := by simp

theorem placesOk (hT : TOk P T) (w : World) : ∀ (fl : List Field), allT T (fl.map fun f => (f.offset, f.type)) = true →
    ∃ l : List (Nat × Nat), (fl.mapM fun (f : Field) => (do pure (f.offset, ← sizeOf f.type) : Sem (Nat × Nat))).run P w = .ok l w ∧ ∀ i, l[i]? = placeS T (fl.map fun f => (f.offset, f.type)) i
  | [], _ => ⟨[], rfl, fun i => by simp [placeS]⟩
  | f :: fl, h => by
    simp only [List.map_cons, allT] at h
    cases hf : T f.type with
    | none => rw [hf] at h; simp at h
    | some fi =>
      rw [hf] at h
      obtain ⟨l, h1, h2⟩ := placesOk hT w fl h
      refine ⟨(f.offset, fi.size) :: l, ?_, fun i => ?_⟩
      · rw [List.mapM_cons]
        simp only [Sem.run_bind, run_sizeOf (hT _ _ hf), Result.andThen_ok, Sem.run_pure, Sem.run_map] at h1 ⊢
        rw [h1]; rfl
      · cases i with
        | zero => simp [placeS, hf]
        | succ i => have := h2 i; simpa [placeS] using this

theorem ok_build (hT : TOk P T) {t : Nat} {parts : Array (Nat × Operand)} (ho : o.op = .build t parts) (h : stepBuild T Γ.G σ t parts = some (g, v, S')) (hg : AllP g) : OpOk P O Γ σ o v S' := by
  unfold stepBuild at h
  split at h
  case h_2 => simp at h
  rename_i i g0 l hi hl
  obtain ⟨d, hd, hof⟩ := (hT t i hi).und
  split at h
  · rename_i fs htd
    rw [htd] at hof
    obtain ⟨fl, rfl, rfl⟩ := TD.of_struct hof
    split at h
    case h_2 => simp at h
    rename_i cs hall hfill
    simp only [Option.some.injEq, Prod.mk.injEq] at h
    obtain ⟨rfl, rfl, rfl⟩ := h
    refine OpOk.still fun ρ a w hs he => ?_
    obtain ⟨hlen, hpq⟩ := evParts_ok hl hg ρ a w hs he
    obtain ⟨z, hz, hzc⟩ := run_zero (hT t i hi) w
    have hv0 : VRs O σ.S ρ w (i.zero.map fun v => .p (.v v)) z.cells.toList := by rw [hzc]; exact zero_VRs ..
    obtain ⟨pl, hp1, hp2⟩ := placesOk hT w fl.toList hall
    have hfe : (fun i => pl[i]?) = placeS T (fl.toList.map fun f => (f.offset, f.type)) := funext hp2
    obtain ⟨cells', h1, h2, _, _⟩ := fill_ok (parts.toList.map fun p => (p.1, a.eval p.2)) l z.cells _ _ (by simpa using hlen) (fun q hq => ⟨(hpq q (by simpa using hq)).1, (hpq q (by simpa using hq)).2.1⟩) hv0 hfill
    refine ⟨.agg cells', ?_, by have := VR.agg (O := O) (S := σ.S) (ρ := ρ) (w := w) _ _ h2.1 h2.2; simpa using this⟩
    have hmm : (fl.mapM fun (f : Field) => (do pure (f.offset, ← sizeOf f.type) : Sem (Nat × Nat))).run P w = .ok pl.toArray w := by
      rw [Array.mapM_eq_mapM_toList]
      simp only [Sem.run_map, hp1, Result.andThen_ok]
    have hfill2 : Instr.fill (fun x => pl[x]?) z.cells ((parts.map fun (i, x) => (i, a.eval x)).toList) = some cells' := by rw [parts_map, hfe]; exact h1
    have hgl : ∀ x : Nat, pl.toArray[x]? = pl[x]? := fun x => by simp
    simp only [execOp, ho, Instr.build, Sem.run_bind, hz, Result.andThen_ok, run_underlying hd, hmm, hgl, hfill2, Sem.run_pure]
  · rename_i n e htd
    rw [htd] at hof
    obtain rfl := TD.of_arr hof
    split at h
    case h_2 => simp at h
    rename_i ei hei
    split at h
    case h_2 => simp at h
    rename_i cs hfill
    simp only [Option.some.injEq, Prod.mk.injEq] at h
    obtain ⟨rfl, rfl, rfl⟩ := h
    refine OpOk.still fun ρ a w hs he => ?_
    obtain ⟨hlen, hpq⟩ := evParts_ok hl hg ρ a w hs he
    obtain ⟨z, hz, hzc⟩ := run_zero (hT t i hi) w
    have hv0 : VRs O σ.S ρ w (i.zero.map fun v => .p (.v v)) z.cells.toList := by rw [hzc]; exact zero_VRs ..
    obtain ⟨cells', h1, h2, _, _⟩ := fill_ok (parts.toList.map fun p => (p.1, a.eval p.2)) l z.cells _ _ (by simpa using hlen) (fun q hq => ⟨(hpq q (by simpa using hq)).1, (hpq q (by simpa using hq)).2.1⟩) hv0 hfill
    refine ⟨.agg cells', ?_, by have := VR.agg (O := O) (S := σ.S) (ρ := ρ) (w := w) _ _ h2.1 h2.2; simpa using this⟩
    rw [← parts_map] at h1
    simp only [execOp, ho, Instr.build, Sem.run_bind, hz, Result.andThen_ok, run_underlying hd, run_sizeOf (hT e ei hei), h1, Sem.run_pure]
  · simp at h

theorem ok_buildSlice (hT : TOk P T) {t len : Nat} {parts : Array (Nat × Operand)} (ho : o.op = .buildSlice t len parts) (h : stepBuildSlice T Γ.G σ t len parts = some (g, v, S')) (hg : AllP g) : OpOk P O Γ σ o v S' := by
  unfold stepBuildSlice at h
  split at h
  case h_2 => simp at h
  rename_i i g0 l hi hl
  obtain ⟨d, hd, hof⟩ := (hT t i hi).und
  split at h
  case h_2 => simp at h
  rename_i e htd
  rw [htd] at hof
  obtain rfl := TD.of_slice hof
  split at h
  case h_2 => simp at h
  rename_i ei hei
  split at h
  case h_2 => simp at h
  rename_i cs hb1 hb2 hfill
  have hb1 := Nat.le_of_ble_eq_true hb1
  have hb2 := Nat.le_of_ble_eq_true hb2
  simp only [Option.some.injEq, Prod.mk.injEq] at h
  obtain ⟨rfl, rfl, rfl⟩ := h
  intro ρ a w hs hf he
  obtain ⟨hlen, hpq⟩ := evParts_ok hl hg ρ a w hs he
  obtain ⟨z, hz, hzc⟩ := run_zero (hT e ei hei) w
  have hel := (hT e ei hei).len
  have hzs : z.cells.size = ei.size := by rw [← hel, ← hzc]; simp
  let z0 : Array Value := (Array.range (len * ei.size)).map (z.cells[· % z.cells.size]!)
  have hz0 : z0.toList = (List.range (len * ei.size)).map fun j => ei.zero.getD (j % ei.size) undef := by
    simp only [z0, Array.toList_map, Array.toList_range]
    apply List.map_congr_left
    intro j hj
    have hlt : j % ei.size < ei.size := Nat.mod_lt _ hb2
    have hlt2 : j % ei.size < z.cells.size := by omega
    rw [hzs, ← hzc]
    simp [List.getD_eq_getElem?_getD, hlt2]
  have hv0 : VRs O σ.S ρ w ((List.range (len * ei.size)).map fun j => .p (.v (ei.zero.getD (j % ei.size) undef))) z0.toList := by
    rw [hz0]
    refine ⟨by simp, fun j hj => ?_⟩
    simp only [List.length_map, List.length_range] at hj
    rw [getD_map _ _ _ (by simpa using hj) 0, getD_map _ _ _ (by simpa using hj) 0]
    exact .p (.v _)
  obtain ⟨cells', h1, h2, h3, h4⟩ := fill_ok (parts.toList.map fun p => (p.1, a.eval p.2)) l z0 _ _ (by simpa using hlen) (fun q hq => ⟨(hpq q (by simpa using hq)).1, (hpq q (by simpa using hq)).2.1⟩) hv0 hfill
  have hsz : cells'.size = len * ei.size := by rw [h3]; simp [z0]
  have hone : ∀ x ∈ cells'.toList, x.oneCell' = true := fun x hx => by
    rcases h4 x hx with h5 | ⟨q, hq, h5⟩
    · rw [hz0] at h5
      simp only [List.mem_map, List.mem_range] at h5
      obtain ⟨j, hj, rfl⟩ := h5
      have hlt : j % ei.size < ei.zero.length := by rw [hel]; exact Nat.mod_lt _ hb2
      have := List.all_eq_true.1 (hT e ei hei).one (ei.zero[j % ei.size]) (List.getElem_mem hlt)
      simpa [List.getD_eq_getElem?_getD, hlt] using this
    · exact (hpq q (by simpa using hq)).2.2 x h5
  have hlm : len ≤ maxLen := by
    have : len ≤ len * ei.size := Nat.le_mul_of_pos_right _ hb2
    simp only [maxLen]; omega
  let vv : Value := .slice (some ⟨w.heap.size, 0, none⟩) len len
  have hown : (w.alloc (.cells cells' e)).ownsRow 0 e ei.size vv len cells'.toList := World.ownsRow_lit w cells' len (Nat.zero_le _) hlm hsz
  have hfr : ∀ b, ((⟨vv, fun _ => False⟩ : Loc).blk = some b ∨ (⟨vv, fun _ => False⟩ : Loc).z b) → w.heap.size ≤ b := fun b hb => by
    rcases hb with hb | hb
    · have : w.heap.size = b := by simpa [vv, Loc.blk] using hb
      omega
    · exact hb.elim
  have hG : Grows w (w.alloc (.cells cells' e)) := Grows.alloc w _
  have he2 := evo_new hs hf (.row e ei.size len (fun q => (cs.drop (q * ei.size)).take ei.size)) ⟨vv, fun _ => False⟩ hG hfr
  have hcl : cs.length = len * ei.size := by rw [← h2.1, ← hsz]; simp
  refine ⟨.value vv, _, _, ?_, .inl ⟨vv, rfl, ?_⟩, hs.new hf _ ⟨vv, fun _ => False⟩ hG hfr ?_, he2⟩
  · rw [← parts_map] at h1
    have hbig : ¬ (len * ei.size > 2 ^ 24) := by omega
    by_cases h0 : len * ei.size = 0
    · have hz1 : (Array.range (len * ei.size)).map (fun j => (#[] : Array Value)[j % (#[] : Array Value).size]!) = z0 := by simp [z0, h0]
      simp only [execOp, ho, Instr.buildSlice, Sem.run_bind, run_underlying hd, Result.andThen_ok, run_sizeOf (hT e ei hei), if_neg hbig, if_pos h0, hz1, h1, newRow, Sem.run_pure, run_newObj_alloc]
      rfl
    · have hz1 : (Array.range (len * ei.size)).map (fun j => z.cells[j % z.cells.size]!) = z0 := rfl
      simp only [execOp, ho, Instr.buildSlice, Sem.run_bind, run_underlying hd, Result.andThen_ok, run_sizeOf (hT e ei hei), if_neg hbig, if_neg h0, hz, hz1, h1, newRow, Sem.run_pure, run_newObj_alloc]
      rfl
  · refine .row σ.S.nx ei.size len _ _ _ (by rw [Sto.at_new, if_pos rfl]; rfl) (fun e2 m2 f2' hk2 => ?_)
    rw [Sto.at_new] at hk2
    simp only [if_true, Option.some.injEq, AObj.row.injEq] at hk2
    obtain ⟨_, _, rfl, _⟩ := hk2
    exact ⟨Nat.le_refl _, fun _ => by simp [updL, vv]⟩
  · refine ⟨⟨cells'.toList, hown, hone, fun q hq => ?_⟩, fun k hk => hk⟩
    have hm : q * ei.size + ei.size ≤ len * ei.size := by
      have : (q + 1) * ei.size ≤ len * ei.size := Nat.mul_le_mul_right _ hq
      rw [Nat.add_mul, Nat.one_mul] at this; exact this
    refine ⟨by simp; omega, fun j hj => ?_⟩
    have := (h2.2 (q * ei.size + j) (by omega)).evo he2
    rwa [show ((cs.drop (q * ei.size)).take ei.size).getD j .any = cs.getD (q * ei.size + j) .any by simp [List.getD_eq_getElem?_getD, List.getElem?_take, hj]]
end
end Go.Proofs.YtobpnmljijeadaaDoor.A

/- Lengths, greatest and least, cuts, functions as values, made rows. -/
set_option linter.unusedVariables false
set_option linter.unusedSimpArgs false
namespace Go.Proofs.YtobpnmljijeadaaDoor.A
open Go

/-! ### Lengths -/
def stepLen (T : Nat → Option TI) (S : Sto) (ts : Array Nat) (x : AV) : R3 :=
  match ts.toList with
  | [t] => match T t with
    | some i => match i.td with
      | .slice _ => match x with
        | .p (.ro _ n _) => some ([], .p (.v (.int .i64 (n : Int))), S)
        | .row k sz n => match S.at k with
          | some (.row _ sz' n' _) => match Nat.beq sz sz' with
            | true => some ([n = n'], .p (.v (.int .i64 (n : Int))), S)
            | false => none
          | _ => none
        | .view k sz n lo len => match S.at k with
          | some (.row _ sz' n' _) => match Nat.beq sz sz' with
            | true => some ([n = n'], .p (.v (.int .i64 (len : Int))), S)
            | false => none
          | _ => none
        | .p (.v (.slice _ n _)) => some ([], .p (.v (.int .i64 (n : Int))), S)
        | _ => none
      | .str => match x with
        | .p (.v (.string s)) => some ([], .p (.v (.int .i64 (s.size : Int))), S)
        | _ => none
      | .arr n _ => some ([], .p (.v (.int .i64 (n : Int))), S)
      | _ => none
    | none => none
  | _ => none

def stepMax (S : Sto) (mx : Bool) (x y : AV) : R3 :=
  match x, y with
  | .p (.v (.int k a)), .p (.v (.int k' b)) => match decide (k = k') with
    | true => match mx with
      | true => some ([], .p (.v (.int k (max a b))), S)
      | false => some ([], .p (.v (.int k (min a b))), S)
    | false => none
  | _, _ => none

section
variable {P : Program} {O : Nat → Prop} {Γ : Ctx} {σ : Env} {o : Oper} {T : Nat → Option TI} {g : List Prop} {v : AV} {S' : Sto}

theorem ok_len (hT : TOk P T) {ts : Array Nat} {x : Operand} {u : AV} (ho : o.op = .call { callee := .builtin .len, args := #[x], argTypes := ts }) (hx : HasV O Γ σ x u) (h : stepLen T σ.S ts u = some (g, v, S')) (hg : AllP g) : OpOk P O Γ σ o v S' := by
  unfold stepLen at h
  split at h
  case h_2 => simp at h
  rename_i t hts
  obtain rfl : ts = #[t] := by apply Array.ext'; simpa using hts
  split at h
  case h_2 => simp at h
  rename_i i hi
  obtain ⟨d, hd, hof⟩ := (hT t i hi).und
  have hrun : ∀ (a : Act) (w : World) (n : Int), (Builtin.len_ #[t] o.type #[a.eval x]).run P w = .ok (.int .i64 n) w → (execOp a.eval o).run P w = .ok (.value (.int .i64 n)) w := fun a w n hh => by
    simp only [execOp, ho, resolve, invoke, builtin, Sem.run_bind, Sem.run_pure, Result.andThen_ok, List.map_toArray, List.map_cons, List.map_nil, hh]
  split at h
  · rename_i e htd
    rw [htd] at hof
    obtain rfl := TD.of_slice hof
    split at h
    · rename_i sz n f
      simp only [Option.some.injEq, Prod.mk.injEq] at h
      obtain ⟨rfl, rfl, rfl⟩ := h
      refine OpOk.still fun ρ a w hs he => ⟨_, hrun a w _ ?_, .p (.v _)⟩
      have hu := hx ρ a w hs he
      generalize hav : a.eval x = av at hu
      cases hu with
      | p hp =>
        cases hp with
        | ro _ _ cap _ ad gv hc hz hl hm h1 hr => simp [Builtin.len_, run_underlying hd, goInt]
    · rename_i k sz n
      split at h
      case h_2 => simp at h
      rename_i e' sz' n' f' hk
      split at h
      case h_2 => simp at h
      rename_i hb
      obtain rfl := Nat.eq_of_beq_eq_true hb
      simp only [Option.some.injEq, Prod.mk.injEq] at h
      obtain ⟨rfl, rfl, rfl⟩ := h
      obtain ⟨hn, _⟩ := hg
      subst hn
      refine OpOk.still fun ρ a w hs he => ⟨_, hrun a w _ ?_, .p (.v _)⟩
      have hu := hx ρ a w hs he
      generalize hav : a.eval x = av at hu
      cases hu with
      | row _ _ _ ad l c hlt hh =>
        obtain ⟨_, h2⟩ := hh _ _ _ hk
        have h3 := h2 rfl
        obtain ⟨⟨xs, hown, _⟩, _⟩ := hs.objs _ _ hk
        rw [← h3] at hown
        obtain ⟨a', c', he'⟩ := row_slice hown
        simp only [Value.slice.injEq] at he'
        obtain ⟨_, rfl, _⟩ := he'
        simp [Builtin.len_, run_underlying hd, goInt]
    · rename_i k sz n lo len
      split at h
      case h_2 => simp at h
      rename_i e' sz' n' f' hk
      split at h
      case h_2 => simp at h
      rename_i hb
      obtain rfl := Nat.eq_of_beq_eq_true hb
      simp only [Option.some.injEq, Prod.mk.injEq] at h
      obtain ⟨rfl, rfl, rfl⟩ := h
      obtain ⟨hn, _⟩ := hg
      subst hn
      refine OpOk.still fun ρ a w hs he => ⟨_, hrun a w _ ?_, .p (.v _)⟩
      have hu := hx ρ a w hs he
      generalize hav : a.eval x = av at hu
      cases hu with
      | view _ _ _ _ _ ad l c hlt hh =>
        obtain ⟨_, h2⟩ := hh _ _ _ hk
        obtain ⟨rfl, _⟩ := h2 rfl
        simp [Builtin.len_, run_underlying hd, goInt]
    · simp only [Option.some.injEq, Prod.mk.injEq] at h
      obtain ⟨rfl, rfl, rfl⟩ := h
      refine OpOk.still fun ρ a w hs he => ⟨_, hrun a w _ ?_, .p (.v _)⟩
      rw [(hx ρ a w hs he).val]
      simp [Builtin.len_, run_underlying hd, goInt]
    · simp at h
  · rename_i htd
    rw [htd] at hof
    obtain rfl := TD.of_str hof
    split at h
    case h_2 => simp at h
    simp only [Option.some.injEq, Prod.mk.injEq] at h
    obtain ⟨rfl, rfl, rfl⟩ := h
    refine OpOk.still fun ρ a w hs he => ⟨_, hrun a w _ ?_, .p (.v _)⟩
    rw [(hx ρ a w hs he).val]
    simp [Builtin.len_, run_underlying hd, goInt]
  · rename_i n e htd
    rw [htd] at hof
    obtain rfl := TD.of_arr hof
    simp only [Option.some.injEq, Prod.mk.injEq] at h
    obtain ⟨rfl, rfl, rfl⟩ := h
    refine OpOk.still fun ρ a w hs he => ⟨_, hrun a w _ ?_, .p (.v _)⟩
    simp [Builtin.len_, run_underlying hd, goInt]
  · simp at h

theorem ok_max {mx : Bool} {ts : Array Nat} {x y : Operand} {u1 u2 : AV} (ho : o.op = .call { callee := .builtin (match mx with | true => .max | false => .min), args := #[x, y], argTypes := ts }) (hx : HasV O Γ σ x u1) (hy : HasV O Γ σ y u2) (h : stepMax σ.S mx u1 u2 = some (g, v, S')) : OpOk P O Γ σ o v S' := by
  unfold stepMax at h
  split at h
  case h_2 => simp at h
  rename_i k a1 k' b1
  split at h
  case h_2 => simp at h
  rename_i hk
  simp only [decide_eq_true_eq] at hk
  subst hk
  have e1 := fun ρ a w hs he => (hx ρ a w hs he).val
  have e2 := fun ρ a w hs he => (hy ρ a w hs he).val
  cases mx with
  | true =>
    simp only [Option.some.injEq, Prod.mk.injEq] at h
    obtain ⟨rfl, rfl, rfl⟩ := h
    refine OpOk.still fun ρ a w hs he => ⟨_, ?_, .p (.v _)⟩
    have : (if a1 < b1 then b1 else a1) = max a1 b1 := by omega
    simp [execOp, ho, resolve, invoke, builtin, e1 ρ a w hs he, e2 ρ a w hs he, Builtin.max_, Builtin.max2, this]
  | false =>
    simp only [Option.some.injEq, Prod.mk.injEq] at h
    obtain ⟨rfl, rfl, rfl⟩ := h
    refine OpOk.still fun ρ a w hs he => ⟨_, ?_, .p (.v _)⟩
    have : (if b1 < a1 then b1 else a1) = min a1 b1 := by omega
    simp [execOp, ho, resolve, invoke, builtin, e1 ρ a w hs he, e2 ρ a w hs he, Builtin.min_, Builtin.min2, this]
end

/-! ### Cuts -/
def bnd : Option AV → Option (Option Int)
  | none => some none
  | some (.p (.v (.int _ n))) => some (some n)
  | _ => none

def stepSlice (T : Nat → Option TI) (S : Sto) (t : Nat) (x : AV) (lo hi : Option AV) : R3 :=
  match T t, bnd lo, bnd hi with
  | some i, some l, some h => match i.td with
    | .str => match x with
      | .p (.v (.string s)) => some ([0 ≤ l.getD 0 ∧ l.getD 0 ≤ h.getD s.size ∧ h.getD s.size ≤ s.size], .p (.v (.string (s.extract (l.getD 0).toNat (h.getD s.size).toNat))), S)
      | _ => none
    | .slice e => match T e with
      | some ei => match x with
        | .p (.ro sz n f) => match Nat.beq sz ei.size with
          | true => some ([0 ≤ l.getD 0 ∧ l.getD 0 ≤ h.getD n ∧ h.getD n ≤ n], .p (.ro sz ((h.getD n).toNat - (l.getD 0).toNat) (fun q => f ((l.getD 0).toNat + q))), S)
          | false => none
        | .row k sz n => match S.at k with
          | some (.row _ sz' n' f) => match Nat.beq sz ei.size, Nat.beq sz sz' with
            | true, true => some ([n = n', 0 ≤ l.getD 0 ∧ l.getD 0 ≤ h.getD n ∧ h.getD n ≤ n], .view k sz n (l.getD 0).toNat ((h.getD n).toNat - (l.getD 0).toNat), S)
            | _, _ => none
          | _ => none
        | _ => none
      | none => none
    | _ => none
  | _, _, _ => none

section
variable {P : Program} {O : Nat → Prop} {Γ : Ctx} {σ : Env} {o : Oper} {T : Nat → Option TI} {g : List Prop} {v : AV} {S' : Sto}

def HasO (O : Nat → Prop) (Γ : Ctx) (σ : Env) : Option Operand → Option AV → Prop
  | none, none => True
  | some x, some u => HasV O Γ σ x u
  | _, _ => False

theorem bnd_ok {x : Option Operand} {u : Option AV} (h : HasO O Γ σ x u) {l : Option Int} (hb : bnd u = some l) : ∀ ρ a w, St O Γ σ.S ρ w → EnvOk O σ ρ a w →
    (x = none ∧ l = none) ∨ ∃ y k n, x = some y ∧ l = some n ∧ a.eval y = .int k n := by
  intro ρ a w hs he
  cases x with
  | none =>
    cases u with
    | none => simp only [bnd, Option.some.injEq] at hb; exact .inl ⟨rfl, hb.symm⟩
    | some u => exact h.elim
  | some y =>
    cases u with
    | none => exact h.elim
    | some u =>
      right
      unfold bnd at hb
      split at hb
      · rename_i heq; cases heq
      · rename_i k n heq
        simp only [Option.some.injEq] at heq hb
        subst heq
        exact ⟨y, k, n, rfl, hb.symm, (h ρ a w hs he).val⟩
      · simp at hb

theorem run_bounds {lo hi : Option Operand} {l h : Option Int} {a : Act} {w : World} (isS : Bool) (len cap : Nat) (hlc : len ≤ cap)
    (hl : (lo = none ∧ l = none) ∨ ∃ y k n, lo = some y ∧ l = some n ∧ a.eval y = .int k n) (hh : (hi = none ∧ h = none) ∨ ∃ y k n, hi = some y ∧ h = some n ∧ a.eval y = .int k n)
    (hb : 0 ≤ l.getD 0 ∧ l.getD 0 ≤ h.getD len ∧ h.getD len ≤ len) :
    (Instr.sliceBounds isS len cap (lo.map a.eval) (hi.map a.eval) none).run P w = .ok ((l.getD 0).toNat, (h.getD len).toNat, cap) w := by
  obtain ⟨h0, h1, h2⟩ := hb
  have hsb : ∀ (k : IntKind) (i : Int) (y : Nat) (c : BoundsCode), 0 ≤ i → i ≤ y → (Instr.sliceBound (.int k i) y c).run P w = .ok i.toNat w := fun k i y c h3 h4 => by simp [Instr.sliceBound, asIntOf, h3, h4]
  rcases hl with ⟨rfl, rfl⟩ | ⟨y, k, n, rfl, rfl, hy⟩ <;> rcases hh with ⟨rfl, rfl⟩ | ⟨y', k', n', rfl, rfl, hy'⟩ <;> simp only [Option.getD_none, Option.getD_some] at h0 h1 h2 ⊢
  · simp [Instr.sliceBounds]
  · simp only [Instr.sliceBounds, Option.map_none, Option.map_some, hy', Sem.run_bind, Sem.run_pure, Result.andThen_ok, hsb k' n' cap _ (by omega) (by omega)]
    rfl
  · simp only [Instr.sliceBounds, Option.map_none, Option.map_some, hy, Sem.run_bind, Sem.run_pure, Result.andThen_ok, hsb k n len _ (by omega) (by omega)]
    simp
  · simp only [Instr.sliceBounds, Option.map_none, Option.map_some, hy, hy', Sem.run_bind, Sem.run_pure, Result.andThen_ok, hsb k' n' cap _ (by omega) (by omega), hsb k n n'.toNat _ (by omega) (by omega)]

theorem ok_slice (hT : TOk P T) {t : Nat} {x : Operand} {lo hi : Option Operand} {u : AV} {ul uh : Option AV} (ho : o.op = .slice t x lo hi none) (hx : HasV O Γ σ x u) (hlo : HasO O Γ σ lo ul) (hhi : HasO O Γ σ hi uh) (h : stepSlice T σ.S t u ul uh = some (g, v, S')) (hg : AllP g) : OpOk P O Γ σ o v S' := by
  unfold stepSlice at h
  split at h
  case h_2 => simp at h
  rename_i i l hb hi' hl hh
  obtain ⟨d, hd, hof⟩ := (hT t i hi').und
  split at h
  · rename_i htd
    rw [htd] at hof
    obtain rfl := TD.of_str hof
    split at h
    case h_2 => simp at h
    rename_i s
    simp only [Option.some.injEq, Prod.mk.injEq] at h
    obtain ⟨rfl, rfl, rfl⟩ := h
    obtain ⟨hbd, _⟩ := hg
    refine OpOk.still fun ρ a w hs he => ⟨_, ?_, .p (.v _)⟩
    have hr := run_bounds (P := P) (w := w) false s.size s.size (Nat.le_refl _) (bnd_ok hlo hl ρ a w hs he) (bnd_ok hhi hh ρ a w hs he) hbd
    simp only [execOp, ho, (hx ρ a w hs he).val, Option.map_none, Instr.sliceAt, Instr.slice, Sem.run_bind, run_underlying hd, Result.andThen_ok, Option.isSome_none, Bool.false_eq_true, if_false, hr, Sem.run_pure]
  · rename_i e htd
    rw [htd] at hof
    obtain rfl := TD.of_slice hof
    split at h
    case h_2 => simp at h
    rename_i ei hei
    have hrun : ∀ (a : Act) (w : World) (ad : Option Addr) (len cap l' h' : Nat), a.eval x = .slice ad len cap → (Instr.sliceBounds true len cap (lo.map a.eval) (hi.map a.eval) none).run P w = .ok (l', h', cap) w →
        (execOp a.eval o).run P w = .ok (.value (.slice (if cap = l' then ad else ad.map (·.add (l' * ei.size))) (h' - l') (cap - l'))) w := by
      intro a w ad len cap l' h' hav hr
      simp only [execOp, ho, hav, Option.map_none, Instr.sliceAt, Instr.slice, Sem.run_bind, run_underlying hd, Result.andThen_ok, hr, run_sizeOf (hT e ei hei), Sem.run_pure]
    split at h
    · rename_i sz n f
      split at h
      case h_2 => simp at h
      rename_i hsz
      have hsz := Nat.eq_of_beq_eq_true hsz
      simp only [Option.some.injEq, Prod.mk.injEq] at h
      obtain ⟨rfl, rfl, rfl⟩ := h
      obtain ⟨hbd, _⟩ := hg
      refine OpOk.still fun ρ a w hs he => ?_
      have hu := hx ρ a w hs he
      generalize hav : a.eval x = av at hu
      cases hu with
      | p hp =>
        cases hp with
        | ro _ _ cap _ ad gv hc hz hlen hm h1 hr =>
          have hb := run_bounds (P := P) (w := w) true n cap hc (bnd_ok hlo hl ρ a w hs he) (bnd_ok hhi hh ρ a w hs he) hbd
          refine ⟨_, hrun a w ad n cap _ _ hav hb, .p (.ro sz _ _ _ _ (fun p q => gv ((l.getD 0).toNat + p) q) (by omega) hz (fun p hp => hlen _ (by omega)) (fun hn => ?_) (fun p q hp hq => h1 _ _ (by omega) hq) (fun p q hp hq => hr _ _ (by omega) hq))⟩
          obtain ⟨b, o1, rfl, hno, hcell⟩ := hm (by omega)
          refine ⟨b, o1 + (l.getD 0).toNat * sz, ?_, hno, fun p q hp hq => ?_⟩
          · rw [if_neg (by omega), ← hsz]; simp [add_at]
          · have := hcell ((l.getD 0).toNat + p) q (by omega) hq
            rw [Nat.add_mul] at this
            rw [← this]
            congr 2
            omega
    · rename_i k sz n
      split at h
      case h_2 => simp at h
      rename_i e' sz' n' f' hk
      split at h
      case h_2 => simp at h
      rename_i hsz hsz2
      have hsz := Nat.eq_of_beq_eq_true hsz
      obtain rfl := Nat.eq_of_beq_eq_true hsz2
      simp only [Option.some.injEq, Prod.mk.injEq] at h
      obtain ⟨rfl, rfl, rfl⟩ := h
      obtain ⟨hn, hbd, _⟩ := hg
      subst hn
      refine OpOk.still fun ρ a w hs he => ?_
      have hu := hx ρ a w hs he
      generalize hav : a.eval x = av at hu
      cases hu with
      | row _ _ _ ad len cap hlt hhh =>
        obtain ⟨_, h2⟩ := hhh _ _ _ hk
        have h3 := h2 rfl
        obtain ⟨⟨xs, hown, _⟩, _⟩ := hs.objs _ _ hk
        rw [← h3] at hown
        have hfacts : len = n ∧ n ≤ cap ∧ (0 < n → ∃ b, ad = some ⟨b, 0, none⟩) := by
          rcases hown.2 with ⟨hbad, hn0⟩ | ⟨g0, cap', cur, heq, _, _, hnc, _⟩
          · simp only [Value.slice.injEq] at hbad
            exact ⟨by omega, by omega, fun h => by omega⟩
          · simp only [Value.slice.injEq] at heq
            obtain ⟨rfl, rfl, rfl⟩ := heq
            exact ⟨rfl, hnc, fun _ => ⟨g0, rfl⟩⟩
        obtain ⟨rfl, hnc, hadr⟩ := hfacts
        have hb := run_bounds (P := P) (w := w) true len cap hnc (bnd_ok hlo hl ρ a w hs he) (bnd_ok hhi hh ρ a w hs he) hbd
        refine ⟨_, hrun a w ad len cap _ _ hav hb, .view _ _ _ _ _ _ _ _ hlt fun e2 m2 f2 hk2 => ?_⟩
        obtain ⟨h5, h6⟩ := hhh _ _ _ hk2
        refine ⟨h5, fun e0 => ⟨rfl, by omega, fun hp => ?_⟩⟩
        obtain ⟨b, rfl⟩ := hadr (by omega)
        refine ⟨b, len, cap, (h6 e0).symm, ?_⟩
        rw [if_neg (by omega), ← hsz]; simp [add_at]
    · simp at h
  · simp at h
end
end Go.Proofs.YtobpnmljijeadaaDoor.A

/- All operations in one; a region's operations in their order. -/
set_option linter.unusedVariables false
set_option linter.unusedSimpArgs false
namespace Go.Proofs.YtobpnmljijeadaaDoor.A
open Go

/-! ### Functions as values -/
def evL (G : Nat → Option (List PV)) (e : List (Nat × AV)) : List Operand → Option (List Prop × List AV)
  | [] => some ([], [])
  | x :: r => match evF G e x with
    | some (g, v) => match evL G e r with
      | some (g', l) => some (g ++ g', v :: l)
      | none => none
    | none => none

def toP : List AV → Option (List PV)
  | [] => some []
  | .p x :: r => match toP r with
    | some l => some (x :: l)
    | none => none
  | _ :: _ => none

def stepMakeFunc (G : Nat → Option (List PV)) (σ : Env) (f : Fn) (first cap : Array Operand) : R3 :=
  match evL G σ.e first.toList, evL G σ.e cap.toList with
  | some (g1, l1), some (g2, l2) => match toP l1, toP l2 with
    | some p1, some p2 => some (g1 ++ g2, .p (.fn f p1 p2), σ.S)
    | _, _ => some (g1 ++ g2, .fn f l1 l2, σ.S)
  | _, _ => none

def stepMake (T : Nat → Option TI) (S : Sto) (t : Nat) (x y : AV) : R3 :=
  match x, y with
  | .p (.v (.int _ a)), .p (.v (.int _ b)) => match T t with
    | some i => match i.td with
      | .slice e => match T e with
        | some ei => match Nat.ble 1 ei.size, Nat.ble 1 ei.bytes with
          | true, true => some ([a = b, 0 ≤ a ∧ ei.bytes * a.toNat ≤ 140737488355328], .row S.nx ei.size a.toNat, S.new (.row e ei.size a.toNat (fun _ => ei.zero.map fun v => .p (.v v))))
          | _, _ => none
        | none => none
      | _ => none
    | none => none
  | _, _ => none

section
variable {P : Program} {O : Nat → Prop} {Γ : Ctx} {σ : Env} {o : Oper} {T : Nat → Option TI} {g : List Prop} {v : AV} {S' : Sto}

theorem evL_ok : ∀ {l : List Operand} {g : List Prop} {al : List AV}, evL Γ.G σ.e l = some (g, al) → AllP g → ∀ ρ a w, St O Γ σ.S ρ w → EnvOk O σ ρ a w → VRs O σ.S ρ w al (l.map a.eval)
  | [], g, al, h, _, ρ, a, w, _, _ => by
    simp only [evL, Option.some.injEq, Prod.mk.injEq] at h
    obtain ⟨_, rfl⟩ := h
    exact ⟨rfl, fun j hj => absurd hj (by simp)⟩
  | x :: r, g, al, h, hg, ρ, a, w, hs, he => by
    unfold evL at h
    split at h
    case h_2 => simp at h
    rename_i g1 v hv
    split at h
    case h_2 => simp at h
    rename_i g2 l2 hr
    simp only [Option.some.injEq, Prod.mk.injEq] at h
    obtain ⟨rfl, rfl⟩ := h
    obtain ⟨hg1, hg2⟩ := hg.append
    obtain ⟨h1, h2⟩ := evL_ok hr hg2 ρ a w hs he
    refine ⟨by simpa using h1, fun j hj => ?_⟩
    cases j with
    | zero => simpa using evF_has hv hg1 ρ a w hs he
    | succ j => simpa using h2 j (by simpa using hj)

theorem toP_ok : ∀ {l : List AV} {p : List PV}, toP l = some p → l = p.map AV.p
  | [], p, h => by simp only [toP, Option.some.injEq] at h; subst h; rfl
  | x :: r, p, h => by
    unfold toP at h
    split at h
    · rename_i heq; cases heq
    · rename_i y r' heq
      simp only [List.cons.injEq] at heq
      obtain ⟨rfl, rfl⟩ := heq
      split at h
      · rename_i l hl
        simp only [Option.some.injEq] at h
        subst h
        rw [toP_ok hl]; rfl
      · simp at h
    · simp at h

theorem VR.p_inv {S : Sto} {ρ : Nat → Loc} {w : World} {x : PV} {cv : Value} (h : VR O S ρ w (.p x) cv) : PR w (ownS O S ρ) x cv := by
  cases h with
  | p hp => exact hp

theorem ok_makeFunc {f : Fn} {first cap : Array Operand} (ho : o.op = .makeFunc f first cap) (h : stepMakeFunc Γ.G σ f first cap = some (g, v, S')) (hg : AllP g) : OpOk P O Γ σ o v S' := by
  unfold stepMakeFunc at h
  split at h
  case h_2 => simp at h
  rename_i g1 l1 g2 l2 h1 h2
  have hrun : ∀ (a : Act) (w : World), (execOp a.eval o).run P w = .ok (.value (.func f (first.toList.map a.eval).toArray (cap.toList.map a.eval).toArray)) w := fun a w => by
    have e1 : first.map a.eval = (first.toList.map a.eval).toArray := by apply Array.ext'; simp
    have e2 : cap.map a.eval = (cap.toList.map a.eval).toArray := by apply Array.ext'; simp
    simp only [execOp, ho, Instr.makeFunc, Sem.run_bind, Sem.run_pure, Result.andThen_ok, e1, e2]
  split at h
  · rename_i p1 p2 hp1 hp2
    simp only [Option.some.injEq, Prod.mk.injEq] at h
    obtain ⟨rfl, rfl, rfl⟩ := h
    obtain ⟨hg1, hg2⟩ := hg.append
    refine OpOk.still fun ρ a w hs he => ⟨_, hrun a w, ?_⟩
    have a1 := evL_ok h1 hg1 ρ a w hs he
    have a2 := evL_ok h2 hg2 ρ a w hs he
    rw [toP_ok hp1] at a1
    rw [toP_ok hp2] at a2
    refine .p (.fn f p1 p2 _ _ (by simpa using a1.1) (by simpa using a2.1) (fun j hj => ?_) (fun j hj => ?_))
    · have := a1.2 j (by simpa using hj)
      rw [getD_map _ _ _ hj (.v undef)] at this
      exact this.p_inv
    · have := a2.2 j (by simpa using hj)
      rw [getD_map _ _ _ hj (.v undef)] at this
      exact this.p_inv
  · simp only [Option.some.injEq, Prod.mk.injEq] at h
    obtain ⟨rfl, rfl, rfl⟩ := h
    obtain ⟨hg1, hg2⟩ := hg.append
    refine OpOk.still fun ρ a w hs he => ⟨_, hrun a w, ?_⟩
    have a1 := evL_ok h1 hg1 ρ a w hs he
    have a2 := evL_ok h2 hg2 ρ a w hs he
    exact .fn f l1 l2 _ _ a1.1 a2.1 a1.2 a2.2

theorem madeCells_get (z : Array Value) (n sz i j : Nat) (hz : z.size = sz) (hi : i < n) (hj : j < sz) : (madeCells z (n * sz)).toList.getD (i * sz + j) undef = z.getD j undef := by
  have hlt : i * sz + j < n * sz := by
    have : (i + 1) * sz ≤ n * sz := Nat.mul_le_mul_right _ hi
    rw [Nat.add_mul, Nat.one_mul] at this; omega
  have hmod : (i * sz + j) % z.size = j := by
    rw [hz, Nat.mul_comm, Nat.mul_add_mod]
    exact Nat.mod_eq_of_lt hj
  have hj2 : j < z.size := by omega
  simp [madeCells, List.getD_eq_getElem?_getD, hlt, hmod, hj2, Array.getD_eq_getD_getElem?]

theorem ok_make (hT : TOk P T) {t : Nat} {x y : Operand} {u1 u2 : AV} (ho : o.op = .makeSlice t x y) (hx : HasV O Γ σ x u1) (hy : HasV O Γ σ y u2) (h : stepMake T σ.S t u1 u2 = some (g, v, S')) (hg : AllP g) : OpOk P O Γ σ o v S' := by
  unfold stepMake at h
  split at h
  case h_2 => simp at h
  rename_i k1 a1 k2 b1
  split at h
  case h_2 => simp at h
  rename_i i hi
  obtain ⟨d, hd, hof⟩ := (hT t i hi).und
  split at h
  case h_2 => simp at h
  rename_i e htd
  rw [htd] at hof
  obtain rfl := TD.of_slice hof
  split at h
  case h_2 => simp at h
  rename_i ei hei
  split at h
  case h_2 => simp at h
  rename_i hb1 hb2
  have hb1 := Nat.le_of_ble_eq_true hb1
  have hb2 := Nat.le_of_ble_eq_true hb2
  simp only [Option.some.injEq, Prod.mk.injEq] at h
  obtain ⟨rfl, rfl, rfl⟩ := h
  obtain ⟨rfl, ⟨h0, hby⟩, _⟩ := hg
  intro ρ a w hs hf he
  obtain ⟨ti, z, hti, hsz, hbt, hz, hzc⟩ := (hT e ei hei).info
  have hel := (hT e ei hei).len
  have hzs : z.cells.size = ei.size := by rw [← hel, ← hzc]; simp
  obtain ⟨n, rfl⟩ := Int.eq_ofNat_of_zero_le h0
  simp only [Int.toNat_natCast] at hby ⊢
  have h63 : n ≤ maxLen := by
    have : n ≤ ei.bytes * n := Nat.le_mul_of_pos_left _ hb2
    simp only [maxLen]; omega
  obtain ⟨w', hrun, hown, hgrow⟩ := run_make_full (P := P) w 0 t e ti z ei.size hd hti hz hsz k1 k2 n (by rw [hbt]; omega) h63 (Nat.zero_le _)
  have hG : Grows w w' := ⟨hgrow.os, hgrow.tape, hgrow.output, hgrow.size, fun b hb => hgrow.block b hb (by simp)⟩
  let vv : Value := .slice (some ⟨w.heap.size, 0, none⟩) n n
  have hfr : ∀ b, ((⟨vv, fun _ => False⟩ : Loc).blk = some b ∨ (⟨vv, fun _ => False⟩ : Loc).z b) → w.heap.size ≤ b := fun b hb => by
    rcases hb with hb | hb
    · have : w.heap.size = b := by simpa [vv, Loc.blk] using hb
      omega
    · exact hb.elim
  have he2 := evo_new hs hf (.row e ei.size n (fun _ => ei.zero.map fun v => .p (.v v))) ⟨vv, fun _ => False⟩ hG hfr
  refine ⟨.value vv, _, _, ?_, .inl ⟨vv, rfl, ?_⟩, hs.new hf _ ⟨vv, fun _ => False⟩ hG hfr ?_, he2⟩
  · simp only [execOp, ho, (hx ρ a w hs he).val, (hy ρ a w hs he).val, Sem.run_bind, hrun, Result.andThen_ok, Sem.run_pure]
    rfl
  · refine .row σ.S.nx ei.size n _ _ _ (by rw [Sto.at_new, if_pos rfl]; rfl) (fun e2 m2 f2' hk2 => ?_)
    rw [Sto.at_new] at hk2
    simp only [if_true, Option.some.injEq, AObj.row.injEq] at hk2
    obtain ⟨_, _, rfl, _⟩ := hk2
    exact ⟨Nat.le_refl _, fun _ => by simp [updL, vv]⟩
  · have hgetz : ∀ j, z.cells.getD j undef = ei.zero.getD j undef := fun j => by rw [← hzc]; simp [List.getD_eq_getElem?_getD, Array.getD_eq_getD_getElem?]
    refine ⟨⟨_, hown, fun x hx => ?_, fun q hq => ⟨by simp [hel], fun j hj => ?_⟩⟩, fun k hk => hk⟩
    · obtain ⟨p, hp, rfl⟩ := List.getElem_of_mem hx
      have hp2 : p < n * ei.size := by simpa [madeCells] using hp
      have hdiv : p / ei.size < n := Nat.div_lt_of_lt_mul (by rw [Nat.mul_comm]; exact hp2)
      have hmod : p % ei.size < ei.size := Nat.mod_lt _ hb1
      have hpe : p / ei.size * ei.size + p % ei.size = p := by have := Nat.div_add_mod p ei.size; rw [Nat.mul_comm] at this; exact this
      have := madeCells_get z.cells n ei.size (p / ei.size) (p % ei.size) hzs hdiv hmod
      rw [hpe, hgetz] at this
      have hlt : p % ei.size < ei.zero.length := by rw [hel]; exact hmod
      have h1 := List.all_eq_true.1 (hT e ei hei).one (ei.zero[p % ei.size]) (List.getElem_mem hlt)
      have e1 : (madeCells z.cells (n * ei.size)).toList[p] = ei.zero[p % ei.size] := by
        rw [List.getD_eq_getElem?_getD, List.getElem?_eq_getElem hp, Option.getD_some, List.getD_eq_getElem?_getD, List.getElem?_eq_getElem hlt, Option.getD_some] at this
        exact this
      rw [e1]; exact h1
    · rw [madeCells_get z.cells n ei.size q j hzs hq hj, hgetz, getD_map _ _ _ (by rw [hel]; exact hj) undef]
      exact .p (.v _)
end
end Go.Proofs.YtobpnmljijeadaaDoor.A

/- Maps from whole numbers to truths (sets). -/
set_option linter.unusedVariables false
set_option linter.unusedSimpArgs false
namespace Go.Proofs.YtobpnmljijeadaaDoor.A
open Go

def hasI : List Int → Int → Bool
  | [], _ => false
  | x :: l, n => (n == x) || hasI l n

def addI (m : List Int) (n : Int) : List Int := bif hasI m n then m else m ++ [n]

/-- Is it a map from int to bool? -/
def setT (T : Nat → Option TI) (t : Nat) : Option (Nat × Nat) :=
  match T t with
  | some i => match i.td with
    | .map k e => match T k, T e with
      | some ik, some ie => match ik.td, ie.td, ie.zero with
        | .int .i64, .bool, [.bool false] => some (k, e)
        | _, _, _ => none
      | _, _ => none
    | _ => none
  | none => none

def stepMakeMap (T : Nat → Option TI) (S : Sto) (t : Nat) : R3 :=
  match setT T t with
  | some (k, e) => some ([], .mp S.nx, S.new (.map k e []))
  | none => none

def stepLookup (T : Nat → Option TI) (S : Sto) (t : Nat) (x ix : AV) : R3 :=
  match setT T t, x, ix with
  | some _, .mp k, .p (.v (.int .i64 n)) => match S.at k with
    | some (.map _ _ m) => some ([], .p (.v (.bool (hasI m n))), S)
    | _ => none
  | _, _, _ => none

def stepMapUpdate (T : Nat → Option TI) (S : Sto) (t : Nat) (x ix v : AV) : R3 :=
  match setT T t, x, ix, v with
  | some _, .mp k, .p (.v (.int .i64 n)), .p (.v (.bool true)) => match S.at k with
    | some (.map kt et m) => some ([], .any, S.put k (.map kt et (addI m n)))
    | _ => none
  | _, _, _, _ => none

structure SetOk (P : Program) (t k e : Nat) : Prop where
  und : P.underlying t = some (.map k e)
  key : P.underlying k = some (.int .i64)
  zero : ∀ w, (zeroValue e).run P w = .ok (.bool false) w

section
variable {P : Program} {O : Nat → Prop} {Γ : Ctx} {σ : Env} {o : Oper} {T : Nat → Option TI} {g : List Prop} {v : AV} {S' : Sto} {w : World}

theorem TD.of_map {d : TypeDesc} {k e : Nat} (h : TD.of d = .map k e) : d = .map k e := by cases d <;> simp [TD.of] at h ⊢; exact h

theorem setT_ok (hT : TOk P T) {t k e : Nat} (h : setT T t = some (k, e)) : SetOk P t k e := by
  unfold setT at h
  split at h
  case h_2 => simp at h
  rename_i i hi
  split at h
  case h_2 => simp at h
  rename_i k' e' htd
  split at h
  case h_2 => simp at h
  rename_i ik ie hk he
  split at h
  case h_2 => simp at h
  rename_i h1 h2 h3
  simp only [Option.some.injEq, Prod.mk.injEq] at h
  obtain ⟨rfl, rfl⟩ := h
  obtain ⟨d, hd, hof⟩ := (hT t i hi).und
  rw [htd] at hof
  obtain rfl := TD.of_map hof
  obtain ⟨d2, hd2, hof2⟩ := (hT _ ik hk).und
  rw [h1] at hof2
  obtain rfl := TD.of_int hof2
  refine ⟨hd, hd2, fun w => ?_⟩
  rcases (hT _ ie he).sc with h | ⟨ti, hti, hz⟩
  · rw [h2] at h; simp [TD.agg] at h
  · rw [h3] at hz
    simp [zeroValue, typeInfo, hti, hz]

/-! ### Looking for a number -/
theorem findNow_set (k : Int) : ∀ (es : List MapEntry) (m : List Int) (i : Nat), es.map (fun e => (e.key, e.val)) = m.map (fun n => (Value.int .i64 n, Value.bool true)) →
    (hasI m k = false ∧ Instr.findNow (.int .i64) (.int .i64 k) es i = some none) ∨ (hasI m k = true ∧ ∃ j e, es[j]? = some e ∧ e.key = .int .i64 k ∧ e.val = .bool true ∧ Instr.findNow (.int .i64) (.int .i64 k) es i = some (some (i + j, .bool true)))
  | [], m, i, h => by
    cases m with
    | nil => exact .inl ⟨rfl, rfl⟩
    | cons n l => simp at h
  | e :: es, [], i, h => by simp at h
  | e :: es, n :: l, i, h => by
    simp only [List.map_cons, List.cons.injEq, Prod.mk.injEq] at h
    obtain ⟨⟨h1, h2⟩, h3⟩ := h
    by_cases hk : k = n
    · subst hk
      refine .inr ⟨by simp [hasI], 0, e, rfl, h1, h2, ?_⟩
      simp [Instr.findNow, Instr.sameNow, h1, h2]
    · have hf : Instr.findNow (.int .i64) (.int .i64 k) (e :: es) i = Instr.findNow (.int .i64) (.int .i64 k) es (i + 1) := by
        have hkf : (k == n) = false := by simpa using hk
        simp only [Instr.findNow, Instr.sameNow, h1, if_true, hkf]
      rw [hf]
      rcases findNow_set k es l (i + 1) h3 with ⟨h4, h5⟩ | ⟨h4, j, e', h5, h6, h7, h8⟩
      · exact .inl ⟨by simp [hasI, hk, h4], h5⟩
      · exact .inr ⟨by simp [hasI, hk, h4], j + 1, e', by simpa using h5, h6, h7, by rw [h8]; congr 2; simp; omega⟩

theorem findKey_set {k : Nat} (hk : P.underlying k = some (.int .i64)) (n : Int) {es : List MapEntry} {m : List Int} (h : es.map (fun e => (e.key, e.val)) = m.map (fun n => (Value.int .i64 n, Value.bool true))) (w : World) :
    (hasI m n = false ∧ (Instr.findKey k (.int .i64 n) es).run P w = .ok none w) ∨ (hasI m n = true ∧ ∃ j e, es[j]? = some e ∧ e.key = .int .i64 n ∧ e.val = .bool true ∧ (Instr.findKey k (.int .i64 n) es).run P w = .ok (some (j, .bool true)) w) := by
  rcases findNow_set n es m 0 h with ⟨h1, h2⟩ | ⟨h1, j, e, h3, h4, h5, h6⟩
  · exact .inl ⟨h1, by simp [Instr.findKey, run_underlying hk, h2]⟩
  · rw [Nat.zero_add] at h6
    exact .inr ⟨h1, j, e, h3, h4, h5, by simp [Instr.findKey, run_underlying hk, h6]⟩

theorem run_checkKey {k : Nat} (hk : P.underlying k = some (.int .i64)) (b : Bool) (n : Int) (w : World) : (Instr.checkKey b 10000 k (.int .i64 n)).run P w = .ok () w := by
  have key : ∀ d, (Instr.checkKey b (d + 1) k (.int .i64 n)).run P w = .ok () w := fun d => by
    unfold Instr.checkKey
    simp [run_underlying hk]
  exact key 9999

theorem ok_makeMap (hT : TOk P T) {t : Nat} (ho : o.op = .makeMap t none) (h : stepMakeMap T σ.S t = some (g, v, S')) : OpOk P O Γ σ o v S' := by
  unfold stepMakeMap at h
  split at h
  case h_2 => simp at h
  rename_i k e hs0
  simp only [Option.some.injEq, Prod.mk.injEq] at h
  obtain ⟨rfl, rfl, rfl⟩ := h
  intro ρ a w hs hf he
  let l : Loc := ⟨.map (some w.heap.size), fun _ => False⟩
  have hb : ∀ b, (l.blk = some b ∨ l.z b) → w.heap.size ≤ b := fun b hb => by
    rcases hb with hb | hb
    · have : w.heap.size = b := by simpa [l, Loc.blk] using hb
      omega
    · exact hb.elim
  have he2 := evo_new hs hf (.map k e []) l (Grows.alloc w (.map #[] 0)) hb
  refine ⟨.value (.map (some w.heap.size)), _, updL ρ σ.S.nx l, ?_, .inl ⟨_, rfl, ?_⟩, hs.new hf (.map k e []) l (Grows.alloc w _) hb ⟨⟨w.heap.size, rfl, #[], 0, heap_alloc_new w _, rfl⟩, fun k hk => hk⟩, he2⟩
  · simp only [execOp, ho, Instr.makeMap, Option.map_none, Sem.run_bind, Sem.run_pure, Result.andThen_ok]
    rfl
  · refine .mp σ.S.nx _ (by rw [Sto.at_new, if_pos rfl]; rfl) (fun kt et m hm => ?_)
    simp [updL, l]

theorem ok_lookup (hT : TOk P T) {t : Nat} {x y : Operand} {u1 u2 : AV} (ho : o.op = .lookup t x y false) (hx : HasV O Γ σ x u1) (hy : HasV O Γ σ y u2) (h : stepLookup T σ.S t u1 u2 = some (g, v, S')) : OpOk P O Γ σ o v S' := by
  unfold stepLookup at h
  split at h
  case h_2 => simp at h
  rename_i ke k n hst
  obtain ⟨kt0, et0⟩ := ke
  split at h
  case h_2 => simp at h
  rename_i kt et m hk
  simp only [Option.some.injEq, Prod.mk.injEq] at h
  obtain ⟨rfl, rfl, rfl⟩ := h
  have hso := setT_ok hT hst
  refine OpOk.still fun ρ a w hs he => ?_
  have hu := hx ρ a w hs he
  have hn := (hy ρ a w hs he).val
  obtain ⟨⟨r, hlv, es, clock, hh, hm⟩, hz⟩ := hs.objs k _ hk
  generalize hav : a.eval x = av at hu
  cases hu with
  | mp _ r' _ hr =>
    have := hr _ _ _ hk
    rw [hlv] at this
    simp only [Value.map.injEq] at this
    subst this
    refine ⟨.bool (hasI m n), ?_, .p (.v _)⟩
    rcases findKey_set (P := P) hso.key n hm w with ⟨h1, h2⟩ | ⟨h1, j, e, h3, h4, h5, h6⟩
    · rw [h1]
      simp [execOp, ho, hav, hn, Instr.lookup, run_underlying hso.und, run_getObj_map w r es clock hh, run_checkKey hso.key, h2, hso.zero]
    · rw [h1]
      simp [execOp, ho, hav, hn, Instr.lookup, run_underlying hso.und, run_getObj_map w r es clock hh, run_checkKey hso.key, h6]

theorem setObj_run {w : World} {r : Nat} {es : Array MapEntry} {clock : Nat} (h : w.heap[r]? = some (.map es clock)) (o : Obj) : (setObj r o).run P w = .ok () (w.putObj r o) := by
  simp [setObj, Sem.run, h, World.putObj]

theorem ok_mapUpdate (hT : TOk P T) {t : Nat} {x y z : Operand} {u1 u2 u3 : AV} (ho : o.op = .mapUpdate t x y z) (hx : HasV O Γ σ x u1) (hy : HasV O Γ σ y u2) (hz : HasV O Γ σ z u3) (h : stepMapUpdate T σ.S t u1 u2 u3 = some (g, v, S')) : OpOk P O Γ σ o v S' := by
  unfold stepMapUpdate at h
  split at h
  case h_2 => simp at h
  rename_i ke k n hst
  obtain ⟨kt0, et0⟩ := ke
  split at h
  case h_2 => simp at h
  rename_i kt et m hk
  simp only [Option.some.injEq, Prod.mk.injEq] at h
  obtain ⟨rfl, rfl, rfl⟩ := h
  have hso := setT_ok hT hst
  intro ρ a w hs hf he
  have hu := hx ρ a w hs he
  have hn := (hy ρ a w hs he).val
  have hb := (hz ρ a w hs he).val
  obtain ⟨⟨r, hlv, es, clock, hh, hm⟩, hzz⟩ := hs.objs k _ hk
  generalize hav : a.eval x = av at hu
  cases hu with
  | mp _ r' _ hr =>
    have := hr _ _ _ hk
    rw [hlv] at this
    simp only [Value.map.injEq] at this
    subst this
    have hblk : (ρ k).blk = some r := by simp [Loc.blk, hlv]
    have hlt : r < w.heap.size := (Array.getElem?_eq_some_iff.1 hh).1
    have fin : ∀ es' clock', es'.toList.map (fun e => (e.key, e.val)) = (addI m n).map (fun n => (Value.int .i64 n, Value.bool true)) → (execOp a.eval o).run P w = .ok .skip (w.putObj r (.map es' clock')) →
        ∃ nxt w' ρ', (execOp a.eval o).run P w = .ok nxt w' ∧ ((∃ cv, nxt = .value cv ∧ VR O (σ.S.put k (.map kt et (addI m n))) ρ' w' .any cv) ∨ (nxt = .skip ∧ AV.any = .any)) ∧ St O Γ (σ.S.put k (.map kt et (addI m n))) ρ' w' ∧ Evo σ.S ρ w (σ.S.put k (.map kt et (addI m n))) ρ' w' := fun es' clock' hes hrun => by
      have ht : Turns w (w.putObj r (.map es' clock')) (ρ k).blk := by
        rw [hblk]
        exact ⟨rfl, rfl, rfl, by simp [World.putObj], fun b hb hne => by simp [World.putObj, Array.getElem?_setIfInBounds, show r ≠ b from fun e => hne (by rw [e])]⟩
      have hto : (AObj.map kt et m).to (ρ k) (ρ k) (.map kt et (addI m n)) := ⟨rfl, rfl, rfl⟩
      have he2 := evo_put hs hk (.map kt et (addI m n)) (ρ k) hto (fun _ => rfl) ht rfl (fun b hb => .inl hb)
      refine ⟨.skip, _, _, hrun, .inr ⟨rfl, rfl⟩, hs.put hk (.map kt et (addI m n)) (ρ k) hto (fun _ => rfl) ht rfl (fun b hb => .inl hb) hzz ⟨⟨r, hlv, es', clock', ?_, hes⟩, hzz⟩, he2⟩
      exact World.putObj_heap_same hlt
    rcases findKey_set (P := P) hso.key n hm w with ⟨h1, h2⟩ | ⟨h1, j, e, h3, h4, h5, h6⟩
    · refine fin (es.push { key := .int .i64 n, val := .bool true, born := clock }) (clock + 1) ?_ ?_
      · rw [addI, h1]; simp [hm]
      · simp [execOp, ho, hav, hn, hb, Instr.mapUpdate, run_underlying hso.und, run_getObj_map w r es clock hh, run_checkKey hso.key, h2, setObj_run hh]
    · have h3' : es[j]? = some e := by simpa using h3
      refine fin (es.modify j fun e => { e with key := .int .i64 n, val := .bool true }) clock ?_ ?_
      · rw [addI, h1]
        show _ = m.map _
        rw [← hm]
        apply List.ext_getElem?
        intro i
        simp only [List.getElem?_map, Array.getElem?_toList, Array.getElem?_modify]
        by_cases hi : j = i
        · subst hi
          rw [if_pos rfl, h3']
          simp [h4, h5]
        · rw [if_neg hi]
      · simp [execOp, ho, hav, hn, hb, Instr.mapUpdate, run_underlying hso.und, run_getObj_map w r es clock hh, run_checkKey hso.key, h6, setObj_run hh, h3', h4, Instr.keyThatStays, Instr.sameBits]
end
end Go.Proofs.YtobpnmljijeadaaDoor.A

/- Values without objects; calls whose contract is pure. -/
set_option linter.unusedVariables false
set_option linter.unusedSimpArgs false
namespace Go.Proofs.YtobpnmljijeadaaDoor.A
open Go

abbrev S0 : Sto := ⟨0, []⟩
def ρ0 : Nat → Loc := fun _ => ⟨undef, fun _ => False⟩
theorem S0_at (k : Nat) : S0.at k = none := rfl
theorem owns_S0 (ρ : Nat → Loc) (b : Nat) : ¬ owns S0 ρ b := by
  rintro ⟨k, o, h, _⟩
  rw [S0_at] at h; simp at h
theorem ownS_S0 {O : Nat → Prop} {ρ : Nat → Loc} {b : Nat} (h : ownS O S0 ρ b) : O b := h.resolve_right (owns_S0 ρ b)

theorem PR.mono {w : World} {own own' : Nat → Prop} {x : PV} {v : Value} (h : PR w own x v) (hO : ∀ b, own' b → own b) : PR w own' x v := by
  induction h with
  | v x => exact .v x
  | ro sz n cap f a g hc hz hl hm h1 hr ih =>
    refine .ro sz n cap f a g hc hz hl (fun hn => ?_) h1 (fun i j hi hj => ih i j hi hj)
    obtain ⟨b, o, rfl, hno, hcell⟩ := hm hn
    exact ⟨b, o, rfl, fun ho => hno (hO b ho), hcell⟩
  | rp cs off b o g hm hr ih => exact .rp cs off b o g (fun j hj => ⟨(hm j hj).1, fun ho => (hm j hj).2 (hO b ho)⟩) (fun j hj => ih j hj)
  | fn f first cap a b ha hb hra hrb iha ihb => exact .fn f first cap a b ha hb iha ihb
  | nl n b h => exact .nl n b h

theorem VR.lift {O O' : Nat → Prop} {S : Sto} {ρ : Nat → Loc} {w : World} {v : AV} {cv : Value} (h : VR O' S0 ρ0 w v cv) (hO : ∀ b, ownS O S ρ b → O' b) : VR O S ρ w v cv := by
  induction h with
  | p hp => exact .p (hp.mono fun b hb => .inl (hO b hb))
  | bp k off a hk _ => rw [S0_at] at hk; simp at hk
  | row k sz n a l c hk _ => rw [S0_at] at hk; simp at hk
  | view k sz n lo len a l c hk _ => rw [S0_at] at hk; simp at hk
  | ep k sz n i off a hk _ => rw [S0_at] at hk; simp at hk
  | mp k r hk _ => rw [S0_at] at hk; simp at hk
  | agg cs vs hl hh ih => exact .agg cs vs hl ih
  | fn f first cap a b ha hb hra hrb iha ihb => exact .fn f first cap a b ha hb iha ihb
  | tup cs vs hl hh ih => exact .tup cs vs hl ih
  | ifb b x v hh h' ih => exact .ifb b x v ih h'
  | any v => exact .any v

theorem VRs.lift {O O' : Nat → Prop} {S : Sto} {ρ : Nat → Loc} {w : World} {v : List AV} {cv : List Value} (h : VRs O' S0 ρ0 w v cv) (hO : ∀ b, ownS O S ρ b → O' b) : VRs O S ρ w v cv := ⟨h.1, fun j hj => (h.2 j hj).lift hO⟩

/-- The one account says no more than the other. -/
def ACoe (a b : AV) : Prop := ∀ O S ρ w cv, VR O S ρ w a cv → VR O S ρ w b cv
def ACoeL (a b : List AV) : Prop := ∀ O S ρ w cv, VRs O S ρ w a cv → VRs O S ρ w b cv
theorem ACoe.refl (a : AV) : ACoe a a := fun _ _ _ _ _ h => h
theorem ACoeL.refl (a : List AV) : ACoeL a a := fun _ _ _ _ _ h => h
theorem ACoe.trans {a b c : AV} (h : ACoe a b) (h' : ACoe b c) : ACoe a c := fun O S ρ w cv hv => h' O S ρ w cv (h O S ρ w cv hv)
theorem ACoeL.nil : ACoeL [] [] := ACoeL.refl _
theorem VRs.cons_iff {O : Nat → Prop} {S : Sto} {ρ : Nat → Loc} {w : World} {a : AV} {l : List AV} {c : Value} {cs : List Value} : VRs O S ρ w (a :: l) (c :: cs) ↔ VR O S ρ w a c ∧ VRs O S ρ w l cs := by
  constructor
  · rintro ⟨h, h'⟩
    exact ⟨by simpa using h' 0 (by simp), by simpa using h, fun j hj => by simpa using h' (j + 1) (by simpa using hj)⟩
  · rintro ⟨h, h1, h2⟩
    refine ⟨by simpa using h1, fun j hj => ?_⟩
    cases j with
    | zero => simpa using h
    | succ j => simpa using h2 j (by simpa using hj)
theorem VRs.nil {O : Nat → Prop} {S : Sto} {ρ : Nat → Loc} {w : World} : VRs O S ρ w [] [] := ⟨rfl, fun j hj => absurd hj (by simp)⟩
theorem ACoeL.cons {a b : AV} {l m : List AV} (h : ACoe a b) (h' : ACoeL l m) : ACoeL (a :: l) (b :: m) := fun O S ρ w cv hv => by
  cases cv with
  | nil => have := hv.1; simp at this
  | cons c cs =>
    rw [VRs.cons_iff] at hv ⊢
    exact ⟨h _ _ _ _ _ hv.1, h' _ _ _ _ _ hv.2⟩

/-- What globals hold. -/
def GlobOk (G : Nat → Option (List PV)) (O : Nat → Prop) (w : World) : Prop := ∀ g cs, G g = some cs → PR w O (.rp cs 0) (.pointer (some ⟨g, 0, none⟩))

/-- A function that turns nothing and gives what is said. -/
structure Pure (P : Program) (G : Nat → Option (List PV)) (f : FuncId) (args : List AV) (res : AV) : Prop where
  enters : ∀ cargs w, (callFunc f cargs).run P w = .ok (.enter f cargs) w
  calls : ∀ (O : Nat → Prop) w cargs, (∀ b, O b → b < w.heap.size) → GlobOk G O w → VRs O S0 ρ0 w args cargs →
    Calls P f cargs.toArray w (fun e w' => ∃ cv, e = .returned cv ∧ VR O S0 ρ0 w' res cv ∧ Grows w w')

theorem Pure.coe {P : Program} {G : Nat → Option (List PV)} {f : FuncId} {args args' : List AV} {res res' : AV} (h : Pure P G f args res) (ha : ACoeL args' args) (hr : ACoe res res') : Pure P G f args' res' :=
  ⟨h.enters, fun O w cargs h1 h2 h3 => (h.calls O w cargs h1 h2 (ha _ _ _ _ _ h3)).mono fun e w' ⟨cv, e1, e2, e3⟩ => ⟨cv, e1, hr _ _ _ _ _ e2, e3⟩⟩

/-! ### Objects lent to a call -/
def lendL (f : AV → Option (List Prop × Bool × AV)) : List AV → Option (List Prop × Bool × List AV)
  | [] => some ([], false, [])
  | x :: r => match f x with
    | some (g, b, v) => match lendL f r with
      | some (g', b', l) => some (g ++ g', b || b', v :: l)
      | none => none
    | none => none

def AV.unP : AV → PV
  | .p x => x
  | _ => .v undef
def AV.isP : AV → Bool
  | .p _ => true
  | _ => false

def lendV (S : Sto) : Nat → AV → Option (List Prop × Bool × AV)
  | 0, _ => none
  | n + 1, v => match v with
    | .p x => some ([], false, .p x)
    | .agg cs => match lendL (lendV S n) cs with
      | some (g, b, l) => some (g, b, .agg l)
      | none => none
    | .tup cs => match lendL (lendV S n) cs with
      | some (g, b, l) => some (g, b, .tup l)
      | none => none
    | .bp k off => match S.at k with
      | some (.box cs) => match lendL (lendV S n) cs with
        | some (g, _, l) => match toP l with
          | some ps => some (g, true, .p (.rp ps off))
          | none => none
        | none => none
      | _ => none
    | .row k sz m => match S.at k with
      | some (.row _ sz' m' f) => match Nat.beq sz sz', Nat.ble 1 sz with
        | true, true => some ([m = m', ∀ i, i < m' → (f i).all AV.isP = true], true, .p (.ro sz m (fun i => (f i).map AV.unP)))
        | _, _ => none
      | _ => none
    | .fn f first cap => match lendL (lendV S n) first, lendL (lendV S n) cap with
      | some (g, b, l), some (g', b', l') => match toP l, toP l' with
        | some p, some q => some (g ++ g', b || b', .p (.fn f p q))
        | _, _ => none
      | _, _ => none
    | _ => none

section
variable {O O' : Nat → Prop} {Γ : Ctx} {S : Sto} {ρ : Nat → Loc} {w : World}

/-- How a lent thing is seen. -/
def Lends (O O' : Nat → Prop) (S : Sto) (ρ : Nat → Loc) (b : Bool) : Prop := (∀ k, O' k → ownS O S ρ k) ∧ (b = true → ∀ k, O' k → ¬ owns S ρ k)
theorem Lends.or {b b' : Bool} (h : Lends O O' S ρ (b || b')) : Lends O O' S ρ b ∧ Lends O O' S ρ b' :=
  ⟨⟨h.1, fun e => h.2 (by rw [e]; rfl)⟩, ⟨h.1, fun e => h.2 (by rw [e, Bool.or_true])⟩⟩

theorem lendL_ok {f : AV → Option (List Prop × Bool × AV)}
    (hf : ∀ x g b v, f x = some (g, b, v) → AllP g → Lends O O' S ρ b → ∀ cv, VR O S ρ w x cv → VR O' S0 ρ0 w v cv) :
    ∀ {l : List AV} {g : List Prop} {b : Bool} {l' : List AV}, lendL f l = some (g, b, l') → AllP g → Lends O O' S ρ b → ∀ cv, VRs O S ρ w l cv → VRs O' S0 ρ0 w l' cv
  | [], g, b, l', h, hg, hb, cv, hv => by
    simp only [lendL, Option.some.injEq, Prod.mk.injEq] at h
    obtain ⟨_, _, rfl⟩ := h
    exact ⟨hv.1, fun j hj => absurd hj (by simp)⟩
  | x :: r, g, b, l', h, hg, hb, cv, hv => by
    unfold lendL at h
    split at h
    case h_2 => simp at h
    rename_i g1 b1 v1 h1
    split at h
    case h_2 => simp at h
    rename_i g2 b2 l2 h2
    simp only [Option.some.injEq, Prod.mk.injEq] at h
    obtain ⟨rfl, rfl, rfl⟩ := h
    cases cv with
    | nil => have := hv.1; simp at this
    | cons c cs =>
      rw [VRs.cons_iff] at hv ⊢
      exact ⟨hf _ _ _ _ h1 hg.append.1 hb.or.1 _ hv.1, lendL_ok hf h2 hg.append.2 hb.or.2 _ hv.2⟩

theorem VRs.p {l : List AV} {ps : List PV} {cv : List Value} (h : VRs O S ρ w l cv) (hp : toP l = some ps) : cv.length = ps.length ∧ ∀ j, j < ps.length → PR w (ownS O S ρ) (ps.getD j (.v undef)) (cv.getD j undef) := by
  rw [toP_ok hp] at h
  refine ⟨by simpa using h.1, fun j hj => ?_⟩
  have := h.2 j (by simpa using hj)
  rw [getD_map _ _ _ hj (.v undef)] at this
  exact this.p_inv

theorem PR.toS0 {x : PV} {v : Value} (h : PR w O' x v) : VR O' S0 ρ0 w (.p x) v := .p (h.mono fun b hb => ownS_S0 hb)
theorem PR.unS0 {x : PV} {v : Value} (h : VR O' S0 ρ0 w (.p x) v) : PR w O' x v := h.p_inv.mono fun b hb => .inl hb

theorem lendV_ok (hs : St O Γ S ρ w) : ∀ (n : Nat) (x : AV) (g : List Prop) (b : Bool) (v : AV), lendV S n x = some (g, b, v) → AllP g → Lends O O' S ρ b → ∀ cv, VR O S ρ w x cv → VR O' S0 ρ0 w v cv
  | 0, x, g, b, v, h, _, _, _, _ => by simp [lendV] at h
  | n + 1, x, g, b, v, h, hg, hb, cv, hv => by
    have ih := lendV_ok hs n
    unfold lendV at h
    split at h
    · simp only [Option.some.injEq, Prod.mk.injEq] at h
      obtain ⟨_, rfl, rfl⟩ := h
      exact (hv.p_inv.mono fun b h => hb.1 b h).toS0
    · split at h
      case h_2 => simp at h
      rename_i l g1 b1 l1 h1
      simp only [Option.some.injEq, Prod.mk.injEq] at h
      obtain ⟨rfl, rfl, rfl⟩ := h
      obtain ⟨vs, rfl, hvs⟩ := hv.agg_inv
      have := lendL_ok ih h1 hg hb vs hvs
      exact .agg _ vs this.1 this.2
    · split at h
      case h_2 => simp at h
      rename_i l g1 b1 l1 h1
      simp only [Option.some.injEq, Prod.mk.injEq] at h
      obtain ⟨rfl, rfl, rfl⟩ := h
      cases hv with
      | tup _ vs hl hh =>
        have := lendL_ok ih h1 hg hb vs ⟨hl, hh⟩
        exact .tup _ vs this.1 this.2
    · rename_i k off
      split at h
      case h_2 => simp at h
      rename_i cs hk
      split at h
      case h_2 => simp at h
      rename_i g1 b1 l1 h1
      split at h
      case h_2 => simp at h
      rename_i ps hps
      simp only [Option.some.injEq, Prod.mk.injEq] at h
      obtain ⟨rfl, rfl, rfl⟩ := h
      have hno := hb.2 rfl
      obtain ⟨b', e, vs, hl, hh, hsz, _, hc⟩ := box_cells hs hk
      have hvs : VRs O S ρ w cs vs.toList := ⟨by simpa using hsz, fun j hj => by
        have := (hc j hj).2
        simpa [List.getD_eq_getElem?_getD, Array.getD_eq_getD_getElem?] using this⟩
      have := (lendL_ok ih h1 hg ⟨hb.1, fun _ => hno⟩ _ hvs).p hps
      have hlen : ps.length = cs.length := by rw [← this.1]; simpa using hsz
      cases hv with
      | bp _ _ a _ hh =>
        obtain ⟨b2, e2, rfl⟩ := hh _ hk
        rw [hl] at e2
        simp only [Value.pointer.injEq, Option.some.injEq, Addr.mk.injEq] at e2
        obtain ⟨rfl, _, _⟩ := e2
        have hp : PR w O' (.rp ps off) (.pointer (some ⟨b', 0 + off, none⟩)) := .rp ps off b' 0 (fun j => vs.getD j undef) (fun j hj => ⟨by rw [Nat.zero_add]; exact (hc j (by omega)).1, fun h => hno _ h ⟨k, _, hk, rfl, .inl (by simp [Loc.blk, hl])⟩⟩) (fun j hj => by
          have := (this.2 j hj).mono (own' := O') (fun b hb => .inl hb)
          simpa [List.getD_eq_getElem?_getD, Array.getD_eq_getD_getElem?] using this)
        rw [Nat.zero_add] at hp
        exact hp.toS0
    · rename_i k sz m
      split at h
      case h_2 => simp at h
      rename_i e sz' m' f hk
      split at h
      case h_2 => simp at h
      rename_i hb1 hb2
      obtain rfl := Nat.eq_of_beq_eq_true hb1
      have hz1 := Nat.le_of_ble_eq_true hb2
      simp only [Option.some.injEq, Prod.mk.injEq] at h
      obtain ⟨rfl, rfl, rfl⟩ := h
      obtain ⟨rfl, hall, _⟩ := hg
      have hno := hb.2 rfl
      cases hv with
      | row _ _ _ a l c _ hh =>
        have hloc := (hh _ _ _ hk).2 rfl
        obtain ⟨⟨xs, hown, hone, hc⟩, hz⟩ := hs.objs k _ hk
        have hxl : xs.length = m * sz := hown.1
        have hslc : l = m ∧ m ≤ c := by
          rcases hown.2 with ⟨h1, h2⟩ | ⟨g', cap, cur, h1, _, _, h2, _⟩
          · rw [← hloc] at h1; simp only [Value.slice.injEq] at h1; omega
          · rw [← hloc] at h1; simp only [Value.slice.injEq] at h1; omega
        obtain ⟨rfl, hlc⟩ := hslc
        have hp : PR w O' (.ro sz l (fun i => (f i).map AV.unP)) (.slice a l c) := by
          refine .ro sz l c _ a (fun i j => xs.getD (i * sz + j) undef) hlc hz1 (fun i hi => by rw [List.length_map]; exact (hc i hi).1) (fun hn => ?_) (fun i j hi hj => ?_) (fun i j hi hj => ?_)
          · rcases hown.2 with ⟨h1, h2⟩ | ⟨g', cap, cur, h1, _, hg', _⟩
            · omega
            · rw [← hloc] at h1
              simp only [Value.slice.injEq] at h1
              obtain ⟨rfl, _, rfl⟩ := h1
              refine ⟨g', 0, rfl, fun h => hno _ h ⟨k, _, hk, rfl, .inl (by simp [Loc.blk, ← hloc])⟩, fun i j hi hj => ?_⟩
              have hlt : i * sz + j < l * sz := by
                have : (i + 1) * sz ≤ l * sz := Nat.mul_le_mul_right _ hi
                rw [Nat.add_mul, Nat.one_mul] at this; omega
              have hx : i * sz + j < xs.length := by omega
              rw [← hloc] at hown
              have := hown.cells (g := g') rfl (i * sz + j) (xs.getD (i * sz + j) undef) (by simp [List.getD_eq_getElem?_getD, hx])
              rw [add_at] at this
              exact this
          · have hlt : i * sz + j < l * sz := by
              have : (i + 1) * sz ≤ l * sz := Nat.mul_le_mul_right _ hi
              rw [Nat.add_mul, Nat.one_mul] at this; omega
            have hx : i * sz + j < xs.length := by omega
            have : xs.getD (i * sz + j) undef = xs[i * sz + j] := by simp [List.getD_eq_getElem?_getD, hx]
            rw [this]; exact hone _ (List.getElem_mem hx)
          · have h1 := (hc i hi).2 j hj
            have hj' : j < (f i).length := by rw [(hc i hi).1]; exact hj
            rw [getD_map _ _ _ hj' .any]
            have hP : ((f i).getD j .any).isP = true := by
              have := List.all_eq_true.1 (hall i hi) ((f i)[j]) (List.getElem_mem hj')
              simpa [List.getD_eq_getElem?_getD, hj'] using this
            cases hx : (f i).getD j .any with
            | p y => rw [hx] at h1; exact h1.p_inv.mono (fun b h => hb.1 b h)
            | _ => rw [hx] at hP; simp [AV.isP] at hP
        exact hp.toS0
    · split at h
      case h_2 => simp at h
      rename_i g1 b1 l1 g2 b2 l2 h1 h2
      split at h
      case h_2 => simp at h
      rename_i p q hp hq
      simp only [Option.some.injEq, Prod.mk.injEq] at h
      obtain ⟨rfl, rfl, rfl⟩ := h
      cases hv with
      | fn _ _ _ ca cb ha hb' hra hrb =>
        have a1 := (lendL_ok ih h1 hg.append.1 hb.or.1 ca ⟨ha, hra⟩).p hp
        have a2 := (lendL_ok ih h2 hg.append.2 hb.or.2 cb ⟨hb', hrb⟩).p hq
        exact .p (.fn _ p q ca cb a1.1 a2.1 a1.2 a2.2)
    · simp at h
end
end Go.Proofs.YtobpnmljijeadaaDoor.A

/- One operation, whichever it is. -/
set_option linter.unusedVariables false
set_option linter.unusedSimpArgs false
namespace Go.Proofs.YtobpnmljijeadaaDoor.A
open Go

/-! ### Structs of whole numbers against each other -/
def i64s : List AV → Option (List Int)
  | [] => some []
  | .p (.v (.int .i64 a)) :: r => match i64s r with
    | some l => some (a :: l)
    | none => none
  | _ :: _ => none

def listEq : List Int → List Int → Bool
  | [], [] => true
  | a :: l, b :: m => (a == b) && listEq l m
  | _, _ => false

def EqOk (P : Program) (E : Nat → Option Nat) : Prop := ∀ t n, E t = some n → ∀ (as bs : List Int) (x y : Operand) (w : World), as.length = n → bs.length = n →
  (eqGuard .eql t x y (.agg (as.map (Value.int .i64)).toArray) (.agg (bs.map (Value.int .i64)).toArray)).run P w = .ok () w ∧
  (eqGuard .neq t x y (.agg (as.map (Value.int .i64)).toArray) (.agg (bs.map (Value.int .i64)).toArray)).run P w = .ok () w ∧
  (Op.equal t (.agg (as.map (Value.int .i64)).toArray) (.agg (bs.map (Value.int .i64)).toArray)).run P w = .ok (listEq as bs) w

def stepEqA (E : Nat → Option Nat) (S : Sto) (op : BinOp) (t : Nat) (x y : AV) : R3 :=
  match x, y with
  | .agg cs, .agg ds => match E t, i64s cs, i64s ds with
    | some n, some as, some bs => match Nat.beq as.length n, Nat.beq bs.length n with
      | true, true => match op with
        | .eql => some ([], .p (.v (.bool (listEq as bs))), S)
        | .neq => some ([], .p (.v (.bool (!listEq as bs))), S)
        | _ => none
      | _, _ => none
    | _, _, _ => none
  | _, _ => none

section
variable {P : Program} {O : Nat → Prop} {Γ : Ctx} {σ : Env} {o : Oper} {T : Nat → Option TI} {E : Nat → Option Nat} {g : List Prop} {v : AV} {S' : Sto}

theorem i64s_ok : ∀ {cs : List AV} {as : List Int}, i64s cs = some as → cs = as.map fun a => AV.p (.v (.int .i64 a))
  | [], as, h => by simp only [i64s, Option.some.injEq] at h; subst h; rfl
  | x :: r, as, h => by
    unfold i64s at h
    split at h
    · rename_i heq; cases heq
    · rename_i a r' heq
      simp only [List.cons.injEq] at heq
      obtain ⟨rfl, rfl⟩ := heq
      split at h
      · rename_i l hl
        simp only [Option.some.injEq] at h
        subst h
        rw [i64s_ok hl]; rfl
      · simp at h
    · simp at h

theorem agg_i64s {S : Sto} {ρ : Nat → Loc} {w : World} {as : List Int} {cv : Value} (h : VR O S ρ w (.agg (as.map fun a => AV.p (.v (.int .i64 a)))) cv) : cv = .agg (as.map (Value.int .i64)).toArray := by
  obtain ⟨vs, rfl, h1, h2⟩ := h.agg_inv
  congr 2
  apply List.ext_getElem
  · simpa using h1
  · intro j hj hj'
    have hj2 : j < as.length := by simpa using hj'
    have := h2 j (by simpa using hj2)
    rw [getD_map _ _ _ hj2 0] at this
    have := this.val
    simpa [List.getD_eq_getElem?_getD, hj, hj2] using this

theorem ok_eqA (hE : EqOk P E) {op : BinOp} {t t' : Nat} {x y : Operand} {u1 u2 : AV} (ho : o.op = .binOp op t x y t') (hx : HasV O Γ σ x u1) (hy : HasV O Γ σ y u2) (h : stepEqA E σ.S op t u1 u2 = some (g, v, S')) : OpOk P O Γ σ o v S' := by
  unfold stepEqA at h
  split at h
  case h_2 => simp at h
  rename_i cs ds
  split at h
  case h_2 => simp at h
  rename_i n as bs hE' h1 h2
  split at h
  case h_2 => simp at h
  rename_i hb1 hb2
  have hb1 := Nat.eq_of_beq_eq_true hb1
  have hb2 := Nat.eq_of_beq_eq_true hb2
  obtain rfl := i64s_ok h1
  obtain rfl := i64s_ok h2
  split at h
  case h_3 => simp at h
  all_goals
    simp only [Option.some.injEq, Prod.mk.injEq] at h
    obtain ⟨rfl, rfl, rfl⟩ := h
    refine OpOk.still fun ρ a w hs he => ?_
    have e1 := agg_i64s (hx ρ a w hs he)
    have e2 := agg_i64s (hy ρ a w hs he)
    obtain ⟨q1, q2, q3⟩ := hE t n hE' as bs x y w hb1 hb2
    refine ⟨_, ?_, .p (.v _)⟩
    simp only [execOp, ho, e1, e2, Sem.run_bind, q1, q2, Result.andThen_ok, binOp, q3, Sem.run_pure]
end

/-! ### All of them -/
def on1 (G : Nat → Option (List PV)) (e : List (Nat × AV)) (x : Operand) (k : AV → R3) : R3 :=
  match evF G e x with
  | some (g, u) => match k u with
    | some (g', v, S') => some (g ++ g', v, S')
    | none => none
  | none => none

def on2 (G : Nat → Option (List PV)) (e : List (Nat × AV)) (x y : Operand) (k : AV → AV → R3) : R3 :=
  match evF G e x with
  | some (g, u) => match evF G e y with
    | some (g1, u1) => match k u u1 with
      | some (g', v, S') => some (g ++ (g1 ++ g'), v, S')
      | none => none
    | none => none
  | none => none

def onO (G : Nat → Option (List PV)) (e : List (Nat × AV)) : Option Operand → Option (List Prop × Option AV)
  | none => some ([], none)
  | some x => match evF G e x with
    | some (g, u) => some (g, some u)
    | none => none

def stepB (T : Nat → Option TI) (G : Nat → Option (List PV)) (σ : Env) (b : Builtin) (args : List Operand) (ts : Array Nat) : R3 :=
  match b, args with
  | .len, [x] => on1 G σ.e x (stepLen T σ.S ts)
  | .append, [x, y] => on2 G σ.e x y (stepAppend T σ.S ts)
  | .max, [x, y] => on2 G σ.e x y (stepMax σ.S true)
  | .min, [x, y] => on2 G σ.e x y (stepMax σ.S false)
  | _, _ => none

def stepOp (wr : Bool) (T : Nat → Option TI) (E : Nat → Option Nat) (G : Nat → Option (List PV)) (σ : Env) (op : Op) : R3 :=
  match op with
  | .move x => on1 G σ.e x fun u => some ([], u, σ.S)
  | .assign x => on1 G σ.e x fun u => some ([], u, σ.S)
  | .pick c x y => match evF G σ.e c, ev G σ.e x, ev G σ.e y with
    | some (g, u), some u1, some u2 => match stepPick σ.S u u1 u2 with
      | some (g', v, S') => some (g ++ g', v, S')
      | none => none
    | _, _, _ => none
  | .alloc t => stepAlloc T σ.S t
  | .box _ x => on1 G σ.e x (stepBox σ.S)
  | .build t ps => stepBuild T G σ t ps
  | .buildSlice t n ps => stepBuildSlice T G σ t n ps
  | .load t x => on1 G σ.e x (stepLoad T σ.S t)
  | .store t x y => on2 G σ.e x y (stepStore T σ.S t)
  | .nilCheck x => on1 G σ.e x (stepNilCheck σ.S)
  | .binOp op t x y _ => on2 G σ.e x y fun u1 u2 => match u1 with
    | .agg cs => stepEqA E σ.S op t (.agg cs) u2
    | u1 => stepBin wr T σ.S op t u1 u2
  | .unOp op _ x => on1 G σ.e x (stepUn σ.S op)
  | .convert s d x => on1 G σ.e x (stepConv wr T σ.S s d)
  | .fieldAddr t x f => on1 G σ.e x fun u => stepField T σ.S t u f
  | .field t x f => on1 G σ.e x fun u => stepFieldV T σ.S t u f
  | .indexAddr t x y => on2 G σ.e x y (stepIndexAddr T σ.S t)
  | .index t x y => on2 G σ.e x y (stepIndex T σ.S t)
  | .extract x i => on1 G σ.e x fun u => stepExtract σ.S u i
  | .makeFunc f a c => stepMakeFunc G σ f a c
  | .makeSlice t x y => on2 G σ.e x y (stepMake T σ.S t)
  | .makeMap t none => stepMakeMap T σ.S t
  | .lookup t x y false => on2 G σ.e x y (stepLookup T σ.S t)
  | .mapUpdate t x y z => match evF G σ.e z with
    | some (g1, u3) => match on2 G σ.e x y fun u u1 => stepMapUpdate T σ.S t u u1 u3 with
      | some (g, v, S') => some (g1 ++ g, v, S')
      | none => none
    | none => none
  | .slice t x l h none => match onO G σ.e l, onO G σ.e h with
    | some (g1, ul), some (g2, uh) => match on1 G σ.e x fun u => stepSlice T σ.S t u ul uh with
      | some (g, v, S') => some (g1 ++ (g2 ++ g), v, S')
      | none => none
    | _, _ => none
  | .call c => match c.callee with
    | .builtin b => stepB T G σ b c.args.toList c.argTypes
    | _ => none
  | _ => none

section
variable {P : Program} {O : Nat → Prop} {Γ : Ctx} {σ : Env} {o : Oper} {T : Nat → Option TI} {E : Nat → Option Nat} {g : List Prop} {v : AV} {S' : Sto} {wr : Bool}

theorem on1_ok {x : Operand} {k : AV → R3} (h : on1 Γ.G σ.e x k = some (g, v, S')) (hg : AllP g) : ∃ u g', k u = some (g', v, S') ∧ AllP g' ∧ HasV O Γ σ x u := by
  unfold on1 at h
  split at h
  case h_2 => simp at h
  rename_i g1 u hu
  split at h
  case h_2 => simp at h
  rename_i g2 v2 S2 hk
  simp only [Option.some.injEq, Prod.mk.injEq] at h
  obtain ⟨rfl, rfl, rfl⟩ := h
  exact ⟨u, g2, hk, hg.append.2, evF_has hu hg.append.1⟩

theorem on2_ok {x y : Operand} {k : AV → AV → R3} (h : on2 Γ.G σ.e x y k = some (g, v, S')) (hg : AllP g) : ∃ u u1 g', k u u1 = some (g', v, S') ∧ AllP g' ∧ HasV O Γ σ x u ∧ HasV O Γ σ y u1 := by
  unfold on2 at h
  split at h
  case h_2 => simp at h
  rename_i g1 u hu
  split at h
  case h_2 => simp at h
  rename_i g2 u1 hu1
  split at h
  case h_2 => simp at h
  rename_i g3 v3 S3 hk
  simp only [Option.some.injEq, Prod.mk.injEq] at h
  obtain ⟨rfl, rfl, rfl⟩ := h
  exact ⟨u, u1, g3, hk, hg.append.2.append.2, evF_has hu hg.append.1, evF_has hu1 hg.append.2.append.1⟩

theorem onO_ok {x : Option Operand} {u : Option AV} (h : onO Γ.G σ.e x = some (g, u)) (hg : AllP g) : HasO O Γ σ x u := by
  cases x with
  | none => simp only [onO, Option.some.injEq, Prod.mk.injEq] at h; obtain ⟨rfl, rfl⟩ := h; trivial
  | some x =>
    simp only [onO] at h
    split at h
    · rename_i g1 u1 hu
      simp only [Option.some.injEq, Prod.mk.injEq] at h
      obtain ⟨rfl, rfl⟩ := h
      exact evF_has hu hg
    · simp at h

theorem ok_move {x : Operand} {u : AV} (ho : o.op = .move x ∨ o.op = .assign x) (hx : HasV O Γ σ x u) : OpOk P O Γ σ o u σ.S :=
  OpOk.still fun ρ a w hs he => ⟨a.eval x, by rcases ho with ho | ho <;> simp only [execOp, ho, Sem.run_pure], hx ρ a w hs he⟩

theorem ok_B (hT : TOk P T) {c : Call} {b : Builtin} (ho : o.op = .call c) (hb : c.callee = .builtin b) (h : stepB T Γ.G σ b c.args.toList c.argTypes = some (g, v, S')) (hg : AllP g) : OpOk P O Γ σ o v S' := by
  obtain ⟨cl, as, ts⟩ := c
  simp only at hb h
  subst hb
  unfold stepB at h
  split at h
  · rename_i x has
    obtain rfl : as = #[x] := by apply Array.ext'; simpa using has
    obtain ⟨u, g', hk, hg', hx⟩ := on1_ok (O := O) h hg
    exact ok_len hT ho hx hk hg'
  · rename_i x y has
    obtain rfl : as = #[x, y] := by apply Array.ext'; simpa using has
    obtain ⟨u, u1, g', hk, hg', hx, hy⟩ := on2_ok (O := O) h hg
    exact ok_append hT ho hx hy hk hg'
  · rename_i x y has
    obtain rfl : as = #[x, y] := by apply Array.ext'; simpa using has
    obtain ⟨u, u1, g', hk, hg', hx, hy⟩ := on2_ok (O := O) h hg
    exact ok_max (mx := true) ho hx hy hk
  · rename_i x y has
    obtain rfl : as = #[x, y] := by apply Array.ext'; simpa using has
    obtain ⟨u, u1, g', hk, hg', hx, hy⟩ := on2_ok (O := O) h hg
    exact ok_max (mx := false) ho hx hy hk
  · simp at h

theorem stepOp_ok (hT : TOk P T) (hE : EqOk P E) (h : stepOp wr T E Γ.G σ o.op = some (g, v, S')) (hg : AllP g) : OpOk P O Γ σ o v S' := by
  generalize ho : o.op = op at h
  unfold stepOp at h
  split at h
  · obtain ⟨u, g', hk, hg', hx⟩ := on1_ok (O := O) h hg
    simp only [Option.some.injEq, Prod.mk.injEq] at hk
    obtain ⟨_, rfl, rfl⟩ := hk
    exact ok_move (.inl ho) hx
  · obtain ⟨u, g', hk, hg', hx⟩ := on1_ok (O := O) h hg
    simp only [Option.some.injEq, Prod.mk.injEq] at hk
    obtain ⟨_, rfl, rfl⟩ := hk
    exact ok_move (.inr ho) hx
  · rename_i c x y
    split at h
    case h_2 => simp at h
    rename_i g1 u u1 u2 hc hx hy
    split at h
    case h_2 => simp at h
    rename_i g2 v2 S2 hk
    simp only [Option.some.injEq, Prod.mk.injEq] at h
    obtain ⟨rfl, rfl, rfl⟩ := h
    exact ok_pick ho (evF_has hc hg.append.1) (ev_has hx) (ev_has hy) hk hg.append.2
  · exact ok_alloc hT ho h
  · obtain ⟨u, g', hk, hg', hx⟩ := on1_ok (O := O) h hg
    exact ok_box ho hx hk
  · exact ok_build hT ho h hg
  · exact ok_buildSlice hT ho h hg
  · obtain ⟨u, g', hk, hg', hx⟩ := on1_ok (O := O) h hg
    exact ok_load hT ho hx hk hg'
  · obtain ⟨u, u1, g', hk, hg', hx, hy⟩ := on2_ok (O := O) h hg
    exact ok_store hT ho hx hy hk hg'
  · obtain ⟨u, g', hk, hg', hx⟩ := on1_ok (O := O) h hg
    exact ok_nilCheck ho hx hk
  · obtain ⟨u, u1, g', hk, hg', hx, hy⟩ := on2_ok (O := O) h hg
    split at hk
    · exact ok_eqA hE ho hx hy hk
    · exact ok_bin hT ho hx hy hk hg'
  · obtain ⟨u, g', hk, hg', hx⟩ := on1_ok (O := O) h hg
    exact ok_un ho hx hk hg'
  · obtain ⟨u, g', hk, hg', hx⟩ := on1_ok (O := O) h hg
    exact ok_conv hT ho hx hk hg'
  · obtain ⟨u, g', hk, hg', hx⟩ := on1_ok (O := O) h hg
    exact ok_fieldAddr hT ho hx hk hg'
  · obtain ⟨u, g', hk, hg', hx⟩ := on1_ok (O := O) h hg
    exact ok_field hT ho hx hk hg'
  · obtain ⟨u, u1, g', hk, hg', hx, hy⟩ := on2_ok (O := O) h hg
    exact ok_indexAddr hT ho hx hy hk hg'
  · obtain ⟨u, u1, g', hk, hg', hx, hy⟩ := on2_ok (O := O) h hg
    exact ok_index hT ho hx hy hk hg'
  · obtain ⟨u, g', hk, hg', hx⟩ := on1_ok (O := O) h hg
    exact ok_extract ho hx hk
  · exact ok_makeFunc ho h hg
  · obtain ⟨u, u1, g', hk, hg', hx, hy⟩ := on2_ok (O := O) h hg
    exact ok_make hT ho hx hy hk hg'
  · exact ok_makeMap hT ho h
  · obtain ⟨u, u1, g', hk, hg', hx, hy⟩ := on2_ok (O := O) h hg
    exact ok_lookup hT ho hx hy hk
  · split at h
    case h_2 => simp at h
    rename_i g1 u3 hz
    split at h
    case h_2 => simp at h
    rename_i g2 v2 S2 hk0
    simp only [Option.some.injEq, Prod.mk.injEq] at h
    obtain ⟨rfl, rfl, rfl⟩ := h
    obtain ⟨u, u1, g', hk, hg', hx, hy⟩ := on2_ok (O := O) hk0 hg.append.2
    exact ok_mapUpdate hT ho hx hy (evF_has hz hg.append.1) hk
  · split at h
    case h_2 => simp at h
    rename_i g1 ul g2 uh hl hh
    split at h
    case h_2 => simp at h
    rename_i g3 v3 S3 hk0
    simp only [Option.some.injEq, Prod.mk.injEq] at h
    obtain ⟨rfl, rfl, rfl⟩ := h
    obtain ⟨u, g', hk, hg', hx⟩ := on1_ok (O := O) hk0 hg.append.2.append.2
    exact ok_slice hT ho hx (onO_ok hl hg.append.1) (onO_ok hh hg.append.2.append.1) hk hg'
  · rename_i c
    split at h
    · rename_i b hb
      exact ok_B hT ho hb h hg
    · simp at h
  · simp at h
end
end Go.Proofs.YtobpnmljijeadaaDoor.A

/- One operation as it stands in a region: calls, guards. -/
set_option linter.unusedVariables false
set_option linter.unusedSimpArgs false
namespace Go.Proofs.YtobpnmljijeadaaDoor.A
open Go

/-- A contract that is handed to a call. -/
structure Hint (P : Program) (G : Nat → Option (List PV)) where
  f : FuncId
  args : List AV
  pre : Prop
  res : AV
  pf : pre → Pure P G f args res

def Hint.of {P : Program} {G : Nat → Option (List PV)} {f : FuncId} {args : List AV} {res : AV} (h : Pure P G f args res) : Hint P G := ⟨f, args, True, res, fun _ => h⟩
def Hint.on {P : Program} {G : Nat → Option (List PV)} {f : FuncId} {args : List AV} {res : AV} {pre : Prop} (h : pre → Pure P G f args res) : Hint P G := ⟨f, args, pre, res, h⟩

/-- Values without memory. -/
def scalN : Nat → AV → Bool
  | _, .p (.v _) => true
  | n + 1, .agg l => l.all (scalN n)
  | n + 1, .tup l => l.all (scalN n)
  | _, _ => false

def callWith {P : Program} {G : Nat → Option (List PV)} (S : Sto) (h : Hint P G) (fid : FuncId) (g : List Prop) (l : List AV) : R3 :=
  match lendL (lendV S 6) l with
  | some (g', b, l') => match (match b with | true => scalN 4 h.res | false => true) with
    | true => some (g ++ (g' ++ [fid = h.f, ACoeL l' h.args, h.pre]), h.res, S)
    | false => none
  | none => none

def stepCall {P : Program} {G : Nat → Option (List PV)} (σ : Env) (f : Operand) (args : List Operand) (h : Hint P G) : R3 :=
  match evF G σ.e f with
  | some (g1, vf) => match evL G σ.e args with
    | some (g2, la) => match vf with
      | .p (.fn (.func fid) first cap) => callWith σ.S h fid (g1 ++ g2) (first.map AV.p ++ (la ++ cap.map AV.p))
      | .fn (.func fid) first cap => callWith σ.S h fid (g1 ++ g2) (first ++ (la ++ cap))
      | _ => none
    | none => none
  | none => none

/-- What stands behind an operation. -/
def OpW (P : Program) (O : Nat → Prop) (Γ : Ctx) (r : Option Nat) (σ : Env) (o : Oper) (v : AV) (S' : Sto) : Prop :=
  ∀ n ρ a w (K : Act → World → Prop) (Q : Exit → Act → World → Prop), St O Γ σ.S ρ w → σ.S.at σ.S.nx = none → EnvOk O σ ρ a w →
    (∀ cv w' ρ', VR O S' ρ' w' v cv → St O Γ S' ρ' w' → Evo σ.S ρ w S' ρ' w' → K (a.put o.dst cv) w') → o.wpIn (Fw r) n P a w K Q

section
variable {P : Program} {O : Nat → Prop} {Γ : Ctx} {r : Option Nat} {σ : Env} {o : Oper} {T : Nat → Option TI} {E : Nat → Option Nat} {g : List Prop} {v : AV} {S' : Sto} {wr : Bool}

theorem OpOk.w (h : OpOk P O Γ σ o v S') (hd : ∀ c, o.op ≠ .defer c) : OpW P O Γ r σ o v S' := fun n ρ a w K Q hs hf he hk => by
  obtain ⟨nxt, w', ρ', hrun, hv, hs', he'⟩ := h ρ a w hs hf he
  refine ⟨fun _ _ => trivial, ?_⟩
  rw [Oper.semAt_eq _ _ _ hd, hrun]
  rcases hv with ⟨cv, rfl, hv⟩ | ⟨rfl, rfl⟩
  · exact hk cv w' ρ' hv hs' he'
  · exact hk undef w' ρ' (.any _) hs' he'

theorem scalN_lift : ∀ (n : Nat) {v : AV} {O' : Nat → Prop} {S : Sto} {ρ : Nat → Loc} {w w' : World} {cv : Value}, scalN n v = true → VR O' S0 ρ0 w v cv → VR O S ρ w' v cv
  | 0, v, O', S, ρ, w, w', cv, h, hv => by
    unfold scalN at h
    split at h
    · obtain rfl := hv.val; exact .p (.v _)
    · omega
    · omega
    · simp at h
  | n + 1, v, O', S, ρ, w, w', cv, h, hv => by
    unfold scalN at h
    split at h
    · obtain rfl := hv.val; exact .p (.v _)
    · rename_i m l hm
      obtain rfl : m = n := by omega
      cases hv with
      | agg _ vs hl hh =>
        refine .agg _ vs hl (fun j hj => scalN_lift m (List.all_eq_true.1 h _ ?_) (hh j hj))
        simp [List.getD_eq_getElem?_getD, hj]
    · rename_i m l hm
      obtain rfl : m = n := by omega
      cases hv with
      | tup _ vs hl hh =>
        refine .tup _ vs hl (fun j hj => scalN_lift m (List.all_eq_true.1 h _ ?_) (hh j hj))
        simp [List.getD_eq_getElem?_getD, hj]
    · simp at h

theorem callsIn_Fw (n : Nat) (P : Program) (f : FuncId) (args : Array Value) (w : World) (R : Ending → World → Prop) : CallsIn (Fw r) n P f args w R = CallsIn Fence.wide n P f args w R := rfl

theorem VRs.append {S : Sto} {ρ : Nat → Loc} {w : World} {l m : List AV} {cl cm : List Value} (h : VRs O S ρ w l cl) (h' : VRs O S ρ w m cm) : VRs O S ρ w (l ++ m) (cl ++ cm) := by
  induction l generalizing cl with
  | nil =>
    have := List.eq_nil_of_length_eq_zero (by simpa using h.1)
    subst this; exact h'
  | cons x l ih =>
    cases cl with
    | nil => have := h.1; simp at this
    | cons c cl =>
      rw [VRs.cons_iff] at h
      exact VRs.cons_iff.2 ⟨h.1, ih h.2⟩

theorem callWith_ok {h : Hint P Γ.G} {fid : FuncId} {g0 : List Prop} {l : List AV} (hc : callWith σ.S h fid g0 l = some (g, v, S')) (hg : AllP g) {ρ : Nat → Loc} {w : World} (hs : St O Γ σ.S ρ w) {cl : List Value} (hl : VRs O σ.S ρ w l cl) :
    AllP g0 ∧ S' = σ.S ∧ (callFunc fid cl.toArray).run P w = .ok (.enter fid cl.toArray) w ∧ Calls P fid cl.toArray w (fun e w' => ∃ cv, e = .returned cv ∧ VR O σ.S ρ w' v cv ∧ Grows w w') := by
  unfold callWith at hc
  split at hc
  case h_2 => simp at hc
  rename_i g' b l' hle
  split at hc
  case h_2 => simp at hc
  rename_i hb
  simp only [Option.some.injEq, Prod.mk.injEq] at hc
  obtain ⟨rfl, rfl, rfl⟩ := hc
  obtain ⟨hg1, hg2⟩ := hg.append
  obtain ⟨hg3, hf, hcoe, hpre, _⟩ := hg2.append
  subst hf
  have hp := h.pf hpre
  refine ⟨hg1, rfl, hp.enters _ _, ?_⟩
  cases b with
  | false =>
    have hl' := lendL_ok (lendV_ok hs 6) hle hg3 (O' := ownS O σ.S ρ) ⟨fun _ h => h, fun e => by simp at e⟩ cl hl
    refine (hp.calls (ownS O σ.S ρ) w cl (fun b hb => ?_) hs.glob (hcoe _ _ _ _ _ hl')).mono ?_
    · rcases hb with hb | hb
      · exact (hs.outer b hb).1
      · exact hs.owns_lt hb
    · rintro e w' ⟨cv, e1, e2, e3⟩
      exact ⟨cv, e1, e2.lift (fun _ h => h), e3⟩
  | true =>
    have hl' := lendL_ok (lendV_ok hs 6) hle hg3 (O' := fun _ => False) ⟨fun _ h => h.elim, fun _ _ h => h.elim⟩ cl hl
    refine (hp.calls (fun _ => False) w cl (fun b hb => hb.elim) (fun g cs hgc => (hs.glob g cs hgc).mono fun _ h => h.elim) (hcoe _ _ _ _ _ hl')).mono ?_
    rintro e w' ⟨cv, e1, e2, e3⟩
    exact ⟨cv, e1, scalN_lift 4 hb e2, e3⟩

theorem enter_w {fid : FuncId} {cl : List Value} {n : Nat} {ρ : Nat → Loc} {a : Act} {w : World} {K : Act → World → Prop} {Q : Exit → Act → World → Prop} (hd : ∀ c, o.op ≠ .defer c) (hrun : (execOp a.eval o).run P w = .ok (.enter fid cl.toArray) w)
    (hs : St O Γ σ.S ρ w) (hcalls : Calls P fid cl.toArray w (fun e w' => ∃ cv, e = .returned cv ∧ VR O σ.S ρ w' v cv ∧ Grows w w'))
    (hk : ∀ cv w' ρ', VR O σ.S ρ' w' v cv → St O Γ σ.S ρ' w' → Evo σ.S ρ w σ.S ρ' w' → K (a.put o.dst cv) w') : o.wpIn (Fw r) n P a w K Q := by
  refine ⟨fun _ _ => trivial, ?_⟩
  rw [Oper.semAt_eq _ _ _ hd, hrun, Oper.uponIn_enter]
  refine ⟨fun h => by simp [Fw, Fence.wide] at h, ?_⟩
  rw [callsIn_Fw, callsIn_wide]
  refine hcalls.mono ?_
  rintro e w' ⟨cv, rfl, hv, hgr⟩
  exact hk cv w' ρ hv (hs.grows hgr) hgr.evo

theorem stepCall_ok {c : Call} {f : Operand} {h : Hint P Γ.G} (ho : o.op = .call c) (hcl : c.callee = .value f) (hc : stepCall σ f c.args.toList h = some (g, v, S')) (hg : AllP g) : OpW P O Γ r σ o v S' := by
  intro n ρ a w K Q hs hf he hk
  unfold stepCall at hc
  split at hc
  case h_2 => simp at hc
  rename_i g1 vf hvf
  split at hc
  case h_2 => simp at hc
  rename_i g2 la hla
  have hargs : (c.args.map a.eval) = (c.args.toList.map a.eval).toArray := by apply Array.ext'; simp
  split at hc
  · rename_i fid first cap
    obtain ⟨gl, hgl, hcw⟩ : ∃ gl, AllP gl ∧ gl = g := ⟨g, hg, rfl⟩
    have hgg : AllP (g1 ++ g2) := by
      unfold callWith at hc
      split at hc
      case h_2 => simp at hc
      split at hc
      case h_2 => simp at hc
      simp only [Option.some.injEq, Prod.mk.injEq] at hc
      obtain ⟨rfl, _, _⟩ := hc
      exact hg.append.1
    have hfv := evF_has hvf hgg.append.1 ρ a w hs he
    have hav := evL_ok hla hgg.append.2 ρ a w hs he
    generalize hfe : a.eval f = fv at hfv
    cases hfv with
    | p hp =>
      cases hp with
      | fn _ _ _ ca cb ha hb hra hrb =>
        have h1 : VRs O σ.S ρ w (first.map AV.p) ca := ⟨by simpa using ha, fun j hj => by
          rw [getD_map _ _ _ (by simpa using hj) (.v undef)]; exact .p (hra j (by simpa using hj))⟩
        have h2 : VRs O σ.S ρ w (cap.map AV.p) cb := ⟨by simpa using hb, fun j hj => by
          rw [getD_map _ _ _ (by simpa using hj) (.v undef)]; exact .p (hrb j (by simpa using hj))⟩
        obtain ⟨_, rfl, hent, hcalls⟩ := callWith_ok hc hg hs (h1.append (VRs.append hav h2))
        refine enter_w (v := v) (fun c' e => by rw [ho] at e; cases e) ?_ hs hcalls hk
        simp only [execOp, ho, resolve, hcl, hfe, hargs, Deferred.ofValue, invoke, Sem.run_bind, Sem.run_pure, Result.andThen_ok]
        simpa using hent
  · rename_i fid first cap
    have hgg : AllP (g1 ++ g2) := by
      unfold callWith at hc
      split at hc
      case h_2 => simp at hc
      split at hc
      case h_2 => simp at hc
      simp only [Option.some.injEq, Prod.mk.injEq] at hc
      obtain ⟨rfl, _, _⟩ := hc
      exact hg.append.1
    have hfv := evF_has hvf hgg.append.1 ρ a w hs he
    have hav := evL_ok hla hgg.append.2 ρ a w hs he
    generalize hfe : a.eval f = fv at hfv
    cases hfv with
    | fn _ _ _ ca cb ha hb hra hrb =>
      obtain ⟨_, rfl, hent, hcalls⟩ := callWith_ok hc hg hs (VRs.append (⟨ha, hra⟩ : VRs O σ.S ρ w first ca) (VRs.append hav ⟨hb, hrb⟩))
      refine enter_w (v := v) (fun c' e => by rw [ho] at e; cases e) ?_ hs hcalls hk
      simp only [execOp, ho, resolve, hcl, hfe, hargs, Deferred.ofValue, invoke, Sem.run_bind, Sem.run_pure, Result.andThen_ok]
      simpa using hent
  · simp at hc
end
end Go.Proofs.YtobpnmljijeadaaDoor.A

/- A region whose order is laid: its operations one after the other. -/
set_option linter.unusedVariables false
set_option linter.unusedSimpArgs false
namespace Go.Proofs.YtobpnmljijeadaaDoor.A
open Go

/-- Is a guarded operation wanted? -/
def gval (e : List (Nat × AV)) (ops : List Oper) (j : Nat) (want : Bool) : Option Bool :=
  match ops[j]? with
  | some o => match o.dst with
    | some t => match get e t with
      | some (.p (.v (.bool b))) => some (match want with | true => b | false => !b)
      | some (.ifb c (.p (.v (.bool b)))) => some (c && (match want with | true => b | false => !b))
      | _ => none
    | none => none
  | none => none

abbrev R4 (P : Program) (G : Nat → Option (List PV)) := Option (List Prop × AV × Sto × List (Hint P G))

def stepX {P : Program} {G : Nat → Option (List PV)} (wr : Bool) (T : Nat → Option TI) (E : Nat → Option Nat) (σ : Env) (hs : List (Hint P G)) (op : Op) : R4 P G :=
  match op with
  | .call c => match c.callee with
    | .value f => match hs with
      | h :: hs' => match stepCall σ f c.args.toList h with
        | some (g, v, S') => some (g, v, S', hs')
        | none => none
      | [] => none
    | _ => match stepOp wr T E G σ (.call c) with
      | some (g, v, S') => some (g, v, S', hs)
      | none => none
  | op => match stepOp wr T E G σ op with
    | some (g, v, S') => some (g, v, S', hs)
    | none => none

def stepR {P : Program} {G : Nat → Option (List PV)} (lit wr : Bool) (T : Nat → Option TI) (E : Nat → Option Nat) (ops : List Oper) (σ : Env) (hs : List (Hint P G)) (o : Oper) : R4 P G :=
  match o.guard with
  | none => stepX wr T E σ hs o.op
  | some (j, want) => match gval σ.e ops j want with
    | none => none
    | some c => match lit with
      | true => match c with
        | true => stepX wr T E σ hs o.op
        | false => some ([], .p (.v undef), σ.S, hs)
      | false => match stepX wr T E σ hs o.op with
        | some (g, v, S', hs') => some ([c = true → AllP g, S' = σ.S], .ifb c v, σ.S, hs')
        | none => none

/-- What stands behind an operation in its region. -/
def OpR (P : Program) (O : Nat → Prop) (Γ : Ctx) (r : Option Nat) (ops : List Oper) (σ : Env) (o : Oper) (v : AV) (S' : Sto) : Prop :=
  ∀ n ρ a w (K : Act → World → Prop) (Q : Exit → Act → World → Prop), St O Γ σ.S ρ w → σ.S.at σ.S.nx = none → EnvOk O σ ρ a w →
    (∀ cv w' ρ', VR O S' ρ' w' v cv → St O Γ S' ρ' w' → Evo σ.S ρ w S' ρ' w' → K (a.put o.dst cv) w') →
    if Region.wanted o (yielded ops.toArray a.tmps) = true then o.wpIn (Fw r) n P a w K Q else (∀ f, o.about P w a.eval = some f → (Fw r).fn f) ∧ K (a.put o.dst undef) w

section
variable {P : Program} {O : Nat → Prop} {Γ : Ctx} {r : Option Nat} {σ : Env} {o : Oper} {T : Nat → Option TI} {E : Nat → Option Nat} {g : List Prop} {v : AV} {S' : Sto} {lit wr : Bool} {ops : List Oper} {hs hs' : List (Hint P Γ.G)}

theorem stepOp_defer {c : Call} {G : Nat → Option (List PV)} : stepOp wr T E G σ (.defer c) = none := rfl

theorem stepX_ok (hT : TOk P T) (hE : EqOk P E) (h : stepX wr T E σ hs o.op = some (g, v, S', hs')) (hg : AllP g) : OpW P O Γ r σ o v S' := by
  generalize ho : o.op = op at h
  unfold stepX at h
  split at h
  · rename_i c
    split at h
    · rename_i f hcl
      split at h
      case h_2 => simp at h
      rename_i h0 hs0
      split at h
      case h_2 => simp at h
      rename_i g1 v1 S1 hc
      simp only [Option.some.injEq, Prod.mk.injEq] at h
      obtain ⟨rfl, rfl, rfl, rfl⟩ := h
      exact stepCall_ok ho hcl hc hg
    · split at h
      case h_2 => simp at h
      rename_i g1 v1 S1 hc
      simp only [Option.some.injEq, Prod.mk.injEq] at h
      obtain ⟨rfl, rfl, rfl, rfl⟩ := h
      rw [← ho] at hc
      exact (stepOp_ok hT hE hc hg).w (fun c e => by rw [ho] at e; cases e)
  · split at h
    case h_2 => simp at h
    rename_i g1 v1 S1 hc
    simp only [Option.some.injEq, Prod.mk.injEq] at h
    obtain ⟨rfl, rfl, rfl, rfl⟩ := h
    rw [← ho] at hc
    refine (stepOp_ok hT hE hc hg).w (fun c e => ?_)
    rw [e, stepOp_defer] at hc
    simp at hc

theorem getD_some {l : Array Value} {t : Nat} {b : Bool} (h : l.getD t undef = .bool b) : l[t]? = some (.bool b) := by
  rw [Array.getD_eq_getD_getElem?] at h
  cases ht : l[t]? with
  | none => rw [ht] at h; cases h
  | some v => rw [ht] at h; simp only [Option.getD_some] at h; rw [h]

theorem getD_undef {l : Array Value} {t : Nat} (h : l.getD t undef = undef) : l[t]? = none ∨ l[t]? = some undef := by
  rw [Array.getD_eq_getD_getElem?] at h
  cases ht : l[t]? with
  | none => exact .inl rfl
  | some v => rw [ht] at h; simp only [Option.getD_some] at h; rw [h]; exact .inr rfl

theorem wanted_gval {j : Nat} {want c : Bool} (hgu : o.guard = some (j, want)) (h : gval σ.e ops j want = some c) {ρ : Nat → Loc} {a : Act} {w : World} (he : EnvOk O σ ρ a w) : Region.wanted o (yielded ops.toArray a.tmps) = c := by
  have hb : ∀ x y : Bool, (some x == some y) = (match y with | true => x | false => !x) := fun x y => by cases x <;> cases y <;> rfl
  unfold gval at h
  split at h
  case h_2 => simp at h
  rename_i o' ho'
  split at h
  case h_2 => simp at h
  rename_i t ht
  have hy : yielded ops.toArray a.tmps j = match a.tmps[t]? with | some (.bool b) => some b | _ => none := by
    simp only [yielded, List.getElem?_toArray, ho', Option.bind_some, ht]
    rfl
  split at h
  · rename_i b hge
    simp only [Option.some.injEq] at h
    have := (he t _ hge).val
    rw [getD_some this] at hy
    simp only [Region.wanted, hgu, hy, hb]
    exact h
  · rename_i c' b hge
    simp only [Option.some.injEq] at h
    have hv := he t _ hge
    cases c' with
    | true =>
      have := (hv.ifb_inv rfl).val
      rw [getD_some this] at hy
      simp only [Region.wanted, hgu, hy, hb]
      rw [← h]; rfl
    | false =>
      have hu : a.tmps.getD t undef = undef := by
        cases hv with
        | ifb _ _ _ _ h' => exact h' rfl
      have : yielded ops.toArray a.tmps j = none := by
        rw [hy]
        rcases getD_undef hu with h1 | h1
        · rw [h1]
        · rw [h1]; rfl
      simp only [Region.wanted, hgu, this]
      rw [← h]
      cases want <;> rfl
  · simp at h

theorem stepR_ok (hT : TOk P T) (hE : EqOk P E) (h : stepR lit wr T E ops σ hs o = some (g, v, S', hs')) (hg : AllP g) : OpR P O Γ r ops σ o v S' := by
  intro n ρ a w K Q hs1 hf he hk
  unfold stepR at h
  split at h
  · rename_i hgu
    simp only [Region.wanted, hgu, if_true]
    exact stepX_ok hT hE h hg n ρ a w K Q hs1 hf he hk
  · rename_i j want hgu
    split at h
    case h_1 => simp at h
    rename_i c hc
    rw [wanted_gval hgu hc he]
    split at h
    · split at h
      · simp only [if_true]
        exact stepX_ok hT hE h hg n ρ a w K Q hs1 hf he hk
      · simp only [Option.some.injEq, Prod.mk.injEq] at h
        obtain ⟨rfl, rfl, rfl, rfl⟩ := h
        rw [if_neg (by simp)]
        exact ⟨fun _ _ => trivial, hk undef w ρ (.p (.v _)) hs1 (Evo.refl _ _ _)⟩
    · split at h
      case h_2 => simp at h
      rename_i g1 v1 S1 hs2 hx
      simp only [Option.some.injEq, Prod.mk.injEq] at h
      obtain ⟨rfl, rfl, rfl, rfl⟩ := h
      obtain ⟨hg1, rfl, _⟩ := hg
      cases c with
      | true =>
        rw [if_pos rfl]
        refine stepX_ok hT hE hx (hg1 rfl) n ρ a w K Q hs1 hf he (fun cv w' ρ' hv h1 h2 => hk cv w' ρ' (.ifb _ _ _ (fun _ => hv) (fun e => by simp at e)) h1 h2)
      | false =>
        rw [if_neg (by simp)]
        exact ⟨fun _ _ => trivial, hk undef w ρ (.ifb _ _ _ (fun e => by simp at e) (fun _ => rfl)) hs1 (Evo.refl _ _ _)⟩
end

/-! ### One after the other -/
def bindE (d : Option Nat) (v : AV) (e : List (Nat × AV)) : List (Nat × AV) :=
  match d with
  | some t => (t, v) :: e
  | none => e
def dstOk (N : Nat) : Option Nat → Bool
  | some t => Nat.blt t N
  | none => true

def runSeq {P : Program} {G : Nat → Option (List PV)} (lit wr : Bool) (T : Nat → Option TI) (E : Nat → Option Nat) (N : Nat) (ops : List Oper) : List Oper → Env → List (Hint P G) → Option (List Prop × Env)
  | [], σ, _ => some ([], σ)
  | o :: rest, σ, hs => match stepR lit wr T E ops σ hs o with
    | some (g, v, S', hs') => match dstOk N o.dst with
      | true => match runSeq lit wr T E N ops rest ⟨bindE o.dst v σ.e, S'⟩ hs' with
        | some (g', σ') => some (g ++ g', σ')
        | none => none
      | false => none
    | none => none

section
variable {P : Program} {O : Nat → Prop} {Γ : Ctx} {r : Option Nat} {σ σ' : Env} {T : Nat → Option TI} {E : Nat → Option Nat} {g : List Prop} {lit wr : Bool} {N : Nat}

theorem put_tmps (a : Act) (d : Option Nat) (v : Value) (t : Nat) (hd : dstOk a.tmps.size d = true) : (a.put d v).tmps.getD t undef = if d = some t then v else a.tmps.getD t undef := by
  cases d with
  | none => simp [Act.put]
  | some t' =>
    have hlt : t' < a.tmps.size := by simpa [dstOk] using hd
    simp only [Act.put, Option.some.injEq, Array.getD_eq_getD_getElem?, Array.getElem?_setIfInBounds]
    by_cases h : t' = t
    · subst h; simp [hlt]
    · simp [h]
theorem put_size (a : Act) (d : Option Nat) (v : Value) : (a.put d v).tmps.size = a.tmps.size := by
  cases d <;> simp [Act.put]
theorem put_defers (a : Act) (d : Option Nat) (v : Value) : (a.put d v).defers = a.defers := by
  cases d <;> simp [Act.put]

theorem Marks.evo {B : Nat} {S S' : Sto} {ρ ρ' : Nat → Loc} {w w' : World} {ds : List Deferred} (h : Marks (ownS O S ρ) B w ds) (he : Evo S ρ w S' ρ' w') : Marks (ownS O S' ρ') B w' ds := by
  obtain ⟨Ds, h1, h2, h3⟩ := h.all
  refine ⟨Ds, h1, h2, fun D hD => ?_⟩
  obtain ⟨h4, h5, h6⟩ := h3 D hD
  have hlt : D < w.heap.size := (Array.getElem?_eq_some_iff.1 h5).1
  exact ⟨h4, (he.keep D hlt (fun h => h6 (.inr h))).trans h5, fun h => h6 (he.ownS hlt h)⟩

theorem EnvOk.put {S' : Sto} {ρ ρ' : Nat → Loc} {a : Act} {w w' : World} {d : Option Nat} {v : AV} {cv : Value} (he : EnvOk O σ ρ a w) (hv : VR O S' ρ' w' v cv) (hd : dstOk a.tmps.size d = true) (h : Evo σ.S ρ w S' ρ' w') :
    EnvOk O ⟨bindE d v σ.e, S'⟩ ρ' (a.put d cv) w' := by
  intro t u hu
  simp only at hu
  rw [put_tmps a d cv t hd]
  cases d with
  | none => simp only [bindE] at hu; simpa using (he t u hu).evo h
  | some t' =>
    simp only [bindE, get_cons] at hu
    by_cases e : t' = t
    · subst e
      simp only [if_true, Option.some.injEq] at hu
      subst hu
      simpa using hv
    · rw [if_neg e] at hu
      simpa [e] using (he t u hu).evo h

/-- What an operation leaves of the account of numbers. -/
theorem fresh_of {S : Sto} (h : ∀ k o, S.at k = some o → k < S.nx) : S.at S.nx = none := by
  cases hh : S.at S.nx with
  | none => rfl
  | some o => have := h _ _ hh; omega
end
end Go.Proofs.YtobpnmljijeadaaDoor.A
