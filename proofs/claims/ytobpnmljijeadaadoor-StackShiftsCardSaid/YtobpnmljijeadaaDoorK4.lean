/- Part 4 of what the laws of this seat lean on: A28, A29, A30, A31, A32, A33, A34, B1, C0, M1, C1. -/
import Derived.Test.YtobpnmljijeadaaDoorK3
import Derived.Test.YtobpnmljijeadaaDoorRows
import Derived.Laws.StructEq
/- Calls of yield; the contract of an iterator. -/
set_option linter.unusedVariables false
set_option linter.unusedSimpArgs false
namespace Go.Proofs.YtobpnmljijeadaaDoor.A
open Go

section
variable {P : Program} {O : Nat → Prop} {Γ : Ctx} {r : Option Nat} {σ : Env} {o : Oper} {S : Sto} {ρ : Nat → Loc} {w w' : World}

/-- Foreign memory turns. -/
theorem turn_fg (hs : St O Γ S ρ w) {kf i j : Nat} {b0 b1 : Bool} (hk : S.at kf = some (.fg i b0)) {z' : Nat → Prop} (hos : w'.os = w.os) (htp : w'.tape = w.tape) (hou : w'.output = w.output) (hsz : w.heap.size ≤ w'.heap.size)
    (hold : ∀ b, b < w.heap.size → ¬ (ρ kf).z b → w'.heap[b]? = w.heap[b]?) (hz : ∀ b, b < w.heap.size → z' b → (ρ kf).z b) (hΦ : Γ.Φ j b1 z' w') :
    St O Γ (S.put kf (.fg j b1)) (updL ρ kf ⟨(ρ kf).v, z'⟩) w' ∧ Evo S ρ w (S.put kf (.fg j b1)) (updL ρ kf ⟨(ρ kf).v, z'⟩) w' := by
  have hblk : (ρ kf).blk = none := (hs.objs kf _ hk).2
  have hblk' : (⟨(ρ kf).v, z'⟩ : Loc).blk = none := hblk
  have hev : Evo S ρ w (S.put kf (.fg j b1)) (updL ρ kf ⟨(ρ kf).v, z'⟩) w' := by
    refine ⟨hos, htp, hou, hsz, fun b hb ho => hold b hb (fun hzb => ho ⟨kf, _, hk, rfl, .inr hzb⟩), fun b hb ⟨k, o, g1, g2, g3⟩ => ?_, fun k o ho => ?_⟩
    · rw [Sto.at_put] at g1
      by_cases e : k = kf
      · subst e
        simp only [updL, if_true, hblk'] at g3
        rcases g3 with g3 | g3
        · simp at g3
        · exact ⟨k, _, hk, rfl, .inr (hz b hb g3)⟩
      · rw [if_neg e] at g1
        simp only [updL, if_neg e] at g3
        exact ⟨k, o, g1, g2, g3⟩
    · rw [Sto.at_put]
      by_cases e : k = kf
      · subst e
        rw [hk, Option.some.injEq] at ho
        subst ho
        exact ⟨_, by rw [if_pos rfl], by simp [AObj.to]⟩
      · rw [if_neg e]
        exact ⟨o, ho, by simp only [updL, if_neg e]; cases o <;> simp [AObj.to]⟩
  have hsep : ∀ k o b, k ≠ kf → S.at k = some o → o.live = true → ((ρ k).blk = some b ∨ (ρ k).z b) → b < w.heap.size ∧ ¬ (ρ kf).z b := fun k o b hne ho hl hb =>
    ⟨(hs.objs k o ho).live_lt hl hb, fun hzb => hne (hs.disj k kf o _ b ho hk hl rfl hb (.inr hzb))⟩
  refine ⟨⟨fun k o ho => ?_, fun k k' o o' b h1 h2 l1 l2 g1 g2 => ?_, fun g cs hg => (hs.glob g cs hg).evo hev, fun b hb => ⟨Nat.lt_of_lt_of_le (hs.outer b hb).1 hsz, fun hh => (hs.outer b hb).2 (hev.own b (hs.outer b hb).1 hh)⟩, fun b hb => ⟨Nat.lt_of_lt_of_le (hs.shared b hb).1 hsz, fun hh => (hs.shared b hb).2 (hev.own b (hs.shared b hb).1 hh)⟩⟩, hev⟩
  · rw [Sto.at_put] at ho
    by_cases e : k = kf
    · subst e
      simp only [if_true, Option.some.injEq] at ho
      subst ho
      simp only [updL, if_true]
      exact ⟨hΦ, hblk'⟩
    · rw [if_neg e] at ho
      simp only [updL, if_neg e]
      by_cases hl : o.live = true
      · exact (hs.objs k o ho).keep hev hs.shared (fun b hb => hold b (hsep k o b e ho hl hb).1 (hsep k o b e ho hl hb).2)
      · cases o <;> simp [AObj.live] at hl; trivial
  · rw [Sto.at_put] at h1 h2
    have hnew : ∀ k o, k ≠ kf → S.at k = some o → o.live = true → ((ρ k).blk = some b ∨ (ρ k).z b) → z' b → False := fun k o hne ho hl hb hzb => by
      have := hsep k o b hne ho hl hb
      exact this.2 (hz b this.1 hzb)
    by_cases e1 : k = kf
    · by_cases e2 : k' = kf
      · omega
      · rw [if_neg e2] at h2
        simp only [updL, if_pos e1, hblk'] at g1
        simp only [updL, if_neg e2] at g2
        rcases g1 with g1 | g1
        · simp at g1
        · exact (hnew k' o' e2 h2 l2 g2 g1).elim
    · rw [if_neg e1] at h1
      simp only [updL, if_neg e1] at g1
      by_cases e2 : k' = kf
      · simp only [updL, if_pos e2, hblk'] at g2
        rcases g2 with g2 | g2
        · simp at g2
        · exact (hnew k o e1 h1 l1 g1 g2).elim
      · rw [if_neg e2] at h2
        simp only [updL, if_neg e2] at g2
        exact hs.disj k k' o o' b h1 h2 l1 l2 g1 g2

theorem roundIn_Fw (m : Nat) (l : Nat) (f : FuncId) (tmps : Array Value) (assign body : Code) (w : World) (R : Ending → World → Prop) : RoundIn (Fw r) m P l f tmps assign body w R = RoundIn Fence.wide m P l f tmps assign body w R := rfl

/-- Yield is called. -/
theorem yield_w {c : Call} {f : Operand} {l n kf k : Nat} {Y : Nat → List AV} {gf ga gl : List Prop} {la la' : List AV} (hY : YOk P Γ l n Y) (ho : o.op = .call c) (hcl : c.callee = .value f)
    (hf : evF Γ.G σ.e f = some (gf, .p (.v (.func (.yield l) #[] #[])))) (hgf : AllP gf) (ha : evL Γ.G σ.e c.args.toList = some (ga, la)) (hga : AllP ga) (hl : lendL (lendV σ.S 6) la = some (gl, false, la')) (hgl : AllP gl)
    (hk : σ.S.at kf = some (.fg k true)) (hkn : k < n) (hcoe : ACoeL la' (Y k)) : OpW P O Γ r σ o (.p (.v (.bool true))) (σ.S.put kf (.fg (k + 1) true)) := by
  intro m ρ a w K Q hs hfr he hK
  have hfv := (evF_has hf hgf ρ a w hs he).val
  have hav := evL_ok ha hga ρ a w hs he
  have hz := (hs.objs kf _ hk).1
  have hl' := lendL_ok (lendV_ok hs 6) hl hgl (O' := (ρ kf).z) ⟨fun b hb => .inr ⟨kf, _, hk, rfl, .inr hb⟩, fun e => by simp at e⟩ _ hav
  obtain ⟨fn, tmps, assign, body, hyr, hround⟩ := hY.round k (ρ kf).z w (c.args.toList.map a.eval) hkn hz (hcoe _ _ _ _ _ hl')
  have hargs : (c.args.map a.eval) = (c.args.toList.map a.eval).toArray := by apply Array.ext'; simp
  have hrun : (execOp a.eval o).run P w = .ok (.round l fn tmps assign body) w := by
    simp only [execOp, ho, resolve, hcl, hfv, hargs, Deferred.ofValue, invoke, Sem.run_bind, Sem.run_pure, Result.andThen_ok]
    simpa using hyr
  refine ⟨fun _ _ => trivial, ?_⟩
  rw [Oper.semAt_eq _ _ _ (fun c' e => by rw [ho] at e; cases e), hrun, Oper.uponIn_round]
  refine ⟨fun h => by simp [Fw, Fence.wide] at h, ?_⟩
  rw [roundIn_Fw]
  refine (hround _).mono ?_
  rintro e w' ⟨z', rfl, hΦ, h1, h2, h3, h4, h5, h6⟩
  obtain ⟨hs', he'⟩ := turn_fg hs hk h1 h2 h3 h4 h5 h6 hΦ
  exact hK _ w' _ (.p (.v _)) hs' he'

/-- Yield is called, where a guard says whether. -/
theorem yield_r {c : Call} {f : Operand} {l n kf k : Nat} {Y : Nat → List AV} {gf ga gl : List Prop} {la la' : List AV} {ops : List Oper} {j : Nat} {want b : Bool} (hY : YOk P Γ l n Y) (hgu : o.guard = some (j, want)) (hgv : gval σ.e ops j want = some b) (ho : o.op = .call c) (hcl : c.callee = .value f)
    (hf : evF Γ.G σ.e f = some (gf, .p (.v (.func (.yield l) #[] #[])))) (hgf : b = true → AllP gf) (ha : evL Γ.G σ.e c.args.toList = some (ga, la)) (hga : b = true → AllP ga) (hl : lendL (lendV σ.S 6) la = some (gl, false, la')) (hgl : b = true → AllP gl)
    (hk : σ.S.at kf = some (.fg k true)) (hkn : b = true → k < n) (hcoe : b = true → ACoeL la' (Y k)) : OpR P O Γ r ops σ o (.ifb b (.p (.v (.bool true)))) (σ.S.put kf (.fg (bif b then k + 1 else k) true)) := by
  intro m ρ a w K Q hs hfr he hK
  rw [wanted_gval hgu hgv he]
  cases b with
  | true =>
    rw [if_pos rfl]
    exact yield_w hY ho hcl hf (hgf rfl) ha (hga rfl) hl (hgl rfl) hk (hkn rfl) (hcoe rfl) m ρ a w K Q hs hfr he (fun cv w' ρ' hv h1 h2 => hK cv w' ρ' (.ifb _ _ _ (fun _ => hv) (fun e => by simp at e)) h1 h2)
  | false =>
    rw [if_neg (by simp)]
    have hext : ∀ k', (σ.S.put kf (.fg (bif false then k + 1 else k) true)).at k' = σ.S.at k' := fun k' => by
      rw [Sto.at_put]
      by_cases e : k' = kf
      · subst e; rw [if_pos rfl, hk]; rfl
      · rw [if_neg e]
    exact ⟨fun _ _ => trivial, hK undef w ρ (.ifb _ _ _ (fun e => by simp at e) (fun _ => rfl)) (hs.ext hext) (Evo.ext hext)⟩

theorem dom_put {kf : Nat} {o o' : AObj} (hk : S.at kf = some o) (hd : Dom S) : Dom (S.put kf o') := (Form.put kf o o' hk).dom hd
end

/-! ### Iterators -/
structure Iter (P : Program) (G : Nat → Option (List PV)) (f : FuncId) (cap : List AV) (n : Nat) (Y : Nat → List AV) : Prop where
  enters : ∀ cargs w, (callFunc f cargs).run P w = .ok (.enter f cargs) w
  calls : ∀ (O : Nat → Prop) (Γ : Ctx) (w : World) (ccap : List Value) (l : Nat) (z0 : Nat → Prop), Γ.G = G → YOk P Γ l n Y → Γ.Φ 0 true z0 w → (∀ b, O b → b < w.heap.size ∧ ¬ z0 b) → (∀ b, Γ.sh b → b < w.heap.size ∧ ¬ z0 b) → GlobOk G (fun b => O b ∨ z0 b) w → VRs (fun b => O b ∨ z0 b) S0 ρ0 w cap ccap →
    Calls P f ((.func (.yield l) #[] #[] : Value) :: ccap).toArray w (fun e w' => ∃ v z', e = .returned v ∧ Γ.Φ n true z' w' ∧ w'.os = w.os ∧ w'.tape = w.tape ∧ w'.output = w.output ∧ w.heap.size ≤ w'.heap.size ∧
      (∀ b, b < w.heap.size → ¬ z0 b → w'.heap[b]? = w.heap[b]?) ∧ ∀ b, b < w.heap.size → z' b → z0 b)

section
variable {P : Program} {O : Nat → Prop} {Γ : Ctx} {σ : Env} {T : Nat → Option TI} {ρ : Nat → Loc} {F : Fence} {n : Nat}
theorem leaves_ok2 (hT : TOk P T) {fn : Func} {g : List Prop} {v : AV} (h : resF T Γ.G σ fn.results.toList = some (g, v)) (hg : AllP g) {B : Nat} (hlow : ∀ b, Γ.sh b → b < B) {a : Act} {R : Ending → World → Prop} : ∀ (Ds : List Nat) (w : World), St O Γ σ.S ρ w → EnvOk O σ ρ a w → Ds.Nodup →
    (∀ D, D ∈ Ds → B ≤ D ∧ w.heap[D]? = some (.deferred (some [])) ∧ ¬ ownS O σ.S ρ D) →
    (∀ cv w', St O Γ σ.S ρ w' → w'.os = w.os → w'.tape = w.tape → w'.output = w.output → w'.heap.size = w.heap.size → (∀ b, b < B → w'.heap[b]? = w.heap[b]?) → R (.returned cv) w') →
    LeavesInM F n P fn a.tmps R (Ds.map mark) .returning w
  | [], w, hs, he, _, _, hR => by
    obtain ⟨cv, h1, h2⟩ := resF_ok hT h hg hs he
    exact ⟨cv, h1, hR cv w hs rfl rfl rfl rfl (fun _ _ => rfl)⟩
  | D :: Ds, w, hs, he, hnd, hD, hR => by
    obtain ⟨hB, hd, hno⟩ := hD D (by simp)
    have hsh := shut_mark hd
    refine ⟨by simp, .inl ⟨D, _, rfl, run_takeDeferred hd, ?_⟩⟩
    rw [List.nodup_cons] at hnd
    refine leaves_ok2 hT h hg hlow Ds _ (hs.shut hsh hno (fun h => by have := hlow D h; omega)) (fun t u hu => (he t u hu).shut hsh) hnd.2 (fun D' hD' => ?_) (fun cv w' h1 h2 h3 h4 h5 h6 => hR cv w' h1 (h2.trans hsh.os) (h3.trans hsh.tape) (h4.trans hsh.output) (h5.trans hsh.size) (fun b hb => (h6 b hb).trans (hsh.old b (by omega))))
    obtain ⟨a1, a2, a3⟩ := hD D' (by simp [hD'])
    exact ⟨a1, (hsh.old D' (fun e => hnd.1 (e ▸ hD'))).trans a2, a3⟩
end

/-- What must hold where an iterator's body ends. -/
def EndsI (T : Nat → Option TI) (G : Nat → Option (List PV)) (rs : List ResultVar) (n : Nat) : Exit → Env → Prop
  | .ret, σ => (∃ g v, resF T G σ rs = some (g, v) ∧ AllP g) ∧ σ.S.at 0 = some (.fg n true)
  | .normal, σ => (∃ g v, resF T G σ rs = some (g, v) ∧ AllP g) ∧ σ.S.at 0 = some (.fg n true)
  | _, _ => False

theorem Iter.fn {P : Program} {T : Nat → Option TI} {G : Nat → Option (List PV)} (hT : TOk P T) {f : FuncId} {fn : Func} {c : Code} {cap : List AV} {n : Nat} {Y : Nat → List AV} (hf : P.funcs[f]? = some fn) (hname : (fn.name == "runtime.NumGoroutine") = false) (hb : fn.body = some c)
    (hN : Nat.ble (cap.length + 1) fn.ntmps = true)
    (h : ∀ O Γ l, Γ.G = G → YOk P Γ l n Y → W P O Γ fn.ntmps none c (EndsI T G fn.results.toList n) ⟨envOf 0 (.p (.v (.func (.yield l) #[] #[])) :: cap), ⟨1, [(0, .fg 0 true)]⟩⟩) : Iter P G f cap n Y where
  enters := by
    intro cargs w
    have h1 : fn.name ≠ "runtime.NumGoroutine" := by simpa using hname
    simp [callFunc, hf, h1, hb, Go.mark]
  calls O Γ w ccap l z0 hΓ hY hΦ hO hsh hG hcap := by
    have hN := Nat.le_of_ble_eq_true hN
    rw [← callsIn_wide (n := 0)]
    refine callsIn_of_wp_marks hf hb trivial ?_ rfl
    let S : Sto := ⟨1, [(0, .fg 0 true)]⟩
    let ρ : Nat → Loc := fun _ => ⟨undef, z0⟩
    have hat : ∀ k o, S.at k = some o → k = 0 ∧ o = .fg 0 true := fun k o hk => by
      have hk : get [(0, AObj.fg 0 true)] k = some o := hk
      rw [get_cons] at hk
      by_cases e : 0 = k
      · rw [if_pos e, Option.some.injEq] at hk
        exact ⟨e.symm, hk.symm⟩
      · rw [if_neg e] at hk; simp [get] at hk
    have hS0 : S.at 0 = some (.fg 0 true) := rfl
    have hbk : ∀ k, (ρ k).blk = none := fun k => rfl
    have hown : ∀ b, owns S ρ b ↔ z0 b := fun b => ⟨fun ⟨k, o, h1, h2, h3⟩ => by
      rcases h3 with h3 | h3
      · exact absurd h3 (by rw [hbk k]; simp)
      · exact h3, fun hz => ⟨0, _, hS0, rfl, .inr hz⟩⟩
    have hargs : VRs (fun b => O b ∨ z0 b) S0 ρ0 w (.p (.v (.func (.yield l) #[] #[])) :: cap) ((.func (.yield l) #[] #[] : Value) :: ccap) := VRs.cons_iff.2 ⟨.p (.v _), hcap⟩
    have hlen : ccap.length = cap.length := hcap.1
    have hst : St O Γ S ρ w := by
      refine ⟨fun k o hk => ?_, fun k k' o o' b h1 h2 _ _ _ _ => ?_, fun g cs hg => (hG g cs (hΓ ▸ hg)).mono fun b hb => hb.imp id (fun h => (hown b).1 h), fun b hb => ⟨(hO b hb).1, fun h => (hO b hb).2 ((hown b).1 h)⟩, fun b hb => ⟨(hsh b hb).1, fun h => (hsh b hb).2 ((hown b).1 h)⟩⟩
      · obtain ⟨rfl, rfl⟩ := hat k o hk
        exact ⟨hΦ, rfl⟩
      · rw [(hat k o h1).1, (hat k' o' h2).1]
    have hrel : Rel O Γ fn.ntmps w.heap.size ⟨envOf 0 (.p (.v (.func (.yield l) #[] #[])) :: cap), S⟩ ρ { tmps := ((.func (.yield l) #[] #[] : Value) :: ccap).toArray ++ Array.replicate (fn.ntmps - ((.func (.yield l) #[] #[] : Value) :: ccap).toArray.size) undef, defers := [] } w := by
      refine ⟨hst, ?_, by simp; omega, Nat.le_refl _, ⟨[], rfl, List.nodup_nil, fun D hD => by simp at hD⟩, fun k o hk => by rw [(hat k o hk).1]; exact Nat.lt_succ_self 0, fun b hb => (hsh b hb).1⟩
      intro t v hv
      obtain ⟨_, h2, h3⟩ := envOf_get (.p (.v (.func (.yield l) #[] #[])) :: cap) 0 t v hv
      have ht : t < (AV.p (.v (.func (.yield l) #[] #[])) :: cap).length := by omega
      have := hargs.2 t ht
      simp only [Nat.sub_zero] at h3
      rw [h3] at this
      have e : (((.func (.yield l) #[] #[] : Value) :: ccap).toArray ++ Array.replicate (fn.ntmps - ((.func (.yield l) #[] #[] : Value) :: ccap).toArray.size) undef).getD t undef = ((.func (.yield l) #[] #[] : Value) :: ccap).getD t undef := by
        have ht' : t < ((.func (.yield l) #[] #[] : Value) :: ccap).length := by simp at ht ⊢; omega
        rw [Array.getD_eq_getD_getElem?, List.getD_eq_getElem?_getD, Array.getElem?_append, if_pos (by simpa using ht')]
        simp
      rw [e]
      exact this.lift (fun b hb => hb.imp id (fun h => (hown b).1 h))
    refine wpIn_mono (h O Γ l hΓ hY 0 w.heap.size ρ _ w hrel) ?_
    rintro e a' w' ⟨hne, σ', ρ', hq, hr, he⟩
    have fin : ((∃ g v, resF T G σ' fn.results.toList = some (g, v) ∧ AllP g) ∧ σ'.S.at 0 = some (.fg n true)) → LeavesInM Fence.wide 0 P fn a'.tmps (fun e w' => ∃ v z', e = .returned v ∧ Γ.Φ n true z' w' ∧ w'.os = w.os ∧ w'.tape = w.tape ∧ w'.output = w.output ∧ w.heap.size ≤ w'.heap.size ∧
      (∀ b, b < w.heap.size → ¬ z0 b → w'.heap[b]? = w.heap[b]?) ∧ ∀ b, b < w.heap.size → z' b → z0 b) a'.defers .returning w' := by
      rintro ⟨⟨g, v, hres, hg⟩, hfin⟩
      obtain ⟨Ds, hds, hnd, hD⟩ := hr.marks.all
      rw [hds]
      refine leaves_ok2 hT (by rw [hΓ]; exact hres) hg hr.low Ds w' hr.st hr.env hnd hD (fun cv w2 h1 h2 h3 h4 h5 h6 => ⟨cv, (ρ' 0).z, rfl, (h1.objs 0 _ hfin).1, h2.trans he.os, h3.trans he.tape, h4.trans he.output, by rw [h5]; exact he.size, fun b hb hz => (h6 b hb).trans (he.keep b hb (fun h => hz ((hown b).1 h))), fun b hb hz => (hown b).1 (he.own b hb ⟨0, _, hfin, rfl, .inr hz⟩)⟩)
    cases e with
    | ret => exact fin hq
    | normal => exact fin hq
    | _ => exact hq.elim
end Go.Proofs.YtobpnmljijeadaaDoor.A

/- A loop over a function: its side. -/
set_option linter.unusedVariables false
set_option linter.unusedSimpArgs false
namespace Go.Proofs.YtobpnmljijeadaaDoor.A
open Go

/-! ### Where others lay and turn what is theirs -/
structure Fr (O O' A : Nat → Prop) (w w' : World) : Prop where
  same : ∀ b, A b → w'.heap[b]? = w.heap[b]?
  cov : ∀ b, b < w.heap.size → ¬ O b → A b
  back : ∀ b, O' b → O b ∨ w.heap.size ≤ b
  size : w.heap.size ≤ w'.heap.size
  lt : ∀ b, O' b → b < w'.heap.size

section
variable {O O' A : Nat → Prop} {G : Nat → Option (List PV)} {ls ls' : Nat → Nat × Loop} {S : Sto} {ρ : Nat → Loc} {w w' : World}

theorem PR.fr (h : Fr O O' A w w') {x : PV} {v : Value} (hx : PR w (ownS O S ρ) x v) : PR w' (ownS O' S ρ) x v := by
  have key : ∀ (a : Addr) u, w.cell? a = some u → ¬ ownS O S ρ a.block → w'.cell? a = some u ∧ ¬ ownS O' S ρ a.block := fun a u hc hno => by
    have hlt := cell_lt hc
    refine ⟨?_, fun ho => hno (ho.imp (fun ho => (h.back _ ho).resolve_right (by omega)) id)⟩
    rw [← hc]
    exact World.cell?_of_block (h.same _ (h.cov _ hlt (fun ho => hno (.inl ho))))
  induction hx with
  | v x => exact .v x
  | ro sz n cap f a g hc hz hl hm h1 hr ih =>
    refine .ro sz n cap f a g hc hz hl (fun hn => ?_) h1 (fun i j hi hj => ih i j hi hj)
    obtain ⟨b, o, rfl, hno, hcell⟩ := hm hn
    exact ⟨b, o, rfl, (key _ _ (hcell 0 0 hn hz) hno).2, fun i j hi hj => (key _ _ (hcell i j hi hj) hno).1⟩
  | rp cs off b o g hm hr ih => exact .rp cs off b o g (fun j hj => ⟨(key _ _ (hm j hj).1 (hm j hj).2).1, (key _ _ (hm j hj).1 (hm j hj).2).2⟩) (fun j hj => ih j hj)
  | fn f first cap a b ha hb hra hrb iha ihb => exact .fn f first cap a b ha hb iha ihb
  | nl n b h => exact .nl n b h

theorem VR.fr (h : Fr O O' A w w') {x : AV} {v : Value} (hx : VR O S ρ w x v) : VR O' S ρ w' x v := by
  induction hx with
  | p hp => exact .p (hp.fr h)
  | bp k off a hk hh => exact .bp k off a hk hh
  | row k sz n a l c hk hh => exact .row k sz n a l c hk hh
  | view k sz n lo len a l c hk hh => exact .view k sz n lo len a l c hk hh
  | ep k sz n i off a hk hh => exact .ep k sz n i off a hk hh
  | mp k r hk hh => exact .mp k r hk hh
  | agg cs vs hl hh ih => exact .agg cs vs hl ih
  | fn f first cap a b ha hb hra hrb iha ihb => exact .fn f first cap a b ha hb iha ihb
  | tup cs vs hl hh ih => exact .tup cs vs hl ih
  | ifb b x v hh h' ih => exact .ifb b x v ih h'
  | any v => exact .any v

theorem St.fr (h : Fr O O' A w w') (hs : St O (recCtx G ls) S ρ w) (hls : ∀ k i b, S.at k = some (.fg i b) → ls' i = ls i) : St O' (recCtx G ls') S ρ w' where
  objs k o ho := by
    have hne : ∀ b, o.live = true → ((ρ k).blk = some b ∨ (ρ k).z b) → w'.heap[b]? = w.heap[b]? := fun b hl hb =>
      h.same b (h.cov b ((hs.objs k o ho).live_lt hl hb) (fun hO => (hs.outer b hO).2 ⟨k, o, ho, hl, hb⟩))
    have hk := hs.objs k o ho
    cases o with
    | box cs =>
      obtain ⟨b, e, vs, hv, hg, h1, h2, h3⟩ := hk
      exact ⟨b, e, vs, hv, (hne b rfl (.inl (by simp [Loc.blk, hv]))).trans hg, h1, fun j hj => (h2 j hj).fr h, h3⟩
    | row e sz n f =>
      obtain ⟨⟨xs, hown, hone, hc⟩, hz⟩ := hk
      refine ⟨⟨xs, ownsRow_of_heap hown (fun b hb => hne b rfl (.inl ?_)), hone, fun i hi => ⟨(hc i hi).1, fun j hj => ((hc i hi).2 j hj).fr h⟩⟩, hz⟩
      revert hb
      unfold Value.ownBlock Loc.blk
      cases (ρ k).v with
      | slice a _ _ => cases a <;> simp
      | _ => simp
    | map kt et m =>
      obtain ⟨⟨r, hv, es, clock, hg, hm⟩, hz⟩ := hk
      exact ⟨⟨r, hv, es, clock, (hne r rfl (.inl (by simp [Loc.blk, hv]))).trans hg, hm⟩, hz⟩
    | fg i st =>
      obtain ⟨⟨h1, h2, h3⟩, h4⟩ := hk
      have e := hls k i st ho
      refine ⟨⟨h1, fun b => by rw [e]; exact h2 b, ?_⟩, h4⟩
      rw [e, hne (ls i).1 rfl (.inr ((h2 _).2 rfl))]
      exact h3
    | dead => trivial
  disj := hs.disj
  glob g cs hg := (hs.glob g cs hg).fr h
  outer b hb := ⟨h.lt b hb, fun ho => by
    rcases h.back b hb with h1 | h1
    · exact (hs.outer b h1).2 ho
    · have := hs.owns_lt ho; omega⟩
  shared b hb := hb.elim

theorem Marks.fr {B : Nat} {ds : List Deferred} (h : Fr O O' A w w') (hm : Marks (ownS O S ρ) B w ds) : Marks (ownS O' S ρ) B w' ds := by
  obtain ⟨Ds, h1, h2, h3⟩ := hm.all
  refine ⟨Ds, h1, h2, fun D hD => ?_⟩
  obtain ⟨h4, h5, h6⟩ := h3 D hD
  have hlt : D < w.heap.size := (Array.getElem?_eq_some_iff.1 h5).1
  exact ⟨h4, (h.same D (h.cov D hlt (fun h => h6 (.inl h)))).trans h5, fun ho => h6 (ho.imp (fun ho => (h.back _ ho).resolve_right (by omega)) id)⟩
end
end Go.Proofs.YtobpnmljijeadaaDoor.A

/- A loop over a function: what stands between its rounds. -/
set_option linter.unusedVariables false
set_option linter.unusedSimpArgs false
namespace Go.Proofs.YtobpnmljijeadaaDoor.A
open Go

def parmEnv : List Nat → List AV → List (Nat × AV) → List (Nat × AV)
  | p :: ps, v :: vs, e => parmEnv ps vs ((p, v) :: e)
  | _, _, e => e

def setAll : List Nat → List Value → Array Value → Array Value
  | p :: ps, v :: vs, t => setAll ps vs (t.setIfInBounds p v)
  | _, _, t => t

theorem setAll_eq : ∀ (ps : List Nat) (vs : List Value) (t : Array Value), (ps.zip vs).foldl (fun (t : Array Value) (p : Nat × Value) => t.setIfInBounds p.1 p.2) t = setAll ps vs t
  | [], vs, t => by simp [setAll]
  | p :: ps, [], t => by simp [setAll]
  | p :: ps, v :: vs, t => by
    rw [List.zip_cons_cons, List.foldl_cons, setAll]
    exact setAll_eq ps vs _

theorem setAll_size : ∀ (ps : List Nat) (vs : List Value) (t : Array Value), (setAll ps vs t).size = t.size
  | [], vs, t => by simp [setAll]
  | p :: ps, [], t => by simp [setAll]
  | p :: ps, v :: vs, t => by rw [setAll, setAll_size]; simp

section
variable {O : Nat → Prop} {Γ : Ctx} {S : Sto} {ρ : Nat → Loc} {w : World}
theorem parm_ok : ∀ (ps : List Nat) (vs : List AV) (cs : List Value) (e : List (Nat × AV)) (t : Array Value), VRs O S ρ w vs cs → ps.all (fun p => Nat.blt p t.size) = true → EnvOk O ⟨e, S⟩ ρ { tmps := t, defers := [] } w →
    EnvOk O ⟨parmEnv ps vs e, S⟩ ρ { tmps := setAll ps cs t, defers := [] } w
  | [], vs, cs, e, t, _, _, he => by simpa [parmEnv, setAll] using he
  | p :: ps, [], cs, e, t, h, _, he => by
    have := List.eq_nil_of_length_eq_zero (by simpa using h.1)
    subst this
    simpa [parmEnv, setAll] using he
  | p :: ps, v :: vs, [], e, t, h, _, he => by have := h.1; simp at this
  | p :: ps, v :: vs, c :: cs, e, t, h, hp, he => by
    rw [VRs.cons_iff] at h
    simp only [List.all_cons, Bool.and_eq_true] at hp
    have hlt : p < t.size := by simpa using hp.1
    refine parm_ok ps vs cs ((p, v) :: e) (t.setIfInBounds p c) h.2 (by simpa using hp.2) (fun t' u hu => ?_)
    simp only [get_cons] at hu
    simp only [Array.getD_eq_getD_getElem?, Array.getElem?_setIfInBounds]
    by_cases e' : p = t'
    · subst e'
      simp only [if_true, Option.some.injEq] at hu
      subst hu
      simpa [hlt] using h.1
    · rw [if_neg e'] at hu
      have := he t' u hu
      simpa [Array.getD_eq_getD_getElem?, e'] using this
end

/-- Those whose memory a round must not touch: the outer ones, and the iterator. -/
def Oi (O : Nat → Prop) (H0 : Nat) (x : Nat → Prop) (W : World) (b : Nat) : Prop := O b ∨ (H0 ≤ b ∧ b < W.heap.size ∧ ¬ x b)

/-- What stands after k rounds. -/
structure JJ (O : Nat → Prop) (G : Nat → Option (List PV)) (ls : Nat → Nat × Loop) (a : Act) (e : List (Nat × AV)) (I : Nat → Sto) (B : Nat) (ds : List Deferred) (l : Nat) (rec : Loop) (H0 : Nat) (z0 : Nat → Prop) (S1 : Sto) (ρ1 : Nat → Loc) (w1 : World)
    (k : Nat) (z : Nat → Prop) (W : World) (ρ : Nat → Loc) (x : Nat → Prop) : Prop where
  zx : ∀ b, z b ↔ z0 b ∨ x b
  xs : ∀ b, x b → H0 ≤ b ∧ b < W.heap.size
  zs : ∀ b, z0 b → b < H0
  own : ∀ b, owns (I k) ρ b → z0 b ∨ x b
  st : St (Oi O H0 x W) (recCtx G ls) (I k) ρ W
  env : EnvOk (Oi O H0 x W) ⟨e, I k⟩ ρ a W
  marks : Marks (ownS (Oi O H0 x W) (I k) ρ) B W ds
  size : H0 ≤ W.heap.size
  keep : ∀ b, b < w1.heap.size → ¬ owns S1 ρ1 b → W.heap[b]? = w1.heap[b]?
  back : ∀ b, b < w1.heap.size → owns (I k) ρ b → owns S1 ρ1 b
  obj : ∀ j o, S1.at j = some o → ∃ o', (I k).at j = some o' ∧ o.to (ρ1 j) (ρ j) o'
  h1 : w1.heap.size = H0
  rc : W.heap[l]? = some (.loop rec)
  lz : z0 l

/-- It stays, where others lay and turn what is theirs. -/
theorem JJ.keeps {O : Nat → Prop} {G : Nat → Option (List PV)} {ls : Nat → Nat × Loop} {a : Act} {e : List (Nat × AV)} {I : Nat → Sto} {B : Nat} {ds : List Deferred} {l : Nat} {rec : Loop} {H0 : Nat} {z0 : Nat → Prop} {S1 : Sto} {ρ1 : Nat → Loc} {w1 : World}
    {k : Nat} {z : Nat → Prop} {W W' : World} {ρ : Nat → Loc} {x : Nat → Prop} (h : JJ O G ls a e I B ds l rec H0 z0 S1 ρ1 w1 k z W ρ x) (hO : ∀ b, O b → b < H0)
    (hs : ∀ b, z b ∨ (b < H0 ∧ ¬ z0 b) → W'.heap[b]? = W.heap[b]?) (hsz : W.heap.size ≤ W'.heap.size) : JJ O G ls a e I B ds l rec H0 z0 S1 ρ1 w1 k z W' ρ x := by
  have hlow : ∀ b, b < H0 → W'.heap[b]? = W.heap[b]? := fun b hb => by
    by_cases hz : z0 b
    · exact hs b (.inl ((h.zx b).2 (.inl hz)))
    · exact hs b (.inr ⟨hb, hz⟩)
  have hfr : Fr (Oi O H0 x W) (Oi O H0 x W') (fun b => b < H0 ∨ x b) W W' := by
    refine ⟨fun b hb => hb.elim (hlow b) (fun hx => hs b (.inl ((h.zx b).2 (.inr hx)))), fun b hb hno => ?_, fun b hb => ?_, hsz, fun b hb => ?_⟩
    · by_cases h1 : b < H0
      · exact .inl h1
      · by_cases h2 : x b
        · exact .inr h2
        · exact absurd (.inr ⟨by omega, hb, h2⟩) hno
    · rcases hb with hb | ⟨h1, h2, h3⟩
      · exact .inl (.inl hb)
      · by_cases h4 : b < W.heap.size
        · exact .inl (.inr ⟨h1, h4, h3⟩)
        · exact .inr (by omega)
    · rcases hb with hb | hb
      · have := hO b hb; have := h.size; omega
      · exact hb.2.1
  have hsz' := h.size
  exact ⟨h.zx, fun b hb => ⟨(h.xs b hb).1, Nat.lt_of_lt_of_le (h.xs b hb).2 hsz⟩, h.zs, h.own, h.st.fr hfr (fun _ _ _ _ => rfl), fun t v hv => (h.env t v hv).fr hfr, h.marks.fr hfr, Nat.le_trans h.size hsz,
    fun b hb ho => (hlow b (by have := h.h1; omega)).trans (h.keep b hb ho), h.back, h.obj, h.h1, (hlow l (h.zs l h.lz)).trans h.rc, h.lz⟩
end Go.Proofs.YtobpnmljijeadaaDoor.A

/- A loop over a function: the rule. -/
set_option linter.unusedVariables false
set_option linter.unusedSimpArgs false
namespace Go.Proofs.YtobpnmljijeadaaDoor.A
open Go

theorem foldl_zip (ps : Array Nat) (cs : List Value) (t : Array Value) : (ps.zip cs.toArray).foldl (fun tmps (x : Nat × Value) => tmps.setIfInBounds x.1 x.2) t = setAll ps.toList cs t := by
  rw [← setAll_eq, ← Array.foldl_toList]
  simp

/-- The record of a loop. -/
def mkRec (fn : FuncId) (tmps : Array Value) (ps : Array Tmp) (assign body : Code) (d : Nat) (st : LoopState) (pe : Option Code) : Loop :=
  { state := st, pending := pe, fn, tmps, params := ps, assign, body, defers := d }

section
variable {P : Program}
/-- How a loop is entered. -/
theorem enter_rec {r : Option Nat} {w : World} (hr : r = none ∨ ∃ l0 r0, r = some l0 ∧ w.heap[l0]? = some (.loop r0)) (fn : FuncId) (tmps : Array Value) (ps : Array Tmp) (assign body : Code) :
    ∃ l mk d W1, (Instr.enterLoop fn tmps ps assign body r).run P w = .ok (l, mk) W1 ∧ W1.heap[l]? = some (.loop (mkRec fn tmps ps assign body d .ready none)) ∧ w.heap.size ≤ l ∧ Grows w W1 ∧
      (mk = [] ∨ ∃ D, mk = [mark D] ∧ w.heap.size ≤ D ∧ D ≠ l ∧ W1.heap[D]? = some (.deferred (some []))) := by
  rcases hr with rfl | ⟨l0, r0, rfl, h0⟩
  · refine ⟨w.heap.size + 1, _, w.heap.size, _, run_enterLoop_outer fn tmps ps assign body, ?_, by omega, (Grows.alloc w _).trans (Grows.alloc _ _), .inr ⟨w.heap.size, rfl, Nat.le_refl _, by omega, ?_⟩⟩
    · have := World.alloc_heap_new (w.alloc (.deferred (some []))) (.loop (mkRec fn tmps ps assign body w.heap.size .ready none))
      rwa [World.size_alloc] at this
    · exact (heap_alloc_old _ _ _ (by simp)).trans (World.alloc_heap_new w _)
  · exact ⟨w.heap.size, [], r0.defers, _, run_enterLoop_inner h0 fn tmps ps assign body, World.alloc_heap_new w _, Nat.le_refl _, Grows.alloc w _, .inl rfl⟩
end

/-- The record of a loop turns, and nothing else. -/
theorem St.turnRec {O : Nat → Prop} {G : Nat → Option (List PV)} {ls ls2 : Nat → Nat × Loop} {S : Sto} {ρ : Nat → Loc} {w : World} {nx idx : Nat} {r1 : Loop} (hs : St O (recCtx G ls) S ρ w) (hnx : S.at nx = some (.fg idx true)) (hfg : ∀ j i b, S.at j = some (.fg i b) → j = nx ∨ i ≠ idx)
    (h2 : ∀ i, i ≠ idx → ls2 i = ls i) (hl : ls2 idx = ((ls idx).1, r1)) : Shut w (w.putObj (ls idx).1 (.loop r1)) (ls idx).1 ∧ St O (recCtx G ls2) S ρ (w.putObj (ls idx).1 (.loop r1)) := by
  obtain ⟨⟨_, hz, hrec⟩, hb0⟩ := hs.objs nx _ hnx
  have hlt : (ls idx).1 < w.heap.size := (Array.getElem?_eq_some_iff.1 hrec).1
  have hsh : Shut w (w.putObj (ls idx).1 (.loop r1)) (ls idx).1 := by
    refine ⟨rfl, rfl, rfl, by simp [World.putObj], fun cs e f => by rw [hrec]; simp, fun b hb => by simp [World.putObj, Array.getElem?_setIfInBounds, Ne.symm hb]⟩
  have hne : ∀ k o b, k ≠ nx → S.at k = some o → o.live = true → ((ρ k).blk = some b ∨ (ρ k).z b) → b ≠ (ls idx).1 := fun k o b hk ho hlv hb e => by
    subst e
    exact hk (hs.disj k nx o _ _ ho hnx hlv rfl hb (.inr ((hz _).2 rfl)))
  refine ⟨hsh, ⟨fun k o ho => ?_, hs.disj, fun g cs hg => (hs.glob g cs hg).shut hsh, fun b hb => ⟨by rw [hsh.size]; exact (hs.outer b hb).1, (hs.outer b hb).2⟩, fun b hb => hb.elim⟩⟩
  have hk := hs.objs k o ho
  by_cases e : k = nx
  · subst e
    rw [hnx, Option.some.injEq] at ho
    subst ho
    refine ⟨⟨rfl, fun b => by rw [hl]; exact hz b, ?_⟩, hb0⟩
    rw [hl]
    exact World.putObj_heap_same hlt
  · cases o with
    | box cs =>
      obtain ⟨b, e0, vs, hv, hg, h1, h3, h4⟩ := hk
      exact ⟨b, e0, vs, hv, (hsh.old b (hne k _ b e ho rfl (.inl (by simp [Loc.blk, hv])))).trans hg, h1, fun j hj => (h3 j hj).shut hsh, h4⟩
    | row e0 sz n f =>
      obtain ⟨⟨xs, hown, hone, hc⟩, hzz⟩ := hk
      refine ⟨⟨xs, ownsRow_of_heap hown (fun b hb => hsh.old b (hne k _ b e ho rfl (.inl ?_))), hone, fun i hi => ⟨(hc i hi).1, fun j hj => ((hc i hi).2 j hj).shut hsh⟩⟩, hzz⟩
      revert hb
      unfold Value.ownBlock Loc.blk
      cases (ρ k).v with
      | slice a _ _ => cases a <;> simp
      | _ => simp
    | map kt et m =>
      obtain ⟨⟨r, hv, es, clock, hg, hm⟩, hzz⟩ := hk
      exact ⟨⟨r, hv, es, clock, (hsh.old r (hne k _ r e ho rfl (.inl (by simp [Loc.blk, hv])))).trans hg, hm⟩, hzz⟩
    | fg i st =>
      obtain ⟨⟨h1, h3, h4⟩, h5⟩ := hk
      have hi : i ≠ idx := (hfg k i st ho).resolve_left e
      refine ⟨⟨h1, fun b => by rw [h2 i hi]; exact h3 b, ?_⟩, h5⟩
      rw [h2 i hi, hsh.old _ (hne k _ _ e ho rfl (.inr ((h3 _).2 rfl)))]
      exact h4
    | dead => trivial

/-- One round. -/
theorem round_ok {P : Program} {O : Nat → Prop} {G : Nat → Option (List PV)} {ls : Nat → Nat × Loop} {a : Act} {e : List (Nat × AV)} {I : Nat → Sto} {B N : Nat} {ds : List Deferred} {fn : FuncId} {ps : Array Tmp} {assign body : Code} {d H0 nx idx n : Nat} {z0 : Nat → Prop} {S1 : Sto} {ρ1 : Nat → Loc} {w1 : World} {Y : Nat → List AV}
    (hls : (ls idx).2 = mkRec fn a.tmps ps assign body d .ready none)
    (hO : ∀ b, O b → b < H0) (hsz : a.tmps.size = N) (hps : ∀ k, k < n → (Y k).length = ps.size) (hpN : ps.toList.all (fun p => Nat.blt p N) = true) (hYs : ∀ k, k < n → (Y k).all (scalN 2) = true)
    (hdom : ∀ k, Dom (I k)) (hsubk : ∀ k, Sub (I k) (I (k + 1))) (hfg : ∀ k, (I k).at nx = some (.fg idx true)) (hfg' : ∀ k j i b, (I k).at j = some (.fg i b) → j = nx ∨ i ≠ idx)
    (hbody : ∀ k, k < n → ∀ O' ls1, (∀ i, i ≠ idx → ls1 i = ls i) → (ls1 idx).1 = (ls idx).1 → W P O' (recCtx G ls1) N (some (ls idx).1) assign (fun ex σ1 => ex = .normal ∧ σ1.S.at nx = some (.fg idx true) ∧ (∀ j i b, σ1.S.at j = some (.fg i b) → j = nx ∨ i ≠ idx) ∧
      ∀ ls2, (∀ i, i ≠ idx → ls2 i = ls i) → (ls2 idx).1 = (ls idx).1 → W P O' (recCtx G ls2) N (some (ls idx).1) body (fun ex2 σ2 => ex2 = .normal ∧ Le σ2 ⟨[], I (k + 1)⟩) σ1) ⟨parmEnv ps.toList (Y k) e, I k⟩)
    {k : Nat} (hk : k < n) {z : Nat → Prop} {W : World} {ρ : Nat → Loc} {x : Nat → Prop} (h : JJ O G ls a e I B ds (ls idx).1 (mkRec fn a.tmps ps assign body d .ready none) H0 z0 S1 ρ1 w1 k z W ρ x) {cargs : List Value} (hc : VRs z S0 ρ0 W (Y k) cargs) :
    ∃ fn' tmps' as' bo', (Instr.yield (ls idx).1 cargs.toArray).run P W = .ok (.round (ls idx).1 fn' tmps' as' bo') W ∧
      ∀ m, RoundIn Fence.wide m P (ls idx).1 fn' tmps' as' bo' W (fun e' W' => ∃ z' ρ' x', e' = .returned (.bool true) ∧ JJ O G ls a e I B ds (ls idx).1 (mkRec fn a.tmps ps assign body d .ready none) H0 z0 S1 ρ1 w1 (k + 1) z' W' ρ' x' ∧ W'.os = W.os ∧ W'.tape = W.tape ∧ W'.output = W.output ∧ W.heap.size ≤ W'.heap.size ∧
        (∀ b, b < W.heap.size → ¬ z b → W'.heap[b]? = W.heap[b]?) ∧ ∀ b, b < W.heap.size → z' b → z b) := by
  have hlen : cargs.length = ps.size := by rw [hc.1]; exact hps k hk
  refine ⟨fn, _, assign, body, run_yield h.rc (by simpa [mkRec] using hlen), fun m => roundIn_of_wpIn trivial ?_⟩
  have hrel : Rel (Oi O H0 x W) (recCtx G ls) N W.heap.size ⟨parmEnv ps.toList (Y k) e, I k⟩ ρ { tmps := setAll ps.toList cargs a.tmps, defers := [] } W := by
    refine ⟨h.st, parm_ok _ _ _ _ _ ⟨hc.1, fun j hj => scalN_lift 2 (List.all_eq_true.1 (hYs k hk) _ ?_) (hc.2 j hj)⟩ (by rw [hsz]; exact hpN) (fun t v hv => h.env t v hv), by rw [setAll_size]; exact hsz, Nat.le_refl _, ⟨[], rfl, List.nodup_nil, fun D hD => by simp at hD⟩, hdom k, fun b hb => hb.elim⟩
    simp [List.getD_eq_getElem?_getD, hj]
  have hw := hbody k hk (Oi O H0 x W) ls (fun _ _ => rfl) rfl m W.heap.size ρ _ W hrel
  have htm : ((mkRec fn a.tmps ps assign body d .ready none).params.zip cargs.toArray).foldl (fun tmps (x : Nat × Value) => tmps.setIfInBounds x.1 x.2) (mkRec fn a.tmps ps assign body d .ready none).tmps = setAll ps.toList cargs a.tmps := foldl_zip ps cargs a.tmps
  rw [← htm] at hw
  refine wpIn_mono (F := Fence.wide.inRound (ls idx).1) hw ?_
  rintro e1 a1 w1' ⟨_, σ1, ρ', ⟨rfl, hS1, hfgs, hb⟩, hrel1, hev1⟩
  obtain ⟨⟨_, hz1, hrc1⟩, _⟩ := hrel1.st.objs nx _ hS1
  rw [hls] at hrc1
  let ls2 : Nat → Nat × Loop := fun i => if i = idx then ((ls idx).1, { mkRec fn a.tmps ps assign body d .ready none with state := .busy }) else ls i
  have hl2 : ls2 idx = ((ls idx).1, { mkRec fn a.tmps ps assign body d .ready none with state := .busy }) := if_pos rfl
  obtain ⟨hsh, hst2⟩ := hrel1.st.turnRec hS1 hfgs (ls2 := ls2) (fun i hi => if_neg hi) hl2
  refine ⟨_, run_beginRound hrc1 rfl, ?_⟩
  have hown1 : ∀ D, ¬ ownS (Oi O H0 x W) σ1.S ρ' D → D ≠ (ls idx).1 := fun D hD e => hD (.inr ⟨nx, _, hS1, rfl, .inr ((hz1 D).2 e)⟩)
  have hrel2 : Rel (Oi O H0 x W) (recCtx G ls2) N W.heap.size σ1 ρ' a1 (w1'.putObj (ls idx).1 (.loop { mkRec fn a.tmps ps assign body d .ready none with state := .busy })) := by
    refine ⟨hst2, fun t v hv => (hrel1.env t v hv).shut hsh, hrel1.size, by rw [hsh.size]; exact hrel1.base, ?_, hrel1.dom, fun b hb => hb.elim⟩
    obtain ⟨Ds, q1, q2, q3⟩ := hrel1.marks.all
    exact ⟨Ds, q1, q2, fun D hD => ⟨(q3 D hD).1, (hsh.old D (hown1 D (q3 D hD).2.2)).trans (q3 D hD).2.1, (q3 D hD).2.2⟩⟩
  have hw2 := hb ls2 (fun i hi => if_neg hi) (by rw [hl2]) m W.heap.size ρ' a1 _ hrel2
  refine wpIn_mono (F := Fence.wide.inRound (ls idx).1) hw2 ?_
  rintro e2 a2 w2 ⟨_, σ2, ρ2, ⟨rfl, hle⟩, hrel3, hev3⟩
  obtain ⟨ρ3, hrel4, hev4⟩ := hle _ _ _ _ _ _ _ hrel3
  have hown0 : owns σ1.S ρ' (ls idx).1 := ⟨nx, _, hS1, rfl, .inr ((hz1 _).2 rfl)⟩
  have hlW : (ls idx).1 < W.heap.size := (Array.getElem?_eq_some_iff.1 h.rc).1
  have hevp : Evo (I k) ρ W σ1.S ρ' (w1'.putObj (ls idx).1 (.loop { mkRec fn a.tmps ps assign body d .ready none with state := .busy })) :=
    ⟨hev1.os, hev1.tape, hev1.output, by rw [hsh.size]; exact hev1.size, fun b hb ho => (hsh.old b (fun e => ho (hev1.own b hb (e ▸ hown0)))).trans (hev1.keep b hb ho), hev1.own, hev1.obj⟩
  have hevk : Evo (I k) ρ W (I (k + 1)) ρ3 w2 := hev4 _ _ _ (hsubk k) (hevp.trans hev3)
  obtain ⟨⟨_, hz4, hrc4⟩, hb4⟩ := hrel4.st.objs nx _ (hfg (k + 1))
  rw [hl2] at hrc4 hz4
  have hback : ((ls idx).1, mkRec fn a.tmps ps assign body d .ready none) = ls idx := by rw [← hls]
  obtain ⟨hsh5, hst5⟩ := hrel4.st.turnRec (hfg (k + 1)) (hfg' (k + 1)) (ls2 := ls) (r1 := mkRec fn a.tmps ps assign body d .ready none) (fun i hi => (if_neg hi).symm) (by rw [hl2]; exact hback.symm)
  rw [hl2] at hsh5 hst5
  have hend : (Instr.endRound (ls idx).1 none).run P w2 = .ok (.bool true) (w2.putObj (ls idx).1 (.loop (mkRec fn a.tmps ps assign body d .ready none))) := run_endRound none hrc4
  refine ⟨_, _, hend, ?_⟩
  have hOi : ∀ b, Oi O H0 (fun b => x b ∨ (W.heap.size ≤ b ∧ b < w2.heap.size)) (w2.putObj (ls idx).1 (.loop (mkRec fn a.tmps ps assign body d .ready none))) b → Oi O H0 x W b := fun b hb => by
    rcases hb with hb | ⟨q1, q2, q3⟩
    · exact .inl hb
    · rw [World.putObj_size] at q2
      refine .inr ⟨q1, ?_, fun hx => q3 (.inl hx)⟩
      by_cases q4 : b < W.heap.size
      · exact q4
      · exact absurd (.inr ⟨by omega, q2⟩) q3
  have hfr : Fr (Oi O H0 x W) (Oi O H0 (fun b => x b ∨ (W.heap.size ≤ b ∧ b < w2.heap.size)) (w2.putObj (ls idx).1 (.loop (mkRec fn a.tmps ps assign body d .ready none)))) (fun _ => True) (w2.putObj (ls idx).1 (.loop (mkRec fn a.tmps ps assign body d .ready none))) (w2.putObj (ls idx).1 (.loop (mkRec fn a.tmps ps assign body d .ready none))) := by
    refine ⟨fun _ _ => rfl, fun _ _ _ => trivial, fun b hb => .inl (hOi b hb), Nat.le_refl _, fun b hb => ?_⟩
    have := hOi b hb
    have := (hst5.outer b this).1
    exact this
  have hsz5 : (w2.putObj (ls idx).1 (.loop (mkRec fn a.tmps ps assign body d .ready none))).heap.size = w2.heap.size := World.putObj_size
  have hH := h.size
  have hH1 := h.h1
  have hszk := hevk.size
  have hlk : owns (I k) ρ (ls idx).1 := by
    obtain ⟨⟨_, hz0, _⟩, _⟩ := h.st.objs nx _ (hfg k)
    exact ⟨nx, _, hfg k, rfl, .inr ((hz0 _).2 rfl)⟩
  have hlk1 : owns (I (k + 1)) ρ3 (ls idx).1 := ⟨nx, _, hfg (k + 1), rfl, .inr ((hz4 _).2 rfl)⟩
  refine ⟨fun b => z0 b ∨ (x b ∨ (W.heap.size ≤ b ∧ b < w2.heap.size)), ρ3, fun b => x b ∨ (W.heap.size ≤ b ∧ b < w2.heap.size), rfl, ⟨fun b => Iff.rfl, fun b hb => ?_, h.zs, fun b hb => ?_, hst5.fr hfr (fun _ _ _ _ => rfl), fun t v hv => ?_, ?_, ?_, fun b hb ho => ?_, fun b hb ho => ?_, fun j o ho => ?_, h.h1, ?_, h.lz⟩, hevk.os, hevk.tape, hevk.output, by rw [show (w2.putObj (ls idx).1 (.loop _)).heap.size = w2.heap.size from World.putObj_size]; exact hszk, fun b hb hz => ?_, fun b hb hz => ?_⟩
  · rcases hb with hb | hb
    · have := h.xs b hb; exact ⟨this.1, by rw [hsz5]; omega⟩
    · exact ⟨by omega, by rw [hsz5]; exact hb.2⟩
  · have hb2 := hrel4.st.owns_lt hb
    by_cases q : b < W.heap.size
    · exact (h.own b (hevk.own b q hb)).imp id .inl
    · exact .inr (.inr ⟨by omega, hb2⟩)
  · exact (((h.env t v hv).evo hevk).shut hsh5).fr hfr
  · obtain ⟨Ds, q1, q2, q3⟩ := (h.marks.evo hevk).all
    refine Marks.fr hfr ⟨Ds, q1, q2, fun D hD => ⟨(q3 D hD).1, (hsh5.old D (fun e => (q3 D hD).2.2 (.inr (e ▸ hlk1)))).trans (q3 D hD).2.1, (q3 D hD).2.2⟩⟩
  · rw [hsz5]; omega
  · have hk0 : ¬ owns (I k) ρ b := fun hh => ho (h.back b hb hh)
    exact (hsh5.old b (fun e => hk0 (e ▸ hlk))).trans ((hevk.keep b (by omega) hk0).trans (h.keep b hb ho))
  · exact h.back b hb (hevk.own b (by omega) ho)
  · obtain ⟨o1, g1, g2⟩ := h.obj j o ho
    obtain ⟨o2, g3, g4⟩ := hevk.obj j o1 g1
    exact ⟨o2, g3, AObj.to_trans g2 g4⟩
  · exact World.putObj_heap_same (by omega)
  · have hk0 : ¬ owns (I k) ρ b := fun hh => hz ((h.zx b).2 (h.own b hh))
    exact (hsh5.old b (fun e => hk0 (e ▸ hlk))).trans (hevk.keep b hb hk0)
  · refine (h.zx b).2 (hz.imp id (fun hz => hz.resolve_right (fun q => by omega)))
end Go.Proofs.YtobpnmljijeadaaDoor.A

/- A loop over a function: the rule put together. -/
set_option linter.unusedVariables false
set_option linter.unusedSimpArgs false
namespace Go.Proofs.YtobpnmljijeadaaDoor.A
open Go

section
variable {O O' : Nat → Prop} {Γ : Ctx} {S : Sto} {ρ : Nat → Loc} {w : World}
theorem evo_kill {nx : Nat} {o : AObj} (hk : S.at nx = some o) : Evo S ρ w (S.put nx .dead) ρ w := by
  refine ⟨rfl, rfl, rfl, Nat.le_refl _, fun _ _ _ => rfl, fun b hb ⟨k, o', g1, g2, g3⟩ => ?_, fun k o' ho => ?_⟩
  · rw [Sto.at_put] at g1
    by_cases e : k = nx
    · rw [if_pos e, Option.some.injEq] at g1
      subst g1; simp [AObj.live] at g2
    · rw [if_neg e] at g1; exact ⟨k, o', g1, g2, g3⟩
  · rw [Sto.at_put]
    by_cases e : k = nx
    · exact ⟨.dead, by rw [if_pos e], by cases o' <;> simp [AObj.to]⟩
    · exact ⟨o', by rw [if_neg e]; exact ho, by cases o' <;> simp [AObj.to]⟩

theorem St.kill (hs : St O Γ S ρ w) {nx : Nat} {o : AObj} (hk : S.at nx = some o) : St O Γ (S.put nx .dead) ρ w := by
  have he := evo_kill (ρ := ρ) (w := w) hk
  have back : ∀ k o', (S.put nx .dead).at k = some o' → o'.live = true → k ≠ nx ∧ S.at k = some o' := fun k o' h hl => by
    rw [Sto.at_put] at h
    by_cases e : k = nx
    · rw [if_pos e, Option.some.injEq] at h
      subst h; simp [AObj.live] at hl
    · rw [if_neg e] at h; exact ⟨e, h⟩
  refine ⟨fun k o' ho => ?_, fun k k' o1 o2 b h1 h2 l1 l2 b1 b2 => hs.disj k k' o1 o2 b (back k o1 h1 l1).2 (back k' o2 h2 l2).2 l1 l2 b1 b2, fun g cs hg => (hs.glob g cs hg).evo he, fun b hb => ⟨(hs.outer b hb).1, fun hh => (hs.outer b hb).2 (he.own b (hs.outer b hb).1 hh)⟩, fun b hb => ⟨(hs.shared b hb).1, fun hh => (hs.shared b hb).2 (he.own b (hs.shared b hb).1 hh)⟩⟩
  by_cases hl : o'.live = true
  · exact (hs.objs k o' (back k o' ho hl).2).keep he hs.shared (fun _ _ => rfl)
  · cases o' <;> simp [AObj.live] at hl; trivial
end

theorem VRs.toS0 {O : Nat → Prop} {w : World} {ps : List PV} {vs : List Value} (hl : vs.length = ps.length) (h : ∀ j, j < ps.length → PR w O (ps.getD j (.v undef)) (vs.getD j undef)) : VRs O S0 ρ0 w (ps.map AV.p) vs :=
  ⟨by simpa using hl, fun j hj => by
    have hj' : j < ps.length := by simpa using hj
    rw [getD_map _ _ _ hj' (.v undef)]
    exact (h j hj').toS0⟩

/-- A loop over a function. -/
theorem W_range {P : Program} {O : Nat → Prop} {G : Nat → Option (List PV)} {ls : Nat → Nat × Loop} {N : Nat} {r : Option Nat} {Q : Exit → Env → Prop} {e : List (Nat × AV)} {nx : Nat} {m : List (Nat × AObj)} {f : Operand} {ps : Array Tmp} {assign body : Code} {n : Nat} {Y : Nat → List AV} {fid : FuncId} {pcap : List PV} {g : List Prop} (idx : Nat) (I : Nat → Sto)
    (hfv : evF G e f = some (g, .p (.fn (.func fid) [] pcap))) (hg : AllP g) (hit : Iter P G fid (pcap.map AV.p) n Y)
    (hr : r = none ∨ ∃ l0 k0 i0, r = some l0 ∧ get m k0 = some (.fg i0 true) ∧ (ls i0).1 = l0)
    (hidx : ∀ k i b, get m k = some (.fg i b) → i ≠ idx)
    (hI0 : Le ⟨e, ⟨nx + 1, (nx, .fg idx true) :: m⟩⟩ ⟨e, I 0⟩) (hsub0 : Sub ⟨nx + 1, (nx, .fg idx true) :: m⟩ (I 0))
    (hps : ∀ k, k < n → (Y k).length = ps.size) (hpN : ps.toList.all (fun p => Nat.blt p N) = true) (hYs : ∀ k, k < n → (Y k).all (scalN 2) = true)
    (hdom : ∀ k, Dom (I k)) (hsubk : ∀ k, Sub (I k) (I (k + 1))) (hfg : ∀ k, (I k).at nx = some (.fg idx true)) (hfg' : ∀ k j i b, (I k).at j = some (.fg i b) → j = nx ∨ i ≠ idx)
    (hbody : ∀ k, k < n → ∀ O' ls1, (∀ i, i ≠ idx → ls1 i = ls i) → W P O' (recCtx G ls1) N (some (ls1 idx).1) assign (fun ex σ1 => ex = .normal ∧ σ1.S.at nx = some (.fg idx true) ∧ (∀ j i b, σ1.S.at j = some (.fg i b) → j = nx ∨ i ≠ idx) ∧
      ∀ ls2, (∀ i, i ≠ idx → ls2 i = ls i) → W P O' (recCtx G ls2) N (some (ls2 idx).1) body (fun ex2 σ2 => ex2 = .normal ∧ Le σ2 ⟨[], I (k + 1)⟩) σ1) ⟨parmEnv ps.toList (Y k) e, I k⟩)
    (hQ : Q .normal ⟨e, (I n).put nx .dead⟩) :
    W P O (recCtx G ls) N r (.rangeFunc f ps assign body) Q ⟨e, ⟨nx, m⟩⟩ := by
  intro dep B ρ a w hrel
  refine wpIn_rangeFunc ?_
  intro fn hfn
  have hrr : r = none ∨ ∃ l0 r0, r = some l0 ∧ w.heap[l0]? = some (.loop r0) := by
    rcases hr with hr | ⟨l0, k0, i0, hr, hk0, hl0⟩
    · exact .inl hr
    · obtain ⟨⟨_, _, h3⟩, _⟩ := hrel.st.objs k0 _ hk0
      exact .inr ⟨l0, _, hr, hl0 ▸ h3⟩
  obtain ⟨l, mk, d, W1, hent, hrec, hlw, hgr, hmk⟩ := enter_rec (P := P) hrr fn a.tmps ps assign body
  let ls' : Nat → Nat × Loop := fun i => if i = idx then (l, mkRec fn a.tmps ps assign body d .ready none) else ls i
  have hls' : ls' idx = (l, mkRec fn a.tmps ps assign body d .ready none) := if_pos rfl
  have hlsne : ∀ i, i ≠ idx → ls' i = ls i := fun i hi => if_neg hi
  have hl1 : l < W1.heap.size := (Array.getElem?_eq_some_iff.1 hrec).1
  -- the record joins the account
  have hfr0 : Fr O O (fun _ => True) w w := ⟨fun _ _ => rfl, fun _ _ _ => trivial, fun b hb => .inl hb, Nat.le_refl _, fun b hb => (hrel.st.outer b hb).1⟩
  have hst0 : St O (recCtx G ls') ⟨nx, m⟩ ρ w := hrel.st.fr hfr0 (fun k i b hk => hlsne i (hidx k i b hk))
  have hfresh := fresh_of hrel.dom
  have hbl : ∀ b, ((⟨undef, fun b => b = l⟩ : Loc).blk = some b ∨ (⟨undef, fun b => b = l⟩ : Loc).z b) → w.heap.size ≤ b := fun b hb => by
    rcases hb with hb | hb
    · have e0 : (⟨undef, fun b => b = l⟩ : Loc).blk = none := rfl
      rw [e0] at hb; simp at hb
    · have : b = l := hb
      omega
  have hst1 := hst0.new hfresh (.fg idx true) ⟨undef, fun b => b = l⟩ hgr hbl ⟨⟨rfl, fun k => by rw [hls'], by rw [hls']; exact hrec⟩, rfl⟩
  have hev1 := evo_new (w' := W1) hst0 hfresh (.fg idx true) ⟨undef, fun b => b = l⟩ hgr hbl
  have hrel1 : Rel O (recCtx G ls') N B ⟨e, ⟨nx + 1, (nx, .fg idx true) :: m⟩⟩ (updL ρ nx ⟨undef, fun b => b = l⟩) { a with defers := mk ++ a.defers } W1 := by
    refine ⟨hst1, fun t v hv => (hrel.env t v hv).evo hev1, hrel.size, Nat.le_trans hrel.base hgr.size, ?_, (Form.new (S := ⟨nx, m⟩) (.fg idx true)).dom hrel.dom, fun b hb => hb.elim⟩
    have hm0 := hrel.marks.evo hev1
    rcases hmk with rfl | ⟨D, rfl, hD1, hD2, hD3⟩
    · exact hm0
    · obtain ⟨Ds, q1, q2, q3⟩ := hm0.all
      obtain ⟨Ds0, p1, p2, p3⟩ := hrel.marks.all
      have hinj : ∀ x y : Nat, mark x = mark y → x = y := fun x y h => by
        simp only [mark, Deferred.mk.injEq, Target.collected.injEq] at h; exact h.1
      have hds : Ds = Ds0 := by
        have : Ds.map mark = Ds0.map mark := q1.symm.trans p1
        exact (List.map_inj_right hinj).1 this
      subst hds
      have hDlt : D < W1.heap.size := (Array.getElem?_eq_some_iff.1 hD3).1
      refine ⟨D :: Ds, by simp [q1], ?_, fun D' hD' => ?_⟩
      · rw [List.nodup_cons]
        refine ⟨fun hm => ?_, q2⟩
        have := (Array.getElem?_eq_some_iff.1 (p3 D hm).2.1).1
        omega
      · rcases List.mem_cons.1 hD' with rfl | hD'
        · refine ⟨Nat.le_trans hrel.base hD1, hD3, fun ho => ?_⟩
          rcases ho with ho | ⟨k, o', g1, g2, g3⟩
          · have := (hrel.st.outer _ ho).1; omega
          · have g1 : (Sto.new ⟨nx, m⟩ (.fg idx true)).at k = some o' := g1
            rw [Sto.at_new] at g1
            by_cases ek : k = nx
            · simp only [updL, if_pos ek] at g3
              rcases g3 with g3 | g3
              · have e0 : (⟨undef, fun b => b = l⟩ : Loc).blk = none := rfl
                rw [e0] at g3; simp at g3
              · exact hD2 g3
            · rw [if_neg ek] at g1
              simp only [updL, if_neg ek] at g3
              have := (hst0.objs k o' g1).live_lt g2 g3
              omega
        · exact q3 D' hD'
  obtain ⟨ρI, hrel2, hevI⟩ := hI0 _ _ _ _ _ _ _ hrel1
  have hev2 : Evo ⟨nx, m⟩ ρ w (I 0) ρI W1 := by
    have hsub : Sub ⟨nx, m⟩ (I 0) := fun k hk => by
      refine hsub0 k ?_
      show (Sto.at (Sto.new ⟨nx, m⟩ (.fg idx true)) k).isSome = true
      rw [Sto.at_new]
      by_cases ek : k = nx
      · rw [if_pos ek]; rfl
      · rw [if_neg ek]; exact hk
    exact hevI _ _ _ hsub hev1
  obtain ⟨⟨_, hzI, hrecI⟩, hblI⟩ := hrel2.st.objs nx _ (hfg 0)
  rw [hls'] at hzI hrecI
  have hlz : owns (I 0) ρI l := ⟨nx, _, hfg 0, rfl, .inr ((hzI l).2 rfl)⟩
  have hfval : VR O (I 0) ρI W1 (.p (.fn (.func fid) [] pcap)) (({ a with defers := mk ++ a.defers } : Act).eval f) := evF_has (Γ := recCtx G ls') (σ := ⟨e, I 0⟩) hfv hg ρI _ W1 hrel2.st hrel2.env
  have heva : ({ a with defers := mk ++ a.defers } : Act).eval f = a.eval f := by cases f <;> rfl
  rw [heva] at hfval
  have hpr := hfval.p_inv
  generalize hav : a.eval f = av at hpr
  cases hpr with
  | fn _ _ _ ca cb ha hb hra hrb =>
  have hca : ca = [] := List.eq_nil_of_length_eq_zero ha
  subst hca
  let z0 : Nat → Prop := fun b => owns (I 0) ρI b
  have hz0 : ∀ b, z0 b → b < W1.heap.size := fun b hb => hrel2.st.owns_lt hb
  let Γ1 : Ctx := {
    G := G
    Φ := fun k b z W => b = true ∧ ∃ ρ x, JJ O G ls' { a with defers := mk ++ a.defers } e I B (mk ++ a.defers) (ls' idx).1 (mkRec fn a.tmps ps assign body d .ready none) W1.heap.size z0 (I 0) ρI W1 k z W ρ x
    sh := fun b => b < W1.heap.size ∧ ¬ z0 b
    Φk := fun i b z w w' h hs hsz => ⟨h.1, by
      obtain ⟨_, ρ, x, hj⟩ := h
      exact ⟨ρ, x, hj.keeps (fun b hb => (hrel2.st.outer b hb).1) hs hsz⟩⟩
    Φz := fun i b z w h k hk => by
      obtain ⟨_, ρ, x, hj⟩ := h
      rcases (hj.zx k).1 hk with h1 | h1
      · have := hz0 k h1; have := hj.size; omega
      · exact (hj.xs k h1).2 }
  have hO1 : ∀ b, O b → b < W1.heap.size := fun b hb => (hrel2.st.outer b hb).1
  have hOz : ∀ b, O b → ¬ z0 b := fun b hb => (hrel2.st.outer b hb).2
  have hOi : ∀ b, Oi O W1.heap.size (fun _ => False) W1 b ↔ O b := fun b => ⟨fun h => h.elim id (fun h => by omega), .inl⟩
  have hfr1 : Fr O (Oi O W1.heap.size (fun _ => False) W1) (fun _ => True) W1 W1 := ⟨fun _ _ => rfl, fun _ _ _ => trivial, fun b hb => .inl ((hOi b).1 hb), Nat.le_refl _, fun b hb => hO1 b ((hOi b).1 hb)⟩
  have hj0 : JJ O G ls' { a with defers := mk ++ a.defers } e I B (mk ++ a.defers) (ls' idx).1 (mkRec fn a.tmps ps assign body d .ready none) W1.heap.size z0 (I 0) ρI W1 0 z0 W1 ρI (fun _ => False) := by
    refine ⟨fun b => ⟨.inl, fun h => h.elim id False.elim⟩, fun b hb => hb.elim, hz0, fun b hb => .inl hb, hrel2.st.fr hfr1 (fun _ _ _ _ => rfl), fun t v hv => (hrel2.env t v hv).fr hfr1, hrel2.marks.fr hfr1, Nat.le_refl _, fun _ _ _ => rfl, fun _ _ h => h, fun j o ho => ⟨o, ho, by cases o <;> simp [AObj.to]⟩, rfl, ?_, ?_⟩
    · rw [hls']; exact hrec
    · rw [hls']; exact hlz
  have hY : YOk P Γ1 l n Y := by
    refine ⟨fun k z Wk cargs hk hΦ hc => ?_⟩
    obtain ⟨_, ρk, x, hj⟩ := hΦ
    obtain ⟨fn', tmps', as', bo', hy, hR⟩ := round_ok (ls := ls') (a := { a with defers := mk ++ a.defers }) (by rw [hls']) hO1 hrel.size hps hpN hYs hdom hsubk hfg hfg' (fun k hk O' ls1 h1 h2 => by
      have := hbody k hk O' ls1 (fun i hi => (h1 i hi).trans (hlsne i hi))
      rw [h2] at this
      refine W.mono this ?_
      rintro ex σ1 ⟨q1, q2, q3, q4⟩
      refine ⟨q1, q2, q3, fun ls2 h3 h4 => ?_⟩
      have := q4 ls2 (fun i hi => (h3 i hi).trans (hlsne i hi))
      rwa [h4] at this) hk hj hc
    rw [hls'] at hy hR
    refine ⟨fn', tmps', as', bo', hy, fun m' => (hR m').mono ?_⟩
    rintro e' W' ⟨z', ρ', x', rfl, hj', h1, h2, h3, h4, h5, h6⟩
    refine ⟨z', rfl, ⟨rfl, ρ', x', ?_⟩, h1, h2, h3, h4, h5, h6⟩
    rw [hls']; exact hj'
  have hcap : VRs (fun b => O b ∨ z0 b) S0 ρ0 W1 (pcap.map AV.p) cb := VRs.toS0 hb (fun j hj => hrb j hj)
  have hglob : GlobOk G (fun b => O b ∨ z0 b) W1 := fun g cs hg => hrel2.st.glob g cs hg
  have hcalls := hit.calls O Γ1 W1 cb l z0 rfl hY ⟨rfl, ρI, fun _ => False, hj0⟩ (fun b hb => ⟨hO1 b hb, hOz b hb⟩) (fun b hb => hb) hglob hcap
  refine ⟨l, mk, W1, { target := .fn (.func fid) cb.toArray, args := #[.func (.yield l) #[] #[]] }, W1, fid, #[.func (.yield l) #[] #[]] ++ cb.toArray, W1, hent, ?_, ?_, ?_, fun h => by simp [Fw, Fence.wide] at h, ?_⟩
  · simp only [resolve, hav]
    simp [go_sem]
  · intro f' hf'
    trivial
  · simp [invoke, go_sem, hit.enters]
  · rw [callsIn_Fw, callsIn_wide]
    have hargs : (#[.func (.yield l) #[] #[]] ++ cb.toArray : Array Value) = ((.func (.yield l) #[] #[] : Value) :: cb).toArray := by simp
    rw [hargs]
    refine hcalls.mono ?_
    rintro e' W2 ⟨v, z', rfl, ⟨_, ρn, x, hj⟩, h1, h2, h3, h4, h5, h6⟩
    have hrc := hj.rc
    rw [hls'] at hrc
    refine ⟨none, _, run_endLoop (P := P) hrc (by simp [mkRec]), ?_⟩
    simp only
    have hl2 : l < W2.heap.size := by omega
    have hfr2 : Fr (Oi O W1.heap.size x W2) O (fun _ => True) W2 W2 := ⟨fun _ _ => rfl, fun _ _ _ => trivial, fun b hb => .inl (.inl hb), Nat.le_refl _, fun b hb => by have := hO1 b hb; omega⟩
    have hstn : St O (recCtx G ls') (I n) ρn W2 := hj.st.fr hfr2 (fun _ _ _ _ => rfl)
    have henvn : EnvOk O ⟨e, I n⟩ ρn a W2 := fun t v hv => (hj.env t v hv).fr hfr2
    have hmkn : Marks (ownS O (I n) ρn) B W2 (mk ++ a.defers) := hj.marks.fr hfr2
    obtain ⟨⟨_, hzn, _⟩, _⟩ := hstn.objs nx _ (hfg n)
    rw [hls'] at hzn
    have hevn : Evo (I 0) ρI W1 (I n) ρn W2 := ⟨h1, h2, h3, h4, hj.keep, hj.back, hj.obj⟩
    have hkill := evo_kill (ρ := ρn) (w := W2) (hfg n)
    have hstk := hstn.kill (hfg n)
    have hnown : ¬ ownS O ((I n).put nx .dead) ρn l := by
      rintro (ho | ⟨k, o', g1, g2, g3⟩)
      · exact hOz l ho hlz
      · rw [Sto.at_put] at g1
        by_cases ek : k = nx
        · rw [if_pos ek, Option.some.injEq] at g1
          subst g1; simp [AObj.live] at g2
        · rw [if_neg ek] at g1
          exact ek (hstn.disj k nx o' _ l g1 (hfg n) g2 rfl g3 (.inr ((hzn l).2 rfl)))
    have hsh : Shut W2 (W2.putObj l (.loop { mkRec fn a.tmps ps assign body d .ready none with state := .exhausted })) l :=
      ⟨rfl, rfl, rfl, by simp [World.putObj], fun cs e f => by rw [hrc]; simp, fun b hb => by simp [World.putObj, Array.getElem?_setIfInBounds, Ne.symm hb]⟩
    have hst3 : St O (recCtx G ls') ((I n).put nx .dead) ρn (W2.putObj l (.loop { mkRec fn a.tmps ps assign body d .ready none with state := .exhausted })) := hstk.shut hsh hnown (fun h => h)
    have hlI : ∀ b, owns (I n) ρn b → b < W1.heap.size → owns (I 0) ρI b := fun b hb hlt => hj.back b hlt hb
    have hfr3 : Fr O O (fun _ => True) (W2.putObj l (.loop { mkRec fn a.tmps ps assign body d .ready none with state := .exhausted })) (W2.putObj l (.loop { mkRec fn a.tmps ps assign body d .ready none with state := .exhausted })) := ⟨fun _ _ => rfl, fun _ _ _ => trivial, fun b hb => .inl hb, Nat.le_refl _, fun b hb => by rw [hsh.size]; have := hO1 b hb; omega⟩
    have hst4 : St O (recCtx G ls) ((I n).put nx .dead) ρn (W2.putObj l (.loop { mkRec fn a.tmps ps assign body d .ready none with state := .exhausted })) := hst3.fr hfr3 (fun k i b hk => by
      rw [Sto.at_put] at hk
      by_cases ek : k = nx
      · rw [if_pos ek] at hk; simp at hk
      · rw [if_neg ek] at hk
        exact (hlsne i ((hfg' n k i b hk).resolve_left ek)).symm)
    refine ⟨by simp, ⟨e, (I n).put nx .dead⟩, ρn, hQ, ⟨hst4, fun t v hv => ((henvn t v hv).evo hkill).shut hsh, hrel.size, ?_, ?_, (Form.put nx _ _ (hfg n)).dom (hdom n), fun b hb => hb.elim⟩, ?_⟩
    · rw [hsh.size]; have := hrel2.base; omega
    · obtain ⟨Ds, q1, q2, q3⟩ := (hmkn.evo hkill).all
      refine ⟨Ds, q1, q2, fun D hD => ⟨(q3 D hD).1, (hsh.old D (fun eD => ?_)).trans (q3 D hD).2.1, (q3 D hD).2.2⟩⟩
      have := (q3 D hD).2.1
      rw [eD, hrc] at this
      simp at this
    · have hall := hev2.trans (hevn.trans hkill)
      refine ⟨hall.os, hall.tape, hall.output, by rw [hsh.size]; exact hall.size, fun b hb ho => ?_, hall.own, hall.obj⟩
      exact (hsh.old b (by omega)).trans (hall.keep b hb ho)
end Go.Proofs.YtobpnmljijeadaaDoor.A

/- Small rules besides. -/
set_option linter.unusedVariables false
set_option linter.unusedSimpArgs false
namespace Go.Proofs.YtobpnmljijeadaaDoor.A
open Go

theorem ACoe_eq {a b : AV} (h : a = b) : ACoe a b := h ▸ ACoe.refl a
theorem ACoeL_eq {a b : List AV} (h : a = b) : ACoeL a b := h ▸ ACoeL.refl a
theorem ACoe_any (a : AV) : ACoe a .any := fun _ _ _ _ cv _ => .any cv

section
variable {P : Program} {O : Nat → Prop} {Γ : Ctx} {N : Nat} {r : Option Nat} {Q Q' : Exit → Env → Prop} {σ σ' : Env}
/-- A test whether a slice is nil. -/
theorem W_ifN {c : Operand} {x y : Code} {k : Nat} {g : List Prop} (hc : evF Γ.G σ.e c = some (g, .p (.nl k))) (hg : AllP g) (ht : k = 0 → W P O Γ N r x Q σ) (hf : W P O Γ N r y Q σ) : W P O Γ N r (.cond c x y) Q σ := fun n B ρ a w hr => by
  have h := evF_has hc hg ρ a w hr.st hr.env
  have h' := h.p_inv
  generalize hav : a.eval c = av at h'
  cases h' with
  | nl _ b hb => exact wpIn_cond_split hav (fun h => ht (hb h) n B ρ a w hr) (fun h => hf n B ρ a w hr)
end

theorem ACoe_agg {l m : List AV} (h : ACoeL l m) : ACoe (.agg l) (.agg m) := fun O S ρ w cv hv => by
  obtain ⟨vs, rfl, hvs⟩ := hv.agg_inv
  have := h _ _ _ _ _ hvs
  exact .agg _ vs this.1 this.2
theorem ACoe_tup {l m : List AV} (h : ACoeL l m) : ACoe (.tup l) (.tup m) := fun O S ρ w cv hv => by
  cases hv with
  | tup _ vs hl hh =>
    have := h _ _ _ _ vs ⟨hl, hh⟩
    exact .tup _ vs this.1 this.2

/-- A row with one more. -/
theorem row_snoc {D : Nat → Bool} {e sz n : Nat} {F f2 : Nat → List AV} (h : f2 0 = F n) (hok : ∀ i, (F i).all (okN 6 D) = true) : OCoe D (.row e sz (n + 1) (fun i => if i < n then F i else f2 (i - n))) (.row e sz (n + 1) F) := by
  refine ⟨rfl, rfl, rfl, fun i hi => ?_⟩
  have e : (if i < n then F i else f2 (i - n)) = F i := by
    by_cases h1 : i < n
    · rw [if_pos h1]
    · have : i = n := by omega
      subst this
      rw [if_neg h1, Nat.sub_self, h]
  show ACoeL (if i < n then F i else f2 (i - n)) (F i) ∧ (F i).length = (if i < n then F i else f2 (i - n)).length ∧ (F i).all (okN 6 D) = true
  rw [e]
  exact ⟨ACoeL.refl _, rfl, hok i⟩

/-- An operation without a guard. -/
theorem OpW.r {P : Program} {O : Nat → Prop} {Γ : Ctx} {r : Option Nat} {σ : Env} {o : Oper} {v : AV} {S' : Sto} {ops : List Oper} (h : OpW P O Γ r σ o v S') (hg : o.guard = none) : OpR P O Γ r ops σ o v S' := fun n ρ a w K Q hs hf he hK => by
  have hw : Region.wanted o (yielded ops.toArray a.tmps) = true := by simp [Region.wanted, hg]
  rw [if_pos hw]
  exact h n ρ a w K Q hs hf he hK

/-! ### Bounds -/
theorem mul_bound {a b A B : Int} (h1 : -A ≤ a) (h2 : a ≤ A) (h3 : -B ≤ b) (h4 : b ≤ B) : -(A * B) ≤ a * b ∧ a * b ≤ A * B := by
  have hA : 0 ≤ A := by omega
  have hB : 0 ≤ B := by omega
  have e1 : 0 ≤ (A - a) * (B + b) := Int.mul_nonneg (by omega) (by omega)
  have e2 : 0 ≤ (A + a) * (B - b) := Int.mul_nonneg (by omega) (by omega)
  have e3 : 0 ≤ (A - a) * (B - b) := Int.mul_nonneg (by omega) (by omega)
  have e4 : 0 ≤ (A + a) * (B + b) := Int.mul_nonneg (by omega) (by omega)
  simp only [Int.sub_mul, Int.add_mul, Int.mul_sub, Int.mul_add] at e1 e2 e3 e4
  omega

abbrev I (n : Int) : AV := .p (.v (.int .i64 n))
abbrev Bo (b : Bool) : AV := .p (.v (.bool b))
abbrev pI (n : Int) : PV := .v (.int .i64 n)

theorem I_eq {a b : Int} (h : a = b) : ACoe (I a) (I b) := h ▸ ACoe.refl _
theorem Bo_eq {a b : Bool} (h : a = b) : ACoe (Bo a) (Bo b) := h ▸ ACoe.refl _

/-! ### Sums of objects -/
theorem Sub_cons (S : Sto) (nx : Nat) (m : List (Nat × AObj)) (h : S.m = m) : Sub S ⟨nx, m⟩ := fun k hk => by
  have : Sto.at ⟨nx, m⟩ k = S.at k := by simp [Sto.at, h]
  rw [this]; exact hk

/-- The objects of the one stand in the other, by looking. -/
def subB : List (Nat × AObj) → List (Nat × AObj) → Bool
  | [], _ => true
  | (k, _) :: r, m' => (get m' k).isSome && subB r m'
theorem Sub_of {nx nx' : Nat} {m m' : List (Nat × AObj)} (h : subB m m' = true) : Sub ⟨nx, m⟩ ⟨nx', m'⟩ := fun k hk => by
  have hk : (get m k).isSome = true := hk
  show (get m' k).isSome = true
  induction m with
  | nil => simp [get] at hk
  | cons p r ih =>
    obtain ⟨k', o⟩ := p
    simp only [subB, Bool.and_eq_true] at h
    rw [get_cons] at hk
    by_cases e : k' = k
    · subst e; exact h.1
    · rw [if_neg e] at hk; exact ih h.2 hk hk

def domB (nx : Nat) : List (Nat × AObj) → Bool
  | [] => true
  | (k, _) :: r => Nat.blt k nx && domB nx r
theorem Dom_of {nx : Nat} {m : List (Nat × AObj)} (h : domB nx m = true) : Dom ⟨nx, m⟩ := fun k o hk => by
  have hk : get m k = some o := hk
  show k < nx
  induction m with
  | nil => simp [get] at hk
  | cons p r ih =>
    obtain ⟨k', o'⟩ := p
    simp only [domB, Bool.and_eq_true] at h
    rw [get_cons] at hk
    by_cases e : k' = k
    · subst e; simpa using h.1
    · rw [if_neg e] at hk; exact ih h.2 hk hk

/-- Which records of loops stand there. -/
def fgB (nx idx : Nat) : List (Nat × AObj) → Bool
  | [] => true
  | (k, .fg i _) :: r => (Nat.beq k nx || !(Nat.beq i idx)) && fgB nx idx r
  | _ :: r => fgB nx idx r
theorem fg_of {nx idx nx' : Nat} {m : List (Nat × AObj)} (h : fgB nx idx m = true) : ∀ j i b, Sto.at ⟨nx', m⟩ j = some (.fg i b) → j = nx ∨ i ≠ idx := fun j i b hk => by
  have hk : get m j = some (.fg i b) := hk
  induction m with
  | nil => simp [get] at hk
  | cons p r ih =>
    obtain ⟨k', o'⟩ := p
    rw [get_cons] at hk
    by_cases e : k' = j
    · subst e
      simp only [if_true, Option.some.injEq] at hk
      subst hk
      simp only [fgB, Bool.and_eq_true, Bool.or_eq_true, Bool.not_eq_true'] at h
      rcases h.1 with h1 | h1
      · exact .inl (Nat.eq_of_beq_eq_true h1)
      · exact .inr (fun e => by subst e; rw [Nat.beq_refl] at h1; simp at h1)
    · rw [if_neg e] at hk
      refine ih ?_ hk hk
      cases o' <;> simp only [fgB, Bool.and_eq_true] at h <;> first | exact h.2 | exact h
end Go.Proofs.YtobpnmljijeadaaDoor.A

/- Functions that hand back a new row of plain values, to be written by the caller. -/
set_option linter.unusedVariables false
set_option linter.unusedSimpArgs false
namespace Go.Proofs.YtobpnmljijeadaaDoor.A
open Go

/-! ### Scopes of labels, where nothing jumps -/
def noGoto (Q : Exit → Env → Prop) : Exit → Env → Prop
  | .goto _, _ => False
  | e, σ => Q e σ
def noGotoC (Q : Exit → Act → World → Prop) : Exit → Act → World → Prop
  | .goto _, _, _ => False
  | e, a, w => Q e a w
section
variable {P : Program} {O : Nat → Prop} {Γ : Ctx} {N : Nat} {r : Option Nat} {Q : Exit → Env → Prop} {σ : Env}
theorem stepR_scope {b : Frame} {a : Act} {k : List Item} {cs : List Frame} {w : World} {c : Code} : step P (lone (b.atR a (.code (.scope c) :: k)) cs w) = .next (lone (b.atR a (.code c :: .inScope c :: k)) cs w) :=
  step_lone_go (by simp [stepG, stepG.exec, Frame.atR])
theorem stepR_inScope {b : Frame} {a : Act} {k : List Item} {cs : List Frame} {w : World} {c : Code} : step P (lone (b.atR a (.inScope c :: k)) cs w) = .next (lone (b.atR a k) cs w) :=
  step_lone_go (by simp [stepG, stepG.exec, Frame.atR])
theorem wpIn_scope {F : Fence} {n : Nat} {c : Code} {Q : Exit → Act → World → Prop} {a : Act} {w : World} (h : c.wpIn F n P (noGotoC Q) a w) : (Code.scope c).wpIn F n P Q a w := by
  intro b k cs hro hb hr
  have h0 : (lone (b.atR a (.code (.scope c) :: k)) cs w).fenced P F := fenced_calm hb hr rfl
  obtain ⟨e, a₁, w₁, hq, harr⟩ := h b (.inScope c :: k) cs hro hb hr
  cases e with
  | normal => exact ⟨.normal, a₁, w₁, hq, .head h0 stepR_scope (StepsIn.trans harr (.one (fenced_calm hb hr rfl) stepR_inScope))⟩
  | exit id =>
    have hx : exitTo id (.inScope c :: k) = exitTo id k := by simp [exitTo]
    exact ⟨.exit id, a₁, w₁, hq, fun k' hk => .head h0 stepR_scope (harr.1 k' (by rw [hx]; exact hk)),
      fun hr' hk => let ⟨k₁, h1, h2⟩ := harr.2 hr' (by rw [hx]; exact hk); ⟨k₁, h1, .head h0 stepR_scope h2⟩⟩
  | goto l => exact hq.elim
  | ret => exact ⟨_, a₁, w₁, hq, .of_steps (.one h0 stepR_scope) harr⟩
  | panic ch => exact ⟨_, a₁, w₁, hq, .of_steps (.one h0 stepR_scope) harr⟩
  | outgrown => exact ⟨_, a₁, w₁, hq, .of_steps (.one h0 stepR_scope) harr⟩
theorem W_scope {c : Code} (h : W P O Γ N r c (noGoto Q) σ) : W P O Γ N r (.scope c) Q σ := fun n B ρ a w hr => by
  refine wpIn_scope (wpIn_mono (h n B ρ a w hr) ?_)
  rintro e a' w' ⟨h0, σ', ρ', hq, hr', he⟩
  cases e with
  | goto l => exact hq.elim
  | _ => exact ⟨h0, σ', ρ', hq, hr', he⟩
end

structure Fresh (P : Program) (G : Nat → Option (List PV)) (f : FuncId) (args : List AV) (e sz n : Nat) (F : Nat → List Value) : Prop where
  enters : ∀ cargs w, (callFunc f cargs).run P w = .ok (.enter f cargs) w
  len : ∀ i, i < n → (F i).length = sz
  calls : ∀ (O : Nat → Prop) w cargs, (∀ b, O b → b < w.heap.size) → GlobOk G O w → VRs O S0 ρ0 w args cargs →
    Calls P f cargs.toArray w (fun en w' => ∃ cv xs, en = .returned cv ∧ Grows w w' ∧ w'.ownsRow w.heap.size e sz cv n xs ∧ (∀ x ∈ xs, x.oneCell' = true) ∧ ∀ i j, i < n → j < sz → xs.getD (i * sz + j) undef = (F i).getD j undef)

theorem ownsRow_base {w : World} {base base' e sz n : Nat} {v : Value} {xs : List Value} (h : w.ownsRow base e sz v n xs) (hb : ∀ b, v.ownBlock = some b → base' ≤ b) : w.ownsRow base' e sz v n xs := by
  refine ⟨h.1, ?_⟩
  rcases h.2 with h2 | ⟨g, cap, cur, rfl, hb', r⟩
  · exact .inl h2
  · exact .inr ⟨g, cap, cur, rfl, hb g rfl, r⟩

section
variable {P : Program} {O : Nat → Prop} {Γ : Ctx} {r : Option Nat} {σ : Env} {o : Oper}
theorem fresh_w {c : Call} {fid : FuncId} {args la : List AV} {ps : List PV} {ga : List Prop} {e sz n : Nat} {F : Nat → List Value} (h : Fresh P Γ.G fid args e sz n F) (ho : o.op = .call c) (hcl : c.callee = .value (.func fid))
    (ha : evL Γ.G σ.e c.args.toList = some (ga, la)) (hga : AllP ga) (hp : toP la = some ps) (hcoe : ACoeL la args) :
    OpW P O Γ r σ o (.row σ.S.nx sz n) (σ.S.new (.row e sz n (fun i => (F i).map fun v => .p (.v v)))) := by
  intro m ρ a w K Q hs hf he hk
  have hav := evL_ok ha hga ρ a w hs he
  have hargs : (c.args.map a.eval) = (c.args.toList.map a.eval).toArray := by apply Array.ext'; simp
  have hla := toP_ok hp
  obtain ⟨h1, h2⟩ := hav.p hp
  have hS0 : VRs (ownS O σ.S ρ) S0 ρ0 w args (c.args.toList.map a.eval) := by
    refine hcoe _ _ _ _ _ ?_
    rw [hla]
    exact ⟨by simpa using h1, fun j hj => by
      have hj' : j < ps.length := by simpa using hj
      rw [getD_map _ _ _ hj' (.v undef)]
      exact (h2 j hj').toS0⟩
  have hcalls := h.calls (ownS O σ.S ρ) w (c.args.toList.map a.eval) (fun b hb => by
    rcases hb with hb | hb
    · exact (hs.outer b hb).1
    · exact hs.owns_lt hb) hs.glob hS0
  refine ⟨fun _ _ => trivial, ?_⟩
  have hrun : (execOp a.eval o).run P w = .ok (.enter fid (c.args.toList.map a.eval).toArray) w := by
    have hfe : a.eval (.func fid) = .func (.func fid) #[] #[] := rfl
    simp only [execOp, ho, resolve, hcl, hfe, hargs, Deferred.ofValue, invoke, Sem.run_bind, Sem.run_pure, Result.andThen_ok]
    simpa using h.enters (c.args.toList.map a.eval).toArray w
  rw [Oper.semAt_eq _ _ _ (fun c' e => by rw [ho] at e; cases e), hrun, Oper.uponIn_enter]
  refine ⟨fun h => by simp [Fw, Fence.wide] at h, ?_⟩
  rw [callsIn_Fw, callsIn_wide]
  refine hcalls.mono ?_
  rintro en w' ⟨cv, xs, rfl, hgr, hown, hone, hval⟩
  have hbk : (⟨cv, fun _ => False⟩ : Loc).blk = cv.ownBlock := row_blk hown
  have hb : ∀ b, ((⟨cv, fun _ => False⟩ : Loc).blk = some b ∨ (⟨cv, fun _ => False⟩ : Loc).z b) → w.heap.size ≤ b := fun b hb => by
    rcases hb with hb | hb
    · rw [hbk] at hb
      rcases hown.2 with ⟨rfl, _⟩ | ⟨g, cap, cur, rfl, hbg, _⟩
      · simp [Value.ownBlock] at hb
      · simp only [Value.ownBlock, Option.some.injEq] at hb; omega
    · exact hb.elim
  have hob : ObjOk O Γ (σ.S.new (.row e sz n (fun i => (F i).map fun v => .p (.v v)))) (updL ρ σ.S.nx ⟨cv, fun _ => False⟩) w' ⟨cv, fun _ => False⟩ (.row e sz n (fun i => (F i).map fun v => .p (.v v))) := by
    refine ⟨⟨xs, ownsRow_base hown (fun _ _ => Nat.zero_le _), hone, fun i hi => ⟨by simpa using h.len i hi, fun j hj => ?_⟩⟩, fun k hk => hk⟩
    have hjl : j < (F i).length := by rw [h.len i hi]; exact hj
    rw [getD_map _ _ _ hjl undef, ← hval i j hi hj]
    exact .p (.v _)
  have hst := hs.new hf _ ⟨cv, fun _ => False⟩ hgr hb hob
  have hev := evo_new hs hf (.row e sz n (fun i => (F i).map fun v => .p (.v v))) ⟨cv, fun _ => False⟩ hgr hb
  refine hk cv w' _ ?_ hst hev
  obtain ⟨a', c', rfl⟩ := row_slice hown
  refine .row σ.S.nx sz n a' _ c' (by rw [Sto.at_new, if_pos rfl]; rfl) (fun e2 m2 f2' hk2 => ?_)
  rw [Sto.at_new] at hk2
  simp only [if_true, Option.some.injEq, AObj.row.injEq] at hk2
  obtain ⟨_, _, rfl, _⟩ := hk2
  exact ⟨Nat.le_refl _, fun _ => by simp [updL]⟩
end

section
variable {P : Program} {O : Nat → Prop} {Γ : Ctx} {σ : Env} {T : Nat → Option TI} {ρ : Nat → Loc} {F : Fence} {n : Nat}
theorem leaves_ok3 {fn : Func} {t : Nat} (hr : fn.results.toList = [.tmp t]) {B : Nat} (hlow : ∀ b, Γ.sh b → b < B) {a : Act} {R : Ending → World → Prop} : ∀ (Ds : List Nat) (w : World), St O Γ σ.S ρ w → EnvOk O σ ρ a w → Ds.Nodup →
    (∀ D, D ∈ Ds → B ≤ D ∧ w.heap[D]? = some (.deferred (some [])) ∧ ¬ ownS O σ.S ρ D) →
    (∀ w', St O Γ σ.S ρ w' → EnvOk O σ ρ a w' → w'.os = w.os → w'.tape = w.tape → w'.output = w.output → w'.heap.size = w.heap.size → (∀ b, b < B → w'.heap[b]? = w.heap[b]?) → R (.returned (a.tmps.getD t undef)) w') →
    LeavesInM F n P fn a.tmps R (Ds.map mark) .returning w
  | [], w, hs, he, _, _, hR => by
    have h1 : (fn.results.toList.mapM (readOut a)).run P w = .ok [a.tmps.getD t undef] w := by
      rw [hr]; simp [readOut]
    have h2 := run_results h1
    rw [dif_pos (by simp)] at h2
    exact ⟨a.tmps.getD t undef, by simpa using h2, hR w hs he rfl rfl rfl rfl (fun _ _ => rfl)⟩
  | D :: Ds, w, hs, he, hnd, hD, hR => by
    obtain ⟨hB, hd, hno⟩ := hD D (by simp)
    have hsh := shut_mark hd
    refine ⟨by simp, .inl ⟨D, _, rfl, run_takeDeferred hd, ?_⟩⟩
    rw [List.nodup_cons] at hnd
    refine leaves_ok3 hr hlow Ds _ (hs.shut hsh hno (fun h => by have := hlow D h; omega)) (fun t u hu => (he t u hu).shut hsh) hnd.2 (fun D' hD' => ?_) (fun w' h1 h1' h2 h3 h4 h5 h6 => hR w' h1 h1' (h2.trans hsh.os) (h3.trans hsh.tape) (h4.trans hsh.output) (h5.trans hsh.size) (fun b hb => (h6 b hb).trans (hsh.old b (by omega))))
    obtain ⟨a1, a2, a3⟩ := hD D' (by simp [hD'])
    exact ⟨a1, (hsh.old D' (fun e => hnd.1 (e ▸ hD'))).trans a2, a3⟩
end

/-- What must hold where the body of such a function ends. -/
def EndsF (t e sz n : Nat) (F : Nat → List Value) : Exit → Env → Prop
  | .ret, σ => (∃ k f, get σ.e t = some (.row k sz n) ∧ σ.S.at k = some (.row e sz n f) ∧ ∀ i, i < n → f i = (F i).map fun v => .p (.v v)) ∨ (n = 0 ∧ get σ.e t = some (.p (.v (.slice none 0 0))))
  | _, _ => False

theorem Fresh.fn {P : Program} {G : Nat → Option (List PV)} {f : FuncId} {fn : Func} {c : Code} {args : List AV} {t e sz n : Nat} {F : Nat → List Value} (hf : P.funcs[f]? = some fn) (hname : (fn.name == "runtime.NumGoroutine") = false) (hb : fn.body = some c)
    (hN : Nat.ble args.length fn.ntmps = true) (hr : fn.results.toList = [.tmp t]) (hlenF : ∀ i, i < n → (F i).length = sz) (h : ∀ O, W P O (Γ0 G) fn.ntmps none c (EndsF t e sz n F) ⟨envOf 0 args, S0⟩) : Fresh P G f args e sz n F where
  enters := by
    intro cargs w
    have h1 : fn.name ≠ "runtime.NumGoroutine" := by simpa using hname
    simp [callFunc, hf, h1, hb, Go.mark]
  len := hlenF
  calls O w cargs hO hG hargs := by
    have hN := Nat.le_of_ble_eq_true hN
    rw [← callsIn_wide (n := 0)]
    refine callsIn_of_wp_marks hf hb trivial ?_ rfl
    have hlen : cargs.length = args.length := hargs.1
    have hrel : Rel O (Γ0 G) fn.ntmps w.heap.size ⟨envOf 0 args, S0⟩ ρ0 { tmps := cargs.toArray ++ Array.replicate (fn.ntmps - cargs.toArray.size) undef, defers := [] } w := by
      refine ⟨⟨fun k o hk => by simp [S0_at] at hk, fun k k' o o' b hk => by simp [S0_at] at hk, fun g cs hg => (hG g cs hg).mono fun b hb => ownS_S0 hb, fun b hb => ⟨hO b hb, owns_S0 _ _⟩, fun b hb => hb.elim⟩, ?_, by simp; omega, Nat.le_refl _, ⟨[], rfl, List.nodup_nil, fun D hD => by simp at hD⟩, fun k o hk => by simp [S0_at] at hk, fun b hb => hb.elim⟩
      intro t v hv
      obtain ⟨_, h2, h3⟩ := envOf_get args 0 t v hv
      have ht : t < args.length := by omega
      have := hargs.2 t ht
      simp only [Nat.sub_zero] at h3
      rw [h3] at this
      have e : (cargs.toArray ++ Array.replicate (fn.ntmps - cargs.toArray.size) undef).getD t undef = cargs.getD t undef := by
        have ht' : t < cargs.length := by omega
        simp [Array.getD_eq_getD_getElem?, List.getD_eq_getElem?_getD, Array.getElem?_append, ht']
      rw [e]; exact this
    refine wpIn_mono (h O 0 w.heap.size ρ0 _ w hrel) ?_
    rintro en a' w' ⟨hne, σ', ρ', hq, hr', he⟩
    cases en with
    | ret =>
      obtain ⟨Ds, hds, hnd, hD⟩ := hr'.marks.all
      show LeavesInM Fence.wide 0 P fn a'.tmps _ a'.defers .returning w'
      rw [hds]
      refine leaves_ok3 hr hr'.low Ds w' hr'.st hr'.env hnd hD (fun w2 h1 h1' h2 h3 h4 h5 h6 => ?_)
      have hgr : Grows w w2 := ⟨h2.trans he.os, h3.trans he.tape, h4.trans he.output, by rw [h5]; exact he.size, fun b hb => (h6 b hb).trans (he.keep b hb (owns_S0 _ _))⟩
      rcases hq with ⟨k, f, q1, q2, q3⟩ | ⟨rfl, q1⟩
      · have hv := h1' t _ q1
        obtain ⟨⟨xs, hown, hone, hc⟩, hz⟩ := h1.objs k _ q2
        generalize hcv : a'.tmps.getD t undef = cv at hv
        cases hv with
        | row _ _ _ ad l c hk hh =>
          have hloc := (hh _ _ _ q2).2 rfl
          refine ⟨_, xs, rfl, hgr, ?_, hone, fun i j hi hj => ?_⟩
          · rw [hloc]
            refine ownsRow_base hown (fun b hb => ?_)
            rcases Nat.lt_or_ge b w.heap.size with hlt | hge
            · exfalso
              refine owns_S0 ρ0 b (he.own b hlt ⟨k, _, q2, rfl, .inl ?_⟩)
              revert hb
              unfold Value.ownBlock Loc.blk
              cases (ρ' k).v with
              | slice a _ _ => cases a <;> simp
              | _ => simp
            · exact hge
          · have h7 := (hc i hi).2 j hj
            have hjl : j < (F i).length := by rw [hlenF i hi]; exact hj
            rw [q3 i hi, getD_map _ _ _ hjl undef] at h7
            exact h7.val
      · have hv := (h1' t _ q1).val
        refine ⟨_, [], rfl, hgr, ?_, by simp, fun i j hi => by omega⟩
        rw [hv]
        exact ⟨by simp, .inl ⟨rfl, rfl⟩⟩
    | _ => exact hq.elim
end Go.Proofs.YtobpnmljijeadaaDoor.A

/- The seat's types. -/
set_option linter.unusedVariables false
set_option linter.unusedSimpArgs false
namespace Go.Proofs.YtobpnmljijeadaaDoor.A
open Go

def AllTI (P : Program) : List (Nat × TI) → Prop
  | [] => True
  | (t, i) :: r => TIOk P t i ∧ AllTI P r
theorem TOk_of {P : Program} : ∀ {l : List (Nat × TI)}, AllTI P l → TOk P (get l)
  | [], _, t, i, h => by simp [get] at h
  | (t', i') :: r, h, t, i, hi => by
    rw [get_cons] at hi
    by_cases e : t' = t
    · subst e
      simp only [if_true, Option.some.injEq] at hi
      subst hi
      exact h.1
    · rw [if_neg e] at hi
      exact TOk_of h.2 t i hi
def ti3 : TI := ⟨.int .i64, 1, 8, [.int .i64 0]⟩
def ti32 : TI := ⟨.slice 3, 1, 24, [.slice none 0 0]⟩
def ti39 : TI := ⟨.struct [(0, 3), (1, 3)], 2, 16, [.int .i64 0, .int .i64 0]⟩
def ti56 : TI := ⟨.struct [(0, 3), (1, 54)], 2, 32, [.int .i64 0, .slice none 0 0]⟩
def ti54 : TI := ⟨.slice 59, 1, 24, [.slice none 0 0]⟩
def ti23 : TI := ⟨.struct [(0, 3), (1, 3), (2, 3), (3, 3)], 4, 32, [.int .i64 0, .int .i64 0, .int .i64 0, .int .i64 0]⟩
def ti31 : TI := ⟨.slice 75, 1, 24, [.slice none 0 0]⟩
def ti25 : TI := ⟨.int .i64, 1, 8, [.int .i64 0]⟩
def ti33 : TI := ⟨.slice 56, 1, 24, [.slice none 0 0]⟩
def ti75 : TI := ⟨.struct [(0, 3), (1, 3), (2, 3), (3, 32)], 4, 48, [.int .i64 0, .int .i64 0, .int .i64 0, .slice none 0 0]⟩
def ti59 : TI := ⟨.struct [(0, 3), (1, 3)], 2, 16, [.int .i64 0, .int .i64 0]⟩
def ti85 : TI := ⟨.struct [(0, 31), (1, 23)], 5, 56, [.slice none 0 0, .int .i64 0, .int .i64 0, .int .i64 0, .int .i64 0]⟩
def ti41 : TI := ⟨.struct [(0, 3), (1, 3), (2, 32), (3, 39)], 5, 56, [.int .i64 0, .int .i64 0, .slice none 0 0, .int .i64 0, .int .i64 0]⟩
def ti92 : TI := ⟨.struct [(0, 3), (1, 3)], 2, 16, [.int .i64 0, .int .i64 0]⟩
def ti118 : TI := ⟨.int .u64, 1, 8, [.int .u64 0]⟩
def ti24 : TI := ⟨.arr 3 3, 3, 24, [.int .i64 0, .int .i64 0, .int .i64 0]⟩
def ti63 : TI := ⟨.arr 2 3, 2, 16, [.int .i64 0, .int .i64 0]⟩
def ti52 : TI := ⟨.struct [(0, 32), (1, 3), (2, 3)], 3, 40, [.slice none 0 0, .int .i64 0, .int .i64 0]⟩
def ti97 : TI := ⟨.slice 92, 1, 24, [.slice none 0 0]⟩
def ti4 : TI := ⟨.bool, 1, 1, [.bool false]⟩
def ti108 : TI := ⟨.map 3 4, 1, 8, [.map none]⟩
def ti111 : TI := ⟨.slice 25, 1, 24, [.slice none 0 0]⟩
def ti98 : TI := ⟨.other, 1, 8, [.nilFunc]⟩
def ti109 : TI := ⟨.slice 4, 1, 24, [.slice none 0 0]⟩
theorem tk3 : TIOk Tryd.prog 3 ti3 := ⟨by kernel_rfl, ⟨Tryd.t3, _, by kernel_rfl, rfl, rfl, rfl, rfl⟩, rfl, rfl, .inr ⟨Tryd.t3, by kernel_rfl, rfl⟩⟩
theorem tk32 : TIOk Tryd.prog 32 ti32 := ⟨by kernel_rfl, ⟨Tryd.t32, _, by kernel_rfl, rfl, rfl, rfl, rfl⟩, rfl, rfl, .inr ⟨Tryd.t32, by kernel_rfl, rfl⟩⟩
theorem tk39 : TIOk Tryd.prog 39 ti39 := ⟨by kernel_rfl, ⟨Tryd.t39, _, by kernel_rfl, rfl, rfl, rfl, rfl⟩, rfl, rfl, .inl rfl⟩
theorem tk56 : TIOk Tryd.prog 56 ti56 := ⟨by kernel_rfl, ⟨Tryd.t56, _, by kernel_rfl, rfl, rfl, rfl, rfl⟩, rfl, rfl, .inl rfl⟩
theorem tk54 : TIOk Tryd.prog 54 ti54 := ⟨by kernel_rfl, ⟨Tryd.t54, _, by kernel_rfl, rfl, rfl, rfl, rfl⟩, rfl, rfl, .inr ⟨Tryd.t54, by kernel_rfl, rfl⟩⟩
theorem tk23 : TIOk Tryd.prog 23 ti23 := ⟨by kernel_rfl, ⟨Tryd.t23, _, by kernel_rfl, rfl, rfl, rfl, rfl⟩, rfl, rfl, .inl rfl⟩
theorem tk31 : TIOk Tryd.prog 31 ti31 := ⟨by kernel_rfl, ⟨Tryd.t31, _, by kernel_rfl, rfl, rfl, rfl, rfl⟩, rfl, rfl, .inr ⟨Tryd.t31, by kernel_rfl, rfl⟩⟩
theorem tk25 : TIOk Tryd.prog 25 ti25 := ⟨by kernel_rfl, ⟨Tryd.t25, _, by kernel_rfl, rfl, rfl, rfl, rfl⟩, rfl, rfl, .inr ⟨Tryd.t25, by kernel_rfl, rfl⟩⟩
theorem tk33 : TIOk Tryd.prog 33 ti33 := ⟨by kernel_rfl, ⟨Tryd.t33, _, by kernel_rfl, rfl, rfl, rfl, rfl⟩, rfl, rfl, .inr ⟨Tryd.t33, by kernel_rfl, rfl⟩⟩
theorem tk75 : TIOk Tryd.prog 75 ti75 := ⟨by kernel_rfl, ⟨Tryd.t75, _, by kernel_rfl, rfl, rfl, rfl, rfl⟩, rfl, rfl, .inl rfl⟩
theorem tk59 : TIOk Tryd.prog 59 ti59 := ⟨by kernel_rfl, ⟨Tryd.t59, _, by kernel_rfl, rfl, rfl, rfl, rfl⟩, rfl, rfl, .inl rfl⟩
theorem tk85 : TIOk Tryd.prog 85 ti85 := ⟨by kernel_rfl, ⟨Tryd.t85, _, by kernel_rfl, rfl, rfl, rfl, rfl⟩, rfl, rfl, .inl rfl⟩
theorem tk41 : TIOk Tryd.prog 41 ti41 := ⟨by kernel_rfl, ⟨Tryd.t41, _, by kernel_rfl, rfl, rfl, rfl, rfl⟩, rfl, rfl, .inl rfl⟩
theorem tk92 : TIOk Tryd.prog 92 ti92 := ⟨by kernel_rfl, ⟨Tryd.t92, _, by kernel_rfl, rfl, rfl, rfl, rfl⟩, rfl, rfl, .inl rfl⟩
theorem tk118 : TIOk Tryd.prog 118 ti118 := ⟨by kernel_rfl, ⟨Tryd.t118, _, by kernel_rfl, rfl, rfl, rfl, rfl⟩, rfl, rfl, .inr ⟨Tryd.t118, by kernel_rfl, rfl⟩⟩
theorem tk24 : TIOk Tryd.prog 24 ti24 := ⟨by kernel_rfl, ⟨Tryd.t24, _, by kernel_rfl, rfl, rfl, rfl, rfl⟩, rfl, rfl, .inl rfl⟩
theorem tk63 : TIOk Tryd.prog 63 ti63 := ⟨by kernel_rfl, ⟨Tryd.t63, _, by kernel_rfl, rfl, rfl, rfl, rfl⟩, rfl, rfl, .inl rfl⟩
theorem tk52 : TIOk Tryd.prog 52 ti52 := ⟨by kernel_rfl, ⟨Tryd.t52, _, by kernel_rfl, rfl, rfl, rfl, rfl⟩, rfl, rfl, .inl rfl⟩
theorem tk97 : TIOk Tryd.prog 97 ti97 := ⟨by kernel_rfl, ⟨Tryd.t97, _, by kernel_rfl, rfl, rfl, rfl, rfl⟩, rfl, rfl, .inr ⟨Tryd.t97, by kernel_rfl, rfl⟩⟩
theorem tk4 : TIOk Tryd.prog 4 ti4 := ⟨by kernel_rfl, ⟨Tryd.t4, _, by kernel_rfl, rfl, rfl, rfl, rfl⟩, rfl, rfl, .inr ⟨Tryd.t4, by kernel_rfl, rfl⟩⟩
theorem tk108 : TIOk Tryd.prog 108 ti108 := ⟨by kernel_rfl, ⟨Tryd.t108, _, by kernel_rfl, rfl, rfl, rfl, rfl⟩, rfl, rfl, .inr ⟨Tryd.t108, by kernel_rfl, rfl⟩⟩
theorem tk111 : TIOk Tryd.prog 111 ti111 := ⟨by kernel_rfl, ⟨Tryd.t111, _, by kernel_rfl, rfl, rfl, rfl, rfl⟩, rfl, rfl, .inr ⟨Tryd.t111, by kernel_rfl, rfl⟩⟩
theorem tk98 : TIOk Tryd.prog 98 ti98 := ⟨by kernel_rfl, ⟨Tryd.t98, _, by kernel_rfl, rfl, rfl, rfl, rfl⟩, rfl, rfl, .inr ⟨Tryd.t98, by kernel_rfl, rfl⟩⟩
theorem tk109 : TIOk Tryd.prog 109 ti109 := ⟨by kernel_rfl, ⟨Tryd.t109, _, by kernel_rfl, rfl, rfl, rfl, rfl⟩, rfl, rfl, .inr ⟨Tryd.t109, by kernel_rfl, rfl⟩⟩
def tys : List (Nat × TI) := [(3, ⟨.int .i64, 1, 8, [.int .i64 0]⟩), (32, ⟨.slice 3, 1, 24, [.slice none 0 0]⟩), (39, ⟨.struct [(0, 3), (1, 3)], 2, 16, [.int .i64 0, .int .i64 0]⟩), (56, ⟨.struct [(0, 3), (1, 54)], 2, 32, [.int .i64 0, .slice none 0 0]⟩), (54, ⟨.slice 59, 1, 24, [.slice none 0 0]⟩), (23, ⟨.struct [(0, 3), (1, 3), (2, 3), (3, 3)], 4, 32, [.int .i64 0, .int .i64 0, .int .i64 0, .int .i64 0]⟩), (31, ⟨.slice 75, 1, 24, [.slice none 0 0]⟩), (25, ⟨.int .i64, 1, 8, [.int .i64 0]⟩), (33, ⟨.slice 56, 1, 24, [.slice none 0 0]⟩), (75, ⟨.struct [(0, 3), (1, 3), (2, 3), (3, 32)], 4, 48, [.int .i64 0, .int .i64 0, .int .i64 0, .slice none 0 0]⟩), (59, ⟨.struct [(0, 3), (1, 3)], 2, 16, [.int .i64 0, .int .i64 0]⟩), (85, ⟨.struct [(0, 31), (1, 23)], 5, 56, [.slice none 0 0, .int .i64 0, .int .i64 0, .int .i64 0, .int .i64 0]⟩), (41, ⟨.struct [(0, 3), (1, 3), (2, 32), (3, 39)], 5, 56, [.int .i64 0, .int .i64 0, .slice none 0 0, .int .i64 0, .int .i64 0]⟩), (92, ⟨.struct [(0, 3), (1, 3)], 2, 16, [.int .i64 0, .int .i64 0]⟩), (118, ⟨.int .u64, 1, 8, [.int .u64 0]⟩), (24, ⟨.arr 3 3, 3, 24, [.int .i64 0, .int .i64 0, .int .i64 0]⟩), (63, ⟨.arr 2 3, 2, 16, [.int .i64 0, .int .i64 0]⟩), (52, ⟨.struct [(0, 32), (1, 3), (2, 3)], 3, 40, [.slice none 0 0, .int .i64 0, .int .i64 0]⟩), (97, ⟨.slice 92, 1, 24, [.slice none 0 0]⟩), (4, ⟨.bool, 1, 1, [.bool false]⟩), (108, ⟨.map 3 4, 1, 8, [.map none]⟩), (111, ⟨.slice 25, 1, 24, [.slice none 0 0]⟩), (98, ⟨.other, 1, 8, [.nilFunc]⟩), (109, ⟨.slice 4, 1, 24, [.slice none 0 0]⟩)]
theorem tys_ok : TOk Tryd.prog (get tys) := TOk_of (And.intro tk3 (And.intro tk32 (And.intro tk39 (And.intro tk56 (And.intro tk54 (And.intro tk23 (And.intro tk31 (And.intro tk25 (And.intro tk33 (And.intro tk75 (And.intro tk59 (And.intro tk85 (And.intro tk41 (And.intro tk92 (And.intro tk118 (And.intro tk24 (And.intro tk63 (And.intro tk52 (And.intro tk97 (And.intro tk4 (And.intro tk108 (And.intro tk111 (And.intro tk98 (And.intro tk109 (True.intro)))))))))))))))))))))))))
end Go.Proofs.YtobpnmljijeadaaDoor.A

/- The seat's variables; structs of two numbers against each other. -/
set_option linter.unusedVariables false
set_option linter.unusedSimpArgs false
namespace Go.Proofs.YtobpnmljijeadaaDoor.A
open Go
def GG : Nat → Option (List PV) := get [(0, [.v (.int .i64 0), .v (.int .i64 1)])]
theorem mixed : Tryd.prog.follows .mixedOrders = true := by kernel_rfl

theorem part0 (a b : Int) (w : World) : (part 3 #[.int .i64 a, .int .i64 b] 0).run Tryd.prog w = .ok (.int .i64 a) w := by kernel_rfl
theorem part1 (a b : Int) (w : World) : (part 3 #[.int .i64 a, .int .i64 b] 1).run Tryd.prog w = .ok (.int .i64 b) w := by kernel_rfl

theorem eq_pair (t : Nat) (n1 n2 : String) (h1 : n1 ≠ "_") (h2 : n2 ≠ "_") (ht : Tryd.prog.underlying t = some (.struct (Tryd.prog.fieldsOf t))) (hp : Tryd.prog.stoodInHeld t = false) (hm : Tryd.prog.eqGuardType Tryd.prog.depth t = false)
    (hf : (Tryd.prog.fieldsOf t).toList = [{ name := n1, type := 3, offset := 0, embedded := false, tag := "", pkgPath := "", byteOffset := 0 }, { name := n2, type := 3, offset := 1, embedded := false, tag := "", pkgPath := "", byteOffset := 8 }])
    (us vs : List Int) (x y : Operand) (w : World) (ha : us.length = 2) (hb : vs.length = 2) :
  (eqGuard .eql t x y (.agg (us.map (Value.int .i64)).toArray) (.agg (vs.map (Value.int .i64)).toArray)).run Tryd.prog w = .ok () w ∧
  (eqGuard .neq t x y (.agg (us.map (Value.int .i64)).toArray) (.agg (vs.map (Value.int .i64)).toArray)).run Tryd.prog w = .ok () w ∧
  (Op.equal t (.agg (us.map (Value.int .i64)).toArray) (.agg (vs.map (Value.int .i64)).toArray)).run Tryd.prog w = .ok (listEq us vs) w := by
  refine ⟨run_eqGuard_agg w _ _ _ _ _ _ hm, run_eqGuard_agg w _ _ _ _ _ _ hm, ?_⟩
  match us, vs, ha, hb with
  | [a, b], [c, d], _, _ =>
    have hi : Tryd.prog.underlying 3 = some (.int .i64) := by kernel_rfl
    have he : ∀ u v : Int, (Op.equalIn 9999 3 (.int .i64 u) (.int .i64 v)).run Tryd.prog w = .ok (u == v) w := fun u v => run_equalIn_int w 9998 _ _ _ u v hi
    show (Op.equalIn (9999 + 1) t (.agg #[.int .i64 a, .int .i64 b]) (.agg #[.int .i64 c, .int .i64 d])).run Tryd.prog w = _
    rw [run_equalIn_struct w 9999 t _ _ ht hp, hf]
    simp only [Op.eqFields, h1, h2, ne_eq, not_false_eq_true, if_true, Sem.run_bind, part0, part1, Result.andThen_ok, he, Sem.run_ite, Sem.run_pure, listEq]
    cases hac : (a == c) <;> cases hbd : (b == d) <;> simp

def EE : Nat → Option Nat := get [(39, 2), (92, 2), (59, 2)]
theorem EE_ok : EqOk Tryd.prog EE := fun t n h => by
  simp only [EE, get_cons] at h
  by_cases e1 : 39 = t
  · subst e1
    simp only [if_true, Option.some.injEq] at h; subst h
    exact fun us vs x y w ha hb => eq_pair _ "N" "D" (by decide) (by decide) (by kernel_rfl) (by kernel_rfl) (by kernel_rfl) (by kernel_rfl) us vs x y w ha hb
  rw [if_neg e1] at h
  by_cases e2 : 92 = t
  · subst e2
    simp only [if_true, Option.some.injEq] at h; subst h
    exact fun us vs x y w ha hb => eq_pair _ "N" "D" (by decide) (by decide) (by kernel_rfl) (by kernel_rfl) (by kernel_rfl) (by kernel_rfl) us vs x y w ha hb
  rw [if_neg e2] at h
  by_cases e3 : 59 = t
  · subst e3
    simp only [if_true, Option.some.injEq] at h; subst h
    exact fun us vs x y w ha hb => eq_pair _ "Strip" "Sample" (by decide) (by decide) (by kernel_rfl) (by kernel_rfl) (by kernel_rfl) (by kernel_rfl) us vs x y w ha hb
  rw [if_neg e3] at h
  simp [get] at h
end Go.Proofs.YtobpnmljijeadaaDoor.A

/- Plain: roots, quotients, whole numbers. No program in sight. -/
namespace Go.Proofs.YtobpnmljijeadaaDoor.A

/-! ### Roots -/
def natSqrt : Nat → Nat
  | 0 => 0
  | n + 1 => if (natSqrt n + 1) * (natSqrt n + 1) ≤ n + 1 then natSqrt n + 1 else natSqrt n

theorem natSqrt_spec : ∀ n, natSqrt n * natSqrt n ≤ n ∧ n < (natSqrt n + 1) * (natSqrt n + 1)
  | 0 => by simp [natSqrt]
  | n + 1 => by
    obtain ⟨h1, h2⟩ := natSqrt_spec n
    unfold natSqrt
    split
    · rename_i h
      refine ⟨h, ?_⟩
      have e : (natSqrt n + 1 + 1) * (natSqrt n + 1 + 1) = (natSqrt n + 1) * (natSqrt n + 1) + 2 * (natSqrt n + 1) + 1 := by
        simp only [Nat.add_mul, Nat.mul_add]; omega
      omega
    · rename_i h
      exact ⟨by omega, by omega⟩

def rootS (n : Int) : Int := natSqrt n.toNat

structure IsRoot (n r : Int) : Prop where
  pos : 0 ≤ r
  le : r * r ≤ n
  lt : n < (r + 1) * (r + 1)

theorem rootS_is {n : Int} (h : 0 ≤ n) : IsRoot n (rootS n) := by
  obtain ⟨h1, h2⟩ := natSqrt_spec n.toNat
  refine ⟨by unfold rootS; omega, ?_, ?_⟩
  · unfold rootS
    have : ((natSqrt n.toNat * natSqrt n.toNat : Nat) : Int) ≤ (n.toNat : Int) := by exact_mod_cast h1
    rw [Int.natCast_mul] at this
    omega
  · unfold rootS
    have : (n.toNat : Int) < (((natSqrt n.toNat + 1) * (natSqrt n.toNat + 1) : Nat) : Int) := by exact_mod_cast h2
    rw [Int.natCast_mul, Int.natCast_add] at this
    have e : (n.toNat : Int) = n := by omega
    rw [e] at this
    exact this

theorem sq_lt {a b : Int} (h : 0 ≤ b) (hab : a * a < b * b) : a < b := by
  rcases Int.lt_or_le a b with h1 | h1
  · exact h1
  · have := Int.mul_le_mul h1 h1 h (by omega)
    omega
theorem sq_le {a b : Int} (ha : 0 ≤ a) (hab : a ≤ b) : a * a ≤ b * b := Int.mul_le_mul hab hab ha (by omega)

theorem IsRoot.uniq {n a b : Int} (ha : IsRoot n a) (hb : IsRoot n b) : a = b := by
  have h1 := sq_lt (a := a) (b := b + 1) (by have := hb.pos; omega) (by have := ha.le; have := hb.lt; omega)
  have h2 := sq_lt (a := b) (b := a + 1) (by have := ha.pos; omega) (by have := hb.le; have := ha.lt; omega)
  omega

theorem rootS_eq {n r : Int} (h : IsRoot n r) : rootS n = r := by
  have : 0 ≤ n := by
    have h1 : 0 ≤ r * r := Int.mul_nonneg h.pos h.pos
    have := h.le; omega
  exact (rootS_is this).uniq h
theorem rootS_nonneg (n : Int) : 0 ≤ rootS n := by unfold rootS; omega
theorem rootS_le {n b : Int} (hn : 0 ≤ n) (hb : 0 ≤ b) (h : n < (b + 1) * (b + 1)) : rootS n ≤ b := by
  have := (rootS_is hn).le
  have := sq_lt (a := rootS n) (b := b + 1) (by omega) (by omega)
  omega
theorem rootS_ge {n b : Int} (hb : 0 ≤ b) (h : b * b ≤ n) : b ≤ rootS n := by
  have h0 : 0 ≤ b * b := Int.mul_nonneg hb hb
  have := (rootS_is (n := n) (by omega)).lt
  have := sq_lt (a := b) (b := rootS n + 1) (by have := rootS_nonneg n; omega) (by omega)
  omega

/-- The steps of a root's binary digits. -/
def stepv : Nat → Int
  | 0 => 0
  | k + 1 => 2 ^ k
theorem stepv_half : ∀ k, (stepv (k + 1)).tdiv 2 = stepv k
  | 0 => by decide
  | k + 1 => by
    show ((2 : Int) ^ (k + 1)).tdiv 2 = 2 ^ k
    rw [Int.pow_succ, Int.mul_tdiv_cancel _ (by decide)]
theorem stepv_pos (k : Nat) : 0 < stepv (k + 1) := by
  show (0 : Int) < 2 ^ k
  exact Int.pow_pos (by decide)
theorem pow_two (k : Nat) : (2 : Int) ^ (k + 1) = 2 ^ k + 2 ^ k := by rw [Int.pow_succ]; omega

/-! ### Quotients -/
theorem tdiv_bound {a b A : Int} (ha : -A ≤ a) (ha' : a ≤ A) (hb : 1 ≤ b) : -A ≤ a.tdiv b ∧ a.tdiv b ≤ A := by
  have hA : 0 ≤ A := by omega
  have key : ∀ x : Int, 0 ≤ x → x ≤ A → 0 ≤ x.tdiv b ∧ x.tdiv b ≤ A := fun x h1 h2 => by
    rw [Int.tdiv_eq_ediv_of_nonneg h1]
    refine ⟨Int.ediv_nonneg h1 (by omega), ?_⟩
    exact Int.le_trans (Int.ediv_le_self b h1) h2
  rcases Int.le_total 0 a with h | h
  · have := key a h ha'; omega
  · have := key (-a) (by omega) (by omega)
    rw [Int.neg_tdiv] at this
    omega

theorem ediv_bound {a b A : Int} (ha : -A ≤ a) (ha' : a ≤ A) (hb : 1 ≤ b) : -A ≤ a / b ∧ a / b ≤ A := by
  have hA : 0 ≤ A := by omega
  have h1 : A * 1 ≤ A * b := Int.mul_le_mul_of_nonneg_left hb hA
  constructor
  · refine (Int.le_ediv_iff_mul_le (by omega)).2 ?_
    rw [Int.neg_mul]; omega
  · have : a / b < A + 1 := (Int.ediv_lt_iff_lt_mul (by omega)).2 (by rw [Int.add_mul]; omega)
    omega
end Go.Proofs.YtobpnmljijeadaaDoor.A

/- Contracts: small functions. -/
set_option linter.unusedVariables false
set_option linter.unusedSimpArgs false
namespace Go.Proofs.YtobpnmljijeadaaDoor.A
open Go

def within (n lo hi : Int) : Bool := bif decide (n ≥ lo) then decide (n ≤ hi) else false

theorem within_ok (n lo hi : Int) : Pure Tryd.prog GG 45 [I n, I lo, I hi] (Bo (within n lo hi)) := by
  refine Pure.fn tys_ok Tryd.func45 (by kernel_rfl) rfl rfl fun O => ?_
  repeat refine W_seq ?_
  refine' W_run tys_ok EE_ok false false [] rfl ?ap2 ?k2
  case ap2 => repeat' (first | exact True.intro | exact ACoeL.refl _ | assumption | omega | rfl | (dsimp only; omega) | (refine ⟨?_, ?_⟩) | intro (_ : _ = true))
  repeat refine W_seq ?_
  refine' W_run tys_ok EE_ok false false [] rfl ?ap3 ?k3
  case ap3 => repeat' (first | exact True.intro | exact ACoeL.refl _ | assumption | omega | rfl | (dsimp only; omega) | (refine ⟨?_, ?_⟩) | intro (_ : _ = true))
  refine W_ret ⟨_, _, rfl, ?_, ACoe.refl _⟩
  · repeat' (first | exact True.intro | exact ACoeL.refl _ | assumption | omega | rfl | (dsimp only; omega) | (refine ⟨?_, ?_⟩) | intro (_ : _ = true))
theorem rwithin_ok (n lo hi : Int) : Pure Tryd.prog GG 99 [I n, I lo, I hi] (Bo (within n lo hi)) := by
  refine Pure.fn tys_ok Tryd.func99 (by kernel_rfl) rfl rfl fun O => ?_
  repeat refine W_seq ?_
  refine' W_run tys_ok EE_ok false false [] rfl ?ap6 ?k6
  case ap6 => repeat' (first | exact True.intro | exact ACoeL.refl _ | assumption | omega | rfl | (dsimp only; omega) | (refine ⟨?_, ?_⟩) | intro (_ : _ = true))
  repeat refine W_seq ?_
  refine' W_run tys_ok EE_ok false false [] rfl ?ap7 ?k7
  case ap7 => repeat' (first | exact True.intro | exact ACoeL.refl _ | assumption | omega | rfl | (dsimp only; omega) | (refine ⟨?_, ?_⟩) | intro (_ : _ = true))
  refine W_ret ⟨_, _, rfl, ?_, ACoe.refl _⟩
  · repeat' (first | exact True.intro | exact ACoeL.refl _ | assumption | omega | rfl | (dsimp only; omega) | (refine ⟨?_, ?_⟩) | intro (_ : _ = true))
theorem Between_ok (n lo hi : Int) : Pure Tryd.prog GG 33 [I n, I lo, I hi] (Bo (within n lo hi)) := by
  refine Pure.fn tys_ok Tryd.func33 (by kernel_rfl) rfl rfl fun O => ?_
  repeat refine W_seq ?_
  refine' W_run tys_ok EE_ok false false [] rfl ?ap10 ?k10
  case ap10 => repeat' (first | exact True.intro | exact ACoeL.refl _ | assumption | omega | rfl | (dsimp only; omega) | (refine ⟨?_, ?_⟩) | intro (_ : _ = true))
  repeat refine W_seq ?_
  refine' W_run tys_ok EE_ok false false [] rfl ?ap11 ?k11
  case ap11 => repeat' (first | exact True.intro | exact ACoeL.refl _ | assumption | omega | rfl | (dsimp only; omega) | (refine ⟨?_, ?_⟩) | intro (_ : _ = true))
  refine W_ret ⟨_, _, rfl, ?_, ACoe.refl _⟩
  · repeat' (first | exact True.intro | exact ACoeL.refl _ | assumption | omega | rfl | (dsimp only; omega) | (refine ⟨?_, ?_⟩) | intro (_ : _ = true))
theorem fast_ok (n : Int) : Pure Tryd.prog GG 46 [I n] (Bo (within n 1 1000)) := by
  refine Pure.fn tys_ok Tryd.func46 (by kernel_rfl) rfl rfl fun O => ?_
  repeat refine W_seq ?_
  refine' W_run tys_ok EE_ok false false [] rfl ?ap14 ?k14
  case ap14 => repeat' (first | exact True.intro | exact ACoeL.refl _ | assumption | omega | rfl | (dsimp only; omega) | (refine ⟨?_, ?_⟩) | intro (_ : _ = true))
  repeat refine W_seq ?_
  refine' W_run tys_ok EE_ok false false [Hint.of (within_ok _ _ _)] rfl ?ap15 ?k15
  case ap15 => repeat' (first | exact True.intro | exact ACoeL.refl _ | assumption | omega | rfl | (dsimp only; omega) | (refine ⟨?_, ?_⟩) | intro (_ : _ = true))
  refine W_ret ⟨_, _, rfl, ?_, ACoe.refl _⟩
  · repeat' (first | exact True.intro | exact ACoeL.refl _ | assumption | omega | rfl | (dsimp only; omega) | (refine ⟨?_, ?_⟩) | intro (_ : _ = true))
theorem known_ok (n : Int) : Pure Tryd.prog GG 70 [I n] (Bo (within n (-32767) 32767)) := by
  refine Pure.fn tys_ok Tryd.func70 (by kernel_rfl) rfl rfl fun O => ?_
  repeat refine W_seq ?_
  refine' W_run tys_ok EE_ok false false [] rfl ?ap18 ?k18
  case ap18 => repeat' (first | exact True.intro | exact ACoeL.refl _ | assumption | omega | rfl | (dsimp only; omega) | (refine ⟨?_, ?_⟩) | intro (_ : _ = true))
  repeat refine W_seq ?_
  refine' W_run tys_ok EE_ok false false [Hint.of (within_ok _ _ _)] rfl ?ap19 ?k19
  case ap19 => repeat' (first | exact True.intro | exact ACoeL.refl _ | assumption | omega | rfl | (dsimp only; omega) | (refine ⟨?_, ?_⟩) | intro (_ : _ = true))
  refine W_ret ⟨_, _, rfl, ?_, ACoe.refl _⟩
  · repeat' (first | exact True.intro | exact ACoeL.refl _ | assumption | omega | rfl | (dsimp only; omega) | (refine ⟨?_, ?_⟩) | intro (_ : _ = true))
theorem knownR_ok (n : Int) : Pure Tryd.prog GG 72 [I n] (Bo (within n (-32767) 32767)) := by
  refine Pure.fn tys_ok Tryd.func72 (by kernel_rfl) rfl rfl fun O => ?_
  repeat refine W_seq ?_
  refine' W_run tys_ok EE_ok false false [] rfl ?ap22 ?k22
  case ap22 => repeat' (first | exact True.intro | exact ACoeL.refl _ | assumption | omega | rfl | (dsimp only; omega) | (refine ⟨?_, ?_⟩) | intro (_ : _ = true))
  repeat refine W_seq ?_
  refine' W_run tys_ok EE_ok false false [Hint.of (Between_ok _ _ _)] rfl ?ap23 ?k23
  case ap23 => repeat' (first | exact True.intro | exact ACoeL.refl _ | assumption | omega | rfl | (dsimp only; omega) | (refine ⟨?_, ?_⟩) | intro (_ : _ = true))
  refine W_ret ⟨_, _, rfl, ?_, ACoe.refl _⟩
  · repeat' (first | exact True.intro | exact ACoeL.refl _ | assumption | omega | rfl | (dsimp only; omega) | (refine ⟨?_, ?_⟩) | intro (_ : _ = true))
theorem repeats_ok (n : Int) : Pure Tryd.prog GG 74 [I n] (Bo (within n (-64) 64)) := by
  refine Pure.fn tys_ok Tryd.func74 (by kernel_rfl) rfl rfl fun O => ?_
  repeat refine W_seq ?_
  refine' W_run tys_ok EE_ok false false [] rfl ?ap26 ?k26
  case ap26 => repeat' (first | exact True.intro | exact ACoeL.refl _ | assumption | omega | rfl | (dsimp only; omega) | (refine ⟨?_, ?_⟩) | intro (_ : _ = true))
  repeat refine W_seq ?_
  refine' W_run tys_ok EE_ok false false [Hint.of (within_ok _ _ _)] rfl ?ap27 ?k27
  case ap27 => repeat' (first | exact True.intro | exact ACoeL.refl _ | assumption | omega | rfl | (dsimp only; omega) | (refine ⟨?_, ?_⟩) | intro (_ : _ = true))
  refine W_ret ⟨_, _, rfl, ?_, ACoe.refl _⟩
  · repeat' (first | exact True.intro | exact ACoeL.refl _ | assumption | omega | rfl | (dsimp only; omega) | (refine ⟨?_, ?_⟩) | intro (_ : _ = true))
def repeatS (p q : Int) : Bool := bif within p 1 63 then within q (-64) 64 else false
theorem repeat_ok (p q : Int) : Pure Tryd.prog GG 78 [I p, I q] (Bo (repeatS p q)) := by
  refine Pure.fn tys_ok Tryd.func78 (by kernel_rfl) rfl rfl fun O => ?_
  repeat refine W_seq ?_
  refine' W_run tys_ok EE_ok false false [] rfl ?ap30 ?k30
  case ap30 => repeat' (first | exact True.intro | exact ACoeL.refl _ | assumption | omega | rfl | (dsimp only; omega) | (refine ⟨?_, ?_⟩) | intro (_ : _ = true))
  repeat refine W_seq ?_
  refine' W_run tys_ok EE_ok false false [Hint.of (Between_ok _ _ _), Hint.of (Between_ok _ _ _)] rfl ?ap31 ?k31
  case ap31 => repeat' (first | exact True.intro | exact ACoeL.refl _ | assumption | omega | rfl | (dsimp only; omega) | (refine ⟨?_, ?_⟩) | intro (_ : _ = true))
  refine W_ret ⟨_, _, rfl, ?_, ACoe.refl _⟩
  · repeat' (first | exact True.intro | exact ACoeL.refl _ | assumption | omega | rfl | (dsimp only; omega) | (refine ⟨?_, ?_⟩) | intro (_ : _ = true))
def sampleB (n : Int) : Bool := bif (bif within n (-32767) 32767 then true else n == 40000) then true else n == 40001
theorem sampleR_ok (n : Int) : Pure Tryd.prog GG 96 [I n] (Bo (sampleB n)) := by
  refine Pure.fn tys_ok Tryd.func96 (by kernel_rfl) rfl rfl fun O => ?_
  repeat refine W_seq ?_
  refine' W_run tys_ok EE_ok false false [] rfl ?ap34 ?k34
  case ap34 => repeat' (first | exact True.intro | exact ACoeL.refl _ | assumption | omega | rfl | (dsimp only; omega) | (refine ⟨?_, ?_⟩) | intro (_ : _ = true))
  repeat refine W_seq ?_
  refine' W_run tys_ok EE_ok false false [Hint.of (knownR_ok _)] rfl ?ap35 ?k35
  case ap35 => repeat' (first | exact True.intro | exact ACoeL.refl _ | assumption | omega | rfl | (dsimp only; omega) | (refine ⟨?_, ?_⟩) | intro (_ : _ = true))
  refine W_ret ⟨_, _, rfl, ?_, ACoe.refl _⟩
  · repeat' (first | exact True.intro | exact ACoeL.refl _ | assumption | omega | rfl | (dsimp only; omega) | (refine ⟨?_, ?_⟩) | intro (_ : _ = true))

theorem root_ok (n : Int) (h0 : 0 ≤ n) (h1 : n ≤ 1099511627776) : Pure Tryd.prog GG 100 [I n] (I (rootS n)) := by
  refine Pure.fn tys_ok Tryd.func100 (by kernel_rfl) rfl rfl fun O => ?_
  repeat refine W_seq ?_
  refine' W_run tys_ok EE_ok false false [] rfl ?ap38 ?k38
  case ap38 => repeat' (first | exact True.intro | exact ACoeL.refl _ | assumption | omega | rfl | (dsimp only; omega) | (refine ⟨?_, ?_⟩) | intro (_ : _ = true))
  repeat refine W_seq ?_
  refine' W_run tys_ok EE_ok false false [] rfl ?ap39 ?k39
  case ap39 => repeat' (first | exact True.intro | exact ACoeL.refl _ | assumption | omega | rfl | (dsimp only; omega) | (refine ⟨?_, ?_⟩) | intro (_ : _ = true))
  repeat refine W_seq ?_
  refine' W_run tys_ok EE_ok false false [] rfl ?ap40 ?k40
  case ap40 => repeat' (first | exact True.intro | exact ACoeL.refl _ | assumption | omega | rfl | (dsimp only; omega) | (refine ⟨?_, ?_⟩) | intro (_ : _ = true))
  repeat refine W_seq ?_
  refine W_block ?_
  refine W_loop (X := Int × Nat) (fun x => ⟨[(0, I n), (3, I x.1), (4, I (stepv x.2))], ⟨0, []⟩⟩)
    (fun x => 0 ≤ x.1 ∧ x.2 ≤ 21 ∧ x.1 * x.1 ≤ n ∧ n < (x.1 + 2 ^ x.2) * (x.1 + 2 ^ x.2) ∧ x.1 + 2 ^ x.2 ≤ 2097152) (fun x => x.2) (0, 21) ?_ ?_ ?_ ?_
  · exact ⟨by decide, by decide, h0, by simp; omega, by decide⟩
  · exact Le_mk ⟨ACoe.refl _, rfl, ACoe.refl _, rfl, ACoe.refl _, rfl, trivial⟩ trivial
  · exact fun x => Sub.refl _
  · rintro ⟨r, k⟩ ⟨hr, hk, hle, hlt, hbd⟩
    simp only at hr hk hle hlt hbd
    repeat refine W_seq ?_
    refine' W_run tys_ok EE_ok false false [] rfl ?ap41 ?k41
    case ap41 => repeat' (first | exact True.intro | exact ACoeL.refl _ | assumption | omega | rfl | (dsimp only; omega) | (refine ⟨?_, ?_⟩) | intro (_ : _ = true))
    repeat refine W_seq ?_
    refine W_if rfl True.intro (fun hb => ?_) (fun hb => ?_)
    · refine W_skip ?_
      simp only [decide_eq_true_eq] at hb
      cases k with
      | zero => simp [stepv] at hb
      | succ k =>
        rw [pow_two] at hlt hbd
        have hs : stepv (k + 1) = 2 ^ k := rfl
        rw [hs] at hb ⊢
        generalize hq : (2 : Int) ^ k = q at *
        have hqq := mul_bound (a := r + q) (b := r + q) (A := 2097152) (B := 2097152) (by omega) (by omega) (by omega) (by omega)
        have hst : q.tdiv 2 = stepv k := by rw [← hq]; exact stepv_half k
        have hq2 := tdiv_bound (a := q) (b := 2) (A := 2097152) (by omega) (by omega) (by omega)
        repeat refine W_seq ?_
        refine W_block ?_
        repeat refine W_seq ?_
        refine' W_run tys_ok EE_ok false false [] rfl ?ap43 ?k43
        case ap43 => repeat' (first | exact True.intro | exact ACoeL.refl _ | assumption | omega | rfl | (dsimp only; omega) | (refine ⟨?_, ?_⟩) | intro (_ : _ = true))
        repeat refine W_seq ?_
        refine W_if rfl True.intro (fun hb => ?_) (fun hb => ?_)
        · repeat refine W_seq ?_
          refine' W_run tys_ok EE_ok false false [] rfl ?ap45 ?k45
          case ap45 => repeat' (first | exact True.intro | exact ACoeL.refl _ | assumption | omega | rfl | (dsimp only; omega) | (refine ⟨?_, ?_⟩) | intro (_ : _ = true))
          repeat refine W_seq ?_
          refine' W_run tys_ok EE_ok false false [] rfl ?ap46 ?k46
          case ap46 => repeat' (first | exact True.intro | exact ACoeL.refl _ | assumption | omega | rfl | (dsimp only; omega) | (refine ⟨?_, ?_⟩) | intro (_ : _ = true))
          refine ⟨(r + q, k), ⟨by omega, by omega, ?_, ?_, ?_⟩, by simp, ?_⟩
          · simpa using hb
          · simp only [hq]; rw [show r + q + q = r + (q + q) by omega]; exact hlt
          · simp only [hq]; omega
          · simp only [hst]
            exact Le_mk ⟨ACoe.refl _, rfl, ACoe.refl _, rfl, ACoe.refl _, rfl, trivial⟩ trivial
        · refine W_skip ?_
          repeat refine W_seq ?_
          refine' W_run tys_ok EE_ok false false [] rfl ?ap47 ?k47
          case ap47 => repeat' (first | exact True.intro | exact ACoeL.refl _ | assumption | omega | rfl | (dsimp only; omega) | (refine ⟨?_, ?_⟩) | intro (_ : _ = true))
          refine ⟨(r, k), ⟨by omega, by omega, hle, ?_, ?_⟩, by simp, ?_⟩
          · simp only [hq]
            simp only [decide_eq_false_iff_not] at hb
            omega
          · simp only [hq]; omega
          · simp only [hst]
            exact Le_mk ⟨ACoe.refl _, rfl, ACoe.refl _, rfl, ACoe.refl _, rfl, trivial⟩ trivial
    · refine W_exit ?_
      simp only [decide_eq_false_iff_not] at hb
      have hk0 : k = 0 := by
        cases k with
        | zero => rfl
        | succ k => exact absurd (stepv_pos k) hb
      subst hk0
      have := rootS_eq ⟨hr, hle, by simpa using hlt⟩
      repeat refine W_seq ?_
      refine' W_run tys_ok EE_ok false false [] rfl ?ap48 ?k48
      case ap48 => repeat' (first | exact True.intro | exact ACoeL.refl _ | assumption | omega | rfl | (dsimp only; omega) | (refine ⟨?_, ?_⟩) | intro (_ : _ = true))
      refine W_ret ⟨_, _, rfl, ?_, I_eq this.symm⟩
      · repeat' (first | exact True.intro | exact ACoeL.refl _ | assumption | omega | rfl | (dsimp only; omega) | (refine ⟨?_, ?_⟩) | intro (_ : _ = true))
def RootS (n : Int) : Int × Int := bif within n 0 1099511627776 then (rootS n, 0) else (0, 7)
theorem within_iff {n a b : Int} : within n a b = true ↔ a ≤ n ∧ n ≤ b := by
  unfold within
  cases h : decide (n ≥ a) <;> simp at h ⊢ <;> omega
theorem within_not {n a b : Int} : within n a b = false ↔ ¬ (a ≤ n ∧ n ≤ b) := by
  rw [← within_iff]; simp

theorem Root_ok (n : Int) : Pure Tryd.prog GG 84 [I n] (.tup [I (RootS n).1, I (RootS n).2]) := by
  refine Pure.fn tys_ok Tryd.func84 (by kernel_rfl) rfl rfl fun O => ?_
  repeat refine W_seq ?_
  refine' W_run tys_ok EE_ok false false [] rfl ?ap51 ?k51
  case ap51 => repeat' (first | exact True.intro | exact ACoeL.refl _ | assumption | omega | rfl | (dsimp only; omega) | (refine ⟨?_, ?_⟩) | intro (_ : _ = true))
  repeat refine W_seq ?_
  refine' W_run tys_ok EE_ok false false [Hint.of (rwithin_ok _ _ _)] rfl ?ap52 ?k52
  case ap52 => repeat' (first | exact True.intro | exact ACoeL.refl _ | assumption | omega | rfl | (dsimp only; omega) | (refine ⟨?_, ?_⟩) | intro (_ : _ = true))
  repeat refine W_seq ?_
  refine W_if rfl True.intro (fun hb => ?_) (fun hb => ?_)
  · simp only [Bool.not_eq_true'] at hb
    repeat refine W_seq ?_
    refine' W_run tys_ok EE_ok false false [] rfl ?ap54 ?k54
    case ap54 => repeat' (first | exact True.intro | exact ACoeL.refl _ | assumption | omega | rfl | (dsimp only; omega) | (refine ⟨?_, ?_⟩) | intro (_ : _ = true))
    refine W_ret ⟨_, _, rfl, ?_, (by simp only [RootS, hb, cond_false]; exact ACoe.refl _)⟩
    · repeat' (first | exact True.intro | exact ACoeL.refl _ | assumption | omega | rfl | (dsimp only; omega) | (refine ⟨?_, ?_⟩) | intro (_ : _ = true))
  · simp only [Bool.not_eq_false'] at hb
    have hw := within_iff.1 hb
    refine W_skip ?_
    repeat refine W_seq ?_
    refine' W_run tys_ok EE_ok false false [Hint.of (root_ok n (by omega) (by omega))] rfl ?ap56 ?k56
    case ap56 => repeat' (first | exact True.intro | exact ACoeL.refl _ | assumption | omega | rfl | (dsimp only; omega) | (refine ⟨?_, ?_⟩) | intro (_ : _ = true))
    refine W_ret ⟨_, _, rfl, ?_, (by simp only [RootS, hb, cond_true]; exact ACoe.refl _)⟩
    · repeat' (first | exact True.intro | exact ACoeL.refl _ | assumption | omega | rfl | (dsimp only; omega) | (refine ⟨?_, ?_⟩) | intro (_ : _ = true))

theorem RootR_ok (n : Int) : Pure Tryd.prog GG 85 [I n] (.tup [I (RootS n).1, I (RootS n).2]) := by
  refine Pure.fn tys_ok Tryd.func85 (by kernel_rfl) rfl rfl fun O => ?_
  repeat refine W_seq ?_
  refine' W_run tys_ok EE_ok false false [] rfl ?ap59 ?k59
  case ap59 => repeat' (first | exact True.intro | exact ACoeL.refl _ | assumption | omega | rfl | (dsimp only; omega) | (refine ⟨?_, ?_⟩) | intro (_ : _ = true))
  repeat refine W_seq ?_
  refine' W_run tys_ok EE_ok false false [Hint.of (Between_ok _ _ _)] rfl ?ap60 ?k60
  case ap60 => repeat' (first | exact True.intro | exact ACoeL.refl _ | assumption | omega | rfl | (dsimp only; omega) | (refine ⟨?_, ?_⟩) | intro (_ : _ = true))
  repeat refine W_seq ?_
  refine W_if rfl True.intro (fun hb => ?_) (fun hb => ?_)
  · simp only [Bool.not_eq_true'] at hb
    repeat refine W_seq ?_
    refine' W_run tys_ok EE_ok false false [] rfl ?ap62 ?k62
    case ap62 => repeat' (first | exact True.intro | exact ACoeL.refl _ | assumption | omega | rfl | (dsimp only; omega) | (refine ⟨?_, ?_⟩) | intro (_ : _ = true))
    refine W_ret ⟨_, _, rfl, ?_, (by simp only [RootS, hb, cond_false]; exact ACoe.refl _)⟩
    · repeat' (first | exact True.intro | exact ACoeL.refl _ | assumption | omega | rfl | (dsimp only; omega) | (refine ⟨?_, ?_⟩) | intro (_ : _ = true))
  · simp only [Bool.not_eq_false'] at hb
    have hw := within_iff.1 hb
    refine W_skip ?_
    repeat refine W_seq ?_
    refine' W_run tys_ok EE_ok false false [] rfl ?ap64 ?k64
    case ap64 => repeat' (first | exact True.intro | exact ACoeL.refl _ | assumption | omega | rfl | (dsimp only; omega) | (refine ⟨?_, ?_⟩) | intro (_ : _ = true))
    repeat refine W_seq ?_
    refine W_block ?_
    refine W_loop (X := Int × Int) (fun x => ⟨[(0, I n), (4, I x.1), (5, I x.2)], ⟨0, []⟩⟩)
      (fun x => 0 ≤ x.1 ∧ x.1 < x.2 ∧ x.2 ≤ 2097152 ∧ x.1 * x.1 ≤ n ∧ n < x.2 * x.2) (fun x => (x.2 - x.1).toNat) (0, 2097152) ?_ ?_ ?_ ?_
    · exact ⟨by decide, by decide, by decide, by simp; omega, by simp; omega⟩
    · exact Le_mk ⟨ACoe.refl _, rfl, ACoe.refl _, rfl, ACoe.refl _, rfl, trivial⟩ trivial
    · exact fun x => Sub.refl _
    · rintro ⟨l, h⟩ ⟨h1, h2, h3, h4, h5⟩
      simp only at h1 h2 h3 h4 h5
      repeat refine W_seq ?_
      refine' W_run tys_ok EE_ok false false [] rfl ?ap65 ?k65
      case ap65 => repeat' (first | exact True.intro | exact ACoeL.refl _ | assumption | omega | rfl | (dsimp only; omega) | (refine ⟨?_, ?_⟩) | intro (_ : _ = true))
      repeat refine W_seq ?_
      refine W_if rfl True.intro (fun hb => ?_) (fun hb => ?_)
      · refine W_skip ?_
        simp only [decide_eq_true_eq] at hb
        repeat refine W_seq ?_
        refine W_block ?_
        have hmid : (l + h).tdiv 2 = (l + h) / 2 := Int.tdiv_eq_ediv_of_nonneg (by omega)
        have hq : l < (l + h).tdiv 2 ∧ (l + h).tdiv 2 < h := by rw [hmid]; omega
        obtain ⟨m, hm⟩ : ∃ m, (l + h).tdiv 2 = m := ⟨_, rfl⟩
        rw [hm] at hq
        have hmm := mul_bound (a := (l + h).tdiv 2) (b := (l + h).tdiv 2) (A := 2097152) (B := 2097152) (by omega) (by omega) (by omega) (by omega)
        repeat refine W_seq ?_
        refine' W_run tys_ok EE_ok false false [] rfl ?ap67 ?k67
        case ap67 => repeat' (first | exact True.intro | exact ACoeL.refl _ | assumption | omega | rfl | (dsimp only; omega) | (refine ⟨?_, ?_⟩) | intro (_ : _ = true))
        repeat refine W_seq ?_
        refine' W_run tys_ok EE_ok false false [] rfl ?ap68 ?k68
        case ap68 => repeat' (first | exact True.intro | exact ACoeL.refl _ | assumption | omega | rfl | (dsimp only; omega) | (refine ⟨?_, ?_⟩) | intro (_ : _ = true))
        repeat refine W_seq ?_
        refine W_if rfl True.intro (fun hb => ?_) (fun hb => ?_)
        · repeat refine W_seq ?_
          refine' W_run tys_ok EE_ok false false [] rfl ?ap70 ?k70
          case ap70 => repeat' (first | exact True.intro | exact ACoeL.refl _ | assumption | omega | rfl | (dsimp only; omega) | (refine ⟨?_, ?_⟩) | intro (_ : _ = true))
          simp only [decide_eq_true_eq] at hb
          rw [hm] at hb
          refine ⟨(m, h), ⟨by omega, by dsimp only; omega, by omega, hb, h5⟩, by dsimp only; omega, ?_⟩
          rw [← hm]
          exact Le_mk ⟨ACoe.refl _, rfl, ACoe.refl _, rfl, ACoe.refl _, rfl, trivial⟩ trivial
        · repeat refine W_seq ?_
          refine' W_run tys_ok EE_ok false false [] rfl ?ap71 ?k71
          case ap71 => repeat' (first | exact True.intro | exact ACoeL.refl _ | assumption | omega | rfl | (dsimp only; omega) | (refine ⟨?_, ?_⟩) | intro (_ : _ = true))
          simp only [decide_eq_false_iff_not] at hb
          rw [hm] at hb
          refine ⟨(l, m), ⟨by omega, by dsimp only; omega, by dsimp only; omega, h4, by dsimp only; omega⟩, by dsimp only; omega, ?_⟩
          rw [← hm]
          exact Le_mk ⟨ACoe.refl _, rfl, ACoe.refl _, rfl, ACoe.refl _, rfl, trivial⟩ trivial
      · refine W_exit ?_
        simp only [decide_eq_false_iff_not] at hb
        have hlh : h = l + 1 := by omega
        subst hlh
        have := rootS_eq ⟨h1, h4, h5⟩
        repeat refine W_seq ?_
        refine' W_run tys_ok EE_ok false false [] rfl ?ap72 ?k72
        case ap72 => repeat' (first | exact True.intro | exact ACoeL.refl _ | assumption | omega | rfl | (dsimp only; omega) | (refine ⟨?_, ?_⟩) | intro (_ : _ = true))
        refine W_ret ⟨_, _, rfl, ?_, (by simp only [RootS, ‹within n _ _ = true›, cond_true, this]; exact ACoe.refl _)⟩
        · repeat' (first | exact True.intro | exact ACoeL.refl _ | assumption | omega | rfl | (dsimp only; omega) | (refine ⟨?_, ?_⟩) | intro (_ : _ = true))

def arriveS (t v x : Int) : Int := rootS (t * t + (x * x).tdiv (v * v))
structure ArrB (t v x : Int) : Prop where
  t0 : 0 ≤ t
  t1 : t ≤ 63
  v0 : 1 ≤ v
  v1 : v ≤ 1000
  x0 : 0 ≤ x
  x1 : x ≤ 4096
structure ArrF (t v x : Int) : Prop where
  tt : 0 ≤ t * t ∧ t * t ≤ 3969
  vv : 1 ≤ v * v ∧ v * v ≤ 1000000
  xx : 0 ≤ x * x ∧ x * x ≤ 16777216
  q : 0 ≤ (x * x).tdiv (v * v) ∧ (x * x).tdiv (v * v) ≤ 16777216
theorem ArrB.f {t v x : Int} (h : ArrB t v x) : ArrF t v x := by
  obtain ⟨a, b, c, d, e, f⟩ := h
  have h1 := mul_bound (a := t) (b := t) (A := 63) (B := 63) (by omega) (by omega) (by omega) (by omega)
  have h2 := mul_bound (a := v) (b := v) (A := 1000) (B := 1000) (by omega) (by omega) (by omega) (by omega)
  have h3 := mul_bound (a := x) (b := x) (A := 4096) (B := 4096) (by omega) (by omega) (by omega) (by omega)
  have h4 : 0 ≤ t * t := Int.mul_nonneg a a
  have h5 : 0 ≤ x * x := Int.mul_nonneg e e
  have h6 : 1 * 1 ≤ v * v := Int.mul_le_mul c c (by decide) (by omega)
  have h7 := tdiv_bound (a := x * x) (b := v * v) (A := 16777216) (by omega) (by omega) (by omega)
  refine ⟨⟨h4, by omega⟩, ⟨by omega, by omega⟩, ⟨h5, by omega⟩, ?_, h7.2⟩
  rw [Int.tdiv_eq_ediv_of_nonneg h5]
  exact Int.ediv_nonneg h5 (by omega)
theorem ArrB.root {t v x : Int} (h : ArrB t v x) : RootS (t * t + (x * x).tdiv (v * v)) = (arriveS t v x, 0) := by
  have := h.f.tt; have := h.f.q
  have hw : within (t * t + (x * x).tdiv (v * v)) 0 1099511627776 = true := within_iff.2 ⟨by omega, by omega⟩
  simp [RootS, hw, arriveS]
theorem ArrB.le {t v x : Int} (h : ArrB t v x) : t ≤ arriveS t v x ∧ arriveS t v x ≤ 4097 := by
  have := h.f.tt; have := h.f.q
  exact ⟨rootS_ge h.t0 (by omega), rootS_le (by omega) (by decide) (by omega)⟩

theorem ArrB.pr {t v x : Int} (h : ArrB t v x) : Pure Tryd.prog GG 84 [I (t * t + (x * x).tdiv (v * v))] (.tup [I (arriveS t v x), I 0]) := by
  have := Root_ok (t * t + (x * x).tdiv (v * v))
  rwa [h.root] at this
theorem ArrB.prR {t v x : Int} (h : ArrB t v x) : Pure Tryd.prog GG 85 [I (t * t + (x * x).tdiv (v * v))] (.tup [I (arriveS t v x), I 0]) := by
  have := RootR_ok (t * t + (x * x).tdiv (v * v))
  rwa [h.root] at this

theorem arrive_ok (t v x : Int) (h : ArrB t v x) : Pure Tryd.prog GG 47 [I t, I v, I x] (I (arriveS t v x)) := by
  have h1 := h.f.tt; have h2 := h.f.vv; have h3 := h.f.xx; have h4 := h.f.q
  refine Pure.fn tys_ok Tryd.func47 (by kernel_rfl) rfl rfl fun O => ?_
  repeat refine W_seq ?_
  refine' W_run tys_ok EE_ok false false [] rfl ?ap75 ?k75
  case ap75 => repeat' (first | exact True.intro | exact ACoeL.refl _ | assumption | omega | rfl | (dsimp only; omega) | (refine ⟨?_, ?_⟩) | intro (_ : _ = true))
  repeat refine W_seq ?_
  refine' W_run tys_ok EE_ok false false [Hint.of h.pr] rfl ?ap76 ?k76
  case ap76 => repeat' (first | exact True.intro | exact ACoeL.refl _ | assumption | omega | rfl | (dsimp only; omega) | (refine ⟨?_, ?_⟩) | intro (_ : _ = true))
  repeat refine W_seq ?_
  refine' W_run tys_ok EE_ok false false [] rfl ?ap77 ?k77
  case ap77 => repeat' (first | exact True.intro | exact ACoeL.refl _ | assumption | omega | rfl | (dsimp only; omega) | (refine ⟨?_, ?_⟩) | intro (_ : _ = true))
  refine W_ret ⟨_, _, rfl, ?_, ACoe.refl _⟩
  · repeat' (first | exact True.intro | exact ACoeL.refl _ | assumption | omega | rfl | (dsimp only; omega) | (refine ⟨?_, ?_⟩) | intro (_ : _ = true))
theorem arriveR_ok (t v x : Int) (h : ArrB t v x) : Pure Tryd.prog GG 48 [I t, I v, I x] (I (arriveS t v x)) := by
  have h1 := h.f.tt; have h2 := h.f.vv; have h3 := h.f.xx; have h4 := h.f.q
  refine Pure.fn tys_ok Tryd.func48 (by kernel_rfl) rfl rfl fun O => ?_
  repeat refine W_seq ?_
  refine' W_run tys_ok EE_ok false false [] rfl ?ap80 ?k80
  case ap80 => repeat' (first | exact True.intro | exact ACoeL.refl _ | assumption | omega | rfl | (dsimp only; omega) | (refine ⟨?_, ?_⟩) | intro (_ : _ = true))
  repeat refine W_seq ?_
  refine' W_run tys_ok EE_ok false false [Hint.of h.prR] rfl ?ap81 ?k81
  case ap81 => repeat' (first | exact True.intro | exact ACoeL.refl _ | assumption | omega | rfl | (dsimp only; omega) | (refine ⟨?_, ?_⟩) | intro (_ : _ = true))
  repeat refine W_seq ?_
  refine' W_run tys_ok EE_ok false false [] rfl ?ap82 ?k82
  case ap82 => repeat' (first | exact True.intro | exact ACoeL.refl _ | assumption | omega | rfl | (dsimp only; omega) | (refine ⟨?_, ?_⟩) | intro (_ : _ = true))
  refine W_ret ⟨_, _, rfl, ?_, ACoe.refl _⟩
  · repeat' (first | exact True.intro | exact ACoeL.refl _ | assumption | omega | rfl | (dsimp only; omega) | (refine ⟨?_, ?_⟩) | intro (_ : _ = true))
end Go.Proofs.YtobpnmljijeadaaDoor.A
