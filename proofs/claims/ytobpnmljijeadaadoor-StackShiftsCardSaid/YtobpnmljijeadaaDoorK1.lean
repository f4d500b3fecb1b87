/- Part 1 of what the laws of this seat lean on: A1, A2, A3, A4, A5, A6, A7, A8, A9. -/
import Derived.RangeFuncNested
import Derived.RangeFuncLeaves
import Derived.OrdersIn
import Derived.WalkKit
import Derived.KernelRfl
import Derived.Below
import Derived.Laws.AppendOwn
import Derived.Laws.OwnMore
import Derived.Laws.MakeOwn
import Derived.Laws.Slices
import Derived.WalkSpells
import Derived.Deep.AppendSrc
/- Abstract states for walks: values by what they hold, owned objects, and when they are met by a world. No program is in sight here. -/
namespace Go.Proofs.YtobpnmljijeadaaDoor.A
open Go

/-- Values that no write can turn: their memory is read only. -/
inductive PV where
  | v (x : Value)
  | ro (sz n : Nat) (f : Nat → List PV)
  | rp (cs : List PV) (off : Nat)
  | fn (f : Fn) (first cap : List PV)
  | nl (n : Nat)

/-- Values, with the objects of the call's own by their numbers. -/
inductive AV where
  | p (x : PV)
  | bp (k off : Nat)
  | row (k sz n : Nat)
  | view (k sz n lo len : Nat)
  | ep (k sz n i off : Nat)
  | mp (k : Nat)
  | agg (cs : List AV)
  | fn (f : Fn) (first cap : List AV)
  | tup (vs : List AV)
  | ifb (b : Bool) (x : AV)
  | any

/-- The call's own objects. -/
inductive AObj where
  | box (cs : List AV)
  | row (e sz n : Nat) (f : Nat → List AV)
  | map (kt et : Nat) (m : List Int)
  | fg (i : Nat) (st : Bool)
  | dead

/-- Where an object lies. -/
structure Loc where
  v : Value
  z : Nat → Prop

def Loc.blk (l : Loc) : Option Nat :=
  match l.v with
  | .pointer (some a) => some a.block
  | .slice (some a) _ _ => some a.block
  | .map (some r) => some r
  | _ => none

def get {α : Type} : List (Nat × α) → Nat → Option α
  | [], _ => none
  | (k, x) :: r, t => match Nat.beq k t with
    | true => some x
    | false => get r t

/-- The call's own objects, the newest account of each first. -/
structure Sto where
  nx : Nat
  m : List (Nat × AObj)

def Sto.at (S : Sto) (k : Nat) : Option AObj := get S.m k

def AObj.live : AObj → Bool
  | .dead => false
  | _ => true

def owns (S : Sto) (ρ : Nat → Loc) (b : Nat) : Prop := ∃ k o, S.at k = some o ∧ o.live = true ∧ ((ρ k).blk = some b ∨ (ρ k).z b)

/-- Owned: by the call itself, or by those that wait for it. -/
def ownS (O : Nat → Prop) (S : Sto) (ρ : Nat → Loc) (b : Nat) : Prop := O b ∨ owns S ρ b

inductive PR (w : World) (own : Nat → Prop) : PV → Value → Prop
  | v (x : Value) : PR w own (.v x) x
  | ro (sz n cap : Nat) (f : Nat → List PV) (a : Option Addr) (g : Nat → Nat → Value) (hc : n ≤ cap) (hz : 0 < sz)
      (hl : ∀ i, i < n → (f i).length = sz)
      (hm : 0 < n → ∃ b o, a = some ⟨b, o, none⟩ ∧ ¬ own b ∧ ∀ i j, i < n → j < sz → w.cell? ⟨b, o + (i * sz + j), none⟩ = some (g i j))
      (h1 : ∀ i j, i < n → j < sz → (g i j).oneCell' = true)
      (hr : ∀ i j, i < n → j < sz → PR w own ((f i).getD j (.v undef)) (g i j)) : PR w own (.ro sz n f) (.slice a n cap)
  | rp (cs : List PV) (off : Nat) (b o : Nat) (g : Nat → Value)
      (hm : ∀ j, j < cs.length → w.cell? ⟨b, o + j, none⟩ = some (g j) ∧ ¬ own b)
      (hr : ∀ j, j < cs.length → PR w own (cs.getD j (.v undef)) (g j)) : PR w own (.rp cs off) (.pointer (some ⟨b, o + off, none⟩))
  | fn (f : Fn) (first cap : List PV) (a b : List Value) (ha : a.length = first.length) (hb : b.length = cap.length)
      (hra : ∀ j, j < first.length → PR w own (first.getD j (.v undef)) (a.getD j undef))
      (hrb : ∀ j, j < cap.length → PR w own (cap.getD j (.v undef)) (b.getD j undef)) : PR w own (.fn f first cap) (.func f a.toArray b.toArray)

  | nl (n : Nat) (b : Bool) (h : b = true → n = 0) : PR w own (.nl n) (.bool b)

inductive VR (O : Nat → Prop) (S : Sto) (ρ : Nat → Loc) (w : World) : AV → Value → Prop
  | p {x : PV} {v : Value} (h : PR w (ownS O S ρ) x v) : VR O S ρ w (.p x) v
  | bp (k off : Nat) (a : Option Addr) (hk : (S.at k).isSome = true) (h : ∀ cs, S.at k = some (.box cs) → ∃ b, (ρ k).v = .pointer (some ⟨b, 0, none⟩) ∧ a = some ⟨b, off, none⟩) : VR O S ρ w (.bp k off) (.pointer a)
  | row (k sz n : Nat) (a : Option Addr) (l c : Nat) (hk : (S.at k).isSome = true) (h : ∀ e m f, S.at k = some (.row e sz m f) → n ≤ m ∧ (n = m → .slice a l c = (ρ k).v)) : VR O S ρ w (.row k sz n) (.slice a l c)
  | view (k sz n lo len : Nat) (a : Option Addr) (l c : Nat) (hk : (S.at k).isSome = true)
      (h : ∀ e m f, S.at k = some (.row e sz m f) → n ≤ m ∧ (n = m → l = len ∧ len ≤ c ∧ (0 < len → ∃ b n' c', (ρ k).v = .slice (some ⟨b, 0, none⟩) n' c' ∧ a = some ⟨b, lo * sz, none⟩))) : VR O S ρ w (.view k sz n lo len) (.slice a l c)
  | ep (k sz n i off : Nat) (a : Option Addr) (hk : (S.at k).isSome = true) (h : ∀ e m f, S.at k = some (.row e sz m f) → n ≤ m ∧ (n = m → ∃ b n' c, (ρ k).v = .slice (some ⟨b, 0, none⟩) n' c ∧ a = some ⟨b, i * sz + off, none⟩)) : VR O S ρ w (.ep k sz n i off) (.pointer a)
  | mp (k : Nat) (r : Option Nat) (hk : (S.at k).isSome = true) (h : ∀ kt et m, S.at k = some (.map kt et m) → (ρ k).v = .map r) : VR O S ρ w (.mp k) (.map r)
  | agg (cs : List AV) (vs : List Value) (hl : vs.length = cs.length) (h : ∀ j, j < cs.length → VR O S ρ w (cs.getD j .any) (vs.getD j undef)) : VR O S ρ w (.agg cs) (.agg vs.toArray)
  | fn (f : Fn) (first cap : List AV) (a b : List Value) (ha : a.length = first.length) (hb : b.length = cap.length)
      (hra : ∀ j, j < first.length → VR O S ρ w (first.getD j .any) (a.getD j undef))
      (hrb : ∀ j, j < cap.length → VR O S ρ w (cap.getD j .any) (b.getD j undef)) : VR O S ρ w (.fn f first cap) (.func f a.toArray b.toArray)
  | tup (cs : List AV) (vs : List Value) (hl : vs.length = cs.length) (h : ∀ j, j < cs.length → VR O S ρ w (cs.getD j .any) (vs.getD j undef)) : VR O S ρ w (.tup cs) (.tuple vs.toArray)
  | ifb (b : Bool) (x : AV) (v : Value) (h : b = true → VR O S ρ w x v) (h' : b = false → v = undef) : VR O S ρ w (.ifb b x) v
  | any (v : Value) : VR O S ρ w .any v

/-- What stands ready for a whole place: how globals read, and what a foreign part of memory holds. -/
structure Ctx where
  G : Nat → Option (List PV)
  Φ : Nat → Bool → (Nat → Prop) → World → Prop
  sh : Nat → Prop
  Φk : ∀ i b z w w', Φ i b z w → (∀ k, z k ∨ sh k → w'.heap[k]? = w.heap[k]?) → w.heap.size ≤ w'.heap.size → Φ i b z w'
  Φz : ∀ i b z w, Φ i b z w → ∀ k, z k → k < w.heap.size

/-- A map from whole numbers to truths holds just these numbers, each as true. -/
def MapIs (w : World) (r : Nat) (m : List Int) : Prop :=
  ∃ es clock, w.heap[r]? = some (.map es clock) ∧ es.toList.map (fun e => (e.key, e.val)) = m.map (fun n => (Value.int .i64 n, Value.bool true))

def ObjOk (O : Nat → Prop) (Γ : Ctx) (S : Sto) (ρ : Nat → Loc) (w : World) (l : Loc) : AObj → Prop
  | .box cs => ∃ b e vs, l.v = .pointer (some ⟨b, 0, none⟩) ∧ w.heap[b]? = some (.cells vs e (0, 0)) ∧ vs.size = cs.length ∧ (∀ j, j < cs.length → VR O S ρ w (cs.getD j .any) (vs.getD j undef)) ∧ ∀ k, ¬ l.z k
  | .row e sz n f => (∃ xs, w.ownsRow 0 e sz l.v n xs ∧ (∀ x ∈ xs, x.oneCell' = true) ∧ ∀ i, i < n → (f i).length = sz ∧ ∀ j, j < sz → VR O S ρ w ((f i).getD j .any) (xs.getD (i * sz + j) undef)) ∧ ∀ k, ¬ l.z k
  | .map _ _ m => (∃ r, l.v = .map (some r) ∧ MapIs w r m) ∧ ∀ k, ¬ l.z k
  | .fg i b => Γ.Φ i b l.z w ∧ l.blk = none
  | .dead => True

structure St (O : Nat → Prop) (Γ : Ctx) (S : Sto) (ρ : Nat → Loc) (w : World) : Prop where
  objs : ∀ k o, S.at k = some o → ObjOk O Γ S ρ w (ρ k) o
  disj : ∀ k k' o o' b, S.at k = some o → S.at k' = some o' → o.live = true → o'.live = true → ((ρ k).blk = some b ∨ (ρ k).z b) → ((ρ k').blk = some b ∨ (ρ k').z b) → k = k'
  glob : ∀ g cs, Γ.G g = some cs → PR w (ownS O S ρ) (.rp cs 0) (.pointer (some ⟨g, 0, none⟩))
  outer : ∀ b, O b → b < w.heap.size ∧ ¬ owns S ρ b
  shared : ∀ b, Γ.sh b → b < w.heap.size ∧ ¬ owns S ρ b

/-- How an object may turn. -/
def AObj.to (l l' : Loc) : AObj → AObj → Prop
  | _, .dead => True
  | .box _, .box _ => l' = l
  | .row e sz n _, .row e' sz' n' _ => e' = e ∧ sz' = sz ∧ n ≤ n' ∧ (n' = n → l' = l)
  | .map kt et _, .map kt' et' _ => kt' = kt ∧ et' = et ∧ l' = l
  | .fg _ _, .fg _ _ => True
  | _, _ => False

/-- How objects and world may turn. -/
structure Evo (S : Sto) (ρ : Nat → Loc) (w : World) (S' : Sto) (ρ' : Nat → Loc) (w' : World) : Prop where
  os : w'.os = w.os
  tape : w'.tape = w.tape
  output : w'.output = w.output
  size : w.heap.size ≤ w'.heap.size
  keep : ∀ b, b < w.heap.size → ¬ owns S ρ b → w'.heap[b]? = w.heap[b]?
  own : ∀ b, b < w.heap.size → owns S' ρ' b → owns S ρ b
  obj : ∀ k o, S.at k = some o → ∃ o', S'.at k = some o' ∧ o.to (ρ k) (ρ' k) o'

theorem Evo.refl (S : Sto) (ρ : Nat → Loc) (w : World) : Evo S ρ w S ρ w :=
  ⟨rfl, rfl, rfl, Nat.le_refl _, fun _ _ _ => rfl, fun _ _ h => h, fun k o' h => ⟨o', h, by cases o' <;> simp [AObj.to]⟩⟩

theorem AObj.to_trans {l l' l'' : Loc} {a b c : AObj} (h : a.to l l' b) (h' : b.to l' l'' c) : a.to l l'' c := by
  cases a <;> cases b <;> cases c <;> simp only [AObj.to] at h h' ⊢ <;> first
    | (exact h.elim) | (exact h'.elim) | (exact h'.trans h) | skip
  · obtain ⟨rfl, rfl, h1, h2⟩ := h
    obtain ⟨rfl, rfl, h3, h4⟩ := h'
    refine ⟨rfl, rfl, by omega, fun e => ?_⟩
    rw [h4 (by omega), h2 (by omega)]
  · obtain ⟨rfl, rfl, h1⟩ := h
    obtain ⟨rfl, rfl, h3⟩ := h'
    exact ⟨rfl, rfl, h3.trans h1⟩

theorem Evo.trans {S S' S'' : Sto} {ρ ρ' ρ'' : Nat → Loc} {w w' w'' : World} (h : Evo S ρ w S' ρ' w') (h' : Evo S' ρ' w' S'' ρ'' w'') : Evo S ρ w S'' ρ'' w'' where
  os := h'.os.trans h.os
  tape := h'.tape.trans h.tape
  output := h'.output.trans h.output
  size := Nat.le_trans h.size h'.size
  keep b hb ho := (h'.keep b (Nat.lt_of_lt_of_le hb h.size) (fun hh => ho (h.own b hb hh))).trans (h.keep b hb ho)
  own b hb ho := h.own b hb (h'.own b (Nat.lt_of_lt_of_le hb h.size) ho)
  obj k o ho := by
    obtain ⟨o1, h1, t1⟩ := h.obj k o ho
    obtain ⟨o2, h2, t2⟩ := h'.obj k o1 h1
    exact ⟨o2, h2, AObj.to_trans t1 t2⟩

/-- An object that stands has stood before as it might. -/
theorem Evo.back {S S' : Sto} {ρ ρ' : Nat → Loc} {w w' : World} (h : Evo S ρ w S' ρ' w') {k : Nat} (hk : (S.at k).isSome = true) {o' : AObj} (ho : S'.at k = some o') : ∃ o, S.at k = some o ∧ o.to (ρ k) (ρ' k) o' := by
  obtain ⟨o, hs⟩ := Option.isSome_iff_exists.1 hk
  obtain ⟨o2, h2, t⟩ := h.obj k o hs
  rw [ho, Option.some.injEq] at h2
  subst h2
  exact ⟨o, hs, t⟩
theorem Evo.some {S S' : Sto} {ρ ρ' : Nat → Loc} {w w' : World} (h : Evo S ρ w S' ρ' w') {k : Nat} (hk : (S.at k).isSome = true) : (S'.at k).isSome = true := by
  obtain ⟨o, hs⟩ := Option.isSome_iff_exists.1 hk
  obtain ⟨o2, h2, t⟩ := h.obj k o hs
  rw [h2]; rfl

theorem cell_lt {w : World} {a : Addr} {v : Value} (h : w.cell? a = some v) : a.block < w.heap.size := World.block_lt_of_cell? w a h

theorem Evo.ownS {O : Nat → Prop} {S S' : Sto} {ρ ρ' : Nat → Loc} {w w' : World} (h : Evo S ρ w S' ρ' w') {b : Nat} (hb : b < w.heap.size) (ho : ownS O S' ρ' b) : ownS O S ρ b := ho.imp id (h.own b hb)

/-- Read-only values stay what they are. -/
theorem PR.evo {O : Nat → Prop} {S S' : Sto} {ρ ρ' : Nat → Loc} {w w' : World} (h : Evo S ρ w S' ρ' w') {x : PV} {v : Value} (hx : PR w (ownS O S ρ) x v) : PR w' (ownS O S' ρ') x v := by
  induction hx with
  | v x => exact .v x
  | ro sz n cap f a g hc hz hl hm h1 hr ih =>
    refine .ro sz n cap f a g hc hz hl (fun hn => ?_) h1 (fun i j hi hj => ih i j hi hj)
    obtain ⟨b, o, rfl, hno, hcell⟩ := hm hn
    have hlt : b < w.heap.size := cell_lt (hcell 0 0 hn hz)
    refine ⟨b, o, rfl, fun ho => hno (h.ownS hlt ho), fun i j hi hj => ?_⟩
    rw [← hcell i j hi hj]
    exact World.cell?_of_block (h.keep _ hlt (fun ho => hno (.inr ho)))
  | rp cs off b o g hm hr ih =>
    refine .rp cs off b o g (fun j hj => ?_) (fun j hj => ih j hj)
    obtain ⟨hcell, hno⟩ := hm j hj
    have hlt : b < w.heap.size := cell_lt hcell
    refine ⟨?_, fun ho => hno (h.ownS hlt ho)⟩
    rw [← hcell]
    exact World.cell?_of_block (h.keep _ hlt (fun ho => hno (.inr ho)))
  | fn f first cap a b ha hb hra hrb iha ihb => exact .fn f first cap a b ha hb iha ihb
  | nl n b h => exact .nl n b h

theorem AObj.to_row {l l' : Loc} {o : AObj} {e sz m : Nat} {f : Nat → List AV} (h : o.to l l' (.row e sz m f)) : ∃ m1 f1, o = .row e sz m1 f1 ∧ m1 ≤ m ∧ (m = m1 → l' = l) := by
  cases o with
  | row e1 sz1 n1 f1 => obtain ⟨rfl, rfl, h1, h2⟩ := h; exact ⟨n1, f1, rfl, h1, h2⟩
  | _ => simp only [AObj.to] at h
theorem AObj.to_box {l l' : Loc} {o : AObj} {cs : List AV} (h : o.to l l' (.box cs)) : ∃ cs1, o = .box cs1 ∧ l' = l := by
  cases o with
  | box c1 => exact ⟨c1, rfl, h⟩
  | _ => simp only [AObj.to] at h
theorem AObj.to_map {l l' : Loc} {o : AObj} {kt et : Nat} {m : List Int} (h : o.to l l' (.map kt et m)) : ∃ m1, o = .map kt et m1 ∧ l' = l := by
  cases o with
  | map a b c => obtain ⟨rfl, rfl, h1⟩ := h; exact ⟨c, rfl, h1⟩
  | _ => simp only [AObj.to] at h

/-- All values stay what they are. -/
theorem VR.evo {O : Nat → Prop} {S S' : Sto} {ρ ρ' : Nat → Loc} {w w' : World} (h : Evo S ρ w S' ρ' w') {x : AV} {v : Value} (hx : VR O S ρ w x v) : VR O S' ρ' w' x v := by
  induction hx with
  | p hp => exact .p (hp.evo h)
  | bp k off a hk hh =>
    refine .bp k off a (h.some hk) (fun cs hcs => ?_)
    obtain ⟨o, ho, ht⟩ := h.back hk hcs
    obtain ⟨c1, rfl, hl⟩ := AObj.to_box ht
    rw [hl]; exact hh _ ho
  | row k sz n a l c hk hh =>
    refine .row k sz n a l c (h.some hk) (fun e m f hcs => ?_)
    obtain ⟨o, ho, ht⟩ := h.back hk hcs
    obtain ⟨m1, f1, rfl, h1, h2⟩ := AObj.to_row ht
    obtain ⟨h3, h4⟩ := hh _ _ _ ho
    exact ⟨by omega, fun e => by rw [h2 (by omega)]; exact h4 (by omega)⟩
  | view k sz n lo len a l c hk hh =>
    refine .view k sz n lo len a l c (h.some hk) (fun e m f hcs => ?_)
    obtain ⟨o, ho, ht⟩ := h.back hk hcs
    obtain ⟨m1, f1, rfl, h1, h2⟩ := AObj.to_row ht
    obtain ⟨h3, h4⟩ := hh _ _ _ ho
    exact ⟨by omega, fun e => by rw [h2 (by omega)]; exact h4 (by omega)⟩
  | ep k sz n i off a hk hh =>
    refine .ep k sz n i off a (h.some hk) (fun e m f hcs => ?_)
    obtain ⟨o, ho, ht⟩ := h.back hk hcs
    obtain ⟨m1, f1, rfl, h1, h2⟩ := AObj.to_row ht
    obtain ⟨h3, h4⟩ := hh _ _ _ ho
    exact ⟨by omega, fun e => by rw [h2 (by omega)]; exact h4 (by omega)⟩
  | mp k r hk hh =>
    refine .mp k r (h.some hk) (fun kt et m hcs => ?_)
    obtain ⟨o, ho, ht⟩ := h.back hk hcs
    obtain ⟨m1, rfl, hl⟩ := AObj.to_map ht
    rw [hl]; exact hh _ _ _ ho
  | agg cs vs hl hh ih => exact .agg cs vs hl ih
  | fn f first cap a b ha hb hra hrb iha ihb => exact .fn f first cap a b ha hb iha ihb
  | tup cs vs hl hh ih => exact .tup cs vs hl ih
  | ifb b x v hh h' ih => exact .ifb b x v ih h'
  | any v => exact .any v
end Go.Proofs.YtobpnmljijeadaaDoor.A

/- What a piece of code does, said over abstract states; the rules for pieces put together. -/
namespace Go.Proofs.YtobpnmljijeadaaDoor.A
open Go

structure Env where
  e : List (Nat × AV)
  S : Sto

def EnvOk (O : Nat → Prop) (σ : Env) (ρ : Nat → Loc) (a : Act) (w : World) : Prop := ∀ t v, get σ.e t = some v → VR O σ.S ρ w v (a.tmps.getD t undef)

def mark (D : Nat) : Deferred := { target := .collected D, args := #[] }

structure Marks (own : Nat → Prop) (B : Nat) (w : World) (ds : List Deferred) : Prop where
  all : ∃ Ds : List Nat, ds = Ds.map mark ∧ Ds.Nodup ∧ ∀ D, D ∈ Ds → B ≤ D ∧ w.heap[D]? = some (.deferred (some [])) ∧ ¬ own D

structure Rel (O : Nat → Prop) (Γ : Ctx) (N B : Nat) (σ : Env) (ρ : Nat → Loc) (a : Act) (w : World) : Prop where
  st : St O Γ σ.S ρ w
  env : EnvOk O σ ρ a w
  size : a.tmps.size = N
  base : B ≤ w.heap.size
  marks : Marks (ownS O σ.S ρ) B w a.defers
  dom : ∀ k o, σ.S.at k = some o → k < σ.S.nx
  low : ∀ b, Γ.sh b → b < B

def Fw (r : Option Nat) : Fence := { Fence.wide with round := r }
theorem Fw_none : Fw none = Fence.wide := rfl

/-- What stands behind a piece of code. -/
def After (O : Nat → Prop) (Γ : Ctx) (N B : Nat) (Q : Exit → Env → Prop) (S : Sto) (ρ : Nat → Loc) (w : World) (e : Exit) (a' : Act) (w' : World) : Prop :=
  e ≠ .outgrown ∧ ∃ σ' ρ', Q e σ' ∧ Rel O Γ N B σ' ρ' a' w' ∧ Evo S ρ w σ'.S ρ' w'

def W (P : Program) (O : Nat → Prop) (Γ : Ctx) (N : Nat) (r : Option Nat) (c : Code) (Q : Exit → Env → Prop) (σ : Env) : Prop :=
  ∀ n B ρ a w, Rel O Γ N B σ ρ a w → c.wpIn (Fw r) n P (After O Γ N B Q σ.S ρ w) a w

section
variable {P : Program} {O : Nat → Prop} {Γ : Ctx} {N : Nat} {r : Option Nat} {Q Q' : Exit → Env → Prop} {σ σ' : Env}

theorem After.mono {B : Nat} {S S1 : Sto} {ρ ρ1 : Nat → Loc} {w w1 : World} {e : Exit} {a' : Act} {w' : World} (he : Evo S ρ w S1 ρ1 w1) (hq : ∀ σ, Q e σ → Q' e σ)
    (h : After O Γ N B Q S1 ρ1 w1 e a' w') : After O Γ N B Q' S ρ w e a' w' := by
  obtain ⟨h0, σ', ρ', h1, h2, h3⟩ := h
  exact ⟨h0, σ', ρ', hq _ h1, h2, he.trans h3⟩

theorem W.mono {c : Code} (h : W P O Γ N r c Q σ) (hq : ∀ e σ, Q e σ → Q' e σ) : W P O Γ N r c Q' σ := fun n B ρ a w hr =>
  wpIn_mono (h n B ρ a w hr) (fun _ _ _ ha => After.mono (Evo.refl _ _ _) (hq _) ha)

theorem W_skip (h : Q .normal σ) : W P O Γ N r .skip Q σ := fun _ _ ρ _ _ hr => wpIn_skip ⟨by simp, σ, ρ, h, hr, Evo.refl _ _ _⟩
theorem W_label {l : Nat} (h : Q .normal σ) : W P O Γ N r (.label l) Q σ := fun _ _ ρ _ _ hr => wpIn_label ⟨by simp, σ, ρ, h, hr, Evo.refl _ _ _⟩
theorem W_exit {id : Nat} (h : Q (.exit id) σ) : W P O Γ N r (.exit id) Q σ := fun _ _ ρ _ _ hr => wpIn_exit ⟨by simp, σ, ρ, h, hr, Evo.refl _ _ _⟩
theorem W_goto {l : Nat} (h : Q (.goto l) σ) : W P O Γ N r (.goto l) Q σ := fun _ _ ρ _ _ hr => wpIn_goto ⟨by simp, σ, ρ, h, hr, Evo.refl _ _ _⟩
theorem W_ret (h : Q .ret σ) : W P O Γ N r .ret Q σ := fun _ _ ρ _ _ hr => wpIn_ret ⟨by simp, σ, ρ, h, hr, Evo.refl _ _ _⟩

/-- What stands behind the first of two. -/
def andThen (K : Env → Prop) (Q : Exit → Env → Prop) : Exit → Env → Prop
  | .normal, σ => K σ
  | e, σ => Q e σ

theorem W_seq {x y : Code} (h : W P O Γ N r x (andThen (W P O Γ N r y Q) Q) σ) : W P O Γ N r (.seq x y) Q σ := fun n B ρ a w hr => by
  refine wpIn_seq (wpIn_mono (h n B ρ a w hr) ?_)
  rintro e a' w' ⟨h0, σ', ρ', hq, hr', he⟩
  cases e with
  | normal => exact wpIn_mono (hq n B ρ' a' w' hr') (fun e2 a2 w2 h2 => After.mono he (fun _ h => h) h2)
  | outgrown => exact absurd rfl h0
  | _ => exact ⟨h0, σ', ρ', hq, hr', he⟩

theorem W_seq_k {x y : Code} (h : ∀ K : Env → Prop, (∀ σ, W P O Γ N r y Q σ → K σ) → W P O Γ N r x (andThen K Q) σ) : W P O Γ N r (.seq x y) Q σ := W_seq (h _ (fun _ h => h))

def ofBlock (id : Nat) (Q : Exit → Env → Prop) : Exit → Env → Prop
  | .exit i, σ => match Nat.beq i id with
    | true => Q .normal σ
    | false => Q (.exit i) σ
  | e, σ => Q e σ

theorem W_block {id : Nat} {c : Code} (h : W P O Γ N r c (ofBlock id Q) σ) : W P O Γ N r (.block id c) Q σ := fun n B ρ a w hr => by
  refine wpIn_block (wpIn_mono (h n B ρ a w hr) ?_)
  rintro e a' w' ⟨h0, σ', ρ', hq, hr', he⟩
  cases e with
  | exit i =>
    simp only [Exit.inBlock]
    by_cases hi : i = id
    · subst hi
      simp [ofBlock] at hq
      simp only [if_true]
      exact ⟨by simp, σ', ρ', hq, hr', he⟩
    · have : Nat.beq i id = false := by rw [Bool.eq_false_iff]; intro h; exact hi (Nat.eq_of_beq_eq_true h)
      simp only [ofBlock, this] at hq
      rw [if_neg hi]
      exact ⟨by simp, σ', ρ', hq, hr', he⟩
  | _ => exact ⟨h0, σ', ρ', hq, hr', he⟩

/-- A loop of the machine's, its measure a part of what holds. -/
theorem wpIn_loopN {F : Fence} {n : Nat} {c : Code} {Q : Exit → Act → World → Prop} (I : Nat → Act → World → Prop)
    (round : ∀ m a w, I m a w → c.wpIn F n P (Exit.then (fun a' w' => ∃ m', m' < m ∧ I m' a' w') Q) a w) (m : Nat) (a : Act) (w : World) (h₀ : I m a w) : (Code.loop c).wpIn F n P Q a w := by
  intro b k cs hro hb hr
  have key : ∀ j a w, I j a w →
      ∃ e a' w', Q e a' w' ∧ ArrivesIn (Machine.fenced P F) P (lone (b.atR a (.code c :: .inLoop c :: k)) cs w) b k cs e a' w' := by
    intro j
    induction j using Nat.strongRecOn with
    | _ j ih =>
      intro a w hI
      obtain ⟨e, a₁, w₁, hq, harr⟩ := round j a w hI b (.inLoop c :: k) cs hro hb hr
      cases e with
      | normal =>
        obtain ⟨m', hlt, hI₁⟩ := hq
        obtain ⟨e₂, a₂, w₂, hq₂, harr₂⟩ := ih m' hlt a₁ w₁ hI₁
        exact ⟨e₂, a₂, w₂, hq₂, .of_steps (StepsIn.trans harr (.one (fenced_calm hb hr rfl) stepR_inLoop)) harr₂⟩
      | exit id => exact ⟨_, a₁, w₁, hq, .pass (x := .inLoop c) rfl (fun _ _ => .inl (by simp)) harr⟩
      | goto l => exact ⟨_, a₁, w₁, hq, .pass (x := .inLoop c) rfl (fun _ _ => .inl (by simp)) harr⟩
      | ret => exact ⟨_, a₁, w₁, hq, .pass (x := .inLoop c) rfl (fun _ _ => .inl (by simp)) harr⟩
      | panic ch => exact ⟨_, a₁, w₁, hq, .pass (x := .inLoop c) rfl (fun _ _ => .inl (by simp)) harr⟩
      | outgrown => exact ⟨_, a₁, w₁, hq, .pass (x := .inLoop c) rfl (fun _ _ => .inl (by simp)) harr⟩
  obtain ⟨e, a', w', hq, harr⟩ := key m a w h₀
  exact ⟨e, a', w', hq, .of_steps (.one (fenced_calm hb hr rfl) stepR_loop) harr⟩

/-- What stands in the one stands in the other. -/
def Sub (S S' : Sto) : Prop := ∀ k, (S.at k).isSome = true → (S'.at k).isSome = true
theorem Sub.refl (S : Sto) : Sub S S := fun _ h => h
theorem Sub.trans {S S' S'' : Sto} (h : Sub S S') (h' : Sub S' S'') : Sub S S'' := fun k hk => h' k (h k hk)
/-- The one account holds where the other one does. -/
def Le (σ σ' : Env) : Prop := ∀ O Γ N B ρ a w, Rel O Γ N B σ ρ a w → ∃ ρ', Rel O Γ N B σ' ρ' a w ∧ ∀ S0 ρ0 w0, Sub S0 σ'.S → Evo S0 ρ0 w0 σ.S ρ w → Evo S0 ρ0 w0 σ'.S ρ' w

theorem Le.refl (σ : Env) : Le σ σ := fun _ _ _ _ ρ _ _ h => ⟨ρ, h, fun _ _ _ _ he => he⟩
theorem Le.trans {σ σ1 σ2 : Env} (h : Le σ σ1) (h' : Le σ1 σ2) (hn : Sub σ2.S σ1.S) : Le σ σ2 := fun O Γ N B ρ a w hr => by
  obtain ⟨ρ1, h1, e1⟩ := h O Γ N B ρ a w hr
  obtain ⟨ρ2, h2, e2⟩ := h' O Γ N B ρ1 a w h1
  exact ⟨ρ2, h2, fun S0 ρ0 w0 hs he => e2 S0 ρ0 w0 hs (e1 S0 ρ0 w0 (hs.trans hn) he)⟩

theorem W_le {c : Code} (h : Le σ σ') (hn : Sub σ.S σ'.S) (hW : W P O Γ N r c Q σ') : W P O Γ N r c Q σ := fun n B ρ a w hr => by
  obtain ⟨ρ', h1, h2⟩ := h O Γ N B ρ a w hr
  exact wpIn_mono (hW n B ρ' a w h1) (fun e a' w' ha => After.mono (h2 _ _ _ hn (Evo.refl _ _ _)) (fun _ h => h) ha)

/-- A loop, by what holds at each round's head, and a measure. -/
theorem W_loop {X : Type} {c : Code} (I : X → Env) (Inv : X → Prop) (μ : X → Nat) (x0 : X) (h0 : Inv x0) (hI : Le σ (I x0)) (hn : ∀ x, Sub σ.S (I x).S)
    (round : ∀ x, Inv x → W P O Γ N r c (andThen (fun σ' => ∃ x', Inv x' ∧ μ x' < μ x ∧ Le σ' (I x')) Q) (I x)) : W P O Γ N r (.loop c) Q σ := fun n B ρ a w hr => by
  obtain ⟨ρ1, hr1, he1⟩ := hI O Γ N B ρ a w hr
  refine wpIn_loopN (fun m a' w' => ∃ x ρ', m = μ x ∧ Inv x ∧ Rel O Γ N B (I x) ρ' a' w' ∧ Evo σ.S ρ w (I x).S ρ' w') ?_ (μ x0) a w ⟨x0, ρ1, rfl, h0, hr1, he1 _ _ _ (hn _) (Evo.refl _ _ _)⟩
  rintro m a' w' ⟨x, ρ', rfl, hx, hr', he'⟩
  refine wpIn_mono (round x hx n B ρ' a' w' hr') ?_
  rintro e a2 w2 ⟨h2, σ2, ρ2, hq, hr2, he2⟩
  cases e with
  | normal =>
    obtain ⟨x', hx', hlt, hle⟩ := hq
    obtain ⟨ρ3, hr3, he3⟩ := hle O Γ N B ρ2 a2 w2 hr2
    exact ⟨μ x', hlt, x', ρ3, rfl, hx', hr3, he3 _ _ _ (hn _) (he'.trans he2)⟩
  | outgrown => exact absurd rfl h2
  | _ => exact ⟨h2, σ2, ρ2, hq, hr2, he'.trans he2⟩

theorem W_cond {c : Operand} {x y : Code} {b : Bool} (hc : ∀ ρ a w, EnvOk O σ ρ a w → a.eval c = .bool b) (ht : b = true → W P O Γ N r x Q σ) (hf : b = false → W P O Γ N r y Q σ) : W P O Γ N r (.cond c x y) Q σ := fun n B ρ a w hr => by
  refine wpIn_cond_split (hc ρ a w hr.env) (fun h => ht h n B ρ a w hr) (fun h => hf h n B ρ a w hr)
end
end Go.Proofs.YtobpnmljijeadaaDoor.A

/- One operation over abstract states: operands, types, arithmetic. -/
set_option linter.unusedVariables false
set_option linter.unusedSimpArgs false
namespace Go.Proofs.YtobpnmljijeadaaDoor.A
open Go

/-! ### Types -/
inductive TD where
  | int (k : IntKind)
  | bool
  | str
  | slice (e : Nat)
  | arr (n e : Nat)
  | struct (fs : List (Nat × Nat))
  | ptr (e : Nat)
  | map (k e : Nat)
  | other

def TD.of : TypeDesc → TD
  | .int k => .int k
  | .bool => .bool
  | .string => .str
  | .slice e => .slice e
  | .array n e => .arr n e
  | .struct fs => .struct (fs.toList.map fun f => (f.offset, f.type))
  | .pointer e => .ptr e
  | .map k e => .map k e
  | _ => .other

def TD.agg : TD → Bool
  | .arr _ _ => true
  | .struct _ => true
  | _ => false

structure TI where
  td : TD
  size : Nat
  bytes : Nat
  zero : List Value

structure TIOk (P : Program) (t : Nat) (i : TI) : Prop where
  td : (P.underlying t).map TD.of = some i.td
  info : ∃ ti z, P.info? t = some ti ∧ ti.size = i.size ∧ ti.bytes = i.bytes ∧ ti.zero = some z ∧ z.cells.toList = i.zero
  len : i.zero.length = i.size
  one : i.zero.all Value.oneCell' = true
  sc : i.td.agg = true ∨ ∃ ti, P.info? t = some ti ∧ ti.zero = some (i.zero.headD undef)

def TOk (P : Program) (T : Nat → Option TI) : Prop := ∀ t i, T t = some i → TIOk P t i

theorem TIOk.und {P : Program} {t : Nat} {i : TI} (h : TIOk P t i) : ∃ d, P.underlying t = some d ∧ TD.of d = i.td := by
  have := h.td
  cases hd : P.underlying t with
  | none => rw [hd] at this; simp at this
  | some d => rw [hd] at this; exact ⟨d, rfl, by simpa using this⟩
theorem TD.of_slice {d : TypeDesc} {e : Nat} (h : TD.of d = .slice e) : d = .slice e := by cases d <;> simp [TD.of] at h ⊢; exact h
theorem TD.of_arr {d : TypeDesc} {n e : Nat} (h : TD.of d = .arr n e) : d = .array n e := by cases d <;> simp [TD.of] at h ⊢; exact h
theorem TD.of_struct {d : TypeDesc} {fs : List (Nat × Nat)} (h : TD.of d = .struct fs) : ∃ f, d = .struct f ∧ f.toList.map (fun f => (f.offset, f.type)) = fs := by cases d <;> simp [TD.of] at h ⊢; exact h
theorem TD.of_str {d : TypeDesc} (h : TD.of d = .str) : d = .string := by cases d <;> simp [TD.of] at h ⊢
theorem TD.of_bool {d : TypeDesc} (h : TD.of d = .bool) : d = .bool := by cases d <;> simp [TD.of] at h ⊢
theorem TD.of_int {d : TypeDesc} {k : IntKind} (h : TD.of d = .int k) : d = .int k := by cases d <;> simp [TD.of] at h ⊢; exact h
theorem TD.of_ptr {d : TypeDesc} {e : Nat} (h : TD.of d = .ptr e) : d = .pointer e := by cases d <;> simp [TD.of] at h ⊢; exact h

def AllP : List Prop → Prop
  | [] => True
  | p :: l => p ∧ AllP l
theorem AllP.append {a b : List Prop} (h : AllP (a ++ b)) : AllP a ∧ AllP b := by
  induction a with
  | nil => exact ⟨trivial, h⟩
  | cons p l ih => exact ⟨⟨h.1, (ih h.2).1⟩, (ih h.2).2⟩

/-! ### Operands -/
def cst : Value → AV
  | .agg cs => .agg (cs.toList.map fun v => .p (.v v))
  | v => .p (.v v)

def ev (G : Nat → Option (List PV)) (e : List (Nat × AV)) : Operand → Option AV
  | .tmp t => get e t
  | .const v => some (cst v)
  | .global g => match G g with
    | some cs => some (.p (.rp cs 0))
    | none => none
  | .func f => some (.p (.fn (.func f) [] []))

theorem getD_map {α β : Type} (f : α → β) (l : List α) (j : Nat) (hj : j < l.length) (d : α) (d' : β) : (l.map f).getD j d' = f (l.getD j d) := by
  simp [List.getD_eq_getElem?_getD, hj]

theorem VR.agg_p (O : Nat → Prop) (S : Sto) (ρ : Nat → Loc) (w : World) (cs : List Value) : VR O S ρ w (.agg (cs.map fun v => .p (.v v))) (.agg cs.toArray) :=
  .agg _ _ (by simp) (fun j hj => by
    rw [getD_map _ _ _ (by simpa using hj) undef]
    exact .p (.v _))

theorem cst_ok (O : Nat → Prop) (S : Sto) (ρ : Nat → Loc) (w : World) (v : Value) : VR O S ρ w (cst v) v := by
  cases v with
  | agg cs => have := VR.agg_p O S ρ w cs.toList; simpa [cst] using this
  | _ => exact .p (.v _)

section
variable {P : Program} {O : Nat → Prop} {Γ : Ctx} {σ : Env} {ρ : Nat → Loc} {a : Act} {w : World}
theorem ev_ok (hs : St O Γ σ.S ρ w) (he : EnvOk O σ ρ a w) {x : Operand} {v : AV} (h : ev Γ.G σ.e x = some v) : VR O σ.S ρ w v (a.eval x) := by
  cases x with
  | tmp t => exact he t v h
  | const c => simp only [ev, Option.some.injEq] at h; subst h; exact cst_ok ..
  | global g =>
    simp only [ev] at h
    cases hg : Γ.G g with
    | none => rw [hg] at h; simp at h
    | some cs => rw [hg] at h; simp only [Option.some.injEq] at h; subst h; exact .p (hs.glob g cs hg)
  | func f =>
    simp only [ev, Option.some.injEq] at h; subst h
    exact .p (.fn (.func f) [] [] [] [] rfl rfl (fun j hj => absurd hj (by simp)) (fun j hj => absurd hj (by simp)))
end

/-- What an operand holds. -/
def HasV (O : Nat → Prop) (Γ : Ctx) (σ : Env) (x : Operand) (u : AV) : Prop := ∀ ρ a w, St O Γ σ.S ρ w → EnvOk O σ ρ a w → VR O σ.S ρ w u (a.eval x)

theorem ev_has {O : Nat → Prop} {Γ : Ctx} {σ : Env} {x : Operand} {u : AV} (h : ev Γ.G σ.e x = some u) : HasV O Γ σ x u := fun _ _ _ hs he => ev_ok hs he h

def evF (G : Nat → Option (List PV)) (e : List (Nat × AV)) (x : Operand) : Option (List Prop × AV) :=
  match ev G e x with
  | some (.ifb c v) => some ([c = true], v)
  | some v => some ([], v)
  | none => none

/-- What one operation gives. -/
def OpOk (P : Program) (O : Nat → Prop) (Γ : Ctx) (σ : Env) (o : Oper) (v : AV) (S' : Sto) : Prop :=
  ∀ ρ a w, St O Γ σ.S ρ w → σ.S.at σ.S.nx = none → EnvOk O σ ρ a w → ∃ nxt w' ρ', (execOp a.eval o).run P w = .ok nxt w' ∧ ((∃ cv, nxt = .value cv ∧ VR O S' ρ' w' v cv) ∨ (nxt = .skip ∧ v = .any)) ∧ St O Γ S' ρ' w' ∧ Evo σ.S ρ w S' ρ' w'

theorem VR.ifb_inv {O : Nat → Prop} {S : Sto} {ρ : Nat → Loc} {w : World} {c : Bool} {x : AV} {v : Value} (h : VR O S ρ w (.ifb c x) v) (hc : c = true) : VR O S ρ w x v := by
  cases h with
  | ifb _ _ _ h _ => exact h hc

theorem evF_has {O : Nat → Prop} {Γ : Ctx} {σ : Env} {x : Operand} {g : List Prop} {u : AV} (h : evF Γ.G σ.e x = some (g, u)) (hg : AllP g) : HasV O Γ σ x u := by
  intro ρ a w hs he
  unfold evF at h
  split at h
  · rename_i c v hv
    simp only [Option.some.injEq, Prod.mk.injEq] at h
    obtain ⟨rfl, rfl⟩ := h
    exact (ev_ok hs he hv).ifb_inv hg.1
  · rename_i v hne hv
    simp only [Option.some.injEq, Prod.mk.injEq] at h
    obtain ⟨rfl, rfl⟩ := h
    exact ev_ok hs he hv
  · simp at h

/-- For what leaves the world alone. -/
theorem OpOk.still {P : Program} {O : Nat → Prop} {Γ : Ctx} {σ : Env} {o : Oper} {v : AV}
    (h : ∀ ρ a w, St O Γ σ.S ρ w → EnvOk O σ ρ a w → ∃ cv, (execOp a.eval o).run P w = .ok (.value cv) w ∧ VR O σ.S ρ w v cv) : OpOk P O Γ σ o v σ.S := fun ρ a w hs _ he => by
  obtain ⟨cv, h1, h2⟩ := h ρ a w hs he
  exact ⟨_, w, ρ, h1, .inl ⟨cv, rfl, h2⟩, hs, Evo.refl _ _ _⟩

/-! ### Whole numbers -/
def rng : IntKind → Int → List Prop
  | .i64, n => [-9223372036854775808 ≤ n ∧ n ≤ 9223372036854775807]
  | .i32, n => [-2147483648 ≤ n ∧ n ≤ 2147483647]
  | .i16, n => [-32768 ≤ n ∧ n ≤ 32767]
  | .i8, n => [-128 ≤ n ∧ n ≤ 127]
  | .u64, n => [0 ≤ n ∧ n ≤ 18446744073709551615]
  | .u32, n => [0 ≤ n ∧ n ≤ 4294967295]
  | .u16, n => [0 ≤ n ∧ n ≤ 65535]
  | .u8, n => [0 ≤ n ∧ n ≤ 255]

theorem wrap_rng (k : IntKind) (n : Int) (h : AllP (rng k n)) : k.wrap n = n := by
  cases k <;> (simp only [rng, AllP] at h; simp only [IntKind.wrap, IntKind.signed, IntKind.bits, Bool.true_and, Bool.false_and, ge_iff_le, decide_eq_true_eq, Bool.false_eq_true, if_false]) <;> (try split) <;> omega

def arith (op : BinOp) (k : IntKind) (a b : Int) : Option (List Prop × Value) :=
  match op with
  | .add => some (rng k (a + b), .int k (a + b))
  | .sub => some (rng k (a - b), .int k (a - b))
  | .mul => some (rng k (a * b), .int k (a * b))
  | .quo => some ((b ≠ 0) :: rng k (a.tdiv b), .int k (a.tdiv b))
  | .rem => some ([b ≠ 0], .int k (a.tmod b))
  | .eql => some ([], .bool (a == b))
  | .neq => some ([], .bool (a != b))
  | .lss => some ([], .bool (decide (a < b)))
  | .leq => some ([], .bool (decide (a ≤ b)))
  | .gtr => some ([], .bool (decide (a > b)))
  | .geq => some ([], .bool (decide (a ≥ b)))
  | .shl => some ((0 ≤ b) :: rng k (a * 2 ^ (min b.toNat k.bits)), .int k (a * 2 ^ (min b.toNat k.bits)))
  | .shr => some ([0 ≤ b], .int k (a.fdiv (2 ^ (min b.toNat k.bits))))
  | .and => some ([], .int k (k.wrap (BitVec.ofInt k.bits a &&& BitVec.ofInt k.bits b).toNat))
  | .or => some ([], .int k (k.wrap (BitVec.ofInt k.bits a ||| BitVec.ofInt k.bits b).toNat))
  | .xor => some ([], .int k (k.wrap (BitVec.ofInt k.bits a ^^^ BitVec.ofInt k.bits b).toNat))
  | _ => none

/-- The same, around where numbers end. -/
def arithW (op : BinOp) (k : IntKind) (a b : Int) : Option (List Prop × Value) :=
  match op with
  | .add => some ([], .int k (k.wrap (a + b)))
  | .sub => some ([], .int k (k.wrap (a - b)))
  | .mul => some ([], .int k (k.wrap (a * b)))
  | .shl => some ([0 ≤ b], .int k (k.wrap (a * 2 ^ (min b.toNat k.bits))))
  | _ => none

theorem eqGuard_ints (P : Program) (w : World) (op : BinOp) (t : Nat) (x y : Operand) (k k' : IntKind) (a b : Int) : (eqGuard op t x y (.int k a) (.int k' b)).run P w = .ok () w := by
  unfold eqGuard
  cases op <;> rfl

theorem binOp_ints {P : Program} {w : World} {op : BinOp} {k : IntKind} (t : Nat) {a b : Int} {l : List Prop} {v : Value} (h : arith op k a b = some (l, v)) (hl : AllP l) :
    (binOp op t (.int k a) (.int k b)).run P w = .ok v w := by
  cases op <;> simp only [arith, Option.some.injEq, Prod.mk.injEq, reduceCtorEq] at h <;> obtain ⟨rfl, rfl⟩ := h <;> (try simp only [AllP] at hl) <;> simp [binOp, Op.intArith, Op.intDiv, Op.intCmp, Op.intBits, Op.shift]
  · exact wrap_rng k _ hl
  · exact wrap_rng k _ hl
  · exact wrap_rng k _ hl
  · simp [hl.1, wrap_rng k _ hl.2]
  · simp [hl]
  · have h0 : ¬ b < 0 := by have := hl.1; omega
    simp [h0, wrap_rng k _ hl.2]
  · have h0 : ¬ b < 0 := by omega
    simp [h0]

theorem binOp_intsW {P : Program} {w : World} {op : BinOp} {k : IntKind} (t : Nat) {a b : Int} {l : List Prop} {v : Value} (h : arithW op k a b = some (l, v)) (hl : AllP l) :
    (binOp op t (.int k a) (.int k b)).run P w = .ok v w := by
  cases op <;> simp only [arithW, Option.some.injEq, Prod.mk.injEq, reduceCtorEq] at h <;> obtain ⟨rfl, rfl⟩ := h <;> (try simp only [AllP] at hl) <;> simp [binOp, Op.intArith, Op.intDiv, Op.intCmp, Op.intBits, Op.shift]
  · have h0 : ¬ b < 0 := by omega
    simp [h0]
end Go.Proofs.YtobpnmljijeadaaDoor.A

/- How the call's own objects are laid and turned. -/
set_option linter.unusedVariables false
set_option linter.unusedSimpArgs false
namespace Go.Proofs.YtobpnmljijeadaaDoor.A
open Go

def Sto.new (S : Sto) (o : AObj) : Sto := ⟨S.nx + 1, (S.nx, o) :: S.m⟩
def Sto.put (S : Sto) (k : Nat) (o : AObj) : Sto := ⟨S.nx, (k, o) :: S.m⟩
def updL (ρ : Nat → Loc) (k : Nat) (l : Loc) : Nat → Loc := fun i => if i = k then l else ρ i

theorem get_cons {α : Type} (k : Nat) (x : α) (r : List (Nat × α)) (t : Nat) : get ((k, x) :: r) t = if k = t then some x else get r t := by
  by_cases h : k = t
  · subst h; simp [get]
  · have : Nat.beq k t = false := by rw [Bool.eq_false_iff]; intro h'; exact h (Nat.eq_of_beq_eq_true h')
    simp only [get, this, if_neg h]

theorem Sto.at_new (S : Sto) (o : AObj) (k : Nat) : (S.new o).at k = if k = S.nx then some o else S.at k := by
  simp only [Sto.at, Sto.new, get_cons]
  by_cases h : S.nx = k
  · subst h; simp
  · rw [if_neg h, if_neg (fun e => h e.symm)]
theorem Sto.at_put (S : Sto) (k' : Nat) (o : AObj) (k : Nat) : (S.put k' o).at k = if k = k' then some o else S.at k := by
  simp only [Sto.at, Sto.put, get_cons]
  by_cases h : k' = k
  · subst h; simp
  · rw [if_neg h, if_neg (fun e => h e.symm)]

section
variable {O : Nat → Prop} {Γ : Ctx} {S : Sto} {ρ : Nat → Loc} {w w' : World}

theorem ownsRow_of_heap {base : Nat} {e size n : Nat} {v : Value} {xs : List Value} (h : w.ownsRow base e size v n xs) (hg : ∀ b, v.ownBlock = some b → w'.heap[b]? = w.heap[b]?) : w'.ownsRow base e size v n xs := by
  refine ⟨h.1, ?_⟩
  rcases h.2 with h2 | ⟨g, cap, cur, rfl, hb, hh, r⟩
  · exact .inl h2
  · exact .inr ⟨g, cap, cur, rfl, hb, (hg g rfl).trans hh, r⟩

theorem ObjOk.live_lt {o : AObj} {l : Loc} (h : ObjOk O Γ S ρ w l o) (hl : o.live = true) {b : Nat} (hb : l.blk = some b ∨ l.z b) : b < w.heap.size := by
  cases o with
  | box cs =>
    obtain ⟨b', e, vs, hv, hh, _, _, hz⟩ := h
    rcases hb with hb | hb
    · have : b' = b := by simpa [Loc.blk, hv] using hb
      subst this; exact (Array.getElem?_eq_some_iff.1 hh).1
    · exact absurd hb (hz b)
  | row e sz n f =>
    obtain ⟨⟨xs, hown, _⟩, hz⟩ := h
    rcases hb with hb | hb
    · rcases hown.2 with ⟨hv, _⟩ | ⟨g, cap, cur, hv, _, hh, _⟩
      · simp [Loc.blk, hv] at hb
      · have : g = b := by simpa [Loc.blk, hv] using hb
        subst this; exact (Array.getElem?_eq_some_iff.1 hh).1
    · exact absurd hb (hz b)
  | map kt et m =>
    obtain ⟨⟨r, hv, es, clock, hh, _⟩, hz⟩ := h
    rcases hb with hb | hb
    · have : r = b := by simpa [Loc.blk, hv] using hb
      subst this; exact (Array.getElem?_eq_some_iff.1 hh).1
    · exact absurd hb (hz b)
  | fg i st =>
    obtain ⟨h1, h2⟩ := h
    rcases hb with hb | hb
    · rw [h2] at hb; simp at hb
    · exact Γ.Φz _ _ _ _ h1 b hb
  | dead => simp [AObj.live] at hl

theorem St.owns_lt (hs : St O Γ S ρ w) {b : Nat} (h : owns S ρ b) : b < w.heap.size := by
  obtain ⟨k, o, ho, hl, hb⟩ := h
  exact (hs.objs k o ho).live_lt hl hb

/-- An object whose memory has not turned. -/
theorem ObjOk.keep {S' : Sto} {ρ' : Nat → Loc} {o : AObj} {l : Loc} (he : Evo S ρ w S' ρ' w') (hsh : ∀ b, Γ.sh b → b < w.heap.size ∧ ¬ owns S ρ b) (hh : ∀ b, (l.blk = some b ∨ l.z b) → w'.heap[b]? = w.heap[b]?) (h : ObjOk O Γ S ρ w l o) : ObjOk O Γ S' ρ' w' l o := by
  cases o with
  | box cs =>
    obtain ⟨b, e, vs, hv, hg, h1, h2, h3⟩ := h
    exact ⟨b, e, vs, hv, (hh b (.inl (by simp [Loc.blk, hv]))).trans hg, h1, fun j hj => (h2 j hj).evo he, h3⟩
  | row e sz n f =>
    obtain ⟨⟨xs, hown, hone, hc⟩, hz⟩ := h
    refine ⟨⟨xs, ownsRow_of_heap hown (fun b hb => hh b (.inl ?_)), hone, fun i hi => ⟨(hc i hi).1, fun j hj => ((hc i hi).2 j hj).evo he⟩⟩, hz⟩
    revert hb
    unfold Value.ownBlock Loc.blk
    cases l.v with
    | slice a _ _ => cases a <;> simp
    | _ => simp
  | map kt et m =>
    obtain ⟨⟨r, hv, es, clock, hg, hm⟩, hz⟩ := h
    exact ⟨⟨r, hv, es, clock, (hh r (.inl (by simp [Loc.blk, hv]))).trans hg, hm⟩, hz⟩
  | fg i st => exact ⟨Γ.Φk _ _ _ _ _ h.1 (fun k hk => hk.elim (fun hk => hh k (.inr hk)) (fun hk => he.keep k (hsh k hk).1 (hsh k hk).2)) he.size, h.2⟩
  | dead => trivial

/-- What is laid anew. -/
structure Grows (w w' : World) : Prop where
  os : w'.os = w.os
  tape : w'.tape = w.tape
  output : w'.output = w.output
  size : w.heap.size ≤ w'.heap.size
  old : ∀ b, b < w.heap.size → w'.heap[b]? = w.heap[b]?

theorem Grows.refl (w : World) : Grows w w := ⟨rfl, rfl, rfl, Nat.le_refl _, fun _ _ => rfl⟩
theorem Grows.alloc (w : World) (o : Obj) : Grows w (w.alloc o) := ⟨rfl, rfl, rfl, by simp, fun b hb => heap_alloc_old w o b hb⟩
theorem Grows.drew (w : World) : Grows w w.drew := ⟨rfl, rfl, rfl, Nat.le_refl _, fun _ _ => rfl⟩
theorem Grows.trans {w1 w2 : World} (h : Grows w w1) (h' : Grows w1 w2) : Grows w w2 := ⟨h'.os.trans h.os, h'.tape.trans h.tape, h'.output.trans h.output, Nat.le_trans h.size h'.size, fun b hb => (h'.old b (Nat.lt_of_lt_of_le hb h.size)).trans (h.old b hb)⟩

theorem Grows.evo (h : Grows w w') : Evo S ρ w S ρ w' :=
  ⟨h.os, h.tape, h.output, h.size, fun b hb _ => h.old b hb, fun _ _ h => h, fun k o' ho => ⟨o', ho, by cases o' <;> simp [AObj.to]⟩⟩

theorem St.grows (hs : St O Γ S ρ w) (h : Grows w w') : St O Γ S ρ w' where
  objs k o ho := by
    by_cases hl : o.live = true
    · exact (hs.objs k o ho).keep h.evo hs.shared (fun b hb => h.old b ((hs.objs k o ho).live_lt hl hb))
    · cases o <;> simp [AObj.live] at hl; trivial
  disj := hs.disj
  glob g cs hg := (hs.glob g cs hg).evo h.evo
  outer b hb := ⟨Nat.lt_of_lt_of_le (hs.outer b hb).1 h.size, (hs.outer b hb).2⟩
  shared b hb := ⟨Nat.lt_of_lt_of_le (hs.shared b hb).1 h.size, (hs.shared b hb).2⟩

theorem evo_new (hs : St O Γ S ρ w) (hf : S.at S.nx = none) (o : AObj) (l : Loc) (h : Grows w w') (hb : ∀ b, (l.blk = some b ∨ l.z b) → w.heap.size ≤ b) : Evo S ρ w (S.new o) (updL ρ S.nx l) w' where
  os := h.os
  tape := h.tape
  output := h.output
  size := h.size
  keep b hlt _ := h.old b hlt
  own b hlt ho := by
    obtain ⟨k, o', ho', hl, hbl⟩ := ho
    rw [Sto.at_new] at ho'
    by_cases e : k = S.nx
    · subst e
      simp only [updL, if_true] at hbl
      have := hb b hbl
      omega
    · rw [if_neg e] at ho'
      simp only [updL, if_neg e] at hbl
      exact ⟨k, o', ho', hl, hbl⟩
  obj k o' ho' := by
    have e : k ≠ S.nx := fun e => by rw [e, hf] at ho'; simp at ho'
    refine ⟨o', by rw [Sto.at_new, if_neg e]; exact ho', by simp only [updL, if_neg e]; cases o' <;> simp [AObj.to]⟩

/-- A new object. -/
theorem St.new (hs : St O Γ S ρ w) (hf : S.at S.nx = none) (o : AObj) (l : Loc) (h : Grows w w') (hb : ∀ b, (l.blk = some b ∨ l.z b) → w.heap.size ≤ b)
    (ho : ObjOk O Γ (S.new o) (updL ρ S.nx l) w' l o) : St O Γ (S.new o) (updL ρ S.nx l) w' := by
  have he := evo_new hs hf o l h hb
  have hold : ∀ k o', k ≠ S.nx → S.at k = some o' → o'.live = true → ∀ b, ((ρ k).blk = some b ∨ (ρ k).z b) → b < w.heap.size := fun k o' _ ho' hl b hbl => (hs.objs k o' ho').live_lt hl hbl
  refine ⟨fun k o' ho' => ?_, ?_, fun g cs hg => (hs.glob g cs hg).evo he, fun b hO => ?_, fun b hb => ⟨Nat.lt_of_lt_of_le (hs.shared b hb).1 h.size, fun hbad => (hs.shared b hb).2 (he.own b (hs.shared b hb).1 hbad)⟩⟩
  · rw [Sto.at_new] at ho'
    by_cases e : k = S.nx
    · subst e
      simp only [if_true, Option.some.injEq] at ho'
      subst ho'
      simp only [updL, if_true]
      exact ho
    · rw [if_neg e] at ho'
      have hk' := hs.objs k o' ho'
      simp only [updL, if_neg e]
      by_cases hl : o'.live = true
      · exact hk'.keep he hs.shared (fun b hbl => h.old b (hk'.live_lt hl hbl))
      · cases o' <;> simp [AObj.live] at hl; trivial
  · intro k k' o1 o2 b h1 h2 hl1 hl2 hb1 hb2
    rw [Sto.at_new] at h1 h2
    by_cases e1 : k = S.nx
    · by_cases e2 : k' = S.nx
      · omega
      · rw [if_neg e2] at h2
        simp only [updL, if_pos e1] at hb1
        simp only [updL, if_neg e2] at hb2
        have := hold k' o2 e2 h2 hl2 b hb2
        have := hb b hb1
        omega
    · rw [if_neg e1] at h1
      simp only [updL, if_neg e1] at hb1
      by_cases e2 : k' = S.nx
      · simp only [updL, if_pos e2] at hb2
        have := hold k o1 e1 h1 hl1 b hb1
        have := hb b hb2
        omega
      · rw [if_neg e2] at h2
        simp only [updL, if_neg e2] at hb2
        exact hs.disj k k' o1 o2 b h1 h2 hl1 hl2 hb1 hb2
  · refine ⟨Nat.lt_of_lt_of_le (hs.outer b hO).1 h.size, fun hbad => ?_⟩
    exact (hs.outer b hO).2 (he.own b (hs.outer b hO).1 hbad)

/-- One object's memory turns. -/
structure Turns (w w' : World) (blk : Option Nat) : Prop where
  os : w'.os = w.os
  tape : w'.tape = w.tape
  output : w'.output = w.output
  size : w.heap.size ≤ w'.heap.size
  old : ∀ b, b < w.heap.size → blk ≠ some b → w'.heap[b]? = w.heap[b]?

theorem evo_put (hs : St O Γ S ρ w) {k : Nat} {o : AObj} (hk : S.at k = some o) (o' : AObj) (l : Loc) (hto : o.to (ρ k) l o') (hlive : o'.live = true → o.live = true) (h : Turns w w' (ρ k).blk) (hlo : o.live = true)
    (hb : ∀ b, (l.blk = some b ∨ l.z b) → ((ρ k).blk = some b ∨ (ρ k).z b) ∨ w.heap.size ≤ b) : Evo S ρ w (S.put k o') (updL ρ k l) w' where
  os := h.os
  tape := h.tape
  output := h.output
  size := h.size
  keep b hlt ho := h.old b hlt (fun e => ho ⟨k, o, hk, hlo, .inl e⟩)
  own b hlt ho := by
    obtain ⟨k2, o2, ho2, hl2, hb2⟩ := ho
    rw [Sto.at_put] at ho2
    by_cases e : k2 = k
    · subst e
      simp only [updL, if_true] at hb2
      rcases hb b hb2 with h1 | h1
      · exact ⟨k2, o, hk, hlo, h1⟩
      · omega
    · rw [if_neg e] at ho2
      simp only [updL, if_neg e] at hb2
      exact ⟨k2, o2, ho2, hl2, hb2⟩
  obj k2 o2 ho2 := by
    by_cases e : k2 = k
    · subst e
      rw [hk, Option.some.injEq] at ho2
      subst ho2
      exact ⟨o', by rw [Sto.at_put, if_pos rfl], by simp only [updL, if_true]; exact hto⟩
    · exact ⟨o2, by rw [Sto.at_put, if_neg e]; exact ho2, by simp only [updL, if_neg e]; cases o2 <;> simp [AObj.to]⟩

theorem St.put (hs : St O Γ S ρ w) {k : Nat} {o : AObj} (hk : S.at k = some o) (o' : AObj) (l : Loc) (hto : o.to (ρ k) l o') (hlive : o'.live = true → o.live = true) (h : Turns w w' (ρ k).blk) (hlo : o.live = true)
    (hb : ∀ b, (l.blk = some b ∨ l.z b) → ((ρ k).blk = some b ∨ (ρ k).z b) ∨ w.heap.size ≤ b) (hz : ∀ b, ¬ (ρ k).z b)
    (ho : ObjOk O Γ (S.put k o') (updL ρ k l) w' l o') : St O Γ (S.put k o') (updL ρ k l) w' := by
  have he := evo_put hs hk o' l hto hlive h hlo hb
  refine ⟨fun k2 o2 ho2 => ?_, ?_, fun g cs hg => (hs.glob g cs hg).evo he, fun b hO => ?_, fun b hb => ⟨Nat.lt_of_lt_of_le (hs.shared b hb).1 h.size, fun hbad => (hs.shared b hb).2 (he.own b (hs.shared b hb).1 hbad)⟩⟩
  · rw [Sto.at_put] at ho2
    by_cases e : k2 = k
    · subst e
      simp only [if_true, Option.some.injEq] at ho2
      subst ho2
      simp only [updL, if_true]
      exact ho
    · rw [if_neg e] at ho2
      have hk' := hs.objs k2 o2 ho2
      simp only [updL, if_neg e]
      by_cases hl : o2.live = true
      · refine hk'.keep he hs.shared (fun b hbl => h.old b (hk'.live_lt hl hbl) (fun e' => e ?_))
        exact hs.disj k2 k o2 o b ho2 hk hl hlo hbl (.inl e')
      · cases o2 <;> simp [AObj.live] at hl; trivial
  · intro k1 k2 o1 o2 b h1 h2 hl1 hl2 hb1 hb2
    rw [Sto.at_put] at h1 h2
    have hold : ∀ j oj, j ≠ k → S.at j = some oj → oj.live = true → ((ρ j).blk = some b ∨ (ρ j).z b) → (l.blk = some b ∨ l.z b) → False := fun j oj hj hoj hlj hbj hbl => by
      rcases hb b hbl with h3 | h3
      · exact hj (hs.disj j k oj o b hoj hk hlj hlo hbj h3)
      · have := (hs.objs j oj hoj).live_lt hlj hbj
        omega
    by_cases e1 : k1 = k
    · by_cases e2 : k2 = k
      · omega
      · rw [if_neg e2] at h2
        simp only [updL, if_pos e1] at hb1
        simp only [updL, if_neg e2] at hb2
        exact (hold k2 o2 e2 h2 hl2 hb2 hb1).elim
    · rw [if_neg e1] at h1
      simp only [updL, if_neg e1] at hb1
      by_cases e2 : k2 = k
      · simp only [updL, if_pos e2] at hb2
        exact (hold k1 o1 e1 h1 hl1 hb1 hb2).elim
      · rw [if_neg e2] at h2
        simp only [updL, if_neg e2] at hb2
        exact hs.disj k1 k2 o1 o2 b h1 h2 hl1 hl2 hb1 hb2
  · exact ⟨Nat.lt_of_lt_of_le (hs.outer b hO).1 h.size, fun hbad => (hs.outer b hO).2 (he.own b (hs.outer b hO).1 hbad)⟩
end
end Go.Proofs.YtobpnmljijeadaaDoor.A

/- Operations on memory over abstract states: new variables, loads, stores, addresses. -/
set_option linter.unusedVariables false
set_option linter.unusedSimpArgs false
namespace Go.Proofs.YtobpnmljijeadaaDoor.A
open Go

def AV.cell : AV → Bool
  | .p (.v x) => x.oneCell'
  | .p _ => true
  | .bp _ _ => true
  | .row _ _ _ => true
  | .view _ _ _ _ _ => true
  | .ep _ _ _ _ _ => true
  | .mp _ => true
  | .fn _ _ _ => true
  | _ => false

def cellsOf : AV → Option (List AV)
  | .agg cs => match cs.all AV.cell with
    | true => some cs
    | false => none
  | v => match v.cell with
    | true => some [v]
    | false => none

def VRs (O : Nat → Prop) (S : Sto) (ρ : Nat → Loc) (w : World) (cs : List AV) (vs : List Value) : Prop := vs.length = cs.length ∧ ∀ j, j < cs.length → VR O S ρ w (cs.getD j .any) (vs.getD j undef)

section
variable {P : Program} {O : Nat → Prop} {Γ : Ctx} {S : Sto} {ρ : Nat → Loc} {w : World}

theorem VR.oneCell {c : AV} {v : Value} (h : VR O S ρ w c v) (hc : c.cell = true) : v.oneCell' = true := by
  cases h with
  | p hp => cases hp <;> first | (simpa [AV.cell] using hc) | rfl
  | _ => first | rfl | (simp [AV.cell] at hc)

theorem cells_one {x : Value} (h : x.oneCell' = true) : x.cells = #[x] := by cases x <;> simp [Value.oneCell', Value.cells] at h ⊢

theorem cellsOf_one {v : AV} {cs : List AV} (hv : ∀ l, v ≠ .agg l) (hc : cellsOf v = some cs) : v.cell = true ∧ cs = [v] := by
  have key : ∀ b : Bool, (match b with | true => some [v] | false => none) = some cs → b = true ∧ cs = [v] := fun b hb => by cases b <;> simp at hb ⊢; exact hb.symm
  cases v with
  | agg l => exact absurd rfl (hv l)
  | _ => exact key _ hc

theorem VR.cells {v : AV} {cs : List AV} {cv : Value} (h : VR O S ρ w v cv) (hc : cellsOf v = some cs) :
    VRs O S ρ w cs cv.cells.toList ∧ ∀ x ∈ cv.cells.toList, x.oneCell' = true := by
  by_cases hv : ∃ l, v = .agg l
  · obtain ⟨l, rfl⟩ := hv
    cases h with
    | agg l vs hl hh =>
      have hall : l.all AV.cell = true ∧ l = cs := by
        simp only [cellsOf] at hc
        split at hc
        · rename_i h; exact ⟨h, by simpa using hc⟩
        · simp at hc
      obtain ⟨hall, rfl⟩ := hall
      refine ⟨⟨by simpa [Value.cells] using hl, fun j hj => by simpa [Value.cells] using hh j hj⟩, ?_⟩
      intro x hx
      obtain ⟨j, hj, rfl⟩ := List.getElem_of_mem hx
      simp only [Value.cells] at hj ⊢
      have hj' : j < l.length := by omega
      have h1 := hh j hj'
      rw [show vs.getD j undef = vs[j] by simp [List.getD_eq_getElem?_getD, show j < vs.length by omega]] at h1
      refine h1.oneCell ?_
      rw [show l.getD j .any = l[j] by simp [List.getD_eq_getElem?_getD, hj']]
      exact List.all_eq_true.1 hall _ (List.getElem_mem hj')
  · obtain ⟨h1, rfl⟩ := cellsOf_one (fun l e => hv ⟨l, e⟩) hc
    have h2 := h.oneCell h1
    rw [cells_one h2]
    refine ⟨⟨rfl, fun j hj => ?_⟩, fun x hx => ?_⟩
    · obtain rfl : j = 0 := by simp at hj; exact hj
      exact h
    · simp at hx; subst hx; exact h2

/-! ### What the machine does -/
theorem run_isAgg {t : Nat} {i : TI} (hT : TIOk P t i) (w : World) : (isAgg t).run P w = .ok i.td.agg w := by
  obtain ⟨d, hd, htd⟩ := hT.und
  simp only [isAgg, Sem.run_bind, run_underlying hd, Result.andThen_ok]
  rw [← htd]
  cases d <;> rfl
theorem run_sizeOf {t : Nat} {i : TI} (hT : TIOk P t i) (w : World) : (sizeOf t).run P w = .ok i.size w := by
  obtain ⟨ti, z, hi, hs, _⟩ := hT.info
  simp [sizeOf, typeInfo, hi, hs]
theorem run_zero {t : Nat} {i : TI} (hT : TIOk P t i) (w : World) : ∃ z : Value, (zeroValue t).run P w = .ok z w ∧ z.cells.toList = i.zero := by
  obtain ⟨ti, z, hi, hs, _, hz, hc⟩ := hT.info
  exact ⟨z, by simp [zeroValue, typeInfo, hi, hz], hc⟩

theorem add_at (b off j : Nat) : (⟨b, off, none⟩ : Addr).add j = ⟨b, off + j, none⟩ := by unfold Addr.add; split <;> simp_all

theorem run_loadAt {t : Nat} {i : TI} (hT : TIOk P t i) (b off : Nat) (vs : List Value) (h : ∀ j, j < vs.length → w.cell? ⟨b, off + j, none⟩ = some (vs.getD j undef)) (hl : vs.length = i.size) (h1 : i.td.agg = false → i.size = 1) :
    (Instr.loadAt t (.pointer (some ⟨b, off, none⟩))).run P w = .ok (if i.td.agg then .agg vs.toArray else vs.getD 0 undef) w := by
  simp only [Instr.loadAt, Instr.sureAddr, Sem.run_bind, Sem.run_pure, Result.andThen_ok, loadVar, run_isAgg hT]
  cases ha : i.td.agg with
  | true =>
    simp only [if_true, Sem.run_map, run_sizeOf hT, Sem.run_bind, Result.andThen_ok]
    rw [← hl, run_loadCells_list w ⟨b, off, none⟩ vs (fun j v hv => ?_)]
    · simp
    · rw [add_at]
      have hj : j < vs.length := (List.getElem?_eq_some_iff.1 hv).1
      rw [h j hj]
      simp [List.getD_eq_getElem?_getD, hv]
  | false =>
    have h0 := h 0 (by rw [hl, h1 ha]; omega)
    simp only [Nat.add_zero] at h0
    simp only [Bool.false_eq_true, if_false, run_load, h0]

end

/-! ### New variables -/
def newBox (S : Sto) (cs : List AV) : AV × Sto := (.bp S.nx 0, S.new (.box cs))

section
variable {P : Program} {O : Nat → Prop} {Γ : Ctx} {S : Sto} {ρ : Nat → Loc} {w : World}

theorem VRs.evo {S' : Sto} {ρ' : Nat → Loc} {w' : World} {cs : List AV} {vs : List Value} (h : VRs O S ρ w cs vs) (he : Evo S ρ w S' ρ' w') : VRs O S' ρ' w' cs vs := ⟨h.1, fun j hj => (h.2 j hj).evo he⟩

/-- A new variable is laid. -/
theorem newBox_ok (hs : St O Γ S ρ w) (hf : S.at S.nx = none) (t : Nat) (cs : List AV) (vs : Array Value) (h : VRs O S ρ w cs vs.toList) :
    ∃ ρ', St O Γ (newBox S cs).2 ρ' (w.alloc (.cells vs t)) ∧ Evo S ρ w (newBox S cs).2 ρ' (w.alloc (.cells vs t)) ∧ VR O (newBox S cs).2 ρ' (w.alloc (.cells vs t)) (newBox S cs).1 (.pointer (some ⟨w.heap.size, 0, none⟩)) := by
  let l : Loc := ⟨.pointer (some ⟨w.heap.size, 0, none⟩), fun _ => False⟩
  have hb : ∀ b, (l.blk = some b ∨ l.z b) → w.heap.size ≤ b := fun b hb => by
    rcases hb with hb | hb
    · have : w.heap.size = b := by simpa [l, Loc.blk] using hb
      omega
    · exact hb.elim
  have he := evo_new hs hf (.box cs) l (Grows.alloc w (.cells vs t)) hb
  have hv := h.evo he
  refine ⟨updL ρ S.nx l, hs.new hf (.box cs) l (Grows.alloc w _) hb ?_, he, ?_⟩
  · refine ⟨w.heap.size, t, vs, rfl, heap_alloc_new w _, ?_, fun j hj => ?_, fun k hk => hk⟩
    · simpa using h.1
    · have := hv.2 j hj
      have e : vs.toList.getD j undef = vs.getD j undef := by simp [List.getD_eq_getElem?_getD, Array.getD_eq_getD_getElem?]
      rwa [e] at this
  · refine .bp S.nx 0 _ (by rw [newBox, Sto.at_new, if_pos rfl]; rfl) (fun cs' hcs => ⟨w.heap.size, ?_, rfl⟩)
    simp [updL, l]
end

def stepAlloc (T : Nat → Option TI) (S : Sto) (t : Nat) : Option (List Prop × AV × Sto) :=
  match T t with
  | some i => some ([], .bp S.nx 0, S.new (.box (i.zero.map fun v => .p (.v v))))
  | none => none

def stepBox (S : Sto) (v : AV) : Option (List Prop × AV × Sto) :=
  match cellsOf v with
  | some cs => some ([], .bp S.nx 0, S.new (.box cs))
  | none => none

section
variable {P : Program} {O : Nat → Prop} {Γ : Ctx} {σ : Env} {o : Oper} {T : Nat → Option TI} {g : List Prop} {v : AV} {S' : Sto}

theorem ok_alloc (hT : TOk P T) {t : Nat} (ho : o.op = .alloc t) (h : stepAlloc T σ.S t = some (g, v, S')) : OpOk P O Γ σ o v S' := by
  intro ρ a w hs hf he
  simp only [stepAlloc] at h
  cases hi : T t with
  | none => rw [hi] at h; simp at h
  | some i =>
    rw [hi] at h
    simp only [Option.some.injEq, Prod.mk.injEq] at h
    obtain ⟨_, rfl, rfl⟩ := h
    obtain ⟨z, hz, hc⟩ := run_zero (hT t i hi) w
    have hv : VRs O σ.S ρ w (i.zero.map fun v => .p (.v v)) z.cells.toList := by
      rw [hc]
      refine ⟨by simp, fun j hj => ?_⟩
      rw [getD_map _ _ _ (by simpa using hj) undef]
      exact .p (.v _)
    obtain ⟨ρ', h1, h2, h3⟩ := newBox_ok hs hf t _ z.cells hv
    refine ⟨.value (.pointer (some ⟨w.heap.size, 0, none⟩)), _, ρ', ?_, .inl ⟨_, rfl, h3⟩, h1, h2⟩
    simp only [execOp, ho, Instr.alloc, Sem.run_bind, hz, Result.andThen_ok, newVar, newRow, Sem.run_pure]
    rfl

theorem ok_box {t : Nat} {x : Operand} {u : AV} (ho : o.op = .box t x) (hx : HasV O Γ σ x u) (h : stepBox σ.S u = some (g, v, S')) : OpOk P O Γ σ o v S' := by
  intro ρ a w hs hf he
  have hu := hx ρ a w hs he
  simp only [stepBox] at h
  cases hc : cellsOf u with
  | none => rw [hc] at h; simp at h
  | some cs =>
    rw [hc] at h
    simp only [Option.some.injEq, Prod.mk.injEq] at h
    obtain ⟨_, rfl, rfl⟩ := h
    obtain ⟨ρ', h1, h2, h3⟩ := newBox_ok hs hf t cs (a.eval x).cells (hu.cells hc).1
    refine ⟨.value (.pointer (some ⟨w.heap.size, 0, none⟩)), _, ρ', ?_, .inl ⟨_, rfl, h3⟩, h1, h2⟩
    simp only [execOp, ho, Instr.box, Sem.run_bind, newVar, newRow, Sem.run_pure]
    rfl
end
end Go.Proofs.YtobpnmljijeadaaDoor.A

/- Loads and stores over abstract states. -/
set_option linter.unusedVariables false
set_option linter.unusedSimpArgs false
namespace Go.Proofs.YtobpnmljijeadaaDoor.A
open Go

def loadFrom (i : TI) (cs : List AV) (g : List Prop) (S : Sto) : Option (List Prop × AV × Sto) :=
  match i.td.agg with
  | true => match Nat.ble i.size cs.length with
    | true => some (g, .agg (cs.take i.size), S)
    | false => none
  | false => match cs with
    | c :: _ => match Nat.beq i.size 1 with
      | true => some (g, c, S)
      | false => none
    | [] => none

def stepLoad (T : Nat → Option TI) (S : Sto) (t : Nat) (addr : AV) : Option (List Prop × AV × Sto) :=
  match T t with
  | none => none
  | some i => match addr with
    | .bp k off => match S.at k with
      | some (.box cs) => loadFrom i (cs.drop off) [] S
      | _ => none
    | .ep k sz n ix off => match S.at k with
      | some (.row e sz' n' f) => match Nat.beq sz sz' with
        | true => loadFrom i ((f ix).drop off) [n = n', ix < n'] S
        | false => none
      | _ => none
    | .p (.rp cs off) => loadFrom i ((cs.map AV.p).drop off) [] S
    | _ => none

section
variable {P : Program} {O : Nat → Prop} {Γ : Ctx} {σ : Env} {o : Oper} {T : Nat → Option TI} {g : List Prop} {v : AV} {S' : Sto}

theorem loadFrom_ok {i : TI} {cs : List AV} {g0 : List Prop} {S : Sto} (h : loadFrom i cs g0 S = some (g, v, S')) :
    g = g0 ∧ S' = S ∧ i.size ≤ cs.length ∧ (i.td.agg = false → i.size = 1) ∧ v = (if i.td.agg then .agg (cs.take i.size) else cs.getD 0 .any) := by
  unfold loadFrom at h
  cases ha : i.td.agg with
  | true =>
    rw [ha] at h
    simp only at h
    split at h
    · rename_i hle
      simp only [Option.some.injEq, Prod.mk.injEq] at h
      exact ⟨h.1.symm, h.2.2.symm, Nat.le_of_ble_eq_true hle, fun h => by simp at h, h.2.1.symm⟩
    · simp at h
  | false =>
    rw [ha] at h
    simp only at h
    cases cs with
    | nil => simp at h
    | cons c r =>
      simp only at h
      split at h
      · rename_i hle
        simp only [Option.some.injEq, Prod.mk.injEq] at h
        have h1 := Nat.eq_of_beq_eq_true hle
        exact ⟨h.1.symm, h.2.2.symm, by simp; omega, fun _ => h1, by simp [h.2.1]⟩
      · simp at h

/-- Cells that lie in a row of memory. -/
theorem load_cells {i : TI} {t : Nat} (hT : TIOk P t i) {S : Sto} {ρ : Nat → Loc} {w : World} {b off : Nat} {cs : List AV} (hc : i.size ≤ cs.length) (h1 : i.td.agg = false → i.size = 1)
    (h : ∀ j, j < cs.length → ∃ u, w.cell? ⟨b, off + j, none⟩ = some u ∧ VR O S ρ w (cs.getD j .any) u) :
    ∃ cv, (Instr.loadAt t (.pointer (some ⟨b, off, none⟩))).run P w = .ok cv w ∧ VR O S ρ w (if i.td.agg then .agg (cs.take i.size) else cs.getD 0 .any) cv := by
  let vs := (List.range i.size).map fun j => (w.cell? ⟨b, off + j, none⟩).getD undef
  have hl : vs.length = i.size := by simp [vs]
  have hv : ∀ j, j < i.size → vs.getD j undef = (w.cell? ⟨b, off + j, none⟩).getD undef := fun j hj => by simp [vs, List.getD_eq_getElem?_getD, hj]
  have hr := run_loadAt hT b off vs (fun j hj => by
    obtain ⟨u, hu, _⟩ := h j (by omega)
    rw [hv j (by omega), hu]; rfl) hl h1
  refine ⟨_, hr, ?_⟩
  have hvr : ∀ j, j < i.size → VR O S ρ w (cs.getD j .any) (vs.getD j undef) := fun j hj => by
    obtain ⟨u, hu, hu2⟩ := h j (by omega)
    rw [hv j hj, hu]; exact hu2
  cases ha : i.td.agg with
  | true =>
    simp only [if_true]
    refine .agg _ _ (by simp [hl]; omega) (fun j hj => ?_)
    have hj1 : j < i.size := by simp at hj; omega
    have := hvr j hj1
    rwa [show (cs.take i.size).getD j .any = cs.getD j .any by simp [List.getD_eq_getElem?_getD, List.getElem?_take, hj1]]
  | false =>
    simp only [Bool.false_eq_true, if_false]
    exact hvr 0 (by rw [h1 ha]; omega)

theorem box_cells {S : Sto} {ρ : Nat → Loc} {w : World} (hs : St O Γ S ρ w) {k : Nat} {cs : List AV} (hk : S.at k = some (.box cs)) :
    ∃ b e vs, (ρ k).v = .pointer (some ⟨b, 0, none⟩) ∧ w.heap[b]? = some (.cells vs e (0, 0)) ∧ vs.size = cs.length ∧ (∀ k', ¬ (ρ k).z k') ∧ ∀ j, j < cs.length → w.cell? ⟨b, j, none⟩ = some (vs.getD j undef) ∧ VR O S ρ w (cs.getD j .any) (vs.getD j undef) := by
  obtain ⟨b, e, vs, hv, hh, hl, hr, hz⟩ := hs.objs k _ hk
  refine ⟨b, e, vs, hv, hh, hl, hz, fun j hj => ⟨?_, hr j hj⟩⟩
  have hj' : j < vs.size := by omega
  simp [World.cell?, hh, Array.getD_eq_getD_getElem?, hj']

theorem row_cells {S : Sto} {ρ : Nat → Loc} {w : World} (hs : St O Γ S ρ w) {k e sz n : Nat} {f : Nat → List AV} (hk : S.at k = some (.row e sz n f)) {b n' c : Nat} (hv : (ρ k).v = .slice (some ⟨b, 0, none⟩) n' c) {i : Nat} (hi : i < n) :
    (f i).length = sz ∧ ∀ j, j < sz → ∃ u, w.cell? ⟨b, i * sz + j, none⟩ = some u ∧ VR O S ρ w ((f i).getD j .any) u := by
  obtain ⟨⟨xs, hown, _, hc⟩, hz⟩ := hs.objs k _ hk
  refine ⟨(hc i hi).1, fun j hj => ?_⟩
  rw [hv] at hown
  have hlt : i * sz + j < n * sz := by
    have : (i + 1) * sz ≤ n * sz := Nat.mul_le_mul_right _ hi
    rw [Nat.add_mul, Nat.one_mul] at this; omega
  have hx : i * sz + j < xs.length := by rw [hown.1]; exact hlt
  refine ⟨xs.getD (i * sz + j) undef, ?_, (hc i hi).2 j hj⟩
  have := hown.cells (g := b) rfl (i * sz + j) (xs.getD (i * sz + j) undef) (by simp [List.getD_eq_getElem?_getD, hx])
  rw [add_at] at this
  simpa using this

theorem ok_load (hT : TOk P T) {t : Nat} {x : Operand} {u : AV} (ho : o.op = .load t x) (hx : HasV O Γ σ x u) (h : stepLoad T σ.S t u = some (g, v, S')) (hg : AllP g) : OpOk P O Γ σ o v S' := by
  unfold stepLoad at h
  cases hi : T t with
  | none => rw [hi] at h; simp at h
  | some i =>
    rw [hi] at h
    have hTi := hT t i hi
    have fin : ∀ (cs : List AV) (g0 : List Prop), loadFrom i cs g0 σ.S = some (g, v, S') → (∀ ρ a w, AllP g0 → St O Γ σ.S ρ w → EnvOk O σ ρ a w → ∃ b off, a.eval x = .pointer (some ⟨b, off, none⟩) ∧ ∀ j, j < cs.length → ∃ u, w.cell? ⟨b, off + j, none⟩ = some u ∧ VR O σ.S ρ w (cs.getD j .any) u) → OpOk P O Γ σ o v S' := by
      intro cs g0 hl hh
      obtain ⟨rfl, rfl, hsz, h1, rfl⟩ := loadFrom_ok hl
      refine OpOk.still fun ρ a w hs he => ?_
      obtain ⟨b, off, hav, hcell⟩ := hh ρ a w hg hs he
      obtain ⟨cv, hr, hvr⟩ := load_cells hTi hsz h1 hcell
      refine ⟨cv, ?_, hvr⟩
      simp only [execOp, ho, hav, Sem.run_bind, hr, Result.andThen_ok, Sem.run_pure]
    cases u with
    | bp k off =>
      simp only at h
      split at h
      · rename_i cs hk
        refine fin _ _ h fun ρ a w _ hs he => ?_
        have hu := hx ρ a w hs he
        generalize hav : a.eval x = av at hu
        cases hu with
        | bp _ _ ad hlt hh =>
          obtain ⟨b, hv, rfl⟩ := hh cs hk
          obtain ⟨b', e, vs, hv', _, _, _, hcell⟩ := box_cells hs hk
          obtain rfl : b' = b := by rw [hv] at hv'; simpa using hv'.symm
          refine ⟨b', off, rfl, fun j hj => ?_⟩
          simp at hj
          obtain ⟨h1, h2⟩ := hcell (off + j) (by omega)
          refine ⟨_, h1, ?_⟩
          rwa [show (cs.drop off).getD j .any = cs.getD (off + j) .any by simp [List.getD_eq_getElem?_getD]]
      · simp at h
    | ep k sz n ix off =>
      simp only at h
      split at h
      · rename_i e sz' n' f hk
        split at h
        · rename_i hsz
          obtain rfl := Nat.eq_of_beq_eq_true hsz
          refine fin _ _ h fun ρ a w hg hs he => ?_
          obtain ⟨hn, hix, _⟩ := hg
          have hu := hx ρ a w hs he
          generalize hav : a.eval x = av at hu
          cases hu with
          | ep _ _ _ _ _ ad hlt hh =>
            obtain ⟨_, hh2⟩ := hh _ _ _ hk
            obtain ⟨b, n2, c, hv, rfl⟩ := hh2 hn
            obtain ⟨hlen, hcell⟩ := row_cells hs hk hv hix
            refine ⟨b, ix * sz + off, rfl, fun j hj => ?_⟩
            simp at hj
            obtain ⟨u, h1, h2⟩ := hcell (off + j) (by omega)
            refine ⟨u, by rw [Nat.add_assoc]; exact h1, ?_⟩
            rwa [show ((f ix).drop off).getD j .any = (f ix).getD (off + j) .any by simp [List.getD_eq_getElem?_getD]]
        · simp at h
      · simp at h
    | p pv =>
      cases pv with
      | rp cs off =>
        simp only at h
        refine fin _ _ h fun ρ a w _ hs he => ?_
        have hu := hx ρ a w hs he
        generalize hav : a.eval x = av at hu
        cases hu with
        | p hp =>
          cases hp with
          | rp _ _ b0 o0 gv hm hr =>
            refine ⟨b0, o0 + off, rfl, fun j hj => ?_⟩
            simp at hj
            refine ⟨gv (off + j), by rw [Nat.add_assoc]; exact (hm (off + j) (by omega)).1, ?_⟩
            have := hr (off + j) (by omega)
            rw [show ((cs.map AV.p).drop off).getD j .any = .p (cs.getD (off + j) (.v undef)) by
              rw [show ((cs.map AV.p).drop off).getD j .any = (cs.map AV.p).getD (off + j) .any by simp [List.getD_eq_getElem?_getD]]
              exact getD_map _ _ _ (by omega) _ _]
            exact .p this
      | _ => simp at h
    | _ => simp at h
end

/-! ### Stores -/
def splice {α : Type} (cs : List α) (off : Nat) (vs : List α) : List α := cs.take off ++ vs ++ cs.drop (off + vs.length)

theorem splice_length {α : Type} (cs : List α) (off : Nat) (vs : List α) (h : off + vs.length ≤ cs.length) : (splice cs off vs).length = cs.length := by simp [splice]; omega
theorem splice_get {α : Type} (cs : List α) (off : Nat) (vs : List α) (h : off + vs.length ≤ cs.length) (j : Nat) (d : α) :
    (splice cs off vs).getD j d = if off ≤ j ∧ j < off + vs.length then vs.getD (j - off) d else cs.getD j d := by
  simp only [List.getD_eq_getElem?_getD, splice, List.getElem?_append, List.length_take, List.length_append]
  have hm : min off cs.length = off := by omega
  rw [hm]
  by_cases h1 : j < off
  · rw [if_pos (by omega), if_pos h1, if_neg (by omega), List.getElem?_take, if_pos h1]
  · by_cases h2 : j < off + vs.length
    · rw [if_pos (by omega), if_neg h1, if_pos (by omega)]
    · rw [if_neg (by omega), if_neg (by omega), List.getElem?_drop]
      congr 2; omega

def stepStore (T : Nat → Option TI) (S : Sto) (t : Nat) (addr u : AV) : Option (List Prop × AV × Sto) :=
  match T t, cellsOf u with
  | some i, some vs => match Nat.beq vs.length i.size with
    | false => none
    | true => match addr with
      | .bp k off => match S.at k with
        | some (.box cs) => match Nat.ble (off + vs.length) cs.length with
          | true => some ([], .any, S.put k (.box (splice cs off vs)))
          | false => none
        | _ => none
      | .ep k sz n ix off => match S.at k with
        | some (.row e sz' n' f) => match Nat.beq sz sz', Nat.ble (off + vs.length) sz with
          | true, true => some ([n = n', ix < n'], .any, S.put k (.row e sz' n' (fun j => if j = ix then splice (f ix) off vs else f j)))
          | _, _ => none
        | _ => none
      | _ => none
  | _, _ => none

section
variable {P : Program} {O : Nat → Prop} {Γ : Ctx} {σ : Env} {o : Oper} {T : Nat → Option TI} {g : List Prop} {v : AV} {S' : Sto}

theorem turns_setRow (w : World) (b : Nat) (cs : Array Value) : Turns w (w.setRow b cs) (some b) :=
  ⟨rfl, rfl, rfl, by simp [World.setRow], fun k _ hk => setRow_other w b k cs (fun e => hk (by rw [e]))⟩

theorem run_storeAt {t : Nat} {i : TI} (hT : TIOk P t i) {w : World} (b off : Nat) (cur : Array Value) (e : Nat) (hg : w.heap[b]? = some (.cells cur e (0, 0))) (cv : Value) (hl : cv.cells.toList.length = i.size)
    (hfit : off + cv.cells.toList.length ≤ cur.size) (h1 : ∀ x ∈ cv.cells.toList, x.oneCell' = true) :
    (Instr.storeAt t (.pointer (some ⟨b, off, none⟩)) cv).run P w = .ok () (w.setRow b (splice cur.toList off cv.cells.toList).toArray) := by
  have hst := run_storeCells_at P b off e cv.cells.toList 0 cur w hg (by simpa using hfit) h1
  have hsz : cv.cells.size = i.size := by simpa using hl
  simp only [Nat.add_zero] at hst
  simp [Instr.storeAt, Instr.sureAddr, storeVar, run_sizeOf hT, hsz, hst, splice]

theorem ok_store (hT : TOk P T) {t : Nat} {x y : Operand} {u1 u2 : AV} (ho : o.op = .store t x y) (hx : HasV O Γ σ x u1) (hy : HasV O Γ σ y u2) (h : stepStore T σ.S t u1 u2 = some (g, v, S')) (hg : AllP g) : OpOk P O Γ σ o v S' := by
  unfold stepStore at h
  split at h
  rotate_left
  · simp at h
  rename_i i vs hi hvs
  split at h
  · simp at h
  rename_i hlen
  have hlen := Nat.eq_of_beq_eq_true hlen
  have hTi := hT t i hi
  intro ρ a w hs hf he
  have h1 := hx ρ a w hs he
  have h2 := hy ρ a w hs he
  obtain ⟨⟨hvl, hvr⟩, hone⟩ := h2.cells hvs
  have hcl : (a.eval y).cells.toList.length = i.size := by rw [hvl, hlen]
  cases u1 with
  | bp k off =>
    simp only at h
    split at h
    · rename_i cs hk
      split at h
      · rename_i hle
        have hle := Nat.le_of_ble_eq_true hle
        simp only [Option.some.injEq, Prod.mk.injEq] at h
        obtain ⟨rfl, rfl, rfl⟩ := h
        generalize hav : a.eval x = av at h1
        cases h1 with
        | bp _ _ ad hlt hh =>
          obtain ⟨b, hv, rfl⟩ := hh cs hk
          obtain ⟨b', e, cur, hv', hheap, hsz, hz, hcell⟩ := box_cells hs hk
          obtain rfl : b' = b := by rw [hv] at hv'; simpa using hv'.symm
          have hfit : off + (a.eval y).cells.toList.length ≤ cur.size := by rw [hvl]; omega
          have hrun := run_storeAt hTi b' off cur e hheap (a.eval y) hcl hfit hone
          have hblk : (ρ k).blk = some b' := by simp [Loc.blk, hv]
          have ht : Turns w (w.setRow b' (splice cur.toList off (a.eval y).cells.toList).toArray) (ρ k).blk := by rw [hblk]; exact turns_setRow ..
          have hto : (AObj.box cs).to (ρ k) (ρ k) (.box (splice cs off vs)) := rfl
          have he2 := evo_put hs hk (.box (splice cs off vs)) (ρ k) hto (fun _ => rfl) ht rfl (fun b hb => .inl hb)
          refine ⟨.skip, _, _, ?_, .inr ⟨rfl, rfl⟩, hs.put hk (.box (splice cs off vs)) (ρ k) hto (fun _ => rfl) ht rfl (fun b hb => .inl hb) hz ?_, he2⟩
          · simp only [execOp, ho, hav, Sem.run_bind, hrun, Result.andThen_ok, Sem.run_pure]
          · refine ⟨b', e, _, hv, setRow_heap w b' cur _ e _ hheap, ?_, fun j hj => ?_, hz⟩
            · rw [List.size_toArray, splice_length _ _ _ (by simpa using hfit), splice_length _ _ _ hle]
              simpa using hsz
            · rw [splice_length _ _ _ hle] at hj
              rw [show (splice cur.toList off (a.eval y).cells.toList).toArray.getD j undef = (splice cur.toList off (a.eval y).cells.toList).getD j undef by simp [Array.getD_eq_getD_getElem?, List.getD_eq_getElem?_getD]]
              rw [splice_get _ _ _ hle, splice_get _ _ _ (by simpa using hfit), hvl]
              by_cases hc : off ≤ j ∧ j < off + vs.length
              · rw [if_pos hc, if_pos hc]
                exact (hvr (j - off) (by omega)).evo he2
              · rw [if_neg hc, if_neg hc]
                have := (hcell j hj).2.evo he2
                rwa [show cur.toList.getD j undef = cur.getD j undef by simp [Array.getD_eq_getD_getElem?, List.getD_eq_getElem?_getD]]
      · simp at h
    · simp at h
  | ep k sz n ix off =>
    simp only at h
    split at h
    · rename_i e sz' n' f hk
      split at h
      · rename_i hs1 hle
        obtain rfl := Nat.eq_of_beq_eq_true hs1
        have hle := Nat.le_of_ble_eq_true hle
        simp only [Option.some.injEq, Prod.mk.injEq] at h
        obtain ⟨rfl, rfl, rfl⟩ := h
        obtain ⟨hn, hix, _⟩ := hg
        subst hn
        generalize hav : a.eval x = av at h1
        cases h1 with
        | ep k sz n ix off ad hlt hh =>
          obtain ⟨_, hh2⟩ := hh _ _ _ hk
          obtain ⟨b, n2, c, hv, rfl⟩ := hh2 rfl
          obtain ⟨⟨xs, hown, hxone, hc⟩, hz⟩ := hs.objs k _ hk
          rw [hv] at hown
          obtain ⟨hxl, hor⟩ := hown
          rcases hor with ⟨hbad, _⟩ | ⟨g0, cap, cur, heq, _, hheap, hnc, hcm, hcs, htake⟩
          · simp at hbad
          · simp only [Value.slice.injEq, Option.some.injEq, Addr.mk.injEq, and_true] at heq
            obtain ⟨rfl, hn2, rfl⟩ := heq
            have hn2 := hn2.symm
            subst hn2
            have hmul : ix * sz + sz ≤ n * sz := by
              have : (ix + 1) * sz ≤ n * sz := Nat.mul_le_mul_right _ hix
              rw [Nat.add_mul, Nat.one_mul] at this; exact this
            have hmul2 : n * sz ≤ c * sz := Nat.mul_le_mul_right _ hnc
            have hfit : (ix * sz + off) + (a.eval y).cells.toList.length ≤ cur.size := by rw [hvl, hcs]; omega
            have hrun := run_storeAt hTi b (ix * sz + off) cur e hheap (a.eval y) hcl hfit hone
            have hblk : (ρ k).blk = some b := by simp [Loc.blk, hv]
            have ht : Turns w (w.setRow b (splice cur.toList (ix * sz + off) (a.eval y).cells.toList).toArray) (ρ k).blk := by rw [hblk]; exact turns_setRow ..
            have hto : (AObj.row e sz n f).to (ρ k) (ρ k) (.row e sz n (fun j => if j = ix then splice (f ix) off vs else f j)) := ⟨rfl, rfl, Nat.le_refl _, fun _ => rfl⟩
            have he2 := evo_put hs hk _ (ρ k) hto (fun _ => rfl) ht rfl (fun b hb => .inl hb)
            refine ⟨.skip, _, _, ?_, .inr ⟨rfl, rfl⟩, hs.put hk _ (ρ k) hto (fun _ => rfl) ht rfl (fun b hb => .inl hb) hz ?_, he2⟩
            · simp only [execOp, ho, hav, Sem.run_bind, hrun, Result.andThen_ok, Sem.run_pure]
            · have hxfit : (ix * sz + off) + (a.eval y).cells.toList.length ≤ xs.length := by rw [hvl, hxl]; omega
              refine ⟨⟨splice xs (ix * sz + off) (a.eval y).cells.toList, ?_, fun x hx => ?_, fun i' hi' => ?_⟩, hz⟩
              · rw [hv]
                refine ⟨by rw [splice_length _ _ _ hxfit, hxl], .inr ⟨b, c, _, rfl, Nat.zero_le _, setRow_heap w b cur _ e _ hheap, hnc, hcm, ?_, ?_⟩⟩
                · rw [List.size_toArray, splice_length _ _ _ (by simpa using hfit)]; simpa using hcs
                · rw [← htake]
                  apply List.ext_getElem?
                  intro j
                  have hL : ∀ (l : List Value) (j : Nat), l[j]? = if j < l.length then some (l.getD j undef) else none := fun l j => by
                    by_cases hj : j < l.length <;> simp [hj, List.getD_eq_getElem?_getD]
                  have hcl2 : cur.toList.length = c * sz := by simpa using hcs
                  rw [List.getElem?_take, hL, hL (splice _ _ _)]
                  rw [splice_length (cur.toList.take (n * sz)) _ _ (by rw [htake]; exact hxfit), splice_length cur.toList _ _ (by simpa using hfit), splice_get cur.toList _ _ (by simpa using hfit), splice_get (cur.toList.take (n * sz)) _ _ (by rw [htake]; exact hxfit)]
                  have hlt : (cur.toList.take (n * sz)).length = n * sz := by rw [List.length_take, hcl2]; omega
                  rw [hlt, hcl2]
                  by_cases hj : j < n * sz
                  · rw [if_pos hj, if_pos (by omega), if_pos hj]
                    by_cases hcc : ix * sz + off ≤ j ∧ j < ix * sz + off + (a.eval y).cells.toList.length
                    · rw [if_pos hcc, if_pos hcc]
                    · rw [if_neg hcc, if_neg hcc]
                      simp [List.getD_eq_getElem?_getD, List.getElem?_take, hj]
                  · rw [if_neg hj, if_neg hj]
              · simp only [splice, List.mem_append] at hx
                rcases hx with (hx | hx) | hx
                · exact hxone x (List.mem_of_mem_take hx)
                · exact hone x hx
                · exact hxone x (List.mem_of_mem_drop hx)
              · have hfl := (hc ix hix).1
                by_cases hii : i' = ix
                · subst hii
                  simp only [if_true]
                  refine ⟨by rw [splice_length _ _ _ (by omega)]; exact hfl, fun j hj => ?_⟩
                  rw [splice_get _ _ _ (by omega), splice_get _ _ _ hxfit, hvl]
                  by_cases hcc : off ≤ j ∧ j < off + vs.length
                  · rw [if_pos hcc, if_pos (by omega), show i' * sz + j - (i' * sz + off) = j - off by omega]
                    exact (hvr (j - off) (by omega)).evo he2
                  · rw [if_neg hcc, if_neg (by omega)]
                    exact ((hc i' hi').2 j hj).evo he2
                · simp only [if_neg hii]
                  refine ⟨(hc i' hi').1, fun j hj => ?_⟩
                  rw [splice_get _ _ _ hxfit, hvl, if_neg ?_]
                  · exact ((hc i' hi').2 j hj).evo he2
                  · rintro ⟨ha, hb⟩
                    rcases Nat.lt_or_gt_of_ne hii with hlt2 | hgt2
                    · have : (i' + 1) * sz ≤ ix * sz := Nat.mul_le_mul_right _ hlt2
                      rw [Nat.add_mul, Nat.one_mul] at this
                      omega
                    · have : (ix + 1) * sz ≤ i' * sz := Nat.mul_le_mul_right _ hgt2
                      rw [Nat.add_mul, Nat.one_mul] at this
                      omega
      · simp at h
    · simp at h
  | _ => simp at h
end
end Go.Proofs.YtobpnmljijeadaaDoor.A

/- Addresses, parts of values, whole numbers and the like over abstract states. -/
set_option linter.unusedVariables false
set_option linter.unusedSimpArgs false
namespace Go.Proofs.YtobpnmljijeadaaDoor.A
open Go

abbrev R3 := Option (List Prop × AV × Sto)

/-! ### Addresses -/
def AV.ptr (S : Sto) : AV → Option (List Prop)
  | .bp k _ => match S.at k with
    | some (.box _) => some []
    | _ => none
  | .ep k sz n _ _ => match S.at k with
    | some (.row _ sz' n' _) => match Nat.beq sz sz' with
      | true => some [n = n']
      | false => none
    | _ => none
  | .p (.rp _ _) => some []
  | _ => none

def AV.shift : AV → Nat → AV
  | .bp k o, d => .bp k (o + d)
  | .ep k sz n ix o, d => .ep k sz n ix (o + d)
  | .p (.rp cs o), d => .p (.rp cs (o + d))
  | x, _ => x

section
variable {P : Program} {O : Nat → Prop} {Γ : Ctx} {S : Sto} {ρ : Nat → Loc} {w : World}
theorem ptr_ok (hs : St O Γ S ρ w) {u : AV} {cv : Value} (hu : VR O S ρ w u cv) {g : List Prop} (h : u.ptr S = some g) (hg : AllP g) :
    ∃ b off, cv = .pointer (some ⟨b, off, none⟩) ∧ ∀ d, VR O S ρ w (u.shift d) (.pointer (some ⟨b, off + d, none⟩)) := by
  cases hu with
  | bp k o a hlt hh =>
    simp only [AV.ptr] at h
    split at h
    · rename_i cs hk
      obtain ⟨b, hv, rfl⟩ := hh cs hk
      exact ⟨b, o, rfl, fun d => .bp k (o + d) _ hlt fun cs' hk' => by
        obtain ⟨b', hv', e⟩ := hh cs' hk'
        refine ⟨b', hv', ?_⟩
        simp only [Option.some.injEq, Addr.mk.injEq, and_true] at e
        rw [e]⟩
    · simp at h
  | ep k sz n ix o a hlt hh =>
    simp only [AV.ptr] at h
    split at h
    · rename_i e sz' n' f hk
      split at h
      · rename_i hsz
        obtain rfl := Nat.eq_of_beq_eq_true hsz
        simp only [Option.some.injEq] at h
        subst h
        obtain ⟨hn, _⟩ := hg
        obtain ⟨_, h2⟩ := hh _ _ _ hk
        obtain ⟨b, n2, c, hv, rfl⟩ := h2 hn
        refine ⟨b, ix * sz + o, rfl, fun d => .ep k sz n ix (o + d) _ hlt fun e2 m2 f2 hk2 => ?_⟩
        obtain ⟨h3, h4⟩ := hh _ _ _ hk2
        refine ⟨h3, fun e => ?_⟩
        obtain ⟨b', n'', c', hv', e'⟩ := h4 e
        refine ⟨b', n'', c', hv', ?_⟩
        simp only [Option.some.injEq, Addr.mk.injEq, and_true] at e'
        rw [e', Nat.add_assoc]
      · simp at h
    · simp at h
  | p hp =>
    cases hp with
    | rp cs o b0 o0 gv hm hr =>
      refine ⟨b0, o0 + o, rfl, fun d => ?_⟩
      have := PR.rp (w := w) (own := ownS O S ρ) cs (o + d) b0 o0 gv hm hr
      rw [← Nat.add_assoc] at this
      exact .p this
    | _ => simp [AV.ptr] at h
  | _ => simp [AV.ptr] at h
end

def stepField (T : Nat → Option TI) (S : Sto) (t : Nat) (x : AV) (f : Nat) : R3 :=
  match T t with
  | some i => match i.td with
    | .struct fs => match fs[f]? with
      | some (off, ft) => match T ft with
        | some fi => match Nat.ble 1 fi.size, x.ptr S with
          | true, some g => some (g, x.shift off, S)
          | _, _ => none
        | none => none
      | none => none
    | _ => none
  | none => none

def stepIndexAddr (T : Nat → Option TI) (S : Sto) (t : Nat) (x ix : AV) : R3 :=
  match ix with
  | .p (.v (.int _ j)) => match T t with
    | some i => match i.td with
      | .slice e => match T e with
        | some ei => match x with
          | .p (.ro sz n f) => match Nat.beq sz ei.size with
            | true => some ([0 ≤ j ∧ j < (n : Int)], .p (.rp (f j.toNat) 0), S)
            | false => none
          | .row k sz n => match S.at k with
            | some (.row _ sz' n' _) => match Nat.beq sz ei.size, Nat.beq sz sz' with
              | true, true => some ([n = n', 0 ≤ j ∧ j < (n : Int)], .ep k sz n j.toNat 0, S)
              | _, _ => none
            | _ => none
          | _ => none
        | none => none
      | .arr len e => match T e, x.ptr S with
        | some ei, some g => some ((0 ≤ j ∧ j < (len : Int)) :: g, x.shift (j.toNat * ei.size), S)
        | _, _ => none
      | _ => none
    | none => none
  | _ => none

def stepNilCheck (S : Sto) (x : AV) : R3 :=
  match x with
  | .p (.fn (.func f) a b) => some ([], .p (.fn (.func f) a b), S)
  | .fn (.func f) a b => some ([], .fn (.func f) a b, S)
  | .bp k o => match S.at k with
    | some (.box _) => some ([], .bp k o, S)
    | _ => none
  | .p (.rp cs o) => some ([], .p (.rp cs o), S)
  | _ => none

section
variable {P : Program} {O : Nat → Prop} {Γ : Ctx} {σ : Env} {o : Oper} {T : Nat → Option TI} {g : List Prop} {v : AV} {S' : Sto}

theorem run_fieldAt (hT : TOk P T) {t f off ft : Nat} {i fi : TI} (hi : T t = some i) {fs : List (Nat × Nat)} (htd : i.td = .struct fs) (hf : fs[f]? = some (off, ft)) (hfi : T ft = some fi) (h1 : 1 ≤ fi.size) (w : World) (b o : Nat) :
    (Instr.fieldAt t (.pointer (some ⟨b, o, none⟩)) f).run P w = .ok (.pointer (some ⟨b, o + off, none⟩)) w := by
  obtain ⟨d, hd, hof⟩ := (hT t i hi).und
  rw [htd] at hof
  obtain ⟨fl, rfl, hfl⟩ := TD.of_struct hof
  rw [← hfl, List.getElem?_map] at hf
  cases hq : fl.toList[f]? with
  | none => rw [hq] at hf; simp at hf
  | some q =>
    rw [hq] at hf
    simp only [Option.map_some, Option.some.injEq, Prod.mk.injEq] at hf
    obtain ⟨rfl, rfl⟩ := hf
    have hq' : fl[f]? = some q := by simpa using hq
    have hsz := run_sizeOf (hT _ _ hfi) w
    have hne : ¬ fi.size = 0 := by omega
    simp [Instr.fieldAt, run_underlying hd, hq', Instr.sureAddr, fieldPlace, hsz, hne, add_at]

theorem ok_fieldAddr (hT : TOk P T) {t f : Nat} {x : Operand} {u : AV} (ho : o.op = .fieldAddr t x f) (hx : HasV O Γ σ x u) (h : stepField T σ.S t u f = some (g, v, S')) (hg : AllP g) : OpOk P O Γ σ o v S' := by
  unfold stepField at h
  split at h
  case h_2 => simp at h
  rename_i i hi
  split at h
  case h_2 => simp at h
  rename_i fs htd
  split at h
  case h_2 => simp at h
  rename_i off ft hf
  split at h
  case h_2 => simp at h
  rename_i fi hfi
  split at h
  case h_2 => simp at h
  rename_i g' hb hp
  simp only [Option.some.injEq, Prod.mk.injEq] at h
  obtain ⟨rfl, rfl, rfl⟩ := h
  refine OpOk.still fun ρ a w hs he => ?_
  obtain ⟨b, of, hav, hvr⟩ := ptr_ok hs (hx ρ a w hs he) hp hg
  refine ⟨_, ?_, hvr off⟩
  simp only [execOp, ho, hav, Sem.run_bind, run_fieldAt hT hi htd hf hfi (Nat.le_of_ble_eq_true hb), Result.andThen_ok, Sem.run_pure]

theorem VR.val {O : Nat → Prop} {S : Sto} {ρ : Nat → Loc} {w : World} {x cv : Value} (h : VR O S ρ w (.p (.v x)) cv) : cv = x := by
  generalize hp : AV.p (.v x) = av at h
  cases h with
  | p h1 =>
    cases hp
    cases h1; rfl
  | _ => cases hp

theorem ok_indexAddr (hT : TOk P T) {t : Nat} {x y : Operand} {u1 u2 : AV} (ho : o.op = .indexAddr t x y) (hx : HasV O Γ σ x u1) (hy : HasV O Γ σ y u2) (h : stepIndexAddr T σ.S t u1 u2 = some (g, v, S')) (hg : AllP g) : OpOk P O Γ σ o v S' := by
  unfold stepIndexAddr at h
  split at h
  case h_2 => simp at h
  rename_i kd j
  split at h
  case h_2 => simp at h
  rename_i i hi
  obtain ⟨d, hd, hof⟩ := (hT t i hi).und
  have hix : ∀ ρ (a : Act) w, St O Γ σ.S ρ w → EnvOk O σ ρ a w → a.eval y = .int kd j := fun ρ a w hs he => (hy ρ a w hs he).val
  split at h
  · rename_i e htd
    rw [htd] at hof
    obtain rfl := TD.of_slice hof
    split at h
    case h_2 => simp at h
    rename_i ei hei
    have hse := run_sizeOf (hT e ei hei)
    split at h
    · rename_i sz n f
      split at h
      case h_2 => simp at h
      rename_i hsz
      simp only [Option.some.injEq, Prod.mk.injEq] at h
      obtain ⟨rfl, rfl, rfl⟩ := h
      have hsz := Nat.eq_of_beq_eq_true hsz
      obtain ⟨⟨h0, h1⟩, _⟩ := hg
      refine OpOk.still fun ρ a w hs he => ?_
      have hu := hx ρ a w hs he
      generalize hav : a.eval x = av at hu
      cases hu with
      | p hp =>
        cases hp with
        | ro _ _ cap _ ad gv hc hz hl hm h1c hr =>
          have hj : j.toNat < n := by omega
          obtain ⟨b, o1, rfl, hno, hcell⟩ := hm (by omega)
          refine ⟨.pointer (some ⟨b, o1 + j.toNat * sz, none⟩), ?_, ?_⟩
          · simp [execOp, ho, hav, hix ρ a w hs he, Instr.indexAt, run_underlying hd, asIntOf, h0, h1, hse, ← hsz, add_at]
          · have := PR.rp (w := w) (own := ownS O σ.S ρ) (f j.toNat) 0 b (o1 + j.toNat * sz) (gv j.toNat) (fun q hq => ⟨by rw [Nat.add_assoc]; exact hcell _ _ hj (by rwa [hl _ hj] at hq), hno⟩) (fun q hq => hr _ _ hj (by rwa [hl _ hj] at hq))
            exact .p this
    · rename_i k sz n
      split at h
      case h_2 => simp at h
      rename_i e' sz' n' f' hk
      split at h
      case h_2 => simp at h
      rename_i hsz hsz2
      simp only [Option.some.injEq, Prod.mk.injEq] at h
      obtain ⟨rfl, rfl, rfl⟩ := h
      have hsz := Nat.eq_of_beq_eq_true hsz
      obtain rfl := Nat.eq_of_beq_eq_true hsz2
      obtain ⟨hn, ⟨h0, h1⟩, _⟩ := hg
      subst hn
      refine OpOk.still fun ρ a w hs he => ?_
      have hu := hx ρ a w hs he
      generalize hav : a.eval x = av at hu
      cases hu with
      | row _ _ _ ad l c hlt hh =>
        obtain ⟨_, h2⟩ := hh _ _ _ hk
        have h3 := h2 rfl
        obtain ⟨⟨xs, hown, _⟩, _⟩ := hs.objs k _ hk
        rw [← h3] at hown
        rcases hown.2 with ⟨hbad, hn0⟩ | ⟨g0, cap, cur, heq, _⟩
        · omega
        · simp only [Value.slice.injEq] at heq
          obtain ⟨rfl, rfl, rfl⟩ := heq
          refine ⟨.pointer (some ⟨g0, j.toNat * sz, none⟩), ?_, ?_⟩
          · simp [execOp, ho, hav, hix ρ a w hs he, Instr.indexAt, run_underlying hd, asIntOf, h0, h1, hse, ← hsz, add_at]
          · refine .ep k sz _ _ _ _ hlt fun e2 m2 f2 hk2 => ?_
            obtain ⟨h5, h6⟩ := hh _ _ _ hk2
            exact ⟨h5, fun e => ⟨g0, _, c, (h6 e).symm, rfl⟩⟩
    · simp at h
  · rename_i len e htd
    rw [htd] at hof
    obtain rfl := TD.of_arr hof
    split at h
    case h_2 => simp at h
    rename_i ei gp hei hp
    simp only [Option.some.injEq, Prod.mk.injEq] at h
    obtain ⟨rfl, rfl, rfl⟩ := h
    obtain ⟨⟨h0, h1⟩, hg⟩ := hg
    refine OpOk.still fun ρ a w hs he => ?_
    obtain ⟨b, of, hav, hvr⟩ := ptr_ok hs (hx ρ a w hs he) hp hg
    refine ⟨_, ?_, hvr (j.toNat * ei.size)⟩
    simp [execOp, ho, hav, hix ρ a w hs he, Instr.indexAt, Instr.sureAddr, run_underlying hd, asIntOf, h0, h1, run_sizeOf (hT e ei hei), add_at]
  · simp at h
end
end Go.Proofs.YtobpnmljijeadaaDoor.A

/- Parts of values, choices, lengths, comparisons over abstract states. -/
set_option linter.unusedVariables false
set_option linter.unusedSimpArgs false
namespace Go.Proofs.YtobpnmljijeadaaDoor.A
open Go

/-- What one operation gives that leaves all as it is. -/
theorem run_value {P : Program} {s : Sem Value} {w w' : World} {v : Value} (h : s.run P w = .ok v w') : (do pure (Next.value (← s)) : Sem Next).run P w = .ok (.value v) w' := by
  simp [h]

/-! ### Choices -/
def boolOf : AV → Option (Option Bool × Bool)
  | .p (.v (.bool b)) => some (none, b)
  | .ifb c (.p (.v (.bool b))) => some (some c, b)
  | _ => none

def condP (x : Bool) : Option Bool → List Prop
  | none => []
  | some c => [x = true → c = true]

def stepPick (S : Sto) (c a b : AV) : R3 :=
  match c with
  | .p (.v (.bool x)) => match boolOf a, boolOf b with
    | some (ca, ya), some (cb, yb) => some (condP x ca ++ condP (!x) cb, .p (.v (.bool (bif x then ya else yb))), S)
    | _, _ => none
  | _ => none

section
variable {P : Program} {O : Nat → Prop} {Γ : Ctx} {σ : Env} {o : Oper} {T : Nat → Option TI} {g : List Prop} {v : AV} {S' : Sto}

theorem boolOf_ok {S : Sto} {ρ : Nat → Loc} {w : World} {a : AV} {c : Option Bool} {y : Bool} {cv : Value} (h : boolOf a = some (c, y)) (hv : VR O S ρ w a cv) {x : Bool} (hx : x = true) (hg : AllP (condP x c)) : cv = .bool y := by
  unfold boolOf at h
  split at h
  · simp only [Option.some.injEq, Prod.mk.injEq] at h
    obtain ⟨rfl, rfl⟩ := h
    exact hv.val
  · simp only [Option.some.injEq, Prod.mk.injEq] at h
    obtain ⟨rfl, rfl⟩ := h
    exact (hv.ifb_inv (hg.1 hx)).val
  · simp at h

theorem ok_pick {c x y : Operand} {u1 u2 u3 : AV} (ho : o.op = .pick c x y) (hc : HasV O Γ σ c u1) (hx : HasV O Γ σ x u2) (hy : HasV O Γ σ y u3) (h : stepPick σ.S u1 u2 u3 = some (g, v, S')) (hg : AllP g) : OpOk P O Γ σ o v S' := by
  unfold stepPick at h
  split at h
  case h_2 => simp at h
  rename_i b
  split at h
  case h_2 => simp at h
  rename_i ca ya cb yb ha hb
  simp only [Option.some.injEq, Prod.mk.injEq] at h
  obtain ⟨rfl, rfl, rfl⟩ := h
  obtain ⟨hg1, hg2⟩ := hg.append
  refine OpOk.still fun ρ a w hs he => ?_
  have h1 := (hc ρ a w hs he).val
  have h2 := hx ρ a w hs he
  have h3 := hy ρ a w hs he
  refine ⟨.bool (bif b then ya else yb), ?_, .p (.v _)⟩
  simp only [execOp, ho, h1, asBool, Sem.run_bind, Sem.run_pure, Result.andThen_ok]
  cases b with
  | true => simp only [if_true, cond_true]; rw [boolOf_ok ha h2 rfl hg1]
  | false => simp only [Bool.false_eq_true, if_false, cond_false]; rw [boolOf_ok hb h3 rfl hg2]
end

/-! ### Parts -/
def partOf (i : TI) (cs : List AV) (off : Nat) (g : List Prop) (S : Sto) : R3 := loadFrom i (cs.drop off) g S

def stepFieldV (T : Nat → Option TI) (S : Sto) (t : Nat) (x : AV) (f : Nat) : R3 :=
  match T t, x with
  | some i, .agg cs => match i.td with
    | .struct fs => match fs[f]? with
      | some (off, ft) => match T ft with
        | some fi => partOf fi cs off [] S
        | none => none
      | none => none
    | _ => none
  | _, _ => none

def byteAt (s : ByteArray) (j : Int) : Int := ((s.data.toList.getD j.toNat 0).toNat : Int)

def stepIndex (T : Nat → Option TI) (S : Sto) (t : Nat) (x ix : AV) : R3 :=
  match T t, ix with
  | some i, .p (.v (.int _ j)) => match i.td with
    | .str => match x with
      | .p (.v (.string s)) => some ([0 ≤ j ∧ j < (s.size : Int)], .p (.v (.int .u8 (byteAt s j))), S)
      | _ => none
    | .arr len e => match T e, x with
      | some ei, .agg cs => partOf ei cs (j.toNat * ei.size) [0 ≤ j ∧ j < (len : Int)] S
      | _, _ => none
    | _ => none
  | _, _ => none

def stepExtract (S : Sto) (x : AV) (ix : Nat) : R3 :=
  match x with
  | .tup vs => match vs[ix]? with
    | some v => some ([], v, S)
    | none => none
  | _ => none

section
variable {P : Program} {O : Nat → Prop} {Γ : Ctx} {σ : Env} {o : Oper} {T : Nat → Option TI} {g : List Prop} {v : AV} {S' : Sto}

theorem VR.agg_inv {S : Sto} {ρ : Nat → Loc} {w : World} {cs : List AV} {cv : Value} (h : VR O S ρ w (.agg cs) cv) : ∃ vs : List Value, cv = .agg vs.toArray ∧ VRs O S ρ w cs vs := by
  cases h with
  | agg _ vs hl hh => exact ⟨vs, rfl, hl, hh⟩

theorem part_ok {S : Sto} {ρ : Nat → Loc} {w : World} {t : Nat} {i : TI} (hT : TIOk P t i) {cs : List AV} {vs : List Value} (hv : VRs O S ρ w cs vs) {off : Nat} (hc : i.size ≤ (cs.drop off).length) (h1 : i.td.agg = false → i.size = 1) :
    ∃ cv, (part t vs.toArray off).run P w = .ok cv w ∧ VR O S ρ w (if i.td.agg then .agg ((cs.drop off).take i.size) else (cs.drop off).getD 0 .any) cv := by
  simp only [List.length_drop] at hc
  simp only [part, Sem.run_bind, run_isAgg hT, Result.andThen_ok]
  cases ha : i.td.agg with
  | true =>
    simp only [if_true, Sem.run_map, run_sizeOf hT, Sem.run_bind, Result.andThen_ok, Sem.run_pure]
    refine ⟨_, rfl, ?_⟩
    have e : vs.toArray.extract off (off + i.size) = ((vs.drop off).take i.size).toArray := by
      apply Array.ext'
      simp [List.take_drop, Nat.add_comm]
    rw [e]
    have hvl := hv.1
    refine .agg _ _ (by simp; omega) (fun j hj => ?_)
    have hj1 : j < i.size := by simp at hj; omega
    have hj2 : off + j < cs.length := by simp at hj; omega
    have := hv.2 (off + j) hj2
    rwa [show ((cs.drop off).take i.size).getD j .any = cs.getD (off + j) .any by simp [List.getD_eq_getElem?_getD, List.getElem?_take, hj1],
      show ((vs.drop off).take i.size).getD j undef = vs.getD (off + j) undef by simp [List.getD_eq_getElem?_getD, List.getElem?_take, hj1]]
  | false =>
    have hone := h1 ha
    simp only [Bool.false_eq_true, if_false]
    have hlt : off < vs.length := by rw [hv.1]; omega
    refine ⟨vs.getD off undef, ?_, ?_⟩
    · simp [List.getD_eq_getElem?_getD, hlt]
    · have := hv.2 off (by omega)
      rwa [show (cs.drop off).getD 0 .any = cs.getD off .any by simp [List.getD_eq_getElem?_getD]]

theorem ok_field (hT : TOk P T) {t f : Nat} {x : Operand} {u : AV} (ho : o.op = .field t x f) (hx : HasV O Γ σ x u) (h : stepFieldV T σ.S t u f = some (g, v, S')) (hg : AllP g) : OpOk P O Γ σ o v S' := by
  unfold stepFieldV at h
  split at h
  case h_2 => simp at h
  rename_i i cs hi
  split at h
  case h_2 => simp at h
  rename_i fs htd
  split at h
  case h_2 => simp at h
  rename_i off ft hf
  split at h
  case h_2 => simp at h
  rename_i fi hfi
  obtain ⟨rfl, rfl, hsz, h1, rfl⟩ := loadFrom_ok h
  refine OpOk.still fun ρ a w hs he => ?_
  obtain ⟨vs, hav, hvr⟩ := (hx ρ a w hs he).agg_inv
  obtain ⟨cv, hr, hv2⟩ := part_ok (hT ft fi hfi) hvr hsz h1
  refine ⟨cv, ?_, hv2⟩
  obtain ⟨d, hd, hof⟩ := (hT t i hi).und
  rw [htd] at hof
  obtain ⟨fl, rfl, hfl⟩ := TD.of_struct hof
  rw [← hfl, List.getElem?_map] at hf
  cases hq : fl.toList[f]? with
  | none => rw [hq] at hf; simp at hf
  | some q =>
    rw [hq] at hf
    simp only [Option.map_some, Option.some.injEq, Prod.mk.injEq] at hf
    obtain ⟨rfl, rfl⟩ := hf
    have hq' : fl[f]? = some q := by simpa using hq
    simp [execOp, ho, hav, Instr.field, run_underlying hd, hq', asAgg, hr]

theorem ok_index (hT : TOk P T) {t : Nat} {x y : Operand} {u1 u2 : AV} (ho : o.op = .index t x y) (hx : HasV O Γ σ x u1) (hy : HasV O Γ σ y u2) (h : stepIndex T σ.S t u1 u2 = some (g, v, S')) (hg : AllP g) : OpOk P O Γ σ o v S' := by
  unfold stepIndex at h
  split at h
  case h_2 => simp at h
  rename_i i kd j hi
  obtain ⟨d, hd, hof⟩ := (hT t i hi).und
  have hix : ∀ ρ (a : Act) w, St O Γ σ.S ρ w → EnvOk O σ ρ a w → a.eval y = .int kd j := fun ρ a w hs he => (hy ρ a w hs he).val
  split at h
  · rename_i htd
    rw [htd] at hof
    obtain rfl := TD.of_str hof
    split at h
    case h_2 => simp at h
    rename_i s
    simp only [Option.some.injEq, Prod.mk.injEq] at h
    obtain ⟨rfl, rfl, rfl⟩ := h
    obtain ⟨⟨h0, h1⟩, _⟩ := hg
    refine OpOk.still fun ρ a w hs he => ⟨_, ?_, .p (.v _)⟩
    have hlt : j.toNat < s.size := by omega
    have hb : s[j.toNat]? = some (s.data.toList.getD j.toNat 0) := by
      rw [getElem?_pos s j.toNat hlt]
      have : j.toNat < s.data.toList.length := by simpa using hlt
      simp only [List.getD_eq_getElem?_getD, List.getElem?_eq_getElem this, Option.getD_some]
      rfl
    simp [execOp, ho, (hx ρ a w hs he).val, hix ρ a w hs he, Instr.index, asIntOf, run_underlying hd, h0, hb, byteAt]
  · rename_i len e htd
    rw [htd] at hof
    obtain rfl := TD.of_arr hof
    split at h
    case h_2 => simp at h
    rename_i ei cs hei
    obtain ⟨rfl, rfl, hsz, h1, rfl⟩ := loadFrom_ok h
    obtain ⟨⟨h0, hlt⟩, _⟩ := hg
    refine OpOk.still fun ρ a w hs he => ?_
    obtain ⟨vs, hav, hvr⟩ := (hx ρ a w hs he).agg_inv
    obtain ⟨cv, hr, hv2⟩ := part_ok (hT e ei hei) hvr hsz h1
    refine ⟨cv, ?_, hv2⟩
    simp [execOp, ho, hav, hix ρ a w hs he, Instr.index, asIntOf, run_underlying hd, h0, hlt, run_sizeOf (hT e ei hei), hr]
  · simp at h

theorem ok_extract {ix : Nat} {x : Operand} {u : AV} (ho : o.op = .extract x ix) (hx : HasV O Γ σ x u) (h : stepExtract σ.S u ix = some (g, v, S')) : OpOk P O Γ σ o v S' := by
  unfold stepExtract at h
  split at h
  case h_2 => simp at h
  rename_i vs
  split at h
  case h_2 => simp at h
  rename_i c hc
  simp only [Option.some.injEq, Prod.mk.injEq] at h
  obtain ⟨rfl, rfl, rfl⟩ := h
  refine OpOk.still fun ρ a w hs he => ?_
  have hu := hx ρ a w hs he
  generalize hav : a.eval x = av at hu
  cases hu with
  | tup _ cvs hl hh =>
    have hlt : ix < vs.length := (List.getElem?_eq_some_iff.1 hc).1
    have hv := hh ix hlt
    rw [show vs.getD ix .any = c by simp [List.getD_eq_getElem?_getD, hc]] at hv
    refine ⟨_, ?_, hv⟩
    simp [execOp, ho, hav, Instr.extract, List.getD_eq_getElem?_getD, hl, hlt]

theorem ok_nilCheck {x : Operand} {u : AV} (ho : o.op = .nilCheck x) (hx : HasV O Γ σ x u) (h : stepNilCheck σ.S u = some (g, v, S')) : OpOk P O Γ σ o v S' := by
  unfold stepNilCheck at h
  split at h
  · simp only [Option.some.injEq, Prod.mk.injEq] at h
    obtain ⟨rfl, rfl, rfl⟩ := h
    refine OpOk.still fun ρ a w hs he => ?_
    have hu := hx ρ a w hs he
    refine ⟨a.eval x, ?_, hu⟩
    generalize hav : a.eval x = av at hu
    cases hu with
    | p hp => cases hp with | fn _ _ _ a b _ _ _ _ => simp [execOp, ho, hav]
  · simp only [Option.some.injEq, Prod.mk.injEq] at h
    obtain ⟨rfl, rfl, rfl⟩ := h
    refine OpOk.still fun ρ a w hs he => ?_
    have hu := hx ρ a w hs he
    refine ⟨a.eval x, ?_, hu⟩
    generalize hav : a.eval x = av at hu
    cases hu with
    | fn _ _ _ a b _ _ _ _ => simp [execOp, ho, hav]
  · rename_i k off
    split at h
    case h_2 => simp at h
    rename_i cs hk
    simp only [Option.some.injEq, Prod.mk.injEq] at h
    obtain ⟨rfl, rfl, rfl⟩ := h
    refine OpOk.still fun ρ a w hs he => ?_
    have hu := hx ρ a w hs he
    obtain ⟨b, of, hav, _⟩ := ptr_ok hs hu (g := []) (by simp only [AV.ptr, hk]) trivial
    refine ⟨a.eval x, ?_, hu⟩
    simp [execOp, ho, hav]
  · simp only [Option.some.injEq, Prod.mk.injEq] at h
    obtain ⟨rfl, rfl, rfl⟩ := h
    refine OpOk.still fun ρ a w hs he => ?_
    have hu := hx ρ a w hs he
    obtain ⟨b, of, hav, _⟩ := ptr_ok hs hu (g := []) (by simp only [AV.ptr]) trivial
    refine ⟨a.eval x, ?_, hu⟩
    simp [execOp, ho, hav]
  · simp at h
end

/-! ### Numbers, truth values, strings -/
def stepBin (wr : Bool) (T : Nat → Option TI) (S : Sto) (op : BinOp) (t : Nat) (x y : AV) : R3 :=
  match x, y with
  | .p (.v (.int k a)), .p (.v (.int k' b)) => match (match op with | .shl => true | .shr => true | _ => decide (k = k')) with
    | true => match (match wr with | true => (arithW op k a b).orElse fun _ => arith op k a b | false => arith op k a b) with
      | some (g, v) => some (g, .p (.v v), S)
      | none => none
    | false => none
  | .p (.v (.bool a)), .p (.v (.bool b)) => match T t with
    | some i => match i.td with
      | .bool => match op with
        | .eql => some ([], .p (.v (.bool (a == b))), S)
        | .neq => some ([], .p (.v (.bool (!(a == b)))), S)
        | _ => none
      | _ => none
    | none => none
  | .p (.v (.string a)), .p (.v (.string b)) => match op with
    | .eql => some ([], .p (.v (.bool (a.toList == b.toList))), S)
    | .neq => some ([], .p (.v (.bool (!(a.toList == b.toList)))), S)
    | .add => some ([(a.size : Int) + b.size ≤ 9223372036854775807], .p (.v (.string (a ++ b))), S)
    | _ => none
  | .p (.ro _ n _), .p (.v (.slice none 0 0)) => match T t with
    | some i => match i.td with
      | .slice _ => match op with
        | .eql => some ([], .p (.nl n), S)
        | _ => none
      | _ => none
    | none => none
  | _, _ => none

def stepUn (S : Sto) (op : UnOp) (x : AV) : R3 :=
  match op, x with
  | .not, .p (.v (.bool b)) => some ([], .p (.v (.bool (!b))), S)
  | .neg, .p (.v (.int k n)) => some (rng k (-n), .p (.v (.int k (-n))), S)
  | _, _ => none

def stepConv (wr : Bool) (T : Nat → Option TI) (S : Sto) (src dst : Nat) (x : AV) : R3 :=
  match T src, T dst, x with
  | some _, some di, .p (.v (.int _ n)) => match di.td with
    | .int k => match wr with
      | true => some ([], .p (.v (.int k (k.wrap n))), S)
      | false => some (rng k n, .p (.v (.int k n)), S)
    | _ => none
  | some _, some di, .p (.v (.string s)) => match di.td with
    | .str => some ([], .p (.v (.string s)), S)
    | _ => none
  | _, _, _ => none

section
variable {P : Program} {O : Nat → Prop} {Γ : Ctx} {σ : Env} {o : Oper} {T : Nat → Option TI} {g : List Prop} {v : AV} {S' : Sto}

theorem binOp_shift {w : World} {op : BinOp} (hop : op = .shl ∨ op = .shr) {k k' : IntKind} (t : Nat) {a b : Int} {l : List Prop} {v : Value} (h : arith op k a b = some (l, v)) (hl : AllP l) :
    (binOp op t (.int k a) (.int k' b)).run P w = .ok v w := by
  rcases hop with rfl | rfl
  all_goals
    simp only [arith, Option.some.injEq, Prod.mk.injEq] at h
    obtain ⟨rfl, rfl⟩ := h
    simp only [AllP] at hl
    simp [binOp, Op.shift]
  · have h0 : ¬ b < 0 := by have := hl.1; omega
    simp [h0, wrap_rng k _ hl.2]
  · have h0 : ¬ b < 0 := by omega
    simp [h0]

theorem eqGuard_bools (w : World) (op : BinOp) (t : Nat) (x y : Operand) (a b : Bool) : (eqGuard op t x y (.bool a) (.bool b)).run P w = .ok () w := by
  unfold eqGuard
  cases op <;> rfl
theorem eqGuard_strs (w : World) (op : BinOp) (t : Nat) (x y : Operand) (a b : ByteArray) : (eqGuard op t x y (.string a) (.string b)).run P w = .ok () w := by
  unfold eqGuard
  cases op <;> rfl

theorem eqGuard_slices (w : World) (op : BinOp) (t : Nat) (x y : Operand) (a b : Option Addr) (n c n' c' : Nat) : (eqGuard op t x y (.slice a n c) (.slice b n' c')).run P w = .ok () w := by
  unfold eqGuard
  cases op <;> rfl

theorem ok_bin (hT : TOk P T) {wr : Bool} {op : BinOp} {t t' : Nat} {x y : Operand} {u1 u2 : AV} (ho : o.op = .binOp op t x y t') (hx : HasV O Γ σ x u1) (hy : HasV O Γ σ y u2) (h : stepBin wr T σ.S op t u1 u2 = some (g, v, S')) (hg : AllP g) : OpOk P O Γ σ o v S' := by
  unfold stepBin at h
  split at h
  · rename_i k a1 k' b1
    split at h
    case h_2 => simp at h
    rename_i hkk
    split at h
    case h_2 => simp at h
    rename_i g' v' hv'
    simp only [Option.some.injEq, Prod.mk.injEq] at h
    obtain ⟨rfl, rfl, rfl⟩ := h
    refine OpOk.still fun ρ a w hs he => ⟨v', ?_, .p (.v _)⟩
    have e1 := (hx ρ a w hs he).val
    have e2 := (hy ρ a w hs he).val
    have hrun : (binOp op t (.int k a1) (.int k' b1)).run P w = .ok v' w := by
      have hcase : (arithW op k a1 b1 = some (g', v') ∨ arith op k a1 b1 = some (g', v')) := by
        cases wr with
        | true =>
          simp only at hv'
          cases hw : arithW op k a1 b1 with
          | none => rw [hw] at hv'; exact .inr (by simpa using hv')
          | some r => rw [hw] at hv'; exact .inl (by simpa using hv')
        | false => exact .inr hv'
      by_cases hsh : op = .shl ∨ op = .shr
      · rcases hcase with hc | hc
        · rcases hsh with rfl | rfl
          · simp only [arithW, Option.some.injEq, Prod.mk.injEq] at hc
            obtain ⟨rfl, rfl⟩ := hc
            have h0 : ¬ b1 < 0 := by have := hg.1; omega
            simp [binOp, Op.shift, h0]
          · simp [arithW] at hc
        · exact binOp_shift hsh t hc hg
      · have hk : k = k' := by
          revert hkk
          cases op <;> simp at hsh ⊢
        subst hk
        rcases hcase with hc | hc
        · exact binOp_intsW t hc hg
        · exact binOp_ints t hc hg
    simp [execOp, ho, e1, e2, eqGuard_ints, hrun]
  · rename_i a1 b1
    split at h
    case h_2 => simp at h
    rename_i i hi
    split at h
    case h_2 => simp at h
    rename_i htd
    obtain ⟨d, hd, hof⟩ := (hT t i hi).und
    rw [htd] at hof
    obtain rfl := TD.of_bool hof
    have e1 := fun ρ a w hs he => (hx ρ a w hs he).val
    have e2 := fun ρ a w hs he => (hy ρ a w hs he).val
    split at h
    · simp only [Option.some.injEq, Prod.mk.injEq] at h
      obtain ⟨rfl, rfl, rfl⟩ := h
      refine OpOk.still fun ρ a w hs he => ⟨_, ?_, .p (.v _)⟩
      simp only [execOp, ho, e1 ρ a w hs he, e2 ρ a w hs he, Sem.run_bind, eqGuard_bools, run_eql_bool w t a1 b1 hd, Result.andThen_ok, Sem.run_pure]
    · simp only [Option.some.injEq, Prod.mk.injEq] at h
      obtain ⟨rfl, rfl, rfl⟩ := h
      refine OpOk.still fun ρ a w hs he => ⟨_, ?_, .p (.v _)⟩
      simp only [execOp, ho, e1 ρ a w hs he, e2 ρ a w hs he, Sem.run_bind, eqGuard_bools, run_neq_bool w t a1 b1 hd, Result.andThen_ok, Sem.run_pure]
    · simp at h
  · rename_i a1 b1
    have e1 := fun ρ a w hs he => (hx ρ a w hs he).val
    have e2 := fun ρ a w hs he => (hy ρ a w hs he).val
    split at h
    · simp only [Option.some.injEq, Prod.mk.injEq] at h
      obtain ⟨rfl, rfl, rfl⟩ := h
      refine OpOk.still fun ρ a w hs he => ⟨_, ?_, .p (.v _)⟩
      simp [execOp, ho, e1 ρ a w hs he, e2 ρ a w hs he, eqGuard_strs, binOp, Op.stringOp]
    · simp only [Option.some.injEq, Prod.mk.injEq] at h
      obtain ⟨rfl, rfl, rfl⟩ := h
      refine OpOk.still fun ρ a w hs he => ⟨_, ?_, .p (.v _)⟩
      simp [execOp, ho, e1 ρ a w hs he, e2 ρ a w hs he, eqGuard_strs, binOp, Op.stringOp]
    · simp only [Option.some.injEq, Prod.mk.injEq] at h
      obtain ⟨rfl, rfl, rfl⟩ := h
      refine OpOk.still fun ρ a w hs he => ⟨_, ?_, .p (.v _)⟩
      have hsum := run_string_add_sum (P := P) w a1 b1 (by have := hg.1; omega)
      simp [execOp, ho, e1 ρ a w hs he, e2 ρ a w hs he, eqGuard_strs, binOp, hsum]
    · simp at h
  · rename_i sz n f
    split at h
    case h_2 => simp at h
    rename_i i hi
    split at h
    case h_2 => simp at h
    rename_i e htd
    obtain ⟨d, hd, hof⟩ := (hT t i hi).und
    rw [htd] at hof
    obtain rfl := TD.of_slice hof
    split at h
    case h_2 => simp at h
    simp only [Option.some.injEq, Prod.mk.injEq] at h
    obtain ⟨rfl, rfl, rfl⟩ := h
    refine OpOk.still fun ρ a w hs he => ?_
    have hu := hx ρ a w hs he
    have e2 := (hy ρ a w hs he).val
    generalize hav : a.eval x = av at hu
    cases hu with
    | p hp =>
      cases hp with
      | ro _ _ cap _ ad gv hc hz hl hm h1c hr =>
        refine ⟨.bool ad.isNone, ?_, .p (.nl n _ (fun hb => ?_))⟩
        · simp only [execOp, ho, hav, e2, Sem.run_bind, eqGuard_slices, Lib.run_eql_slice_nil w t e ad n cap 0 0 hd, Result.andThen_ok, Sem.run_pure]
        · cases n with
          | zero => rfl
          | succ n =>
            obtain ⟨b, o1, rfl, _⟩ := hm (by omega)
            simp at hb
  · simp at h

theorem ok_un {op : UnOp} {t : Nat} {x : Operand} {u : AV} (ho : o.op = .unOp op t x) (hx : HasV O Γ σ x u) (h : stepUn σ.S op u = some (g, v, S')) (hg : AllP g) : OpOk P O Γ σ o v S' := by
  unfold stepUn at h
  split at h
  · simp only [Option.some.injEq, Prod.mk.injEq] at h
    obtain ⟨rfl, rfl, rfl⟩ := h
    refine OpOk.still fun ρ a w hs he => ⟨_, ?_, .p (.v _)⟩
    simp [execOp, ho, (hx ρ a w hs he).val, Op.unary]
  · rename_i k n
    simp only [Option.some.injEq, Prod.mk.injEq] at h
    obtain ⟨rfl, rfl, rfl⟩ := h
    refine OpOk.still fun ρ a w hs he => ⟨_, ?_, .p (.v _)⟩
    have := wrap_rng k (-n) hg
    simp [execOp, ho, (hx ρ a w hs he).val, Op.unary, Op.intArith, this]
  · simp at h

theorem ok_conv (hT : TOk P T) {wr : Bool} {src dst : Nat} {x : Operand} {u : AV} (ho : o.op = .convert src dst x) (hx : HasV O Γ σ x u) (h : stepConv wr T σ.S src dst u = some (g, v, S')) (hg : AllP g) : OpOk P O Γ σ o v S' := by
  unfold stepConv at h
  split at h
  · rename_i _ _ si di kd n hsi hdi
    obtain ⟨d, hd, hof⟩ := (hT dst di hdi).und
    obtain ⟨d0, hd0, _⟩ := (hT src si hsi).und
    split at h
    case h_2 => simp at h
    rename_i k htd
    rw [htd] at hof
    obtain rfl := TD.of_int hof
    have e1 := fun ρ a w hs he => (hx ρ a w hs he).val
    split at h
    · simp only [Option.some.injEq, Prod.mk.injEq] at h
      obtain ⟨rfl, rfl, rfl⟩ := h
      refine OpOk.still fun ρ a w hs he => ⟨_, ?_, .p (.v _)⟩
      simp [execOp, ho, e1 ρ a w hs he, convert, run_underlying hd, run_underlying hd0, Conv.intToInt]
    · simp only [Option.some.injEq, Prod.mk.injEq] at h
      obtain ⟨rfl, rfl, rfl⟩ := h
      refine OpOk.still fun ρ a w hs he => ⟨_, ?_, .p (.v _)⟩
      simp [execOp, ho, e1 ρ a w hs he, convert, run_underlying hd, run_underlying hd0, Conv.intToInt, wrap_rng k n hg]
  · rename_i _ _ si di s hsi hdi
    obtain ⟨d, hd, hof⟩ := (hT dst di hdi).und
    obtain ⟨d0, hd0, _⟩ := (hT src si hsi).und
    split at h
    case h_2 => simp at h
    rename_i htd
    rw [htd] at hof
    obtain rfl := TD.of_str hof
    simp only [Option.some.injEq, Prod.mk.injEq] at h
    obtain ⟨rfl, rfl, rfl⟩ := h
    refine OpOk.still fun ρ a w hs he => ⟨_, ?_, .p (.v _)⟩
    simp [execOp, ho, (hx ρ a w hs he).val, convert, run_underlying hd, run_underlying hd0]
  · simp at h
end
end Go.Proofs.YtobpnmljijeadaaDoor.A

/- Rows of the call's own: append, slice literals, make; lengths and cuts. -/
set_option linter.unusedVariables false
set_option linter.unusedSimpArgs false
namespace Go.Proofs.YtobpnmljijeadaaDoor.A
open Go

section
variable {P : Program} (w : World)

theorem append_room_src (t tx ty e : TypeId) (i : TypeInfo) (ht : P.underlying t = some (.slice e)) (hi : P.info? e = some i) (g sLen sCap : Nat) (cur : Array Value) (hg : w.heap[g]? = some (.cells cur e (0, 0)))
    (x : Value) (m : Nat) (news : List Value) (hs : Src P i.size tx x m news w) (hroom : sLen + m ≤ sCap) (hfit : sLen * i.size + news.length ≤ cur.size) :
    (Builtin.append_ #[t, tx] ty #[.slice (some ⟨g, 0, none⟩) sLen sCap, x]).run P w =
      .ok (.slice (some ⟨g, 0, none⟩) (sLen + m) sCap) (w.setRow g (cur.toList.take (sLen * i.size) ++ news ++ cur.toList.drop (sLen * i.size + news.length)).toArray) := by
  have hst := run_storeCells_at P g (sLen * i.size) e news 0 cur w hg (by simpa using hfit) hs.one
  simp only [Nat.add_zero] at hst
  rcases hs.kind with ⟨e', hk⟩ | hk <;> simp [Builtin.append_, run_underlying ht, run_underlying hk, sizeOf, typeInfo, hi, hs.len, hroom, hs.cells, Addr.add_lit, hst]

/-- An append onto a row of the call's own. -/
theorem append_src_own (base : Nat) (t tx ty e : TypeId) (i : TypeInfo) (z : Value) (ht : P.underlying t = some (.slice e)) (hi : P.info? e = some i) (hz : i.zero = some z) (hzs : z.cells.size = i.size)
    (v : Value) (n : Nat) (xs : List Value) (hown : w.ownsRow base e i.size v n xs) (x : Value) (m : Nat) (news : List Value) (hs : Src P i.size tx x m news w)
    (h63 : n + m ≤ maxLen) (hbytes : (n + m) * i.bytes ≤ 140737488355328) (hbase : base ≤ w.heap.size) :
    ∃ v' w', (Builtin.append_ #[t, tx] ty #[v, x]).run P w = .ok v' w' ∧ w'.ownsRow base e i.size v' (n + m) (xs ++ news) ∧ w.grownBy w' v.ownBlock ∧
      (v'.ownBlock = v.ownBlock ∨ v'.ownBlock = some w.heap.size) ∧ (m = 0 → v' = v) := by
  have hl := hs.newsLen
  have hsmall : n + m ≤ 9223372036854775807 := by simp only [maxLen] at h63; omega
  have hlen : (xs ++ news).length = (n + m) * i.size := by rw [List.length_append, hown.1, hl, Nat.add_mul]
  have grown : ∀ (old : Nat) (row : Option Nat),
      (w.drew.alloc (.cells ((xs ++ news).toArray ++ Builtin.zeroCells z.cells (grownCap w (n + m) old e - (n + m))) e)).ownsRow base e i.size
        (.slice (some ⟨w.heap.size, 0, none⟩) (n + m) (grownCap w (n + m) old e)) (n + m) (xs ++ news) ∧
      w.grownBy (w.drew.alloc (.cells ((xs ++ news).toArray ++ Builtin.zeroCells z.cells (grownCap w (n + m) old e - (n + m))) e)) row := by
    intro old row
    have hge := grownCap_ge w (n + m) old e
    have hcm : grownCap w (n + m) old e ≤ maxLen := grownCap_le_maxLen w (n + m) old e h63
    refine ⟨⟨hlen, .inr ⟨w.heap.size, _, _, rfl, hbase, heap_alloc_new w.drew _, hge, hcm, ?_, ?_⟩⟩, ⟨rfl, rfl, rfl, by simp, fun k hk _ => heap_alloc_old w.drew _ k hk⟩⟩
    · simp only [Array.size_append, List.size_toArray, size_zeroCells, hzs, hlen, ← Nat.add_mul]
      congr 1
      omega
    · simp only [Array.toList_append]
      rw [← hlen]
      exact List.take_left
  rcases hown.2 with ⟨rfl, rfl⟩ | ⟨g, cap, cur, rfl, hbg, hg, hnc, hcm, hcs, htake⟩
  · have hx : xs = [] := List.eq_nil_of_length_eq_zero (by simpa using hown.1)
    subst hx
    by_cases hm : m = 0
    · subst hm
      have hn : news = [] := List.eq_nil_of_length_eq_zero (by simpa using hl)
      subst hn
      refine ⟨.slice none 0 0, w, ?_, World.ownsRow_nil w base e i.size, ⟨rfl, rfl, rfl, Nat.le_refl _, fun _ _ _ => rfl⟩, .inl rfl, fun _ => rfl⟩
      rcases hs.kind with ⟨e', hk⟩ | hk <;> simp [Builtin.append_, run_underlying ht, run_underlying hk, sizeOf, typeInfo, hi, hs.len, hs.cells]
    · have hr := run_append_grow_src (P := P) w t tx ty e i z ht hi hz none 0 0 [] (by simp [Builtin.firstCells]) x m news hs (by omega) (by omega) (growslice_fits (by omega) hbytes)
      obtain ⟨h1, h2⟩ := grown 0 (Value.ownBlock (.slice none 0 0))
      exact ⟨_, _, hr, h1, h2, .inr rfl, fun h => absurd h hm⟩
  · by_cases hroom : n + m ≤ cap
    · have hfit : n * i.size + news.length ≤ cur.size := by rw [hl, hcs, ← Nat.add_mul]; exact Nat.mul_le_mul_right _ hroom
      have hr := append_room_src (P := P) w t tx ty e i ht hi g n cap cur hg x m news hs hroom hfit
      refine ⟨_, _, hr, ⟨hlen, .inr ⟨g, cap, _, rfl, hbg, setRow_heap w g cur _ e _ hg, hroom, hcm, ?_, ?_⟩⟩, ⟨rfl, rfl, rfl, by simp, fun k _ hk => setRow_other w g k _ (fun e => hk (by simp [Value.ownBlock, e]))⟩, .inl rfl, fun h => by subst h; rfl⟩
      · simp only [List.size_toArray, List.length_append, List.length_take, List.length_drop, Array.length_toList]
        omega
      · rw [htake, ← hlen]
        exact List.take_left
    · have holds : ∀ j u, xs[j]? = some u → w.cell? ((⟨g, 0, none⟩ : Addr).add j) = some u := hown.cells (g := g) rfl
      have hold : (Builtin.firstCells i.size n (.slice (some ⟨g, 0, none⟩) n cap)).run P w.drew = .ok xs.toArray w.drew := run_firstCells_some w.drew i.size n ⟨g, 0, none⟩ n cap xs hown.1 (by simpa using holds)
      have hr := run_append_grow_src (P := P) w t tx ty e i z ht hi hz (some ⟨g, 0, none⟩) n cap xs hold x m news hs (by omega) (by omega) (growslice_fits (by omega) hbytes)
      obtain ⟨h1, h2⟩ := grown cap (Value.ownBlock (.slice (some ⟨g, 0, none⟩) n cap))
      exact ⟨_, _, hr, h1, h2, .inr rfl, fun h => by omega⟩
end

/-! ### What a slice's elements are -/
/-- A source of elements: how many, and which. -/
def srcOf (S : Sto) : AV → Option (List Prop × Nat × Nat × (Nat → List AV))
  | .p (.ro sz n f) => some ([], sz, n, fun i => (f i).map AV.p)
  | .row k sz n => match S.at k with
    | some (.row _ sz' n' f) => match Nat.beq sz sz' with
      | true => some ([n = n'], sz, n, f)
      | false => none
    | _ => none
  | .view k sz n lo len => match S.at k with
    | some (.row _ sz' n' f) => match Nat.beq sz sz' with
      | true => some ([n = n', lo + len ≤ n], sz, len, fun i => f (lo + i))
      | false => none
    | _ => none
  | _ => none

section
variable {P : Program} {O : Nat → Prop} {Γ : Ctx} {σ : Env} {o : Oper} {T : Nat → Option TI} {g : List Prop} {v : AV} {S' : Sto}

theorem flat_get {α : Type} (f : Nat → List α) (sz n : Nat) (h : ∀ i, i < n → (f i).length = sz) : ((List.range n).flatMap f).length = n * sz ∧ ∀ i j, i < n → j < sz → ∀ d, ((List.range n).flatMap f).getD (i * sz + j) d = (f i).getD j d := by
  induction n with
  | zero => simp
  | succ n ih =>
    obtain ⟨h1, h2⟩ := ih (fun i hi => h i (by omega))
    have hn := h n (by omega)
    refine ⟨by simp [List.range_succ, h1, hn, Nat.add_mul], fun i j hi hj d => ?_⟩
    simp only [List.range_succ, List.flatMap_append, List.flatMap_cons, List.flatMap_nil, List.append_nil, List.getD_eq_getElem?_getD, List.getElem?_append, h1]
    by_cases hi2 : i < n
    · have : (i + 1) * sz ≤ n * sz := Nat.mul_le_mul_right _ hi2
      rw [Nat.add_mul, Nat.one_mul] at this
      rw [if_pos (by omega)]
      have := h2 i j hi2 hj d
      simpa [List.getD_eq_getElem?_getD] using this
    · obtain rfl : i = n := by omega
      rw [if_neg (by omega), show i * sz + j - i * sz = j by omega]

theorem src_ok {S : Sto} {ρ : Nat → Loc} {w : World} (hs : St O Γ S ρ w) {x : AV} {cv : Value} (hv : VR O S ρ w x cv) {sz n : Nat} {f : Nat → List AV} (h : srcOf S x = some (g, sz, n, f)) (hg : AllP g) {tx e' : Nat} (hk : P.underlying tx = some (.slice e')) :
    ∃ news, Src P sz tx cv n news w ∧ (∀ i, i < n → (f i).length = sz) ∧ ∀ i j, i < n → j < sz → VR O S ρ w ((f i).getD j .any) (news.getD (i * sz + j) undef) := by
  have hcell : ∀ (l : List Value) (a : Option Addr) (c : Nat), l.length = n * sz → (0 < n → ∃ b o, a = some ⟨b, o, none⟩ ∧ ∀ j, j < n * sz → w.cell? ⟨b, o + j, none⟩ = some (l.getD j undef)) → (∀ x ∈ l, x.oneCell' = true) → Src P sz tx (.slice a n c) n l w := by
    intro l a c hl hc h1
    rcases Nat.eq_zero_or_pos n with hn | hn
    · subst hn
      obtain rfl : l = [] := List.eq_nil_of_length_eq_zero (by simpa using hl)
      cases a with
      | none => exact Src.ofNil w hk c
      | some x => exact Src.ofSlice w hk x 0 c [] (by simp) (fun j u hu => by simp at hu) (fun u hu => by cases hu)
    · obtain ⟨b, o, rfl, hcc⟩ := hc hn
      refine Src.ofSlice w hk ⟨b, o, none⟩ n c l hl (fun j u hu => ?_) h1
      have hj : j < l.length := (List.getElem?_eq_some_iff.1 hu).1
      rw [add_at, hcc j (by omega)]
      simp [List.getD_eq_getElem?_getD, hu]
  have hsplit : ∀ j, j < n * sz → ∃ i j', i < n ∧ j' < sz ∧ j = i * sz + j' := by
    intro j hj
    have hsz : 0 < sz := by
      rcases Nat.eq_zero_or_pos sz with h0 | h0
      · subst h0; omega
      · exact h0
    refine ⟨j / sz, j % sz, Nat.div_lt_of_lt_mul (by rw [Nat.mul_comm]; exact hj), Nat.mod_lt _ hsz, ?_⟩
    have := Nat.div_add_mod j sz
    rw [Nat.mul_comm] at this
    omega
  unfold srcOf at h
  split at h
  · rename_i sz0 n0 f0
    simp only [Option.some.injEq, Prod.mk.injEq] at h
    obtain ⟨rfl, rfl, rfl, rfl⟩ := h
    cases hv with
    | p hp =>
      cases hp with
      | ro _ _ cap _ a gv hc hz hl hm h1 hr =>
        have hfl := flat_get (fun i => (List.range sz0).map (gv i)) sz0 n0 (fun i hi => by simp)
        have hget : ∀ i j, i < n0 → j < sz0 → ((List.range n0).flatMap (fun i => (List.range sz0).map (gv i))).getD (i * sz0 + j) undef = gv i j := fun i j hi hj => by
          rw [hfl.2 i j hi hj]; simp [List.getD_eq_getElem?_getD, hj]
        refine ⟨(List.range n0).flatMap (fun i => (List.range sz0).map (gv i)), hcell _ a cap hfl.1 (fun hn => ?_) (fun x hx => ?_), fun i hi => by simpa using hl i hi, fun i j hi hj => ?_⟩
        · obtain ⟨b, o, ha, hno, hcc⟩ := hm hn
          refine ⟨b, o, ha, fun j hj => ?_⟩
          obtain ⟨i, j', hi, hj', rfl⟩ := hsplit j hj
          rw [hcc i j' hi hj', hget i j' hi hj']
        · simp only [List.mem_flatMap, List.mem_range, List.mem_map] at hx
          obtain ⟨i, hi, j, hj, rfl⟩ := hx
          exact h1 i j hi hj
        · rw [hget i j hi hj, getD_map _ _ _ (by rw [hl i hi]; exact hj) (.v undef)]
          exact .p (hr i j hi hj)
  · rename_i k0 sz0 n0
    split at h
    case h_2 => simp at h
    rename_i e0 sz' n' f' hk0
    split at h
    case h_2 => simp at h
    rename_i hsz
    obtain rfl := Nat.eq_of_beq_eq_true hsz
    simp only [Option.some.injEq, Prod.mk.injEq] at h
    obtain ⟨rfl, rfl, rfl, rfl⟩ := h
    obtain ⟨hn, _⟩ := hg
    subst hn
    cases hv with
    | row _ _ _ a l c hlt hh =>
      obtain ⟨_, h2⟩ := hh _ _ _ hk0
      have h3 := h2 rfl
      obtain ⟨⟨xs, hown, hone, hc⟩, _⟩ := hs.objs _ _ hk0
      rw [← h3] at hown
      have hln : l = n0 := by
        rcases hown.2 with ⟨hb, hn0⟩ | ⟨g0, cap, cur, heq, _⟩
        · simp only [Value.slice.injEq] at hb; omega
        · simp only [Value.slice.injEq] at heq; exact heq.2.1
      subst hln
      refine ⟨xs, hcell xs a c hown.1 (fun hn => ?_) hone, fun i hi => (hc i hi).1, fun i j hi hj => (hc i hi).2 j hj⟩
      rcases hown.2 with ⟨hb, hn0⟩ | ⟨g0, cap, cur, heq, _⟩
      · omega
      · simp only [Value.slice.injEq] at heq
        obtain ⟨rfl, _, rfl⟩ := heq
        refine ⟨g0, 0, rfl, fun j hj => ?_⟩
        have := hown.cells (g := g0) rfl j (xs.getD j undef) (by simp [List.getD_eq_getElem?_getD, show j < xs.length by rw [hown.1]; exact hj])
        rwa [add_at] at this
  · rename_i k0 sz0 n0 lo len
    split at h
    case h_2 => simp at h
    rename_i e0 sz' n' f' hk0
    split at h
    case h_2 => simp at h
    rename_i hsz
    obtain rfl := Nat.eq_of_beq_eq_true hsz
    simp only [Option.some.injEq, Prod.mk.injEq] at h
    obtain ⟨rfl, rfl, rfl, rfl⟩ := h
    obtain ⟨hn, hle, _⟩ := hg
    subst hn
    cases hv with
    | view _ _ _ _ _ a l c hlt hh =>
      obtain ⟨_, h2⟩ := hh _ _ _ hk0
      obtain ⟨rfl, hcl, h4⟩ := h2 rfl
      obtain ⟨⟨xs, hown, hone, hc⟩, _⟩ := hs.objs _ _ hk0
      have hmul : lo * sz0 + l * sz0 ≤ n0 * sz0 := by rw [← Nat.add_mul]; exact Nat.mul_le_mul_right _ hle
      have hxl := hown.1
      refine ⟨(xs.drop (lo * sz0)).take (l * sz0), hcell _ a c (by simp; omega) (fun hn => ?_) (fun x hx => hone x (List.mem_of_mem_drop (List.mem_of_mem_take hx))), fun i hi => (hc (lo + i) (by omega)).1, fun i j hi hj => ?_⟩
      · obtain ⟨b, n', c', hv', rfl⟩ := h4 hn
        rw [hv'] at hown
        refine ⟨b, lo * sz0, rfl, fun j hj => ?_⟩
        have := hown.cells (g := b) rfl (lo * sz0 + j) (xs.getD (lo * sz0 + j) undef) (by simp [List.getD_eq_getElem?_getD, show lo * sz0 + j < xs.length by omega])
        rw [add_at] at this
        rw [Nat.zero_add] at this
        rw [this]
        simp [List.getD_eq_getElem?_getD, List.getElem?_take, hj]
      · have hlt2 : i * sz0 + j < l * sz0 := by
          have : (i + 1) * sz0 ≤ l * sz0 := Nat.mul_le_mul_right _ hi
          rw [Nat.add_mul, Nat.one_mul] at this; omega
        rw [show ((xs.drop (lo * sz0)).take (l * sz0)).getD (i * sz0 + j) undef = xs.getD ((lo + i) * sz0 + j) undef by
          simp only [List.getD_eq_getElem?_getD, List.getElem?_take, if_pos hlt2, List.getElem?_drop]
          congr 2
          rw [Nat.add_mul]; omega]
        exact (hc (lo + i) (by omega)).2 j hj
  · simp at h
end
end Go.Proofs.YtobpnmljijeadaaDoor.A
