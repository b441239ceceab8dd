import PyProof.Rows.All
import Wide.All
import OpenK.AllK
import Wide.FinOn
import HandS.ForMost
import HandS.Deep
import HandS.TupAny
import HandS.IsInst
import HandS.SortInts
import HandS.Conv
import HandS.Zip
import HandS.NoneIn
import HandS.Defaults
import HandS.Wide
import HandS.Text
import HandS.Strs
import KE.GoesEnumKw
import KE.KDictZip
import KE.KItemsList
import KE.KStateDown
import Lean
import HandS.Base
import HandS.Call
import HandS.Ends
import HandS.More
import HandS.Words
import HandS.WordsExc
import HandS.Head0
import HandS.Head1
import HandS.Head2
import HandS.HeadEnd
import HandS.HeadHook1
import HandS.HeadHook2
import PySem.Challenge.RW_countveil_k22_whole_tables_put_together
import PyProof.P3Eq
import HandS.Codes
import HandS.Set
import PyProof.ReprLen
import HandS.MakeKwOnly
set_option Elab.async false
set_option linter.all false
set_option maxRecDepth 100000
set_option maxHeartbeats 4000000
/-! L0: data that stand in the heap, slots, the state of a frame by data. -/
namespace K22
open PySem PySem.Spec PyProof.Rows L2

/-! ### a value stands for data; its lists lie away from N -/
mutual
inductive Dat (K : PySem.W.Frag) (N : Addr → Prop) (H : Hp) : V → PyData → Prop
  | non : Dat K N H .non .none
  | bl (b : Bool) : Dat K N H (.bl b) (.bool b)
  | int (i : Int) : Dat K N H (.int i) (.int i)
  | str (x : Str) : Dat K N H (.str x) (.str x)
  | lst {a : Addr} {xs : List V} {ds : List PyData} (h : H a = some (.lst xs)) (n : ¬ N a) (r : DatA K N H xs ds) : Dat K N H (.ref a) (.list ds)
  | tup {a : Addr} {xs : List V} {ds : List PyData} (h : SqT K H a xs) (r : DatA K N H xs ds) : Dat K N H (.ref a) (.tuple ds)
inductive DatA (K : PySem.W.Frag) (N : Addr → Prop) (H : Hp) : List V → List PyData → Prop
  | nil : DatA K N H [] []
  | cons {v : V} {vs : List V} {d : PyData} {ds : List PyData} (h : Dat K N H v d) (r : DatA K N H vs ds) : DatA K N H (v :: vs) (d :: ds)
end
section
variable {K : PySem.W.Frag} {N N' : Addr → Prop} {H H' : Hp}
mutual
theorem Dat.move (hl : ∀ a xs, H a = some (.lst xs) → ¬ N a → H' a = some (.lst xs) ∧ ¬ N' a) (ht : ∀ a xs, SqT K H a xs → SqT K H' a xs) : ∀ (d : PyData) (v : V), Dat K N H v d → Dat K N' H' v d
  | .none, _, h => by cases h; exact .non
  | .bool b, _, h => by cases h; exact .bl b
  | .int i, _, h => by cases h; exact .int i
  | .str x, _, h => by cases h; exact .str x
  | .list ds, _, h => by
    cases h with
    | lst h n r => exact .lst (hl _ _ h n).1 (hl _ _ h n).2 (DatA.move hl ht ds _ r)
  | .tuple ds, _, h => by
    cases h with
    | tup h r => exact .tup (ht _ _ h) (DatA.move hl ht ds _ r)
  | .dict _, _, h => by cases h
theorem DatA.move (hl : ∀ a xs, H a = some (.lst xs) → ¬ N a → H' a = some (.lst xs) ∧ ¬ N' a) (ht : ∀ a xs, SqT K H a xs → SqT K H' a xs) : ∀ (ds : List PyData) (vs : List V), DatA K N H vs ds → DatA K N' H' vs ds
  | [], _, h => by cases h; exact .nil
  | d :: ds, _, h => by
    cases h with
    | cons h r => exact .cons (Dat.move hl ht d _ h) (DatA.move hl ht ds _ r)
end
mutual
theorem Dat.dp : ∀ (d : PyData) (v : V), Dat K N H v d → Dp K H v d
  | .none, _, h => by cases h; exact .non
  | .bool b, _, h => by cases h; exact .bl b
  | .int i, _, h => by cases h; exact .int i
  | .str x, _, h => by cases h; exact .str x
  | .list ds, _, h => by
    cases h with
    | lst h n r => exact .lst (.of h) (DatA.dp ds _ r)
  | .tuple ds, _, h => by
    cases h with
    | tup h r => exact .tup h (DatA.dp ds _ r)
  | .dict _, _, h => by cases h
theorem DatA.dp : ∀ (ds : List PyData) (vs : List V), DatA K N H vs ds → DpAll K H vs ds
  | [], _, h => by cases h; exact .nil
  | d :: ds, _, h => by
    cases h with
    | cons h r => exact .cons (Dat.dp d _ h) (DatA.dp ds _ r)
end
theorem DatA.length : ∀ {ds : List PyData} {vs : List V}, DatA K N H vs ds → vs.length = ds.length
  | [], _, h => by cases h; rfl
  | d :: ds, _, h => by
    cases h with
    | cons h r => exact congrArg Nat.succ (DatA.length r)
theorem DatA.get : ∀ {ds : List PyData} {vs : List V} {i : Nat} {v : V} {d : PyData}, DatA K N H vs ds → vs[i]? = some v → ds[i]? = some d → Dat K N H v d
  | [], _, _, _, _, h, _, e => by simp at e
  | d :: ds, _, 0, _, _, h, e, e' => by
    cases h with
    | cons h r => simp at e e'; subst e e'; exact h
  | d :: ds, _, i + 1, _, _, h, e, e' => by
    cases h with
    | cons h r => exact DatA.get r (by simpa using e) (by simpa using e')
theorem DatA.get_of {ds : List PyData} {vs : List V} {i : Nat} {d : PyData} (h : DatA K N H vs ds) (e : ds[i]? = some d) : ∃ v, vs[i]? = some v ∧ Dat K N H v d := by
  have hi : i < vs.length := by
    rw [h.length]
    exact (List.getElem?_eq_some_iff.mp e).1
  exact ⟨vs[i], List.getElem?_eq_getElem hi, h.get (List.getElem?_eq_getElem hi) e⟩
theorem DatA.app : ∀ {ds es : List PyData} {vs ws : List V}, DatA K N H vs ds → DatA K N H ws es → DatA K N H (vs ++ ws) (ds ++ es)
  | [], _, _, _, h, g => by cases h; exact g
  | d :: ds, _, _, _, h, g => by
    cases h with
    | cons h r => exact .cons h (DatA.app r g)
theorem DatA.one {v : V} {d : PyData} (h : Dat K N H v d) : DatA K N H [v] [d] := .cons h .nil
theorem DatA.take : ∀ {ds : List PyData} {vs : List V} (n : Nat), DatA K N H vs ds → DatA K N H (vs.take n) (ds.take n)
  | _, _, 0, _ => .nil
  | [], _, n + 1, h => by cases h; exact .nil
  | d :: ds, _, n + 1, h => by
    cases h with
    | cons h r => exact .cons h (DatA.take n r)
theorem DatA.drop : ∀ {ds : List PyData} {vs : List V} (n : Nat), DatA K N H vs ds → DatA K N H (vs.drop n) (ds.drop n)
  | _, _, 0, h => h
  | [], _, n + 1, h => by cases h; exact .nil
  | d :: ds, _, n + 1, h => by
    cases h with
    | cons h r => exact DatA.drop n r
theorem DatA.erase : ∀ {ds : List PyData} {vs : List V} (n : Nat), DatA K N H vs ds → DatA K N H (vs.eraseIdx n) (ds.eraseIdx n)
  | [], _, n, h => by cases h; exact .nil
  | d :: ds, _, 0, h => by
    cases h with
    | cons h r => exact r
  | d :: ds, _, n + 1, h => by
    cases h with
    | cons h r => exact .cons h (DatA.erase n r)
theorem DatA.ints : ∀ {ns : List Int} {vs : List V}, DatA K N H vs (ns.map PyData.int) → vs = ns.map V.int
  | [], _, h => by cases h; rfl
  | n :: ns, _, h => by
    cases h with
    | cons h r => cases h; rw [DatA.ints r]; rfl
theorem DatA.of_ints : ∀ (ns : List Int), DatA K N H (ns.map V.int) (ns.map PyData.int)
  | [] => .nil
  | n :: ns => .cons (.int n) (DatA.of_ints ns)
theorem DatA.strs : ∀ {ns : List Str} {vs : List V}, DatA K N H vs (ns.map PyData.str) → vs = ns.map V.str
  | [], _, h => by cases h; rfl
  | n :: ns, _, h => by
    cases h with
    | cons h r => cases h; rw [DatA.strs r]; rfl
theorem DatA.bls : ∀ {ns : List Bool} {vs : List V}, DatA K N H vs (ns.map PyData.bool) → vs = ns.map V.bl
  | [], _, h => by cases h; rfl
  | n :: ns, _, h => by
    cases h with
    | cons h r => cases h; rw [DatA.bls r]; rfl
end
theorem sqT_same {K : PySem.W.Frag} {H H' : Hp} (e : Same H H') {a : Addr} {xs : List V} (h : SqT K H a xs) : SqT K H' a xs := by
  rcases h with (h | ⟨o, h⟩) | h
  · exact .inl (.inl (e _ _ h))
  · exact .inl (.inr ⟨o, e _ _ h⟩)
  · exact .inr h
/-- all lists are of a size that the machine bears -/
def LenOk (H : Hp) : Prop := ∀ a xs, H a = some (.lst xs) → xs.length ≤ sizeLine
def IsL (H : Hp) (a : Addr) : Prop := ∃ xs, H a = some (.lst xs)
/-- what is at M may change, be it made meanwhile -/
structure Step (M : Addr → Prop) (H : Hp) (M' : Addr → Prop) (H' : Hp) : Prop where
  keep : ∀ a o, ¬ M a → H a = some o → H' a = some o
  new : ∀ a, M' a → M a ∨ H a = none
theorem Step.refl {M : Addr → Prop} {H : Hp} : Step M H M H := ⟨fun _ _ _ e => e, fun _ h => .inl h⟩
theorem Step.trans {M M1 M2 : Addr → Prop} {H H1 H2 : Hp} (a : Step M H M1 H1) (b : Step M1 H1 M2 H2) : Step M H M2 H2 := by
  refine ⟨fun x o n e => ?_, fun x h => ?_⟩
  · refine b.keep x o (fun h => ?_) (a.keep x o n e)
    rcases a.new x h with h | h
    · exact n h
    · rw [e] at h; cases h
  · rcases b.new x h with h | h
    · exact a.new x h
    · cases q : H x with
      | none => exact .inr rfl
      | some o =>
        by_cases c : M x
        · exact .inl c
        · rw [a.keep x o c q] at h; cases h
theorem Step.same {M : Addr → Prop} {H H' : Hp} (e : Same H H') : Step M H M H' := ⟨fun a o _ h => e a o h, fun _ h => .inl h⟩
theorem Step.seqT {K : PySem.W.Frag} {M M' : Addr → Prop} {H H' : Hp} (s : Step M H M' H') (hm : ∀ a, M a → IsL H a) {a : Addr} {xs : List V} (h : SqT K H a xs) : SqT K H' a xs := by
  rcases h with (h | ⟨o, h⟩) | h
  · exact .inl (.inl (s.keep _ _ (fun q => by obtain ⟨xs, e⟩ := hm a q; rw [h] at e; cases e) h))
  · exact .inl (.inr ⟨o, s.keep _ _ (fun q => by obtain ⟨xs, e⟩ := hm a q; rw [h] at e; cases e) h⟩)
  · exact .inr h
/-- data through a step -/
theorem Dat.step {K : PySem.W.Frag} {N0 M M' : Addr → Prop} {H H' : Hp} (s : Step M H M' H') (hm : ∀ a, M a → IsL H a) {d : PyData} {v : V} (h : Dat K (fun a => N0 a ∨ M a) H v d) : Dat K (fun a => N0 a ∨ M' a) H' v d :=
  h.move (fun a xs e n => ⟨s.keep _ _ (fun q => n (.inr q)) e, fun q => by
    rcases q with q | q
    · exact n (.inl q)
    · rcases s.new a q with q | q
      · exact n (.inr q)
      · rw [e] at q; cases q⟩) (fun a xs => s.seqT hm)
theorem DatA.step {K : PySem.W.Frag} {N0 M M' : Addr → Prop} {H H' : Hp} (s : Step M H M' H') (hm : ∀ a, M a → IsL H a) {d : List PyData} {v : List V} (h : DatA K (fun a => N0 a ∨ M a) H v d) : DatA K (fun a => N0 a ∨ M' a) H' v d :=
  h.move (fun a xs e n => ⟨s.keep _ _ (fun q => n (.inr q)) e, fun q => by
    rcases q with q | q
    · exact n (.inl q)
    · rcases s.new a q with q | q
      · exact n (.inr q)
      · rw [e] at q; cases q⟩) (fun a xs => s.seqT hm)
theorem Dat.same {K : PySem.W.Frag} {N : Addr → Prop} {H H' : Hp} (e : Same H H') {d : PyData} {v : V} (h : Dat K N H v d) : Dat K N H' v d :=
  h.move (fun a xs q n => ⟨e _ _ q, n⟩) (fun _ _ => sqT_same e)
theorem DatA.same {K : PySem.W.Frag} {N : Addr → Prop} {H H' : Hp} (e : Same H H') {d : List PyData} {v : List V} (h : DatA K N H v d) : DatA K N H' v d :=
  h.move (fun a xs q n => ⟨e _ _ q, n⟩) (fun _ _ => sqT_same e)
theorem Dat.weak {K : PySem.W.Frag} {N N' : Addr → Prop} {H : Hp} (w : ∀ a, N' a → N a) {d : PyData} {v : V} (h : Dat K N H v d) : Dat K N' H v d :=
  h.move (fun a xs q n => ⟨q, fun z => n (w a z)⟩) (fun _ _ h => h)
theorem DatA.weak {K : PySem.W.Frag} {N N' : Addr → Prop} {H : Hp} (w : ∀ a, N' a → N a) {d : List PyData} {v : List V} (h : DatA K N H v d) : DatA K N' H v d :=
  h.move (fun a xs q n => ⟨q, fun z => n (w a z)⟩) (fun _ _ h => h)
def scal : PyData → Bool
  | .list _ => false
  | .tuple _ => false
  | .dict _ => false
  | _ => true
theorem Dat.scalar {K : PySem.W.Frag} {N N' : Addr → Prop} {H H' : Hp} {d : PyData} {v : V} (s : scal d = true) (h : Dat K N H v d) : Dat K N' H' v d := by
  cases d with
  | none => cases h; exact .non
  | bool b => cases h; exact .bl b
  | int i => cases h; exact .int i
  | str x => cases h; exact .str x
  | list ds => cases s
  | tuple ds => cases s
  | dict ds => cases s

/-! ### a frame by data -/
/-- N0: lists that are not the frame's (data lie away from them); pz: the purse, if the frame was handed it; G: lists that stood at the entry (what is made since lies away from them) -/
structure Fm where
  N0 : Addr → Prop
  pz : Option (Addr × Addr)
  G : Addr → Prop
def Fm.M0 (F : Fm) (a : Addr) : Prop := ∃ p c, F.pz = some (p, c) ∧ (a = p ∨ a = c)
/-- a slot: nothing known; data; a list of the frame's own (changed by it), of data or of such lists; data made just now; the purse -/
inductive Sl where
  | no | dat (d : PyData) | gen (d : PyData) | own (l : List PyData) | own2 (ll : List (List PyData)) | frs (d : PyData) | pz
structure En where
  sl : List Sl
  fu : Nat
def En.set (E : En) (i : Nat) (s : Sl) : En := ⟨E.sl.set i s, E.fu⟩
/-- so many draws are left -/
def PzOk (F : Fm) (H : Hp) (n : Nat) : Prop := ∀ p c, F.pz = some (p, c) → p ≠ c ∧ ∃ (ns : List Int) (w : Int), H p = some (.lst [.ref c, .int w]) ∧ H c = some (.lst (ns.map V.int)) ∧ ns ≠ [] ∧ ns.length ≤ 63 ∧ (∀ x ∈ ns, 0 ≤ x ∧ x < 10 ^ 3600) ∧ 0 ≤ w ∧ w + n ≤ 1000000
/-- rows that lie one by one in lists -/
inductive Rows (K : PySem.W.Frag) (N : Addr → Prop) (H : Hp) : List Addr → List (List PyData) → Prop
  | nil : Rows K N H [] []
  | cons {b : Addr} {bs : List Addr} {xs : List V} {l : List PyData} {ll : List (List PyData)} (h : H b = some (.lst xs)) (r : DatA K N H xs l) (t : Rows K N H bs ll) : Rows K N H (b :: bs) (l :: ll)
/-- the slot's value v, with the addresses As that are the slot's own -/
def SlOk (K : PySem.W.Frag) (F : Fm) (M : Addr → Prop) (H : Hp) (As : List Addr) (v : Option V) : Sl → Prop
  | .no => True
  | .dat d => ∃ x, v = some x ∧ Dat K (fun a => F.N0 a ∨ M a) H x d
  | .gen d => ∃ x, v = some x ∧ Dat K (fun a => F.N0 a ∨ M a ∨ F.G a) H x d
  | .own l => ∃ a xs, v = some (.ref a) ∧ As = [a] ∧ H a = some (.lst xs) ∧ DatA K (fun a => F.N0 a ∨ M a) H xs l
  | .own2 ll => ∃ a bs, v = some (.ref a) ∧ As = a :: bs ∧ H a = some (.lst (bs.map V.ref)) ∧ Rows K (fun a => F.N0 a ∨ M a) H bs ll
  | .frs d => ∃ x, v = some x ∧ Dat K (fun a => a ∉ As) H x d
  | .pz => ∃ p c, F.pz = some (p, c) ∧ v = some (.ref p)
structure RepW (K : PySem.W.Frag) (F : Fm) (M : Addr → Prop) (W : Nat → List Addr) (H : Hp) (σ : L2.St) (E : En) : Prop where
  ln : σ.length = E.sl.length
  sl : ∀ (i : Nat) (s : Sl), E.sl[i]? = some s → ∃ v, σ[i]? = some v ∧ SlOk K F M H (W i) v s
  apart : ∀ i j a, a ∈ W i → a ∈ W j → i = j
  nd : ∀ i, (W i).Nodup
  mine : ∀ i a, a ∈ W i → M a ∧ ¬ F.N0 a
  pok : PzOk F H E.fu
  n0 : ∀ a, F.N0 a → IsL H a
  m : ∀ a, M a → IsL H a
  m0 : ∀ a, F.M0 a → M a ∧ F.N0 a
  len : LenOk H
  g : ∀ a, F.G a → IsL H a
def Rep (K : PySem.W.Frag) (F : Fm) (M : Addr → Prop) (H : Hp) (σ : L2.St) (E : En) : Prop := ∃ W, RepW K F M W H σ E

section
variable {K : PySem.W.Frag} {F : Fm} {M : Addr → Prop} {W : Nat → List Addr} {H H' : Hp} {σ : L2.St} {E : En} {As : List Addr} {v : Option V} {s : Sl}
theorem Rows.length : ∀ {bs : List Addr} {ll : List (List PyData)} {N : Addr → Prop}, Rows K N H bs ll → bs.length = ll.length
  | [], _, _, h => by cases h; rfl
  | b :: bs, _, _, h => by
    cases h with
    | cons h r t => exact congrArg Nat.succ (Rows.length t)
theorem Rows.move {N N' : Addr → Prop} (hl : ∀ a xs, H a = some (.lst xs) → ¬ N a → H' a = some (.lst xs) ∧ ¬ N' a) (ht : ∀ a xs, SqT K H a xs → SqT K H' a xs) : ∀ {bs : List Addr} {ll : List (List PyData)}, (∀ b ∈ bs, ∀ xs, H b = some (.lst xs) → H' b = some (.lst xs)) → Rows K N H bs ll → Rows K N' H' bs ll
  | [], _, _, h => by cases h; exact .nil
  | b :: bs, _, k, h => by
    cases h with
    | cons h r t => exact .cons (k b (List.mem_cons_self ..) _ h) (DatA.move hl ht _ _ r) (Rows.move hl ht (fun c hc => k c (List.mem_cons_of_mem _ hc)) t)
theorem Rows.data {N N' : Addr → Prop} (w : ∀ a, N' a → N a) : ∀ {bs : List Addr} {ll : List (List PyData)}, (∀ b ∈ bs, ¬ N' b) → Rows K N H bs ll → DatA K N' H (bs.map V.ref) (ll.map PyData.list)
  | [], _, _, h => by cases h; exact .nil
  | b :: bs, _, k, h => by
    cases h with
    | cons h r t => exact .cons (.lst h (k b (List.mem_cons_self ..)) (r.weak w)) (Rows.data w (fun c hc => k c (List.mem_cons_of_mem _ hc)) t)
theorem SlOk.same (e : Same H H') (h : SlOk K F M H As v s) : SlOk K F M H' As v s := by
  cases s with
  | no => trivial
  | dat d => obtain ⟨x, h1, h2⟩ := h; exact ⟨x, h1, h2.same e⟩
  | gen d => obtain ⟨x, h1, h2⟩ := h; exact ⟨x, h1, h2.same e⟩
  | own l => obtain ⟨a, xs, h1, h2, h3, h4⟩ := h; exact ⟨a, xs, h1, h2, e _ _ h3, h4.same e⟩
  | own2 ll =>
    obtain ⟨a, bs, h1, h2, h3, h4⟩ := h
    exact ⟨a, bs, h1, h2, e _ _ h3, h4.move (fun a xs q n => ⟨e _ _ q, n⟩) (fun _ _ => sqT_same e) (fun b _ xs q => e _ _ q)⟩
  | frs d => obtain ⟨x, h1, h2⟩ := h; exact ⟨x, h1, h2.same e⟩
  | pz => exact h
theorem PzOk.same {n : Nat} (e : Same H H') (h : PzOk F H n) : PzOk F H' n := fun p c q => by
  obtain ⟨h0, ns, w, h1, h2, h3⟩ := h p c q
  exact ⟨h0, ns, w, e _ _ h1, e _ _ h2, h3⟩
theorem IsL.same {a : Addr} (e : Same H H') (h : IsL H a) : IsL H' a := by
  obtain ⟨xs, h⟩ := h
  exact ⟨xs, e _ _ h⟩
theorem RepW.same (R : RepW K F M W H σ E) (e : Same H H') (l : LenOk H') : RepW K F M W H' σ E :=
  ⟨R.ln, fun i s h => by obtain ⟨v, h1, h2⟩ := R.sl i s h; exact ⟨v, h1, h2.same e⟩, R.apart, R.nd, R.mine, R.pok.same e, fun a h => (R.n0 a h).same e, fun a h => (R.m a h).same e, R.m0, l, fun a h => (R.g a h).same e⟩
theorem Rep.same (R : Rep K F M H σ E) (e : Same H H') (l : LenOk H') : Rep K F M H' σ E := by
  obtain ⟨W, R⟩ := R
  exact ⟨W, R.same e l⟩
theorem Rep.len (R : Rep K F M H σ E) : LenOk H := by
  obtain ⟨W, R⟩ := R
  exact R.len
theorem Rep.nl (R : Rep K F M H σ E) : ∀ a, (F.N0 a ∨ M a) → IsL H a := by
  obtain ⟨W, R⟩ := R
  intro a h
  rcases h with h | h
  · exact R.n0 a h
  · exact R.m a h
theorem Rep.m (R : Rep K F M H σ E) : ∀ a, M a → IsL H a := fun a h => R.nl a (.inr h)
theorem Rep.gl (R : Rep K F M H σ E) : ∀ a, F.G a → IsL H a := by
  obtain ⟨W, R⟩ := R
  exact R.g
theorem Rep.gen (R : Rep K F M H σ E) {i : Nat} {d : PyData} (h : E.sl[i]? = some (.gen d)) : ∃ x, σ[i]? = some (some x) ∧ Dat K (fun a => F.N0 a ∨ M a ∨ F.G a) H x d := by
  obtain ⟨W, R⟩ := R
  obtain ⟨v, h1, x, h2, h3⟩ := R.sl i _ h
  subst h2
  exact ⟨x, h1, h3⟩
theorem Rep.dat (R : Rep K F M H σ E) {i : Nat} {d : PyData} (h : E.sl[i]? = some (.dat d)) : ∃ x, σ[i]? = some (some x) ∧ Dat K (fun a => F.N0 a ∨ M a) H x d := by
  obtain ⟨W, R⟩ := R
  obtain ⟨v, h1, x, h2, h3⟩ := R.sl i _ h
  subst h2
  exact ⟨x, h1, h3⟩
/-- a slot through a step that leaves its own addresses -/
theorem SlOk.step {M' : Addr → Prop} (st : Step M H M' H') (hm : ∀ a, M a → IsL H a) (k : ∀ a ∈ As, ∀ xs, H a = some (.lst xs) → H' a = some (.lst xs)) (ha : ∀ a ∈ As, M a) (h : SlOk K F M H As v s) : SlOk K F M' H' As v s := by
  cases s with
  | no => trivial
  | dat d => obtain ⟨x, h1, h2⟩ := h; exact ⟨x, h1, h2.step st hm⟩
  | gen d =>
    obtain ⟨x, h1, h2⟩ := h
    refine ⟨x, h1, h2.move (fun a xs e n => ⟨st.keep _ _ (fun q => n (.inr (.inl q))) e, fun q => ?_⟩) (fun a xs => st.seqT hm)⟩
    rcases q with q | q | q
    · exact n (.inl q)
    · rcases st.new a q with q | q
      · exact n (.inr (.inl q))
      · rw [e] at q; cases q
    · exact n (.inr (.inr q))
  | own l =>
    obtain ⟨a, xs, h1, h2, h3, h4⟩ := h
    subst h2
    exact ⟨a, xs, h1, rfl, k a (List.mem_singleton_self a) _ h3, h4.step st hm⟩
  | own2 ll =>
    obtain ⟨a, bs, h1, h2, h3, h4⟩ := h
    subst h2
    refine ⟨a, bs, h1, rfl, k a (List.mem_cons_self ..) _ h3, h4.move (fun a xs e n => ⟨st.keep _ _ (fun q => n (.inr q)) e, fun q => ?_⟩) (fun a xs => st.seqT hm) (fun b hb xs q => k b (List.mem_cons_of_mem _ hb) _ q)⟩
    rcases q with q | q
    · exact n (.inl q)
    · rcases st.new a q with q | q
      · exact n (.inr q)
      · rw [e] at q; cases q
  | frs d =>
    obtain ⟨x, h1, h2⟩ := h
    refine ⟨x, h1, h2.move (fun a xs e n => ⟨k a (Classical.not_not.mp n) _ e, n⟩) (fun a xs => st.seqT hm)⟩
  | pz => exact h
/-- behind a callee that may have changed the purse -/
theorem RepW.after {fu : Nat} (R : RepW K F M W H σ E) (st : Step F.M0 H F.M0 H') (p : PzOk F H' fu) (l : LenOk H') : RepW K F M W H' σ ⟨E.sl, fu⟩ := by
  have kp : ∀ a, IsL H a → IsL H' a := fun a ⟨xs, e⟩ => by
    by_cases c : F.M0 a
    · obtain ⟨q1, q2, e1, e2⟩ := c
      obtain ⟨_, ns, w, h1, h2, _⟩ := p q1 q2 e1
      rcases e2 with e2 | e2
      · subst e2; exact ⟨_, h1⟩
      · subst e2; exact ⟨_, h2⟩
    · exact ⟨xs, st.keep a _ c e⟩
  have st2 : Step M H M H' := ⟨fun a o n e => st.keep a o (fun q => n (R.m0 a q).1) e, fun a h => .inl h⟩
  refine ⟨R.ln, fun i s h => ?_, R.apart, R.nd, R.mine, p, fun a h => kp a (R.n0 a h), fun a h => kp a (R.m a h), R.m0, l, fun a h => kp a (R.g a h)⟩
  obtain ⟨v, h1, h2⟩ := R.sl i s h
  refine ⟨v, h1, h2.step st2 R.m (fun a ha xs e => st.keep a _ (fun q => (R.mine i a ha).2 (R.m0 a q).2) e) fun a ha => (R.mine i a ha).1⟩
theorem Rep.after {fu : Nat} (R : Rep K F M H σ E) (st : Step F.M0 H F.M0 H') (p : PzOk F H' fu) (l : LenOk H') : Rep K F M H' σ ⟨E.sl, fu⟩ := by
  obtain ⟨W, R⟩ := R
  exact ⟨W, R.after st p l⟩
theorem Rep.stepM0 (R : Rep K F M H σ E) (st : Step F.M0 H F.M0 H') : Step M H M H' := by
  obtain ⟨W, R⟩ := R
  exact ⟨fun a o n e => st.keep a o (fun q => n (R.m0 a q).1) e, fun a h => .inl h⟩
/-- a slot is set -/
theorem RepW.put (R : RepW K F M W H σ E) (i : Nat) (x : V) (s : Sl) (As : List Addr) (hs : SlOk K F M H As (some x) s) (nd : As.Nodup) (mine : ∀ a ∈ As, M a ∧ ¬ F.N0 a) (ap : ∀ j a, j ≠ i → a ∈ W j → a ∉ As) :
    RepW K F M (fun j => if j = i then As else W j) H (σ.set i (some x)) (E.set i s) := by
  refine ⟨by simp [En.set, R.ln], fun j t h => ?_, fun j k a hj hk => ?_, fun j => ?_, fun j a h => ?_, R.pok, R.n0, R.m, R.m0, R.len, R.g⟩
  · by_cases c : j = i
    · subst c
      have hi : j < E.sl.length := by
        have := (List.getElem?_eq_some_iff.mp h).1
        simpa [En.set] using this
      have e : t = s := by
        have h' : (E.sl.set j s)[j]? = some t := h
        rw [List.getElem?_set_self hi] at h'
        exact (Option.some.inj h').symm
      subst e
      refine ⟨some x, List.getElem?_set_self (by rw [R.ln]; exact hi), ?_⟩
      rw [if_pos rfl]
      exact hs
    · have h' : (E.sl.set i s)[j]? = some t := h
      rw [List.getElem?_set_ne (Ne.symm c)] at h'
      obtain ⟨v, h1, h2⟩ := R.sl j t h'
      refine ⟨v, by rw [List.getElem?_set_ne (Ne.symm c)]; exact h1, ?_⟩
      rw [if_neg c]
      exact h2
  · by_cases c : j = i
    · by_cases d : k = i
      · rw [c, d]
      · simp only [if_pos c, if_neg d] at hj hk
        exact absurd hj (ap k a d hk)
    · by_cases d : k = i
      · simp only [if_neg c, if_pos d] at hj hk
        exact absurd hk (ap j a c hj)
      · simp only [if_neg c, if_neg d] at hj hk
        exact R.apart j k a hj hk
  · by_cases c : j = i
    · simp only [if_pos c]; exact nd
    · simp only [if_neg c]; exact R.nd j
  · by_cases c : j = i
    · simp only [if_pos c] at h; exact mine a h
    · simp only [if_neg c] at h; exact R.mine j a h
theorem Rep.putD (R : Rep K F M H σ E) (i : Nat) {x : V} {d : PyData} (h : Dat K (fun a => F.N0 a ∨ M a) H x d) : Rep K F M H (σ.set i (some x)) (E.set i (.dat d)) := by
  obtain ⟨W, R⟩ := R
  exact ⟨_, R.put i x (.dat d) [] ⟨x, rfl, h⟩ List.nodup_nil (fun a h => nomatch h) fun _ a _ _ h => nomatch h⟩
/-- a new list becomes a slot's own -/
theorem RepW.newOwn (R : RepW K F M W H σ E) (l : LenOk H') (i : Nat) (x : V) (s : Sl) (As : List Addr) (e : Same H H') (fr : ∀ a ∈ As, H a = none) (isl : ∀ a ∈ As, IsL H' a) (nd : As.Nodup)
    (hs : SlOk K F (fun a => M a ∨ a ∈ As) H' As (some x) s) : ∃ W', RepW K F (fun a => M a ∨ a ∈ As) W' H' (σ.set i (some x)) (E.set i s) := by
  have R1 : RepW K F M W H' σ E := R.same e l
  have st : Step M H' (fun a => M a ∨ a ∈ As) H' → True := fun _ => trivial
  have R2 : RepW K F (fun a => M a ∨ a ∈ As) W H' σ E := by
    refine ⟨R1.ln, fun j t h => ?_, R1.apart, R1.nd, fun j a h => ⟨.inl (R1.mine j a h).1, (R1.mine j a h).2⟩, R1.pok, R1.n0, fun a h => ?_, fun a h => ⟨.inl (R1.m0 a h).1, (R1.m0 a h).2⟩, l, R1.g⟩
    · obtain ⟨v, h1, h2⟩ := R.sl j t h
      refine ⟨v, h1, h2.step (M' := fun a => M a ∨ a ∈ As) ⟨fun a o _ q => e a o q, fun a q => ?_⟩ R.m (fun a _ xs q => e _ _ q) fun a ha => (R.mine j a ha).1⟩
      rcases q with q | q
      · exact .inl q
      · exact .inr (fr a q)
    · rcases h with h | h
      · exact R1.m a h
      · exact isl a h
  refine ⟨_, R2.put i x s As hs nd (fun a ha => ⟨.inr ha, fun q => ?_⟩) fun j a _ ha hq => ?_⟩
  · obtain ⟨xs, z⟩ := R.n0 a q
    rw [fr a ha] at z; cases z
  · obtain ⟨xs, z⟩ := R.m a (R.mine j a ha).1
    rw [fr a hq] at z; cases z
/-- a slot's own lists are changed: H' differs at the slot's addresses alone (and where nothing stood) -/
theorem RepW.change (R : RepW K F M W H σ E) (l : LenOk H') (i : Nat) (s : Sl) (As new : List Addr) (hAs : As = W i ++ new) (k : ∀ a o, a ∉ W i → H a = some o → H' a = some o) (fr : ∀ a ∈ new, H a = none) (isl : ∀ a ∈ As, IsL H' a) (nd : As.Nodup)
    {v : Option V} (hv : σ[i]? = some v) (hs : SlOk K F (fun a => M a ∨ a ∈ new) H' As v s) : ∃ W', RepW K F (fun a => M a ∨ a ∈ new) W' H' σ (E.set i s) := by
  have st : Step M H (fun a => M a ∨ a ∈ new) H' := ⟨fun a o n q => k a o (fun z => n (R.mine i a z).1) q, fun a q => by
    rcases q with q | q
    · exact .inl q
    · exact .inr (fr a q)⟩
  have notN : ∀ a ∈ As, ¬ F.N0 a := fun a ha q => by
    rw [hAs] at ha
    rcases List.mem_append.mp ha with h | h
    · exact (R.mine i a h).2 q
    · obtain ⟨xs, z⟩ := R.n0 a q
      rw [fr a h] at z; cases z
  have others : ∀ j a, j ≠ i → a ∈ W j → a ∉ As := fun j a c ha q => by
    rw [hAs] at q
    rcases List.mem_append.mp q with h | h
    · exact c (R.apart j i a ha h)
    · obtain ⟨xs, z⟩ := R.m a (R.mine j a ha).1
      rw [fr a h] at z; cases z
  refine ⟨fun j => if j = i then As else W j, by simp [En.set, R.ln], fun j t h => ?_, fun j k a hj hk => ?_, fun j => ?_, fun j a h => ?_, fun p c q => ?_, fun a h => ?_, fun a h => ?_, fun a h => ⟨.inl (R.m0 a h).1, (R.m0 a h).2⟩, l, fun a h => ?_⟩
  · by_cases c : j = i
    · subst c
      have hi : j < E.sl.length := by
        have := (List.getElem?_eq_some_iff.mp h).1
        simpa [En.set] using this
      have e : t = s := by
        have h' : (E.sl.set j s)[j]? = some t := h
        rw [List.getElem?_set_self hi] at h'
        exact (Option.some.inj h').symm
      subst e
      exact ⟨v, hv, by simp only [if_pos]; exact hs⟩
    · have h' : (E.sl.set i s)[j]? = some t := h
      rw [List.getElem?_set_ne (Ne.symm c)] at h'
      obtain ⟨u, h1, h2⟩ := R.sl j t h'
      refine ⟨u, h1, ?_⟩
      simp only [if_neg c]
      exact h2.step st R.m (fun a ha xs q => k a _ (fun z => c (R.apart j i a ha z)) q) fun a ha => (R.mine j a ha).1
  · by_cases c : j = i
    · by_cases d : k = i
      · rw [c, d]
      · simp only [if_pos c, if_neg d] at hj hk
        exact absurd hj (others k a d hk)
    · by_cases d : k = i
      · simp only [if_neg c, if_pos d] at hj hk
        exact absurd hk (others j a c hj)
      · simp only [if_neg c, if_neg d] at hj hk
        exact R.apart j k a hj hk
  · by_cases c : j = i
    · simp only [if_pos c]; exact nd
    · simp only [if_neg c]; exact R.nd j
  · by_cases c : j = i
    · simp only [if_pos c] at h
      refine ⟨?_, notN a h⟩
      rw [hAs] at h
      rcases List.mem_append.mp h with h | h
      · exact .inl (R.mine i a h).1
      · exact .inr h
    · simp only [if_neg c] at h
      exact ⟨.inl (R.mine j a h).1, (R.mine j a h).2⟩
  · obtain ⟨h0, ns, w, h1, h2, h3⟩ := R.pok p c q
    have n1 : p ∉ W i := fun z => (R.mine i p z).2 (R.m0 p ⟨p, c, q, .inl rfl⟩).2
    have n2 : c ∉ W i := fun z => (R.mine i c z).2 (R.m0 c ⟨p, c, q, .inr rfl⟩).2
    exact ⟨h0, ns, w, k p _ n1 h1, k c _ n2 h2, h3⟩
  · obtain ⟨xs, q⟩ := R.n0 a h
    exact ⟨xs, k a _ (fun z => (R.mine i a z).2 h) q⟩
  · rcases h with h | h
    · by_cases c : a ∈ W i
      · exact isl a (by rw [hAs]; exact List.mem_append_left _ c)
      · obtain ⟨xs, q⟩ := R.m a h
        exact ⟨xs, k a _ c q⟩
    · exact isl a (by rw [hAs]; exact List.mem_append_right _ h)
  · by_cases c : a ∈ W i
    · exact isl a (by rw [hAs]; exact List.mem_append_left _ c)
    · obtain ⟨xs, q⟩ := R.g a h
      exact ⟨xs, k a _ c q⟩
/-- own lists given up: they are data from here on -/
def Sl.rel : Sl → Sl
  | .own l => .dat (.list l)
  | .own2 ll => .dat (.list (ll.map .list))
  | .frs d => .dat d
  | s => s
def En.rel (E : En) : En := ⟨E.sl.map Sl.rel, E.fu⟩
theorem SlOk.rel {M' : Addr → Prop} (h : SlOk K F M H As v s) (w : ∀ a, M' a → M a) (n : ∀ a ∈ As, ¬ F.N0 a ∧ ¬ M' a) : SlOk K F M' H [] v s.rel := by
  have ww : ∀ a, F.N0 a ∨ M' a → F.N0 a ∨ M a := fun a q => q.imp id (w a)
  cases s with
  | no => trivial
  | dat d => obtain ⟨x, h1, h2⟩ := h; exact ⟨x, h1, h2.weak ww⟩
  | gen d => obtain ⟨x, h1, h2⟩ := h; exact ⟨x, h1, h2.weak fun a q => q.imp id fun q => q.imp (w a) id⟩
  | own l =>
    obtain ⟨a, xs, h1, h2, h3, h4⟩ := h
    subst h2
    exact ⟨_, h1, .lst h3 (fun q => q.elim (n a (List.mem_singleton_self a)).1 (n a (List.mem_singleton_self a)).2) (h4.weak ww)⟩
  | own2 ll =>
    obtain ⟨a, bs, h1, h2, h3, h4⟩ := h
    subst h2
    exact ⟨_, h1, .lst h3 (fun q => q.elim (n a (List.mem_cons_self ..)).1 (n a (List.mem_cons_self ..)).2) (h4.data ww fun b hb q => q.elim (n b (List.mem_cons_of_mem _ hb)).1 (n b (List.mem_cons_of_mem _ hb)).2)⟩
  | frs d =>
    obtain ⟨x, h1, h2⟩ := h
    exact ⟨x, h1, h2.weak fun a q z => q.elim (n a z).1 (n a z).2⟩
  | pz => exact h
theorem Rep.rel (R : Rep K F M H σ E) : Rep K F F.M0 H σ E.rel := by
  obtain ⟨W, R⟩ := R
  refine ⟨fun _ => [], by simp [En.rel, R.ln], fun i s h => ?_, fun _ _ _ h => (nomatch h), fun _ => List.nodup_nil, fun _ _ h => (nomatch h), R.pok, R.n0, fun a h => R.m a (R.m0 a h).1, fun a h => ⟨h, (R.m0 a h).2⟩, R.len, R.g⟩
  have h' : (E.sl.map Sl.rel)[i]? = some s := h
  rw [List.getElem?_map] at h'
  cases q : E.sl[i]? with
  | none => rw [q] at h'; cases h'
  | some t =>
    rw [q] at h'
    have e : t.rel = s := Option.some.inj h'
    subst e
    obtain ⟨v, h1, h2⟩ := R.sl i t q
    exact ⟨v, h1, h2.rel (fun a z => (R.m0 a z).1) fun a ha => ⟨(R.mine i a ha).2, fun z => (R.mine i a ha).2 (R.m0 a z).2⟩⟩
/-- one of them -/
theorem Rep.rel1 (R : Rep K F M H σ E) (i : Nat) : ∃ M', (∀ a, M' a → M a) ∧ Rep K F M' H σ ⟨E.sl.modify i Sl.rel, E.fu⟩ := by
  obtain ⟨W, R⟩ := R
  refine ⟨fun a => M a ∧ a ∉ W i, fun a h => h.1, fun j => if j = i then [] else W j, by simp [R.ln], fun j s h => ?_, fun j k a hj hk => ?_, fun j => ?_, fun j a h => ?_, R.pok, R.n0, fun a h => R.m a h.1, fun a h => ⟨⟨(R.m0 a h).1, fun q => (R.mine i a q).2 (R.m0 a h).2⟩, (R.m0 a h).2⟩, R.len, R.g⟩
  · have h' : (E.sl.modify i Sl.rel)[j]? = some s := h
    rw [List.getElem?_modify] at h'
    cases q : E.sl[j]? with
    | none => rw [q] at h'; cases h'
    | some t =>
      rw [q] at h'
      obtain ⟨v, h1, h2⟩ := R.sl j t q
      refine ⟨v, h1, ?_⟩
      by_cases c : i = j
      · subst c
        have e : t.rel = s := by simpa using h'
        subst e
        simp only [if_pos]
        exact h2.rel (fun a z => z.1) fun a ha => ⟨(R.mine i a ha).2, fun z => z.2 ha⟩
      · have e : t = s := by simpa [c] using h'
        subst e
        simp only [if_neg (Ne.symm c)]
        have ww : ∀ a, (F.N0 a ∨ (M a ∧ a ∉ W i)) → (F.N0 a ∨ M a) := fun a q => q.imp id And.left
        exact h2.step ⟨fun _ _ _ q => q, fun a q => .inl q.1⟩ R.m (fun _ _ _ q => q) fun a ha => (R.mine j a ha).1
  · by_cases c : j = i
    · simp only [if_pos c] at hj; cases hj
    · by_cases d : k = i
      · simp only [if_pos d] at hk; cases hk
      · simp only [if_neg c, if_neg d] at hj hk
        exact R.apart j k a hj hk
  · by_cases c : j = i
    · simp only [if_pos c]; exact List.nodup_nil
    · simp only [if_neg c]; exact R.nd j
  · by_cases c : j = i
    · simp only [if_pos c] at h; cases h
    · simp only [if_neg c] at h
      exact ⟨⟨(R.mine j a h).1, fun q => c (R.apart j i a h q)⟩, (R.mine j a h).2⟩
end
end K22

set_option Elab.async false
set_option linter.all false
set_option maxRecDepth 100000
set_option maxHeartbeats 4000000
/-! L1: expressions read by data. -/
namespace K22
open PySem PySem.Spec PyProof.Rows L2
abbrev TDE := En → (PyData → En → Prop) → Prop
abbrev TDA := En → (List PyData → En → Prop) → Prop
abbrev TDT := En → (Bool → En → Prop) → Prop
def MonoE (t : TDE) : Prop := ∀ E (Q Q' : PyData → En → Prop), (∀ d E', Q d E' → Q' d E') → t E Q → t E Q'
def MonoA (t : TDA) : Prop := ∀ E (Q Q' : List PyData → En → Prop), (∀ d E', Q d E' → Q' d E') → t E Q → t E Q'
def MonoT (t : TDT) : Prop := ∀ E (Q Q' : Bool → En → Prop), (∀ d E', Q d E' → Q' d E') → t E Q → t E Q'
def embE (K : PySem.W.Frag) (t : TDE) : TE := fun σ H Q => ∃ F M E, Rep K F M H σ E ∧ t E fun d E' => ∀ v H', Step M H M H' → Rep K F M H' σ E' → Dat K (fun a => F.N0 a ∨ M a) H' v d → Q v H'
def embA (K : PySem.W.Frag) (t : TDA) : TA := fun σ H Q => ∃ F M E, Rep K F M H σ E ∧ t E fun ds E' => ∀ vs H', Step M H M H' → Rep K F M H' σ E' → DatA K (fun a => F.N0 a ∨ M a) H' vs ds → Q vs H'
def embT (K : PySem.W.Frag) (t : TDT) : TT := fun σ H Q => ∃ F M E, Rep K F M H σ E ∧ t E fun b E' => ∀ H', Step M H M H' → Rep K F M H' σ E' → Q b H'
structure DE (X : Cx) (e : Expr) (t : TDE) : Prop where
  mono : MonoE t
  run : PE X e (embE X.K t)
structure DA (X : Cx) (es : List Expr) (t : TDA) : Prop where
  mono : MonoA t
  run : PA X es (embA X.K t)
structure DT (X : Cx) (e : Expr) (t : TDT) : Prop where
  mono : MonoT t
  run : PT X e (embT X.K t)
structure DW (X : Cx) (e : Expr) (t : TDT) : Prop where
  mono : MonoT t
  run : PW X e (embT X.K t)
section
variable {X : Cx} {e a b : Expr} {es : List Expr} {t ta tb : TDE} {pos : Pos}
theorem inv_len {pins : List (Addr × Obj)} {σ : L2.St} {H : Hp} {s : Shared} (I : Inv X pins σ H s) : LenOk H := fun a xs e => by
  obtain ⟨z, _⟩ := I.hok a _ e
  exact z
theorem _root_.L2.PE.imp {t u : TE} (h : PE X e t) (w : ∀ σ H Q, LenOk H → u σ H Q → t σ H fun v H' => LenOk H' → Q v H') : PE X e u := by
  refine ⟨fun pins s σ H Q I q => ?_⟩
  refine thn (h.run pins s σ H _ I (w σ H Q (inv_len I) q)) fun v s1 ⟨x, H1, I1, r1, q1⟩ => ⟨x, H1, I1, r1, q1 (inv_len I1)⟩
theorem _root_.L2.PT.imp {t u : TT} (h : PT X e t) (w : ∀ σ H Q, LenOk H → u σ H Q → t σ H fun v H' => LenOk H' → Q v H') : PT X e u := by
  refine ⟨fun pins s σ H Q I q => ?_⟩
  refine thn (h.run pins s σ H _ I (w σ H Q (inv_len I) q)) fun v s1 ⟨H1, I1, q1⟩ => ⟨H1, I1, q1 (inv_len I1)⟩
theorem _root_.L2.PW.imp {t u : TT} (h : PW X e t) (w : ∀ σ H Q, LenOk H → u σ H Q → t σ H fun v H' => LenOk H' → Q v H') : PW X e u := by
  refine ⟨fun wh pins s σ H Q I q => ?_⟩
  refine thn (h.run wh pins s σ H _ I (w σ H Q (inv_len I) q)) fun v s1 ⟨H1, I1, q1⟩ => ⟨H1, I1, q1 (inv_len I1)⟩
theorem _root_.L2.PA.imp {t u : TA} (h : PA X es t) (w : ∀ σ H Q, LenOk H → u σ H Q → t σ H fun v H' => LenOk H' → Q v H') : PA X es u := by
  refine ⟨fun pos pins s σ H Q I q => ?_⟩
  refine thn (h.run pos pins s σ H _ I (w σ H Q (inv_len I) q)) fun v s1 ⟨x, H1, I1, r1, q1⟩ => ⟨x, H1, I1, r1, q1 (inv_len I1)⟩
/-- the reading may be written otherwise -/
theorem DE.to {u : TDE} (h : DE X e t) (m : MonoE u) (w : ∀ E Q, u E Q → t E Q) : DE X e u :=
  ⟨m, h.run.imp fun σ H Q _ ⟨F, M, E, R, q⟩ => ⟨F, M, E, R, h.mono _ _ _ (fun d E' k v H' a b c _ => k v H' a b c) (w _ _ q)⟩⟩

/-! ### names and constants -/
def dVar (i : Nat) : TDE := fun E Q => match E.sl[i]? with
  | some (.dat d) => Q d E
  | some (.gen d) => Q d E
  | _ => False
def dC (d : PyData) : TDE := fun E Q => Q d E
theorem dVar_mono {i : Nat} : MonoE (dVar i) := fun E Q Q' w h => by
  unfold dVar at h ⊢
  split at h
  · exact w _ _ h
  · exact w _ _ h
  · exact h.elim
theorem dC_mono {d : PyData} : MonoE (dC d) := fun E Q Q' w h => w _ _ h
theorem de_pe {x : Str} {i : Nat} (h : PE X (.Name x pos) (tVar i)) : DE X (.Name x pos) (dVar i) := by
  refine ⟨dVar_mono, h.imp fun σ H Q l q => ?_⟩
  obtain ⟨F, M, E, R, q⟩ := q
  unfold dVar at q
  split at q
  · rename_i d hd
    obtain ⟨v, h1, h2⟩ := R.dat hd
    exact ⟨v, h1, fun _ => q v H .refl R h2⟩
  · rename_i d hd
    obtain ⟨v, h1, h2⟩ := R.gen hd
    exact ⟨v, h1, fun _ => q v H .refl R (h2.weak fun a z => z.imp id .inl)⟩
  · exact q.elim
theorem de_var (i : Nat) {x : Str} (hN : X.N[i]? = some x := by rfl) (hv : Vis X.env.scope x := by first | exact Or.inl rfl | exact Or.inr (Or.inl rfl) | exact Or.inr (Or.inr rfl)) (hd : (x == ("__debug__" : Str)) = false := by decide)
    (hcd : (x == ("__classdict__" : Str)) = false := by decide) : DE X (.Name x pos) (dVar i) := de_pe (pe_var hN hv hd hcd)
theorem de_c {v : V} {d : PyData} (h : PE X e (tC v)) (hd : ∀ N H, Dat X.K N H v d) : DE X e (dC d) :=
  ⟨dC_mono, h.imp fun σ H Q l ⟨F, M, E, R, q⟩ _ => q v H .refl R (hd _ _)⟩
theorem de_int {i : Int} {j : Nat} : DE X (.Constant (.int i) j pos) (dC (.int i)) := de_c pe_int fun _ _ => .int i
theorem de_bl {i : Bool} {j : Nat} : DE X (.Constant (.bool i) j pos) (dC (.bool i)) := de_c pe_bl fun _ _ => .bl i
theorem de_non {j : Nat} : DE X (.Constant .none j pos) (dC .none) := de_c pe_non fun _ _ => .non
theorem de_str {x : Str} {j : Nat} : DE X (.Constant (.str x) j pos) (dC (.str x)) := de_c pe_str fun _ _ => .str x
/-- a constant of the module -/
theorem de_glob {x : Str} {v : V} {d : PyData} {u : Value} (hm : X.mg x = some u) (r : RelV v u) (hd : ∀ N H, Dat X.K N H v d) (hg : Gl X x := by rfl) (hdb : (x == ("__debug__" : Str)) = false := by decide) : DE X (.Name x pos) (dC d) :=
  de_c (pe_glob hg hm r hdb) hd

/-! ### operators -/
abbrev OD := PyData → PyData → (PyData → Prop) → Prop
def OpS (X : Cx) (f : Value → Value → Sem Value) (o : OD) : Prop :=
  (∀ x y P P', (∀ d, P d → P' d) → o x y P → o x y P') ∧ ∃ r, OpR X f r ∧ ∀ (N : Addr → Prop) (H : Hp) (x y : V) (dx dy : PyData) (Q : VK), LenOk H → (∀ a, N a → IsL H a) → Dat X.K N H x dx → Dat X.K N H y dy →
    o dx dy (fun d => ∀ v H', Same H H' → Dat X.K N H' v d → Q v H') → r x y H Q
def dOp (o : OD) (ta tb : TDE) : TDE := fun E Q => ta E fun x E1 => tb E1 fun y E2 => o x y fun z => Q z E2
/-- two in a row -/
theorem two_run (ha : DE X a ta) (hb : DE X b tb) {σ : L2.St} {H : Hp} {R : V → V → Hp → Prop} {F : Fm} {M : Addr → Prop} {E : En} (Rp : Rep X.K F M H σ E) {P : PyData → PyData → En → Prop} (h : ta E fun x E1 => tb E1 fun y E2 => P x y E2)
    (w : ∀ dx dy E2 x y H2, Step M H M H2 → Rep X.K F M H2 σ E2 → Dat X.K (fun a => F.N0 a ∨ M a) H2 x dx → Dat X.K (fun a => F.N0 a ∨ M a) H2 y dy → P dx dy E2 → R x y H2) :
    embE X.K ta σ H fun x H1 => embE X.K tb σ H1 fun y H2 => R x y H2 := by
  refine ⟨F, M, E, Rp, ha.mono _ _ _ (fun dx E1 k x H1 s1 R1 d1 => ?_) h⟩
  refine ⟨F, M, E1, R1, hb.mono _ _ _ (fun dy E2 k2 y H2 s2 R2 d2 => ?_) k⟩
  exact w dx dy E2 x y H2 (s1.trans s2) R2 (d1.step s2 R1.m) d2 k2
theorem dOp_mono {o : OD} (ho : ∀ x y P P', (∀ d, P d → P' d) → o x y P → o x y P') (ha : MonoE ta) (hb : MonoE tb) : MonoE (dOp o ta tb) := fun E Q Q' w h =>
  ha _ _ _ (fun x E1 k => hb _ _ _ (fun y E2 k2 => ho _ _ _ _ (fun d q => w d E2 q) k2) k) h
theorem de_op {op : Operator} {o : OD} (ho : OpS X (binaryOp op) o) (ha : DE X a ta) (hb : DE X b tb) : DE X (.BinOp a op b pos) (dOp o ta tb) := by
  obtain ⟨hm, r, hr, hs⟩ := ho
  refine ⟨dOp_mono hm ha.mono hb.mono, (pe_op hr ha.run hb.run).imp fun σ H Q l q => ?_⟩
  obtain ⟨F, M, E, R, q⟩ := q
  refine two_run ha hb R q fun dx dy E2 x y H2 s2 R2 d1 d2 k => ?_
  exact hs _ H2 x y dx dy _ R2.len R2.nl d1 d2 (hm _ _ _ _ (fun d q v H' sm d3 l' => q v H' (s2.trans (.same sm)) (R2.same sm l') d3) k)
theorem de_cmp {op : CmpOp} {o : OD} (ho : OpS X (compareOp op) o) (ha : DE X a ta) (hb : DE X b tb) (hk : behindInMarks op b = false := by first | exact nomark _ | rfl) : DE X (.Compare a [op] [b] pos) (dOp o ta tb) := by
  obtain ⟨hm, r, hr, hs⟩ := ho
  refine ⟨dOp_mono hm ha.mono hb.mono, (pe_cmpR hr ha.run hb.run hk).imp fun σ H Q l q => ?_⟩
  obtain ⟨F, M, E, R, q⟩ := q
  refine two_run ha hb R q fun dx dy E2 x y H2 s2 R2 d1 d2 k => ?_
  exact hs _ H2 x y dx dy _ R2.len R2.nl d1 d2 (hm _ _ _ _ (fun d q v H' sm d3 l' => q v H' (s2.trans (.same sm)) (R2.same sm l') d3) k)
def asB (Q : Bool → Prop) : PyData → Prop
  | .bool b => Q b
  | _ => False
theorem asB_mono {Q Q' : Bool → Prop} (w : ∀ b, Q b → Q' b) (d : PyData) (h : asB Q d) : asB Q' d := by
  cases d with
  | bool b => exact w b h
  | _ => exact h.elim
def dTs (t : TDE) : TDT := fun E Q => t E fun d E' => asB (fun b => Q b E') d
theorem dTs_mono (h : MonoE t) : MonoT (dTs t) := fun E Q Q' w q => h _ _ _ (fun d E' k => asB_mono (fun b z => w b E' z) d k) q
theorem dt_cmp {op : CmpOp} {o : OD} (ho : OpS X (compareOp op) o) (ha : DE X a ta) (hb : DE X b tb) (hk : behindInMarks op b = false := by first | exact nomark _ | rfl) : DT X (.Compare a [op] [b] pos) (dTs (dOp o ta tb)) := by
  obtain ⟨hm, r, hr, hs⟩ := ho
  refine ⟨dTs_mono (dOp_mono hm ha.mono hb.mono), (pt_cmpR hr ha.run hb.run hk).imp fun σ H Q l q => ?_⟩
  obtain ⟨F, M, E, R, q⟩ := q
  refine two_run ha hb R q fun dx dy E2 x y H2 s2 R2 d1 d2 k => ?_
  refine hs _ H2 x y dx dy _ R2.len R2.nl d1 d2 (hm _ _ _ _ (fun d q v H' sm d3 => ?_) k)
  cases d with
  | bool b =>
    cases d3
    exact ⟨b, rfl, fun l' => q H' (s2.trans (.same sm)) (R2.same sm l')⟩
  | _ => exact q.elim
theorem dt_of (ha : DE X a ta) (he : ∀ whole, isTrue a X.env whole = (do let v ← whole; standAt a.pos; holding [v] (truthy v)) := by intro _; rfl) : DT X a (dTs ta) := by
  refine ⟨dTs_mono ha.mono, (pt_val ha.run he).imp fun σ H Q l q => ?_⟩
  obtain ⟨F, M, E, R, q⟩ := q
  refine ⟨F, M, E, R, ha.mono _ _ _ (fun d E' k v H' s R' d1 => ?_) q⟩
  cases d with
  | bool b =>
    cases d1
    exact ⟨b, rfl, fun l => k H' s R'⟩
  | _ => exact k.elim
/-- a <= b <= c -/
def dChain (o o' : OD) (ta tb tc : TDE) : TDE := fun E Q => ta E fun x E1 => tb E1 fun y E2 => o x y (asB fun k => if k = true then tc E2 fun z E3 => o' y z fun d => Q d E3 else Q (.bool false) E2)
theorem dChain_mono {o o' : OD} {tc : TDE} (ho : ∀ x y P P', (∀ d, P d → P' d) → o x y P → o x y P') (ho' : ∀ x y P P', (∀ d, P d → P' d) → o' x y P → o' x y P') (ha : MonoE ta) (hb : MonoE tb) (hc : MonoE tc) : MonoE (dChain o o' ta tb tc) := fun E Q Q' w h =>
  ha _ _ _ (fun x E1 k => hb _ _ _ (fun y E2 k2 => ho _ _ _ _ (fun d q => asB_mono (fun b z => by
    cases b with
    | true => exact hc _ _ _ (fun z E3 k3 => ho' _ _ _ _ (fun d q => w d E3 q) k3) z
    | false => exact w _ _ z) d q) k2) k) h
/-- an operator that makes nothing -/
def OpP (X : Cx) (f : Value → Value → Sem Value) (o : OD) : Prop :=
  (∀ x y P P', (∀ d, P d → P' d) → o x y P → o x y P') ∧ ∃ r, OpR X f r ∧ ∀ (N : Addr → Prop) (H : Hp) (x y : V) (dx dy : PyData) (Q : VK), LenOk H → (∀ a, N a → IsL H a) → Dat X.K N H x dx → Dat X.K N H y dy →
    o dx dy (fun d => ∀ v, Dat X.K N H v d → Q v H) → r x y H Q
theorem OpP.s {f : Value → Value → Sem Value} {o : OD} (h : OpP X f o) : OpS X f o := by
  obtain ⟨hm, r, hr, hs⟩ := h
  exact ⟨hm, r, hr, fun N H x y dx dy Q l n d1 d2 q => hs N H x y dx dy Q l n d1 d2 (hm _ _ _ _ (fun d k v d3 => k v H (.refl H) d3) q)⟩
theorem chain_run {o o' : OD} {c : Expr} {tc : TDE} {r r' : R2} (hm : ∀ x y P P', (∀ d, P d → P' d) → o x y P → o x y P') (hm' : ∀ x y P P', (∀ d, P d → P' d) → o' x y P → o' x y P')
    (hs : ∀ (N : Addr → Prop) (H : Hp) (x y : V) (dx dy : PyData) (Q : VK), LenOk H → (∀ a, N a → IsL H a) → Dat X.K N H x dx → Dat X.K N H y dy → o dx dy (fun d => ∀ v, Dat X.K N H v d → Q v H) → r x y H Q)
    (hs' : ∀ (N : Addr → Prop) (H : Hp) (x y : V) (dx dy : PyData) (Q : VK), LenOk H → (∀ a, N a → IsL H a) → Dat X.K N H x dx → Dat X.K N H y dy → o' dx dy (fun d => ∀ v, Dat X.K N H v d → Q v H) → r' x y H Q)
    (ha : DE X a ta) (hb : DE X b tb) (hc : DE X c tc) {σ : L2.St} {H : Hp} {Q : VK} (q : embE X.K (dChain o o' ta tb tc) σ H Q) :
    tChain r r' (embE X.K ta) (embE X.K tb) (embE X.K tc) σ H Q := by
  obtain ⟨F, M, E, R, q⟩ := q
  refine two_run ha hb R q fun dx dy E2 x y H2 s2 R2 d1 d2 k => ?_
  refine hs _ H2 x y dx dy _ R2.len R2.nl d1 d2 (hm _ _ _ _ (fun d q v d3 => ?_) k)
  cases d with
  | bool b =>
    cases d3
    refine ⟨b, rfl, ?_⟩
    cases b with
    | false => exact iteF (q _ _ s2 R2 (.bl false))
    | true =>
      refine iteT ⟨F, M, E2, R2, hc.mono _ _ _ (fun dz E3 k3 z H3 s3 R3 d3 => ?_) q⟩
      refine hs' _ H3 y z dy dz _ R3.len R3.nl (d2.step s3 R2.m) d3 (hm' _ _ _ _ (fun d q v d4 => ?_) k3)
      exact q v H3 (s2.trans s3) R3 d4
  | _ => exact q.elim
theorem de_chain {o o' : OD} {c : Expr} {tc : TDE} {op op' : CmpOp} (ho : OpP X (compareOp op) o) (ho' : OpP X (compareOp op') o') (ha : DE X a ta) (hb : DE X b tb) (hc : DE X c tc)
    (hk : lastMarks [op, op'] [b, c] = false := by with_unfolding_all rfl) : DE X (.Compare a [op, op'] [b, c] pos) (dChain o o' ta tb tc) := by
  obtain ⟨hm, r, hr, hs⟩ := ho
  obtain ⟨hm', r', hr', hs'⟩ := ho'
  exact ⟨dChain_mono hm hm' ha.mono hb.mono hc.mono, ⟨fun pins s σ H Q I q => (pe_chain hr hr' ha.run hb.run hc.run hk).run pins s σ H Q I (chain_run hm hm' hs hs' ha hb hc q)⟩⟩
theorem dt_chain {o o' : OD} {c : Expr} {tc : TDE} {op op' : CmpOp} (ho : OpP X (compareOp op) o) (ho' : OpP X (compareOp op') o') (ha : DE X a ta) (hb : DE X b tb) (hc : DE X c tc)
    (hk : lastMarks [op, op'] [b, c] = false := by with_unfolding_all rfl) : DT X (.Compare a [op, op'] [b, c] pos) (dTs (dChain o o' ta tb tc)) := by
  obtain ⟨hm, r, hr, hs⟩ := ho
  obtain ⟨hm', r', hr', hs'⟩ := ho'
  refine ⟨dTs_mono (dChain_mono hm hm' ha.mono hb.mono hc.mono), ⟨fun pins s σ H Q I q => (pt_chain hr hr' ha.run hb.run hc.run hk).run pins s σ H Q I (chain_run hm hm' hs hs' ha hb hc ?_)⟩⟩
  obtain ⟨F, M, E, R, q⟩ := q
  refine ⟨F, M, E, R, dChain_mono hm hm' ha.mono hb.mono hc.mono _ _ _ (fun d E' k v H' s R' d1 => ?_) q⟩
  cases d with
  | bool b =>
    cases d1
    exact ⟨b, rfl, k H' s R'⟩
  | _ => exact k.elim

/-! ### and, or, not, if -/
def dAndT (t u : TDT) : TDT := fun E Q => t E fun c E1 => if c = true then u E1 Q else Q false E1
def dOrT (t u : TDT) : TDT := fun E Q => t E fun c E1 => if c = true then Q true E1 else u E1 Q
def dNotT (t : TDT) : TDT := fun E Q => t E fun c E1 => Q (!c) E1
theorem ite_mono {c : Bool} {A B A' B' : Prop} (ha : A → A') (hb : B → B') (h : if c = true then A else B) : if c = true then A' else B' := by
  cases c with
  | true => exact ha h
  | false => exact hb h
theorem dAndT_mono {t u : TDT} (ht : MonoT t) (hu : MonoT u) : MonoT (dAndT t u) := fun E Q Q' w h => ht _ _ _ (fun c E1 k => ite_mono (hu _ _ _ w) (w _ _) k) h
theorem dOrT_mono {t u : TDT} (ht : MonoT t) (hu : MonoT u) : MonoT (dOrT t u) := fun E Q Q' w h => ht _ _ _ (fun c E1 k => ite_mono (w _ _) (hu _ _ _ w) k) h
theorem dNotT_mono {t : TDT} (ht : MonoT t) : MonoT (dNotT t) := fun E Q Q' w h => ht _ _ _ (fun c E1 k => w _ _ k) h
variable {tA tB' : TDT} {rest : List Expr}
theorem dw_and1 (ha : DT X a tA) : DW X (.BoolOp .And [a] pos) tA := ⟨ha.mono, pw_and1 ha.run⟩
theorem dw_or1 (ha : DT X a tA) : DW X (.BoolOp .Or [a] pos) tA := ⟨ha.mono, pw_or1 ha.run⟩
theorem dw_and (ha : DT X a tA) (hb : DW X (.BoolOp .And (b :: rest) pos) tB') : DW X (.BoolOp .And (a :: b :: rest) pos) (dAndT tA tB') := by
  refine ⟨dAndT_mono ha.mono hb.mono, (pw_and ha.run hb.run).imp fun σ H Q l ⟨F, M, E, R, q⟩ => ?_⟩
  refine ⟨F, M, E, R, ha.mono _ _ _ (fun c E1 k H1 s1 R1 => ?_) q⟩
  cases c with
  | true => exact iteT ⟨F, M, E1, R1, hb.mono _ _ _ (fun d E2 k2 H2 s2 R2 _ => k2 H2 (s1.trans s2) R2) k⟩
  | false => exact iteF fun _ => k H1 s1 R1
theorem dw_or (ha : DT X a tA) (hb : DW X (.BoolOp .Or (b :: rest) pos) tB') : DW X (.BoolOp .Or (a :: b :: rest) pos) (dOrT tA tB') := by
  refine ⟨dOrT_mono ha.mono hb.mono, (pw_or ha.run hb.run).imp fun σ H Q l ⟨F, M, E, R, q⟩ => ?_⟩
  refine ⟨F, M, E, R, ha.mono _ _ _ (fun c E1 k H1 s1 R1 => ?_) q⟩
  cases c with
  | false => exact iteF ⟨F, M, E1, R1, hb.mono _ _ _ (fun d E2 k2 H2 s2 R2 _ => k2 H2 (s1.trans s2) R2) k⟩
  | true => exact iteT fun _ => k H1 s1 R1
theorem DW.dt (h : DW X a tA) : DT X a tA := ⟨h.mono, h.run.pt⟩
theorem dt_not (ha : DT X a tA) : DT X (.UnaryOp .Not a pos) (dNotT tA) :=
  ⟨dNotT_mono ha.mono, (pt_not ha.run).imp fun σ H Q l ⟨F, M, E, R, q⟩ => ⟨F, M, E, R, ha.mono _ _ _ (fun c E1 k H1 s1 R1 _ => k H1 s1 R1) q⟩⟩
def dAndV (t u : TDE) : TDE := fun E Q => t E fun d E1 => asB (fun c => if c = true then u E1 Q else Q (.bool false) E1) d
def dOrV (t u : TDE) : TDE := fun E Q => t E fun d E1 => asB (fun c => if c = true then Q (.bool true) E1 else u E1 Q) d
def dNotV (t : TDE) : TDE := fun E Q => t E fun d E1 => asB (fun c => Q (.bool (!c)) E1) d
theorem dAndV_mono {t u : TDE} (ht : MonoE t) (hu : MonoE u) : MonoE (dAndV t u) := fun E Q Q' w h => ht _ _ _ (fun d E1 k => asB_mono (fun b z => ite_mono (hu _ _ _ w) (w _ _) z) d k) h
theorem dOrV_mono {t u : TDE} (ht : MonoE t) (hu : MonoE u) : MonoE (dOrV t u) := fun E Q Q' w h => ht _ _ _ (fun d E1 k => asB_mono (fun b z => ite_mono (w _ _) (hu _ _ _ w) z) d k) h
theorem dNotV_mono {t : TDE} (ht : MonoE t) : MonoE (dNotV t) := fun E Q Q' w h => ht _ _ _ (fun d E1 k => asB_mono (fun b z => w _ _ z) d k) h
theorem de_one {op : BoolOp} (h : DE X a t) : DE X (.BoolOp op [a] pos) t := ⟨h.mono, pe_one h.run⟩
theorem de_and (ha : DE X a ta) (hb : DE X (.BoolOp .And (b :: rest) pos) tb) : DE X (.BoolOp .And (a :: b :: rest) pos) (dAndV ta tb) := by
  refine ⟨dAndV_mono ha.mono hb.mono, (pe_and ha.run hb.run).imp fun σ H Q l ⟨F, M, E, R, q⟩ => ?_⟩
  refine ⟨F, M, E, R, ha.mono _ _ _ (fun d E1 k v H1 s1 R1 d1 => ?_) q⟩
  cases d with
  | bool c =>
    cases d1
    refine ⟨c, rfl, ?_⟩
    cases c with
    | true => exact iteT ⟨F, M, E1, R1, hb.mono _ _ _ (fun d E2 k2 v H2 s2 R2 d2 _ => k2 v H2 (s1.trans s2) R2 d2) k⟩
    | false => exact iteF fun _ => k _ H1 s1 R1 (.bl false)
  | _ => exact k.elim
theorem de_or (ha : DE X a ta) (hb : DE X (.BoolOp .Or (b :: rest) pos) tb) : DE X (.BoolOp .Or (a :: b :: rest) pos) (dOrV ta tb) := by
  refine ⟨dOrV_mono ha.mono hb.mono, (pe_or ha.run hb.run).imp fun σ H Q l ⟨F, M, E, R, q⟩ => ?_⟩
  refine ⟨F, M, E, R, ha.mono _ _ _ (fun d E1 k v H1 s1 R1 d1 => ?_) q⟩
  cases d with
  | bool c =>
    cases d1
    refine ⟨c, rfl, ?_⟩
    cases c with
    | false => exact iteF ⟨F, M, E1, R1, hb.mono _ _ _ (fun d E2 k2 v H2 s2 R2 d2 _ => k2 v H2 (s1.trans s2) R2 d2) k⟩
    | true => exact iteT fun _ => k _ H1 s1 R1 (.bl true)
  | _ => exact k.elim
theorem de_not (ha : DE X a ta) : DE X (.UnaryOp .Not a pos) (dNotV ta) := by
  refine ⟨dNotV_mono ha.mono, (pe_not ha.run).imp fun σ H Q l ⟨F, M, E, R, q⟩ => ⟨F, M, E, R, ha.mono _ _ _ (fun d E1 k v H1 s1 R1 d1 => ?_) q⟩⟩
  cases d with
  | bool c =>
    cases d1
    exact ⟨c, rfl, fun _ => k _ H1 s1 R1 (.bl _)⟩
  | _ => exact k.elim
def dIf (t : TDT) (ta tb : TDE) : TDE := fun E Q => t E fun c E1 => if c = true then ta E1 Q else tb E1 Q
theorem dIf_mono {t : TDT} (h : MonoT t) (ha : MonoE ta) (hb : MonoE tb) : MonoE (dIf t ta tb) := fun E Q Q' w q => h _ _ _ (fun c E1 k => ite_mono (ha _ _ _ w) (hb _ _ _ w) k) q
theorem de_if {c : Expr} (hc : DT X c tA) (ha : DE X a ta) (hb : DE X b tb) : DE X (.IfExp c a b pos) (dIf tA ta tb) := by
  refine ⟨dIf_mono hc.mono ha.mono hb.mono, (pe_ifExp hc.run ha.run hb.run).imp fun σ H Q l ⟨F, M, E, R, q⟩ => ?_⟩
  refine ⟨F, M, E, R, hc.mono _ _ _ (fun c E1 k H1 s1 R1 => ?_) q⟩
  cases c with
  | true => exact iteT ⟨F, M, E1, R1, ha.mono _ _ _ (fun d E2 k2 v H2 s2 R2 d2 _ => k2 v H2 (s1.trans s2) R2 d2) k⟩
  | false => exact iteF ⟨F, M, E1, R1, hb.mono _ _ _ (fun d E2 k2 v H2 s2 R2 d2 _ => k2 v H2 (s1.trans s2) R2 d2) k⟩

/-! ### argument lists, displays, built-ins -/
def dNil : TDA := fun E Q => Q [] E
def dCons (t : TDE) (u : TDA) : TDA := fun E Q => t E fun d E1 => u E1 fun ds E2 => Q (d :: ds) E2
variable {u : TDA}
theorem dNil_mono : MonoA dNil := fun E Q Q' w h => w _ _ h
theorem dCons_mono (ht : MonoE t) (hu : MonoA u) : MonoA (dCons t u) := fun E Q Q' w h => ht _ _ _ (fun d E1 k => hu _ _ _ (fun ds E2 k2 => w _ _ k2) k) h
theorem da_nil : DA X [] dNil := ⟨dNil_mono, pa_nil.imp fun σ H Q l ⟨F, M, E, R, q⟩ _ => q [] H .refl R .nil⟩
theorem da_cons (he : DE X e t) (hr : DA X es u) (hs : starEach (e :: es) X.env = (false, eval e X.env) :: starEach es X.env := by rfl) : DA X (e :: es) (dCons t u) := by
  refine ⟨dCons_mono he.mono hr.mono, (pa_cons he.run hr.run hs).imp fun σ H Q l ⟨F, M, E, R, q⟩ => ?_⟩
  refine ⟨F, M, E, R, he.mono _ _ _ (fun d E1 k v H1 s1 R1 d1 => ?_) q⟩
  exact ⟨F, M, E1, R1, hr.mono _ _ _ (fun ds E2 k2 vs H2 s2 R2 d2 _ => k2 (v :: vs) H2 (s1.trans s2) R2 (.cons (d1.step s2 R1.m) d2)) k⟩
def dTup (u : TDA) : TDE := fun E Q => u E fun ds E1 => ds.length ≤ sizeLine ∧ Q (.tuple ds) E1
def dLst (u : TDA) : TDE := fun E Q => u E fun ds E1 => ds.length ≤ sizeLine ∧ Q (.list ds) E1
theorem same_new {H : Hp} {p : Addr} {o : HO} (h : H p = none) : Same H (upd H p o) := fun b x e => by
  rw [upd_ne (ne_of_none e h)]
  exact e
theorem not_new {N : Addr → Prop} {H : Hp} {p : Addr} (n : ∀ a, N a → IsL H a) (h : H p = none) : ¬ N p := fun q => by
  obtain ⟨xs, e⟩ := n p q
  rw [h] at e
  cases e
/-- a new list, a new tuple of what are data -/
theorem new_lst {K : PySem.W.Frag} {N : Addr → Prop} {H : Hp} {p : Addr} {vs : List V} {ds : List PyData} (n : ∀ a, N a → IsL H a) (h : H p = none) (r : DatA K N H vs ds) : Dat K N (upd H p (.lst vs)) (.ref p) (.list ds) :=
  .lst upd_same (not_new n h) (r.same (same_new h))
theorem new_tup {K : PySem.W.Frag} {N : Addr → Prop} {H : Hp} {p : Addr} {vs : List V} {ds : List PyData} (h : H p = none) (r : DatA K N H vs ds) : Dat K N (upd H p (.tup vs)) (.ref p) (.tuple ds) :=
  .tup (.of upd_same) (r.same (same_new h))
theorem de_tup {k : Nat} (h : DA X es u) : DE X (.Tuple es k pos) (dTup u) := by
  refine ⟨fun E Q Q' w q => h.mono _ _ _ (fun d E1 k => ⟨k.1, w _ _ k.2⟩) q, (pe_tup h.run).imp fun σ H Q l ⟨F, M, E, R, q⟩ => ?_⟩
  refine ⟨F, M, E, R, h.mono _ _ _ (fun ds E1 k vs H1 s1 R1 d1 => ?_) q⟩
  exact ⟨by rw [d1.length]; exact k.1, fun p hp l' => k.2 _ _ (s1.trans (.same (same_new hp))) (R1.same (same_new hp) l') (new_tup hp d1)⟩
theorem de_lst (h : DA X es u) : DE X (.List es pos) (dLst u) := by
  refine ⟨fun E Q Q' w q => h.mono _ _ _ (fun d E1 k => ⟨k.1, w _ _ k.2⟩) q, (pe_lst h.run).imp fun σ H Q l ⟨F, M, E, R, q⟩ => ?_⟩
  refine ⟨F, M, E, R, h.mono _ _ _ (fun ds E1 k vs H1 s1 R1 d1 => ?_) q⟩
  exact ⟨by rw [d1.length]; exact k.1, fun p hp l' => k.2 _ _ (s1.trans (.same (same_new hp))) (R1.same (same_new hp) l') (new_lst R1.nl hp d1)⟩
/-- a call by values -/
abbrev CD := List PyData → (PyData → Prop) → Prop
def CaS (X : Cx) (f : Value) (c : CD) : Prop :=
  (∀ xs P P', (∀ d, P d → P' d) → c xs P → c xs P') ∧ ∃ r, CallR X f r ∧ ∀ (N : Addr → Prop) (H : Hp) (xs : List V) (ds : List PyData) (Q : VK), LenOk H → (∀ a, N a → IsL H a) → DatA X.K N H xs ds →
    c ds (fun d => ∀ v H', Same H H' → Dat X.K N H' v d → Q v H') → r xs H Q
def dCall (c : CD) (u : TDA) : TDE := fun E Q => u E fun ds E1 => c ds fun d => Q d E1
theorem dCall_mono {c : CD} (hc : ∀ xs P P', (∀ d, P d → P' d) → c xs P → c xs P') (hu : MonoA u) : MonoE (dCall c u) := fun E Q Q' w h => hu _ _ _ (fun ds E1 k => hc _ _ _ (fun d z => w _ _ z) k) h
theorem de_callB {x : Str} {id : String} {c : CD} {p : Pos} (hc : CaS X (.builtin id) c) (hm : X.mg x = none) (ha : DA X (e :: es) u) (hv : bootBuiltins x = some (.builtin id) := by decide +kernel) (hg : Gl X x := by rfl) (hn : x ≠ "__name__" := by decide) (hdb : (x == ("__debug__" : Str)) = false := by decide)
    (he : starEach (e :: es) X.env = (false, eval e X.env) :: starEach es X.env := by rfl) (hpl : (backTo pos (starEach es X.env)).any (·.1) = false := by rfl) : DE X (.Call (.Name x p) (e :: es) [] pos) (dCall c u) := by
  obtain ⟨hmo, r, hr, hs⟩ := hc
  refine ⟨dCall_mono hmo ha.mono, (pe_callB hr hg hm hv ha.run hn hdb he hpl).imp fun σ H Q l ⟨F, M, E, R, q⟩ => ?_⟩
  refine ⟨F, M, E, R, ha.mono _ _ _ (fun ds E1 k vs H1 s1 R1 d1 => ?_) q⟩
  exact hs _ H1 vs ds _ R1.len R1.nl d1 (hmo _ _ _ (fun d q v H' sm d3 l' => q v H' (s1.trans (.same sm)) (R1.same sm l') d3) k)
theorem de_callTy {x : Str} {T : String} {c : CD} {p : Pos} (hc : CaS X (.type T) c) (hm : X.mg x = none) (ha : DA X (e :: es) u) (hv : bootBuiltins x = some (.type T) := by decide +kernel) (hg : Gl X x := by rfl) (hn : x ≠ "__name__" := by decide) (hdb : (x == ("__debug__" : Str)) = false := by decide)
    (he : starEach (e :: es) X.env = (false, eval e X.env) :: starEach es X.env := by rfl) (hpl : (backTo pos (starEach es X.env)).any (·.1) = false := by rfl) : DE X (.Call (.Name x p) (e :: es) [] pos) (dCall c u) := by
  obtain ⟨hmo, r, hr, hs⟩ := hc
  refine ⟨dCall_mono hmo ha.mono, (pe_callTy hr hg hm hv ha.run hn hdb he hpl).imp fun σ H Q l ⟨F, M, E, R, q⟩ => ?_⟩
  refine ⟨F, M, E, R, ha.mono _ _ _ (fun ds E1 k vs H1 s1 R1 d1 => ?_) q⟩
  exact hs _ H1 vs ds _ R1.len R1.nl d1 (hmo _ _ _ (fun d q v H' sm d3 l' => q v H' (s1.trans (.same sm)) (R1.same sm l') d3) k)

/-! ### own lists read as data -/
def dBor (t : TDE) : TDE := fun E Q => t E.rel fun d E' => scal d = true ∧ Q d ⟨E.sl, E'.fu⟩
def dBorT (t : TDT) : TDT := fun E Q => t E.rel fun b E' => Q b ⟨E.sl, E'.fu⟩
theorem Rep.pok {K : PySem.W.Frag} {F : Fm} {M : Addr → Prop} {H : Hp} {σ : L2.St} {E : En} (R : Rep K F M H σ E) : PzOk F H E.fu := by
  obtain ⟨W, R⟩ := R
  exact R.pok
theorem de_bor (h : DE X e t) : DE X e (dBor t) := by
  refine ⟨fun E Q Q' w q => h.mono _ _ _ (fun d E1 k => ⟨k.1, w _ _ k.2⟩) q, h.run.imp fun σ H Q l ⟨F, M, E, R, q⟩ => ?_⟩
  refine ⟨F, F.M0, E.rel, R.rel, h.mono _ _ _ (fun d E1 k v H1 s1 R1 d1 _ => ?_) q⟩
  exact k.2 v H1 (R.stepM0 s1) (R.after s1 R1.pok R1.len) (d1.scalar k.1)
theorem dt_bor (h : DT X e tA) : DT X e (dBorT tA) := by
  refine ⟨fun E Q Q' w q => h.mono _ _ _ (fun d E1 k => w _ _ k) q, h.run.imp fun σ H Q l ⟨F, M, E, R, q⟩ => ?_⟩
  refine ⟨F, F.M0, E.rel, R.rel, h.mono _ _ _ (fun d E1 k H1 s1 R1 _ => ?_) q⟩
  exact k H1 (R.stepM0 s1) (R.after s1 R1.pok R1.len)
end
end K22

set_option Elab.async false
set_option linter.all false
set_option maxRecDepth 100000
set_option maxHeartbeats 4000000
/-! M2: operators, subscripts, slices, built-ins by data. -/
namespace K22
open PySem PySem.Spec PyProof.Rows L2
/-- a scalar as a value -/
def toV : PyData → V
  | .bool b => .bl b
  | .int i => .int i
  | .str x => .str x
  | _ => .non
theorem Dat.toV {K : PySem.W.Frag} {N : Addr → Prop} {H : Hp} {d : PyData} {v : V} (s : scal d = true) (h : Dat K N H v d) : v = toV d := by
  cases d with
  | none => cases h; rfl
  | bool b => cases h; rfl
  | int i => cases h; rfl
  | str x => cases h; rfl
  | list ds => cases s
  | tuple ds => cases s
  | dict ds => cases s
theorem DatA.toV {K : PySem.W.Frag} {N : Addr → Prop} {H : Hp} : ∀ {ds : List PyData} {vs : List V}, ds.all scal = true → DatA K N H vs ds → vs = ds.map toV
  | [], _, _, h => by cases h; rfl
  | d :: ds, _, s, h => by
    cases h with
    | cons h r =>
      have s' : scal d = true ∧ ds.all scal = true := by simpa using s
      rw [h.toV s'.1, DatA.toV s'.2 r]
      rfl
theorem flat_toV (d : PyData) : flatV (K22.toV d) = true := by cases d <;> rfl
theorem flats_toV (ds : List PyData) : (ds.map K22.toV).all flatV = true := by
  induction ds with
  | nil => rfl
  | cons d ds ih => simp [flat_toV, ih]

section
variable {X : Cx}
def oAdd : OD := fun x y P => match x, y with
  | .int i, .int j => P (.int (i + j))
  | .list a, .list b => a.length + b.length ≤ sizeLine ∧ P (.list (a ++ b))
  | .tuple a, .tuple b => a.length + b.length ≤ sizeLine ∧ P (.tuple (a ++ b))
  | _, _ => False
def oSub : OD := fun x y P => match x, y with
  | .int i, .int j => P (.int (i - j))
  | _, _ => False
def oMul : OD := fun x y P => match x, y with
  | .int i, .int j => CMul i j ∧ P (.int (i * j))
  | .list a, .int k => 0 ≤ k ∧ k < 2 ^ 63 ∧ a.length * k.toNat ≤ sizeLine ∧ P (.list (List.replicate k.toNat a).flatten)
  | _, _ => False
def oDiv : OD := fun x y P => match x, y with
  | .int i, .int j => CDiv i j ∧ P (.int (i / j))
  | _, _ => False
def oMod : OD := fun x y P => match x, y with
  | .int i, .int j => 0 < j ∧ P (.int (i % j))
  | _, _ => False
def oPow : OD := fun x y P => match x, y with
  | .int i, .int j => 0 ≤ j ∧ (Builtin.Int.intBits i : Int) * j ≤ 2 ^ 27 ∧ P (.int (i ^ j.toNat))
  | _, _ => False
theorem datA_rep {K : PySem.W.Frag} {N : Addr → Prop} {H : Hp} {xs : List V} {ds : List PyData} (h : DatA K N H xs ds) : ∀ k : Nat, DatA K N H (List.replicate k xs).flatten (List.replicate k ds).flatten
  | 0 => .nil
  | k + 1 => by
    rw [List.replicate_succ, List.replicate_succ, List.flatten_cons, List.flatten_cons]
    exact h.app (datA_rep h k)
theorem os_add : OpS X (binaryOp .Add) oAdd := by
  refine ⟨fun x y P P' w h => ?_, _, (op_add.or (op_cat.or op_catA)), fun N H x y dx dy Q l n d1 d2 h => ?_⟩
  · unfold oAdd at h ⊢
    split at h
    · exact w _ h
    · exact ⟨h.1, w _ h.2⟩
    · exact ⟨h.1, w _ h.2⟩
    · exact h.elim
  · unfold oAdd at h
    split at h
    · cases d1; cases d2
      exact .inl ⟨_, _, rfl, rfl, h _ _ (.refl H) (.int _)⟩
    · cases d1 with
      | lst e1 n1 r1 =>
        cases d2 with
        | lst e2 n2 r2 => exact .inr (.inl ⟨_, _, _, _, rfl, rfl, e1, e2, by rw [r1.length, r2.length]; exact h.1, fun p hp => h.2 _ _ (same_new hp) (new_lst n hp (r1.app r2))⟩)
    · cases d1 with
      | tup e1 r1 =>
        cases d2 with
        | tup e2 r2 =>
          refine .inr (.inr ⟨_, _, _, _, rfl, rfl, e1, e2, by rw [r1.length, r2.length]; exact h.1, fun z => ?_, fun _ z => ?_, fun _ _ p hp => h.2 _ _ (same_new hp) (new_tup hp (r1.app r2))⟩)
          · subst z
            cases r1
            exact h.2 _ H (.refl H) (.tup e2 (by simpa using r2))
          · subst z
            cases r2
            exact h.2 _ H (.refl H) (.tup e1 (by simpa using r1))
    · exact h.elim
theorem os_int {f : Value → Value → Sem Value} {C : Int → Int → Prop} {g : Int → Int → Int} {o : OD} (hr : OpR X f (rI C fun i j => .int (g i j))) (ho : ∀ x y P, o x y P → ∃ i j, x = .int i ∧ y = .int j ∧ C i j ∧ P (.int (g i j)))
    (hi : ∀ i j P, C i j → P (.int (g i j)) → o (.int i) (.int j) P) : OpS X f o := by
  refine ⟨fun x y P P' w h => ?_, _, hr, fun N H x y dx dy Q l n d1 d2 h => ?_⟩
  · obtain ⟨i, j, rfl, rfl, c, h⟩ := ho _ _ _ h
    exact hi i j P' c (w _ h)
  · obtain ⟨i, j, rfl, rfl, c, h⟩ := ho _ _ _ h
    cases d1; cases d2
    exact ⟨i, j, rfl, rfl, c, h _ _ (.refl H) (.int _)⟩
theorem os_sub : OpS X (binaryOp .Sub) oSub := by
  refine ⟨fun x y P P' w h => ?_, _, op_sub, fun N H x y dx dy Q l n d1 d2 h => ?_⟩
  · unfold oSub at h ⊢
    split at h
    · exact w _ h
    · exact h.elim
  · unfold oSub at h
    split at h
    · cases d1; cases d2
      exact ⟨_, _, rfl, rfl, h _ _ (.refl H) (.int _)⟩
    · exact h.elim
theorem os_mul : OpS X (binaryOp .Mult) oMul := by
  refine ⟨fun x y P P' w h => ?_, _, (op_mul.or op_rep), fun N H x y dx dy Q l n d1 d2 h => ?_⟩
  · unfold oMul at h ⊢
    split at h
    · exact ⟨h.1, w _ h.2⟩
    · exact ⟨h.1, h.2.1, h.2.2.1, w _ h.2.2.2⟩
    · exact h.elim
  · unfold oMul at h
    split at h
    · cases d1; cases d2
      exact .inl ⟨_, _, rfl, rfl, h.1, h.2 _ _ (.refl H) (.int _)⟩
    · cases d1 with
      | lst e1 n1 r1 =>
        cases d2
        exact .inr ⟨_, _, _, rfl, rfl, e1, by omega, h.2.1, by rw [r1.length]; exact h.2.2.1, fun p hp => h.2.2.2 _ _ (same_new hp) (new_lst n hp (datA_rep r1 _))⟩
    · exact h.elim
theorem os_div : OpS X (binaryOp .FloorDiv) oDiv := os_int (g := fun i j => i / j) op_fdiv (fun x y P h => by
  unfold oDiv at h
  split at h
  · exact ⟨_, _, rfl, rfl, h⟩
  · exact h.elim) fun i j P c h => ⟨c, h⟩
theorem os_mod : OpS X (binaryOp .Mod) oMod := os_int (g := fun i j => i % j) op_mod (fun x y P h => by
  unfold oMod at h
  split at h
  · exact ⟨_, _, rfl, rfl, h⟩
  · exact h.elim) fun i j P c h => ⟨c, h⟩
theorem op_powG : OpR X (binaryOp .Pow) (rI (fun i j => 0 ≤ j ∧ (Builtin.Int.intBits i : Int) * j ≤ 2 ^ 27) fun i j => .int (i ^ j.toNat)) := opI fun _ _ _ _ _ _ _ hc q => pow_int hc.1 hc.2 q
theorem os_pow : OpS X (binaryOp .Pow) oPow := os_int (g := fun i j => i ^ j.toNat) op_powG (fun x y P h => by
  unfold oPow at h
  split at h
  · exact ⟨_, _, rfl, rfl, ⟨h.1, h.2.1⟩, h.2.2⟩
  · exact h.elim) fun i j P c h => ⟨c.1, c.2, h⟩

/-! ### comparisons -/
def oEq : OD := fun x y P => SeqAt.shaped x = true ∧ SeqAt.shaped y = true ∧ P (.bool (PyData.eqv x y))
def oNe : OD := fun x y P => SeqAt.shaped x = true ∧ SeqAt.shaped y = true ∧ P (.bool (!PyData.eqv x y))
def oCmp (g : Int → Int → Bool) : OD := fun x y P => match x, y with
  | .int i, .int j => P (.bool (g i j))
  | _, _ => False
abbrev oLt : OD := oCmp fun i j => decide (i < j)
abbrev oLe : OD := oCmp fun i j => decide (i ≤ j)
abbrev oGt : OD := oCmp fun i j => decide (j < i)
abbrev oGe : OD := oCmp fun i j => decide (j ≤ i)
def isN : PyData → Bool
  | .none => true
  | _ => false
def oIs : OD := fun x y P => isN y = true ∧ P (.bool (isN x))
def oNot : OD := fun x y P => isN y = true ∧ P (.bool (!isN x))
theorem ob_eq (hu : X.A.units + 64 < cLine) : OpP X (compareOp .Eq) oEq :=
  ⟨fun x y P P' w h => ⟨h.1, h.2.1, w _ h.2.2⟩, _, op_eqD hu, fun N H x y dx dy Q l n d1 d2 h => ⟨dx, dy, d1.dp, d2.dp, h.1, h.2.1, h.2.2 _ (.bl _)⟩⟩
theorem ob_ne (hu : X.A.units + 64 < cLine) : OpP X (compareOp .NotEq) oNe :=
  ⟨fun x y P P' w h => ⟨h.1, h.2.1, w _ h.2.2⟩, _, op_neD hu, fun N H x y dx dy Q l n d1 d2 h => ⟨dx, dy, d1.dp, d2.dp, h.1, h.2.1, h.2.2 _ (.bl _)⟩⟩
theorem ob_int {f : Value → Value → Sem Value} {g : Int → Int → Bool} (hr : OpR X f (rI0 fun i j => .bl (g i j))) : OpP X f (oCmp g) := by
  refine ⟨fun x y P P' w h => ?_, _, hr, fun N H x y dx dy Q l n d1 d2 h => ?_⟩
  · unfold oCmp at h ⊢
    split at h
    · exact w _ h
    · exact h.elim
  · unfold oCmp at h
    split at h
    · cases d1; cases d2
      exact ⟨_, _, rfl, rfl, h _ (.bl _)⟩
    · exact h.elim
theorem ob_lt : OpP X (compareOp .Lt) oLt := ob_int op_lt
theorem ob_le : OpP X (compareOp .LtE) oLe := ob_int op_le
theorem ob_gt : OpP X (compareOp .Gt) oGt := ob_int op_gt
theorem ob_ge : OpP X (compareOp .GtE) oGe := ob_int op_ge
theorem isN_dec {K : PySem.W.Frag} {N : Addr → Prop} {H : Hp} {d : PyData} {v : V} (h : Dat K N H v d) : decide (v = .non) = isN d := by
  cases h <;> first | rfl | exact decide_eq_false (fun z => by cases z)
theorem isN_non {K : PySem.W.Frag} {N : Addr → Prop} {H : Hp} {d : PyData} {v : V} (h : Dat K N H v d) (e : isN d = true) : v = .non := by
  have z := isN_dec h
  rw [e] at z
  exact of_decide_eq_true z
theorem ob_is : OpP X (compareOp .Is) oIs :=
  ⟨fun x y P P' w h => ⟨h.1, w _ h.2⟩, _, op_isN, fun N H x y dx dy Q l n d1 d2 h => ⟨isN_non d2 h.1, h.2 _ (by rw [isN_dec d1]; exact .bl _)⟩⟩
theorem ob_not : OpP X (compareOp .IsNot) oNot :=
  ⟨fun x y P P' w h => ⟨h.1, w _ h.2⟩, _, op_notN, fun N H x y dx dy Q l n d1 d2 h => ⟨isN_non d2 h.1, h.2 _ (by rw [isN_dec d1]; exact .bl _)⟩⟩
/-- in a list or tuple of scalars -/
def inD (x : PyData) (l : List PyData) : Bool := L2.inV (K22.toV x) (l.map K22.toV)
def oIn : OD := fun x y P => match y with
  | .list l => scal x = true ∧ l.all scal = true ∧ P (.bool (inD x l))
  | .tuple l => scal x = true ∧ l.all scal = true ∧ P (.bool (inD x l))
  | .str z => (match x with
    | .str s => s.cps.size = 1 ∧ P (.bool (decide (s.cps.getD 0 0 ∈ z.cps.toList)))
    | _ => False)
  | _ => False
def oNin : OD := fun x y P => match y with
  | .list l => scal x = true ∧ l.all scal = true ∧ P (.bool (!inD x l))
  | .tuple l => scal x = true ∧ l.all scal = true ∧ P (.bool (!inD x l))
  | _ => False
theorem one_sign (s : Str) (h : s.cps.size = 1) : s = ⟨#[s.cps.getD 0 0]⟩ := by
  obtain ⟨c⟩ := s
  have h : c.size = 1 := h
  congr 1
  apply Array.ext
  · simp [h]
  · intro i h1 h2
    have : i = 0 := by simp at h2; omega
    subst this
    simp [h]
theorem ob_in : OpP X (compareOp .In) oIn := by
  refine ⟨fun x y P P' w h => ?_, _, (op_in_seq.or op_in_sign), fun N H x y dx dy Q l n d1 d2 h => ?_⟩
  · unfold oIn at h ⊢
    cases y with
    | list l => exact ⟨h.1, h.2.1, w _ h.2.2⟩
    | tuple l => exact ⟨h.1, h.2.1, w _ h.2.2⟩
    | str z =>
      cases x with
      | str s => exact ⟨h.1, w _ h.2⟩
      | _ => exact h.elim
    | _ => exact h.elim
  · unfold oIn at h
    cases dy with
    | list l =>
      cases d2 with
      | lst e2 n2 r2 =>
        obtain ⟨h1, h2, h3⟩ := h
        rw [d1.toV h1]
        rw [r2.toV h2] at e2
        exact .inl ⟨_, _, rfl, .inl (.of e2), flat_toV _, flats_toV _, h3 _ (.bl _)⟩
    | tuple l =>
      cases d2 with
      | tup e2 r2 =>
        obtain ⟨h1, h2, h3⟩ := h
        rw [d1.toV h1]
        rw [r2.toV h2] at e2
        exact .inl ⟨_, _, rfl, .inr e2, flat_toV _, flats_toV _, h3 _ (.bl _)⟩
    | str z =>
      cases dx with
      | str s =>
        cases d1; cases d2
        exact .inr ⟨_, z, congrArg V.str (one_sign s h.1), rfl, h.2 _ (.bl _)⟩
      | _ => exact h.elim
    | _ => exact h.elim
theorem ob_nin : OpP X (compareOp .NotIn) oNin := by
  refine ⟨fun x y P P' w h => ?_, _, op_notIn_seq, fun N H x y dx dy Q l n d1 d2 h => ?_⟩
  · unfold oNin at h ⊢
    cases y with
    | list l => exact ⟨h.1, h.2.1, w _ h.2.2⟩
    | tuple l => exact ⟨h.1, h.2.1, w _ h.2.2⟩
    | _ => exact h.elim
  · unfold oNin at h
    cases dy with
    | list l =>
      cases d2 with
      | lst e2 n2 r2 =>
        obtain ⟨h1, h2, h3⟩ := h
        rw [d1.toV h1]
        rw [r2.toV h2] at e2
        exact ⟨_, _, rfl, .inl (.of e2), flat_toV _, flats_toV _, h3 _ (.bl _)⟩
    | tuple l =>
      cases d2 with
      | tup e2 r2 =>
        obtain ⟨h1, h2, h3⟩ := h
        rw [d1.toV h1]
        rw [r2.toV h2] at e2
        exact ⟨_, _, rfl, .inr e2, flat_toV _, flats_toV _, h3 _ (.bl _)⟩
    | _ => exact h.elim

/-! ### subscripts, slices -/
variable {e a b : Expr} {t ta tb : TDE} {pos : Pos}
def oIx : OD := fun x y P => match x, y with
  | .list l, .int i => (match atI l i with
    | some d => P d
    | none => False)
  | .tuple l, .int i => (match atI l i with
    | some d => P d
    | none => False)
  | .str s, .int i => s.length ≤ sizeLine ∧ (match atI s.cps.toList i with
    | some c => P (.str ⟨#[c]⟩)
    | none => False)
  | _, _ => False
theorem oIx_mono : ∀ x y P P', (∀ d, P d → P' d) → oIx x y P → oIx x y P' := fun x y P P' w h => by
  unfold oIx at h ⊢
  split at h
  · split at h
    · exact w _ h
    · exact h.elim
  · split at h
    · exact w _ h
    · exact h.elim
  · refine ⟨h.1, ?_⟩
    have h := h.2
    split at h
    · exact w _ h
    · exact h.elim
  · exact h.elim
theorem atI_dat {K : PySem.W.Frag} {N : Addr → Prop} {H : Hp} {xs : List V} {ds : List PyData} {i : Int} {d : PyData} (r : DatA K N H xs ds) (h : atI ds i = some d) : ∃ v, atI xs i = some v ∧ Dat K N H v d := by
  unfold atI at h ⊢
  rw [r.length]
  cases q : ixN ds.length i with
  | none => rw [q] at h; cases h
  | some j =>
    rw [q] at h
    exact r.get_of h
theorem de_ix (ha : DE X a ta) (hb : DE X b tb) (hs : PlainIx b := by exact fun _ _ => rfl) : DE X (.Subscript a b pos) (dOp oIx ta tb) := by
  refine ⟨dOp_mono oIx_mono ha.mono hb.mono, (pe_ix ix_seq ha.run hb.run hs).imp fun σ H Q l q => ?_⟩
  obtain ⟨F, M, E, R, q⟩ := q
  refine two_run ha hb R q fun dx dy E2 x y H2 s2 R2 d1 d2 k => ?_
  unfold oIx at k
  split at k
  · split at k
    · rename_i d hd
      cases d1 with
      | lst e1 n1 r1 =>
        cases d2
        obtain ⟨v, h1, h2⟩ := atI_dat r1 hd
        exact .inl ⟨_, _, _, v, rfl, rfl, .of e1, h1, fun _ => k v H2 s2 R2 h2⟩
    · exact k.elim
  · split at k
    · rename_i d hd
      cases d1 with
      | tup e1 r1 =>
        cases d2
        obtain ⟨v, h1, h2⟩ := atI_dat r1 hd
        exact .inr (.inl ⟨_, _, _, v, rfl, rfl, e1, h1, fun _ => k v H2 s2 R2 h2⟩)
    · exact k.elim
  · obtain ⟨k1, k⟩ := k
    split at k
    · rename_i c hc
      cases d1; cases d2
      exact .inr (.inr ⟨_, _, _, rfl, rfl, k1, hc, fun _ => k _ H2 s2 R2 (.str _)⟩)
    · exact k.elim
  · exact k.elim
/-- x[:k] -/
def oCut : OD := fun x y P => match x, y with
  | .list l, .int k => 0 ≤ k ∧ P (.list (l.take k.toNat))
  | .tuple l, .int k => 0 ≤ k ∧ P (.tuple (l.take k.toNat))
  | _, _ => False
theorem oCut_mono : ∀ x y P P', (∀ d, P d → P' d) → oCut x y P → oCut x y P' := fun x y P P' w h => by
  unfold oCut at h ⊢
  split at h
  · exact ⟨h.1, w _ h.2⟩
  · exact ⟨h.1, w _ h.2⟩
  · exact h.elim
theorem sIx_take (xs : List V) (k : Int) (h : 0 ≤ k) : HT.sIx xs.length xs.length (some k) = min k.toNat xs.length := by
  have e : k = ((k.toNat : Nat) : Int) := by omega
  rw [e]
  exact HT.sIx_nat xs.length xs.length k.toNat
theorem cut_take (xs : List V) (k : Int) (h : 0 ≤ k) : cutV xs none (some k) = xs.take k.toNat := by
  unfold cutV
  rw [sIx_take xs k h, HT.sIx_none, List.drop_zero, Nat.sub_zero]
  by_cases c : k.toNat ≤ xs.length
  · rw [Nat.min_eq_left c]
  · rw [Nat.min_eq_right (by omega), List.take_of_length_le (Nat.le_refl _), List.take_of_length_le (by omega)]
theorem de_cut {p2 : Pos} (ha : DE X a ta) (hb : DE X b tb) : DE X (.Subscript a (.Slice none (some b) none p2) pos) (dOp oCut ta tb) := by
  refine ⟨dOp_mono oCut_mono ha.mono hb.mono, (pe_slice (sl_list.or sl_tupA) ha.run po_none (po_some hb.run)).imp fun σ H Q l q => ?_⟩
  obtain ⟨F, M, E, R, q⟩ := q
  refine two_run ha hb R q fun dx dy E2 x y H2 s2 R2 d1 d2 k => ?_
  unfold oCut at k
  split at k
  · obtain ⟨hk, k⟩ := k
    cases d1 with
    | lst e1 n1 r1 =>
      cases d2
      refine ⟨_, rfl, .inl ⟨_, _, rfl, .of e1, fun p hp l' => ?_⟩⟩
      rw [cut_take _ _ hk] at l' ⊢
      exact k _ _ (s2.trans (.same (same_new hp))) (R2.same (same_new hp) l') (new_lst R2.nl hp (r1.take _))
  · obtain ⟨hk, k⟩ := k
    cases d1 with
    | tup e1 r1 =>
      cases d2
      refine ⟨_, rfl, .inr ⟨_, _, rfl, e1, fun z l' => ?_, fun z p hp l' => ?_⟩⟩
      · rw [sIx_take _ _ hk] at z
        refine k _ H2 s2 R2 (.tup e1 ?_)
        rw [List.take_of_length_le (by have := r1.length; omega)]
        exact r1
      · rw [cut_take _ _ hk] at l' ⊢
        exact k _ _ (s2.trans (.same (same_new hp))) (R2.same (same_new hp) l') (new_tup hp (r1.take _))
  · exact k.elim

/-! ### built-in functions -/
def cLen : CD := fun xs P => match xs with
  | [.list l] => P (.int l.length)
  | [.tuple l] => P (.int l.length)
  | [.str s] => s.length ≤ sizeLine ∧ P (.int s.length)
  | _ => False
theorem ca_len : CaS X (.builtin "len") cLen := by
  refine ⟨fun xs P P' w h => ?_, _, (call_len_seq.or call_len_str), fun N H xs ds Q l n d h => ?_⟩
  · unfold cLen at h ⊢
    split at h
    · exact w _ h
    · exact w _ h
    · exact ⟨h.1, w _ h.2⟩
    · exact h.elim
  · unfold cLen at h
    split at h
    · cases d with
      | cons d r =>
        cases r
        cases d with
        | lst e n r => exact .inl ⟨_, _, rfl, .inl (.of e), by rw [r.length]; exact h _ _ (.refl H) (.int _)⟩
    · cases d with
      | cons d r =>
        cases r
        cases d with
        | tup e r => exact .inl ⟨_, _, rfl, .inr e, by rw [r.length]; exact h _ _ (.refl H) (.int _)⟩
    · cases d with
      | cons d r =>
        cases r
        cases d
        exact .inr ⟨_, rfl, h.1, h.2 _ _ (.refl H) (.int _)⟩
    · exact h.elim
/-- a call of one list of ints, of one list of truths -/
def cInts (c : List Int → (PyData → Prop) → Prop) : CD := fun xs P => ∃ ns : List Int, xs = [.list (ns.map .int)] ∧ c ns P
theorem ca_ints {f : Value} {c : List Int → (PyData → Prop) → Prop} {r : List V → Hp → VK → Prop} (hm : ∀ ns P P', (∀ d, P d → P' d) → c ns P → c ns P') (hr : CallR X f r)
    (hs : ∀ (N : Addr → Prop) (H : Hp) (a : Addr) (ns : List Int) (Q : VK), (∀ a, N a → IsL H a) → SqL X.K H a (ns.map V.int) → c ns (fun d => ∀ v H', Same H H' → Dat X.K N H' v d → Q v H') → r [.ref a] H Q) : CaS X f (cInts c) := by
  refine ⟨fun xs P P' w h => ?_, _, hr, fun N H xs ds Q l n d h => ?_⟩
  · obtain ⟨ns, e, h⟩ := h
    exact ⟨ns, e, hm _ _ _ w h⟩
  · obtain ⟨ns, e, h⟩ := h
    subst e
    cases d with
    | cons d r =>
      cases r
      cases d with
      | lst e n' r =>
        rw [r.ints] at e
        exact hs N H _ ns Q n (.of e) h
def cSum : CD := cInts fun ns P => P (.int ns.sum)
theorem ca_sum (hc : X.calm = true) : CaS X (.builtin "sum") cSum := ca_ints (fun _ _ _ w h => w _ h) (cr_sum hc) fun N H a ns Q n hs h => ⟨a, ns, rfl, hs, h _ _ (.refl H) (.int _)⟩
def cMaxL : CD := cInts fun ns P => 0 < ns.length ∧ ∀ m, m ∈ ns → (∀ y, y ∈ ns → y ≤ m) → P (.int m)
theorem ca_maxL (hc : X.calm = true) : CaS X (.builtin "max") cMaxL := ca_ints (fun _ _ _ w h => ⟨h.1, fun m a b => w _ (h.2 m a b)⟩) (cr_max hc) fun N H a ns Q n hs h => ⟨a, ns, rfl, hs, h.1, fun m q1 q2 => h.2 m q1 q2 _ _ (.refl H) (.int _)⟩
def cSorted : CD := cInts fun ns P => ns.length < 64 ∧ ∀ ns' : List Int, ns'.Perm ns → ns'.Pairwise (· ≤ ·) → P (.list (ns'.map .int))
theorem ca_sorted : CaS X (.builtin "sorted") cSorted := ca_ints (fun _ _ _ w h => ⟨h.1, fun m a b => w _ (h.2 m a b)⟩) cr_sorted fun N H a ns Q n hs h => ⟨a, ns, rfl, hs, h.1, fun ns' p q1 q2 hp => h.2 ns' q1 q2 _ _ (same_new hp) (new_lst n hp (.of_ints _))⟩
def cMax2 : CD := fun xs P => match xs with
  | [.int i, .int j] => P (.int (if j > i then j else i))
  | _ => False
theorem ca_max2 (hc : X.calm = true) : CaS X (.builtin "max") cMax2 := by
  refine ⟨fun xs P P' w h => ?_, _, call_max2 hc, fun N H xs ds Q l n d h => ?_⟩
  · unfold cMax2 at h ⊢
    split at h
    · exact w _ h
    · exact h.elim
  · unfold cMax2 at h
    split at h
    · cases d with
      | cons d r =>
        cases r with
        | cons d' r =>
          cases r
          cases d; cases d'
          exact ⟨_, _, rfl, h _ _ (.refl H) (.int _)⟩
    · exact h.elim
def cAbs : CD := fun xs P => match xs with
  | [.int i] => P (.int (if i < 0 then -i else i))
  | _ => False
theorem ca_abs : CaS X (.builtin "abs") cAbs := by
  refine ⟨fun xs P P' w h => ?_, _, call_abs, fun N H xs ds Q l n d h => ?_⟩
  · unfold cAbs at h ⊢
    split at h
    · exact w _ h
    · exact h.elim
  · unfold cAbs at h
    split at h
    · cases d with
      | cons d r =>
        cases r
        cases d
        exact ⟨_, rfl, h _ _ (.refl H) (.int _)⟩
    · exact h.elim
def cInt : CD := fun xs P => match xs with
  | [.bool b] => P (.int (if b then 1 else 0))
  | _ => False
theorem ca_int : CaS X (.type "int") cInt := by
  refine ⟨fun xs P P' w h => ?_, _, call_int1, fun N H xs ds Q l n d h => ?_⟩
  · unfold cInt at h ⊢
    split at h
    · exact w _ h
    · exact h.elim
  · unfold cInt at h
    split at h
    · cases d with
      | cons d r =>
        cases r
        cases d
        exact .inr ⟨_, rfl, h _ _ (.refl H) (.int _)⟩
    · exact h.elim
def cAll : CD := fun xs P => ∃ bs : List Bool, xs = [.list (bs.map .bool)] ∧ P (.bool (bs.all id))
theorem ca_all (hc : X.calm = true) : CaS X (.builtin "all") cAll := by
  refine ⟨fun xs P P' w h => ?_, _, cr_all hc, fun N H xs ds Q l n d h => ?_⟩
  · obtain ⟨bs, e, h⟩ := h
    exact ⟨bs, e, w _ h⟩
  · obtain ⟨bs, e, h⟩ := h
    subst e
    cases d with
    | cons d r =>
      cases r
      cases d with
      | lst e n' r =>
        rw [r.bls] at e
        exact ⟨_, bs, rfl, .of e, h _ _ (.refl H) (.bl _)⟩
def cList : CD := fun xs P => match xs with
  | [.list l] => P (.list l)
  | [.tuple l] => P (.list l)
  | _ => False
theorem ca_list : CaS X (.type "list") cList := by
  refine ⟨fun xs P P' w h => ?_, _, call_list_of, fun N H xs ds Q l n d h => ?_⟩
  · unfold cList at h ⊢
    split at h
    · exact w _ h
    · exact w _ h
    · exact h.elim
  · unfold cList at h
    split at h
    · cases d with
      | cons d r =>
        cases r
        cases d with
        | lst e n' r => exact ⟨_, _, rfl, .inl (.of e), fun p hp => h _ _ (same_new hp) (new_lst n hp r)⟩
    · cases d with
      | cons d r =>
        cases r
        cases d with
        | tup e r => exact ⟨_, _, rfl, .inr e, fun p hp => h _ _ (same_new hp) (new_lst n hp r)⟩
    · exact h.elim
def cTuple : CD := fun xs P => match xs with
  | [.list l] => P (.tuple l)
  | _ => False
theorem ca_tuple : CaS X (.type "tuple") cTuple := by
  refine ⟨fun xs P P' w h => ?_, _, call_tuple_of, fun N H xs ds Q l n d h => ?_⟩
  · unfold cTuple at h ⊢
    split at h
    · exact w _ h
    · exact h.elim
  · unfold cTuple at h
    split at h
    · cases d with
      | cons d r =>
        cases r
        cases d with
        | lst e n' r => exact ⟨_, _, rfl, .inl ⟨.of e, fun p hp => h _ _ (same_new hp) (new_tup hp r)⟩⟩
    · exact h.elim
/-- isinstance(x, T) -/
def isTy (T : String) : PyData → Bool
  | .none => T == "NoneType"
  | .bool _ => T == "bool" || T == "int"
  | .int _ => T == "int"
  | .str _ => T == "str"
  | .list _ => T == "list"
  | .tuple _ => T == "tuple"
  | .dict _ => T == "dict"
def tyN : PyData → String
  | .none => "NoneType"
  | .bool _ => "bool"
  | .int _ => "int"
  | .str _ => "str"
  | .list _ => "list"
  | .tuple _ => "tuple"
  | .dict _ => "dict"
theorem Dat.ty {K : PySem.W.Frag} {N : Addr → Prop} {H : Hp} {d : PyData} {v : V} (h : Dat K N H v d) : TyX K H v (.type (tyN d)) := by
  cases h with
  | non => exact .base .non
  | bl b => exact .base (.bl b)
  | int i => exact .base (.int i)
  | str x => exact .base (.str x)
  | lst e n r => exact .base (.lst e)
  | tup e r =>
    rcases e with (e | ⟨o, e⟩) | ⟨o, its, n, h1, h2, _⟩
    · exact .base (.tup e)
    · exact .fTuple e
    · exact .kTuple h1 h2
def dIsi (T : String) (t : TDE) : TDE := fun E Q => t E fun d E1 => Q (.bool (isTy T d)) E1
theorem de_isi {T : String} {p q : Pos} (he : DE X e t) (hT : ∀ d : PyData, kitB (tyN d) T = some (isTy T d)) (hm : X.mg "isinstance" = none) (hmT : X.mg (Str.ofString T) = none) (hv : bootBuiltins (Str.ofString T) = some (.type T)) (hgT : Gl X (Str.ofString T)) (hnT : (Str.ofString T) ≠ "__name__") (hdT : ((Str.ofString T) == ("__debug__" : Str)) = false)
    (hg : Gl X "isinstance" := by rfl)
    (h1 : starEach [e, .Name (Str.ofString T) q] X.env = (false, eval e X.env) :: starEach [.Name (Str.ofString T) q] X.env := by rfl) (h2 : (backTo pos (starEach [.Name (Str.ofString T) q] X.env)).any (·.1) = false := by rfl)
    (h3 : starEach [.Name (Str.ofString T) q] X.env = (false, eval (.Name (Str.ofString T) q) X.env) :: starEach [] X.env := by rfl) : DE X (.Call (.Name "isinstance" p) [e, .Name (Str.ofString T) q] [] pos) (dIsi T t) := by
  have hp : PE X (.Name (Str.ofString T) q) (tC (.ty T)) := pe_bltn hgT hmT hv rfl hnT hdT
  refine ⟨fun E Q Q' w q => he.mono _ _ _ (fun d E1 k => w _ _ k) q, (pe_callB call_isi hg hm (by decide +kernel) (pa_cons he.run (pa_cons hp pa_nil h3) h1) (by decide) (by decide) h1 h2).imp fun σ H Q l ⟨F, M, E, R, q⟩ => ?_⟩
  refine ⟨F, M, E, R, he.mono _ _ _ (fun d E1 k v H1 s1 R1 d1 => ?_) q⟩
  exact ⟨v, .ty T, _, .type T, _, rfl, .ty T, d1.ty, kit_ty (hT d), fun _ => k _ H1 s1 R1 (.bl _)⟩
theorem kit_int : ∀ d : PyData, kitB (tyN d) "int" = some (isTy "int" d)
  | .none => (by decide +kernel : kitB "NoneType" "int" = some false)
  | .bool _ => (by decide +kernel : kitB "bool" "int" = some true)
  | .int _ => (by decide +kernel : kitB "int" "int" = some true)
  | .str _ => (by decide +kernel : kitB "str" "int" = some false)
  | .list _ => (by decide +kernel : kitB "list" "int" = some false)
  | .tuple _ => (by decide +kernel : kitB "tuple" "int" = some false)
  | .dict _ => (by decide +kernel : kitB "dict" "int" = some false)
theorem kit_bool : ∀ d : PyData, kitB (tyN d) "bool" = some (isTy "bool" d)
  | .none => (by decide +kernel : kitB "NoneType" "bool" = some false)
  | .bool _ => (by decide +kernel : kitB "bool" "bool" = some true)
  | .int _ => (by decide +kernel : kitB "int" "bool" = some false)
  | .str _ => (by decide +kernel : kitB "str" "bool" = some false)
  | .list _ => (by decide +kernel : kitB "list" "bool" = some false)
  | .tuple _ => (by decide +kernel : kitB "tuple" "bool" = some false)
  | .dict _ => (by decide +kernel : kitB "dict" "bool" = some false)
theorem kit_str : ∀ d : PyData, kitB (tyN d) "str" = some (isTy "str" d)
  | .none => (by decide +kernel : kitB "NoneType" "str" = some false)
  | .bool _ => (by decide +kernel : kitB "bool" "str" = some false)
  | .int _ => (by decide +kernel : kitB "int" "str" = some false)
  | .str _ => (by decide +kernel : kitB "str" "str" = some true)
  | .list _ => (by decide +kernel : kitB "list" "str" = some false)
  | .tuple _ => (by decide +kernel : kitB "tuple" "str" = some false)
  | .dict _ => (by decide +kernel : kitB "dict" "str" = some false)
theorem kit_list : ∀ d : PyData, kitB (tyN d) "list" = some (isTy "list" d)
  | .none => (by decide +kernel : kitB "NoneType" "list" = some false)
  | .bool _ => (by decide +kernel : kitB "bool" "list" = some false)
  | .int _ => (by decide +kernel : kitB "int" "list" = some false)
  | .str _ => (by decide +kernel : kitB "str" "list" = some false)
  | .list _ => (by decide +kernel : kitB "list" "list" = some true)
  | .tuple _ => (by decide +kernel : kitB "tuple" "list" = some false)
  | .dict _ => (by decide +kernel : kitB "dict" "list" = some false)
theorem kit_tuple : ∀ d : PyData, kitB (tyN d) "tuple" = some (isTy "tuple" d)
  | .none => (by decide +kernel : kitB "NoneType" "tuple" = some false)
  | .bool _ => (by decide +kernel : kitB "bool" "tuple" = some false)
  | .int _ => (by decide +kernel : kitB "int" "tuple" = some false)
  | .str _ => (by decide +kernel : kitB "str" "tuple" = some false)
  | .list _ => (by decide +kernel : kitB "list" "tuple" = some false)
  | .tuple _ => (by decide +kernel : kitB "tuple" "tuple" = some true)
  | .dict _ => (by decide +kernel : kitB "dict" "tuple" = some false)
/-- list(range(n)) -/
def dRange (t : TDE) : TDE := fun E Q => t E fun d E1 => match d with
  | .int n => 0 ≤ n ∧ n ≤ 1000000 ∧ Q (.list ((List.range n.toNat).map fun (i : Nat) => .int (i : Int))) E1
  | _ => False
theorem datA_range {K : PySem.W.Frag} {N : Addr → Prop} {H : Hp} (n : Int) : DatA K N H (rgV 0 n) ((List.range n.toNat).map fun (i : Nat) => .int (i : Int)) := by
  have e : rgV 0 n = ((List.range n.toNat).map fun (i : Nat) => (i : Int)).map V.int := by
    unfold rgV
    rw [List.map_map, Int.sub_zero]
    apply List.map_congr_left
    intro i _
    show V.int (0 + (i : Int)) = V.int (i : Int)
    rw [Int.zero_add]
  have e2 : ((List.range n.toNat).map fun (i : Nat) => PyData.int (i : Int)) = ((List.range n.toNat).map fun (i : Nat) => (i : Int)).map PyData.int := by
    rw [List.map_map]
    rfl
  rw [e, e2]
  exact .of_ints _
theorem dRange_mono (h : MonoE t) : MonoE (dRange t) := fun E Q Q' w q => h _ _ _ (fun d E1 k => by
  cases d with
  | int n => exact ⟨k.1, k.2.1, w _ _ k.2.2⟩
  | _ => exact k.elim) q
theorem de_range {p p2 pos2 : Pos} (hc : X.calm = true) (he : DE X e t) (hm : X.mg "list" = none) (hm2 : X.mg "range" = none) (hg : Gl X "list" := by rfl) (hg2 : Gl X "range" := by rfl)
    (na : starEach [.Call (.Name "range" p2) [e] [] pos2] X.env = (false, eval (.Call (.Name "range" p2) [e] [] pos2) X.env) :: starEach [] X.env := by rfl) (na2 : starEach [e] X.env = (false, eval e X.env) :: starEach [] X.env := by rfl) :
    DE X (.Call (.Name "list" p) [.Call (.Name "range" p2) [e] [] pos2] [] pos) (dRange t) := by
  refine ⟨dRange_mono he.mono, (pe_listRg hc hg hm (prg_1 hg2 hm2 he.run na2) na).imp fun σ H Q l ⟨F, M, E, R, q⟩ => ?_⟩
  refine ⟨F, M, E, R, he.mono _ _ _ (fun d E1 k v H1 s1 R1 d1 => ?_) q⟩
  cases d with
  | int n =>
    cases d1
    refine ⟨n, rfl, .of_le (by omega) (by have := k.2.1; omega) (by omega) k.1, fun p hp l' => ?_⟩
    exact k.2.2 _ _ (s1.trans (.same (same_new hp))) (R1.same (same_new hp) l') (new_lst R1.nl hp (datA_range n))
  | _ => exact k.elim
/-- s.join(xs) -/
def dJoin (t u : TDE) : TDE := dOp (fun x y P => match x with
  | .str a => ∃ ys : List Str, y = .list (ys.map .str) ∧ (ys.map (·.length)).sum + ys.length * a.length ≤ 16777216 ∧ P (.str (Txt.join a ys))
  | _ => False) t u
end
end K22

set_option Elab.async false
set_option linter.all false
set_option maxRecDepth 100000
set_option maxHeartbeats 4000000
/-! M3: what is walked, targets, comprehensions by data. -/
namespace K22
open PySem PySem.Spec PyProof.Rows L2
abbrev TDI := En → (List PyData → En → Prop) → Prop
/-- the walked thing yields ds, whatever is stepped over meanwhile -/
structure ItOk (K : PySem.W.Frag) (F : Fm) (M : Addr → Prop) (H : Hp) (J : It) (ds : List PyData) : Prop where
  go : ∀ M' H' i, Step M H M' H' → i < ds.length → J.go i H'
  yld : ∀ M' H' (N' : Addr → Prop) i x H'' d, Step M H M' H' → (∀ a, N' a → F.N0 a ∨ M a ∨ H a = none) → ds[i]? = some d → J.yld i H' x H'' → Same H' H'' ∧ (LenOk H' → LenOk H'') ∧ Dat K N' H'' x d
  stop : ∀ M' H', Step M H M' H' → J.stop ds.length H'
  len : ds.length ≤ sizeLine
def embI (K : PySem.W.Frag) (t : TDI) : TI := fun σ H R => ∃ F M E, Rep K F M H σ E ∧ t E fun ds E' => ∀ J H', Step M H M H' → Rep K F M H' σ E' → ItOk K F M H' J ds → R J H'
structure DI (X : Cx) (tg iter : Expr) (t : TDI) : Prop where
  mono : MonoA t
  run : PI X tg iter (embI X.K t)
section
variable {X : Cx} {tg e a b : Expr} {t ta tb : TDE} {pos : Pos}
theorem _root_.L2.PI.imp {w u : TI} (h : PI X tg e w) (k : ∀ σ H R, LenOk H → u σ H R → w σ H fun J H' => LenOk H' → R J H') : PI X tg e u := by
  refine ⟨fun pins s σ H R I q => ?_⟩
  refine thn (h.run pins s σ H _ I (k σ H R (inv_len I) q)) fun v s1 h1 => thn h1 fun itv s2 h2 => ?_
  obtain ⟨it, fp, tn, J, H', e1, I1, T, st, f, r⟩ := h2
  exact ⟨it, fp, tn, J, H', e1, I1, T, st, f, r (inv_len I1)⟩
theorem len_tup {H : Hp} {T : Addr} {xs : List V} (l : LenOk H) : LenOk (upd H T (.tup xs)) := fun a ys e => by
  by_cases c : a = T
  · rw [c, upd_same] at e
    cases e
  · rw [upd_ne c] at e
    exact l a ys e
theorem sizeLine_big : 1000000 ≤ sizeLine := by rw [sizeLine_eq]; decide
def dIter (t : TDE) : TDI := fun E Q => t E fun d E1 => match d with
  | .list ds => Q ds E1
  | _ => False
def dIterT (t : TDE) : TDI := fun E Q => t E fun d E1 => match d with
  | .tuple ds => Q ds E1
  | _ => False
theorem dIter_mono (h : MonoE t) : MonoA (dIter t) := fun E Q Q' w q => h _ _ _ (fun d E1 k => by
  cases d with
  | list n => exact w _ _ k
  | _ => exact k.elim) q
theorem dIterT_mono (h : MonoE t) : MonoA (dIterT t) := fun E Q Q' w q => h _ _ _ (fun d E1 k => by
  cases d with
  | tuple n => exact w _ _ k
  | _ => exact k.elim) q
theorem DatA.far {K : PySem.W.Frag} {N0 M M' N' : Addr → Prop} {H H' : Hp} (s : Step M H M' H') (hm : ∀ a, M a → IsL H a) (hn : ∀ a, N' a → N0 a ∨ M a ∨ H a = none) {ds : List PyData} {vs : List V} (h : DatA K (fun a => N0 a ∨ M a) H vs ds) : DatA K N' H' vs ds :=
  h.move (fun a xs e n => ⟨s.keep _ _ (fun q => n (.inr q)) e, fun q => by
    rcases hn a q with q | q | q
    · exact n (.inl q)
    · exact n (.inr q)
    · rw [e] at q; cases q⟩) (fun a xs => s.seqT hm)
theorem list_ok {K : PySem.W.Frag} {F : Fm} {M : Addr → Prop} {H : Hp} {a : Addr} {xs : List V} {ds : List PyData} (hm : ∀ a, M a → IsL H a) (l : LenOk H) (e : H a = some (.lst xs)) (n : ¬ (F.N0 a ∨ M a)) (r : DatA K (fun a => F.N0 a ∨ M a) H xs ds) : ItOk K F M H (Itl K a) ds := by
  have keep : ∀ M' H', Step M H M' H' → H' a = some (.lst xs) := fun M' H' s => s.keep a _ (fun q => n (.inr q)) e
  refine ⟨fun M' H' i s hi => ⟨xs, xs[i]'(by rw [r.length]; exact hi), .of (keep _ _ s), List.getElem?_eq_getElem _⟩, fun M' H' N' i x H'' d s nl hd y => ?_, fun M' H' s => ⟨xs, .of (keep _ _ s), by rw [r.length]; exact Nat.le_refl _⟩, by rw [← r.length]; exact l _ _ e⟩
  obtain ⟨rfl, y⟩ := y
  exact ⟨.refl _, id, (r.far s hm nl).get (y xs (.of (keep _ _ s))) hd⟩
theorem di_list (he : DE X e t) : DI X tg e (dIter t) := by
  refine ⟨dIter_mono he.mono, (pi_list he.run).imp fun σ H R l ⟨F, M, E, Rp, q⟩ => ?_⟩
  refine ⟨F, M, E, Rp, he.mono _ _ _ (fun d E1 k v H1 s1 R1 d1 => ?_) q⟩
  cases d with
  | list ds =>
    cases d1 with
    | lst e n r => exact ⟨_, rfl, ⟨_, .of e⟩, fun _ => k _ H1 s1 R1 (list_ok R1.m R1.len e n r)⟩
  | _ => exact k.elim
theorem tup_ok {K : PySem.W.Frag} {F : Fm} {M : Addr → Prop} {H : Hp} {a : Addr} {xs : List V} {ds : List PyData} (hm : ∀ a, M a → IsL H a) (hz : ds.length ≤ sizeLine) (e : SqT K H a xs) (r : DatA K (fun a => F.N0 a ∨ M a) H xs ds) : ItOk K F M H (Itt K a) ds := by
  refine ⟨fun M' H' i s hi => ⟨xs, xs[i]'(by rw [r.length]; exact hi), s.seqT hm e, List.getElem?_eq_getElem _⟩, fun M' H' N' i x H'' d s nl hd y => ?_, fun M' H' s => ⟨xs, s.seqT hm e, by rw [r.length]; exact Nat.le_refl _⟩, hz⟩
  obtain ⟨rfl, y⟩ := y
  exact ⟨.refl _, id, (r.far s hm nl).get (y xs (s.seqT hm e)) hd⟩
/-- a tuple (few items) -/
theorem di_tup (he : DE X e t) : DI X tg e (fun E Q => dIterT t E fun ds E1 => ds.length ≤ 1000000 ∧ Q ds E1) := by
  refine ⟨fun E Q Q' w q => dIterT_mono he.mono _ _ _ (fun ds E1 k => ⟨k.1, w _ _ k.2⟩) q, (pi_tup he.run).imp fun σ H R l ⟨F, M, E, Rp, q⟩ => ?_⟩
  refine ⟨F, M, E, Rp, he.mono _ _ _ (fun d E1 k v H1 s1 R1 d1 => ?_) q⟩
  cases d with
  | tuple ds =>
    cases d1 with
    | tup e r => exact ⟨_, rfl, ⟨_, e⟩, fun _ => k.2 _ H1 s1 R1 (tup_ok R1.m (Nat.le_trans k.1 sizeLine_big) e r)⟩
  | _ => exact k.elim
def dRng (t : TDE) : TDI := fun E Q => t E fun d E1 => match d with
  | .int n => -1000000 ≤ n ∧ n ≤ 1000000 ∧ Q ((List.range n.toNat).map fun (i : Nat) => .int (i : Int)) E1
  | _ => False
theorem dRng_mono (h : MonoE t) : MonoA (dRng t) := fun E Q Q' w q => h _ _ _ (fun d E1 k => by
  cases d with
  | int n => exact ⟨k.1, k.2.1, w _ _ k.2.2⟩
  | _ => exact k.elim) q
theorem di_range {p : Pos} (he : DE X e t) (hm : X.mg "range" = none) (hg : Gl X "range" := by rfl) (hs : starEach [e] X.env = [(false, eval e X.env)] := by rfl) (na : starEach [e] X.env = (false, eval e X.env) :: starEach [] X.env := by rfl) : DI X tg (.Call (.Name "range" p) [e] [] pos) (dRng t) := by
  refine ⟨dRng_mono he.mono, (pi_range1 hg hm (pa_cons he.run pa_nil na) hs).imp fun σ H R l ⟨F, M, E, Rp, q⟩ => ?_⟩
  refine ⟨F, M, E, Rp, he.mono _ _ _ (fun d E1 k v H1 s1 R1 d1 => ?_) q⟩
  cases d with
  | int n =>
    cases d1
    refine ⟨n, rfl, by have := k.1; omega, by have := k.2.1; omega, fun l => k.2.2 _ H1 s1 R1 ⟨fun M' H' i s hi => by simpa [Itr] using hi, fun M' H' N' i x H'' d s nl hd y => ?_, fun M' H' s => by simp [Itr]; omega, ?_⟩⟩
    · obtain ⟨rfl, rfl⟩ := y
      have hd' := hd
      rw [List.getElem?_map] at hd'
      cases c : (List.range n.toNat)[i]? with
      | none => rw [c] at hd'; cases hd'
      | some j =>
        rw [c] at hd'
        have ej : j = i := by
          obtain ⟨h1, h2⟩ := List.getElem?_eq_some_iff.mp c
          simpa using h2.symm
        subst ej
        cases hd'
        refine ⟨.refl _, id, ?_⟩
        rw [show (0 : Int) + (j : Int) = (j : Int) by omega]
        exact .int _
    · rw [List.length_map, List.length_range]
      exact Nat.le_trans (by have := k.2.1; omega) sizeLine_big
  | _ => exact k.elim
def signsD (s : Str) : List PyData := s.cps.toList.map fun c => .str ⟨#[c]⟩
def dSigns (t : TDE) : TDI := fun E Q => t E fun d E1 => match d with
  | .str s => s.cps.size ≤ 1000000 ∧ Q (signsD s) E1
  | _ => False
theorem di_str (he : DE X e t) : DI X tg e (dSigns t) := by
  refine ⟨fun E Q Q' w q => he.mono _ _ _ (fun d E1 k => ?_) q, (pi_str he.run).imp fun σ H R l ⟨F, M, E, Rp, q⟩ => ?_⟩
  · cases d with
    | str s => exact ⟨k.1, w _ _ k.2⟩
    | _ => exact k.elim
  · refine ⟨F, M, E, Rp, he.mono _ _ _ (fun d E1 k v H1 s1 R1 d1 => ?_) q⟩
    cases d with
    | str s =>
      cases d1
      refine ⟨s, rfl, fun l => k.2 _ H1 s1 R1 ⟨fun M' H' i st hi => by simpa [Its, signsD] using hi, fun M' H' N' i x H'' d st nl hd y => ?_, fun M' H' st => by simp [Its, signsD], ?_⟩⟩
      · obtain ⟨rfl, c, hc, rfl⟩ := y
        have hd' : (s.cps.toList.map fun c => PyData.str ⟨#[c]⟩)[i]? = some d := hd
        rw [List.getElem?_map, Array.getElem?_toList, hc] at hd'
        cases hd'
        exact ⟨.refl _, id, .str _⟩
      · unfold signsD
        rw [List.length_map, Array.length_toList]
        exact Nat.le_trans k.1 sizeLine_big
    | _ => exact k.elim
/-- (0, x), (1, y), .. -/
def numD (ds : List PyData) : List PyData := ds.zipIdx.map fun p => .tuple [.int (p.2 : Int), p.1]
theorem numD_get {ds : List PyData} {i : Nat} {d : PyData} (h : (numD ds)[i]? = some d) : ∃ x, ds[i]? = some x ∧ d = .tuple [.int (i : Int), x] := by
  unfold numD at h
  rw [List.getElem?_map, List.getElem?_zipIdx] at h
  cases c : ds[i]? with
  | none => rw [c] at h; cases h
  | some x =>
    rw [c] at h
    refine ⟨x, rfl, ?_⟩
    have h2 := (Option.some.inj h).symm
    simpa using h2
theorem di_enum {p tpos : Pos} {elts : List Expr} {kk : Nat} (he : DE X e t) (hm : X.mg "enumerate" = none) (hg : Gl X "enumerate" := by rfl) (hs : starEach [e] X.env = [(false, eval e X.env)] := by rfl) (na : starEach [e] X.env = (false, eval e X.env) :: starEach [] X.env := by rfl) :
    DI X (.Tuple elts kk tpos) (.Call (.Name "enumerate" p) [e] [] pos) (fun E Q => dIter t E fun ds E1 => Q (numD ds) E1) := by
  refine ⟨fun E Q Q' w q => dIter_mono he.mono _ _ _ (fun ds E1 k => w _ _ k) q, (pi_enum hg hm (pa_cons he.run pa_nil na) hs).imp fun σ H R l ⟨F, M, E, Rp, q⟩ => ?_⟩
  refine ⟨F, M, E, Rp, he.mono _ _ _ (fun d E1 k v H1 s1 R1 d1 => ?_) q⟩
  cases d with
  | list ds =>
    cases d1 with
    | lst e n r =>
      have keep : ∀ M' H', Step M H1 M' H' → H' _ = some (.lst _) := fun M' H' s => s.keep _ _ (fun q => n (.inr q)) e
      refine ⟨_, _, rfl, .of e, fun l => k _ H1 s1 R1 ⟨fun M' H' i st hi => ?_, fun M' H' N' i x H'' d st nl hd y => ?_, fun M' H' st => ⟨_, .of (keep _ _ st), by rw [r.length]; simp [numD]⟩, ?_⟩⟩
      · have hi' : i < ds.length := by simpa [numD] using hi
        exact ⟨_, _, .of (keep _ _ st), List.getElem?_eq_getElem (by rw [r.length]; exact hi')⟩
      · obtain ⟨T, x, rfl, hT, rfl, y⟩ := y
        obtain ⟨z, hz, rfl⟩ := numD_get hd
        exact ⟨same_new hT, len_tup, new_tup hT (.cons (.int _) (.cons ((r.far st R1.m nl).get (y _ (.of (keep _ _ st))) hz) .nil))⟩
      · have : (numD ds).length = ds.length := by simp [numD]
        rw [this, ← r.length]
        exact R1.len _ _ e
  | _ => exact k.elim
/-- pairs of two lists -/
def pairD (xs ys : List PyData) : List PyData := (xs.zip ys).map fun p => .tuple [p.1, p.2]
theorem pairD_get {xs ys : List PyData} {i : Nat} {d : PyData} (h : (pairD xs ys)[i]? = some d) : ∃ x y, xs[i]? = some x ∧ ys[i]? = some y ∧ d = .tuple [x, y] := by
  unfold pairD at h
  rw [List.getElem?_map] at h
  cases c : (xs.zip ys)[i]? with
  | none => rw [c] at h; cases h
  | some p =>
    rw [c] at h
    obtain ⟨h1, h2⟩ := List.getElem?_zip_eq_some.mp c
    exact ⟨p.1, p.2, h1, h2, (Option.some.inj h).symm⟩
def dZip (ta tb : TDE) : TDI := fun E Q => ta E fun x E1 => tb E1 fun y E2 => match x, y with
  | .list xs, .list ys => Q (pairD xs ys) E2
  | _, _ => False
theorem dZip_mono (h : MonoE ta) (h2 : MonoE tb) : MonoA (dZip ta tb) := fun E Q Q' w q => h _ _ _ (fun x E1 k => h2 _ _ _ (fun y E2 k2 => by
  cases x with
  | list xs =>
    cases y with
    | list ys => exact w _ _ k2
    | _ => exact k2.elim
  | _ => exact k2.elim) k) q
theorem zip_ok {K : PySem.W.Frag} {F : Fm} {M : Addr → Prop} {H : Hp} {a b : Addr} {vs ws : List V} {xs ys : List PyData} (hm : ∀ a, M a → IsL H a) (l : LenOk H) (e : H a = some (.lst vs)) (n : ¬ (F.N0 a ∨ M a)) (r : DatA K (fun a => F.N0 a ∨ M a) H vs xs)
    (e2 : H b = some (.lst ws)) (n2 : ¬ (F.N0 b ∨ M b)) (r2 : DatA K (fun a => F.N0 a ∨ M a) H ws ys) : ItOk K F M H (Itz K a b) (pairD xs ys) := by
  have keep : ∀ M' H', Step M H M' H' → H' a = some (.lst vs) := fun M' H' s => s.keep a _ (fun q => n (.inr q)) e
  have keep2 : ∀ M' H', Step M H M' H' → H' b = some (.lst ws) := fun M' H' s => s.keep b _ (fun q => n2 (.inr q)) e2
  have hl : (pairD xs ys).length = min xs.length ys.length := by simp [pairD]
  refine ⟨fun M' H' i st hi => ?_, fun M' H' N' i x H'' d st nl hd y => ?_, fun M' H' st => ⟨vs, ws, .of (keep _ _ st), .of (keep2 _ _ st), ?_⟩, ?_⟩
  · rw [hl] at hi
    exact ⟨vs, ws, _, _, .of (keep _ _ st), .of (keep2 _ _ st), List.getElem?_eq_getElem (by rw [r.length]; omega), List.getElem?_eq_getElem (by rw [r2.length]; omega)⟩
  · obtain ⟨T, x, y', rfl, hT, rfl, y1, y2⟩ := y
    obtain ⟨z, z', h1, h2, rfl⟩ := pairD_get hd
    exact ⟨same_new hT, len_tup, new_tup hT (.cons ((r.far st hm nl).get (y1 _ (.of (keep _ _ st))) h1) (.cons ((r2.far st hm nl).get (y2 _ (.of (keep2 _ _ st))) h2) .nil))⟩
  · rw [hl, r.length, r2.length]
    omega
  · rw [hl]
    have := l _ _ e
    rw [r.length] at this
    omega
theorem di_zip {p tpos : Pos} {elts : List Expr} {kk : Nat} (ha : DE X a ta) (hb : DE X b tb) (hm : X.mg "zip" = none) (hg : Gl X "zip" := by rfl) (hs : starEach [a, b] X.env = (false, eval a X.env) :: starEach [b] X.env := by rfl) (hs2 : starEach [b] X.env = (false, eval b X.env) :: starEach [] X.env := by rfl)
    (hpl : (backTo pos (starEach [b] X.env)).any (·.1) = false := by rfl) : DI X (.Tuple elts kk tpos) (.Call (.Name "zip" p) [a, b] [] pos) (dZip ta tb) := by
  refine ⟨dZip_mono ha.mono hb.mono, (pi_zip hg hm (pa_cons ha.run (pa_cons hb.run pa_nil hs2) hs) hs hpl).imp fun σ H R l ⟨F, M, E, Rp, q⟩ => ?_⟩
  refine two_run ha hb Rp q fun dx dy E2 x y H2 s2 R2 d1 d2 k => ?_
  cases dx with
  | list xs =>
    cases dy with
    | list ys =>
      cases d1 with
      | lst e n r =>
        cases d2 with
        | lst e2 n2 r2 => exact ⟨_, _, _, _, rfl, .of e, .of e2, fun l => k _ H2 s2 R2 (zip_ok R2.m R2.len e n r e2 n2 r2)⟩
    | _ => exact k.elim
  | _ => exact k.elim

/-! ### targets -/
abbrev TDG := PyData → En → (En → Prop) → Prop
abbrev TDGs := List PyData → En → (En → Prop) → Prop
def wipeL (l : List Sl) : List Nat → List Sl
  | [] => l
  | v :: vs => (wipeL l vs).set v .no
def wipeE (vs : List Nat) (E : En) : En := ⟨wipeL E.sl vs, E.fu⟩
theorem wipeL_length (l : List Sl) : ∀ vs : List Nat, (wipeL l vs).length = l.length
  | [] => rfl
  | v :: vs => by unfold wipeL; rw [List.length_set, wipeL_length l vs]
theorem wipeL_out {l : List Sl} {i : Nat} : ∀ {vs : List Nat}, i ∉ vs → (wipeL l vs)[i]? = l[i]?
  | [], _ => rfl
  | v :: vs, h => by
    have h1 : v ≠ i := fun e => h (by rw [e]; exact List.mem_cons_self)
    have h2 : i ∉ vs := fun m => h (List.mem_cons_of_mem _ m)
    unfold wipeL
    rw [List.getElem?_set_ne h1]
    exact wipeL_out h2
theorem wipeL_in {l : List Sl} {i : Nat} : ∀ {vs : List Nat}, i ∈ vs → ∀ s, (wipeL l vs)[i]? = some s → s = .no
  | [], h, _, _ => by cases h
  | v :: vs, h, s, e => by
    unfold wipeL at e
    by_cases c : v = i
    · subst c
      by_cases hv : v < (wipeL l vs).length
      · rw [List.getElem?_set_self hv] at e
        exact (Option.some.inj e).symm
      · rw [List.getElem?_eq_none (by simpa using hv)] at e; cases e
    · rw [List.getElem?_set_ne c] at e
      rcases List.mem_cons.mp h with q | q
      · exact absurd q.symm c
      · exact wipeL_in q s e
def Ek (vs : List Nat) (E E' : En) : Prop := E'.fu = E.fu ∧ E'.sl.length = E.sl.length ∧ ∀ i, i ∉ vs → E'.sl[i]? = E.sl[i]?
def embG (K : PySem.W.Frag) (vs : List Nat) (g : TDG) : TG := fun v σ H Q => ∃ F M E d, Rep K F M H σ E ∧ Dat K (fun a => F.N0 a ∨ M a) H v d ∧ g d E fun E' => ∀ σ', (∀ i, i ∉ vs → σ'[i]? = σ[i]?) → Rep K F M H σ' E' → Q σ' H
/-- the targets' slots lie among vs -/
structure DG (X : Cx) (tg : Expr) (vs : List Nat) (g : TDG) : Prop where
  mono : ∀ d E (Q Q' : En → Prop), (∀ E', Q E' → Q' E') → g d E Q → g d E Q'
  kept : ∀ d E Q, g d E Q → g d E fun E' => Q E' ∧ Ek vs E E'
  run : PG X tg (embG X.K vs g)
structure DGs (X : Cx) (ts : List Expr) (vs : List Nat) (g : TDGs) : Prop where
  mono : ∀ d E (Q Q' : En → Prop), (∀ E', Q E' → Q' E') → g d E Q → g d E Q'
  kept : ∀ d E Q, g d E Q → g d E fun E' => Q E' ∧ Ek vs E E'
  run : PGs X ts fun us σ H Q => ∃ F M E ds, Rep X.K F M H σ E ∧ DatA X.K (fun a => F.N0 a ∨ M a) H us ds ∧ g ds E fun E' => ∀ σ', (∀ i, i ∉ vs → σ'[i]? = σ[i]?) → Rep X.K F M H σ' E' → Q σ' H
theorem PG_imp {g u : TG} (h : PG X tg g) (w : ∀ v σ H Q, u v σ H Q → g v σ H Q) : PG X tg u := ⟨fun pins s σ H v x Q I r q => h.run pins s σ H v x Q I r (w _ _ _ _ q)⟩
theorem PGs_imp {ts : List Expr} {g u : TGs} (h : PGs X ts g) (w : ∀ v σ H Q, u v σ H Q → g v σ H Q) : PGs X ts u := ⟨fun pins s σ H v x Q I r q => h.run pins s σ H v x Q I r (w _ _ _ _ q)⟩
def dgName (i : Nat) : TDG := fun d E Q => Q (E.set i (.dat d))
theorem dg_name {x : Str} (i : Nat) (hN : X.N.Nodup) (hi : X.N[i]? = some x := by rfl) (hx : Loc X.env.scope x := by first | exact Or.inl rfl | exact Or.inr rfl) (hf : X.fn x = true ∨ X.env.scope.names.lookup x = some .local := by first | exact .inl rfl | exact .inr rfl | assumption) : DG X (.Name x pos) [i] (dgName i) := by
  refine ⟨fun d E Q Q' w h => w _ h, fun d E Q h => ⟨h, rfl, List.length_set, fun j hj => ?_⟩, PG_imp (pg_name hN hi hx hf) fun v σ H Q ⟨F, M, E, d, R, dd, h⟩ => ?_⟩
  · exact List.getElem?_set_ne (fun e => hj (by rw [e]; exact List.mem_singleton_self _))
  · exact h _ (fun j hj => List.getElem?_set_ne (fun e => hj (by rw [e]; exact List.mem_singleton_self _))) (R.putD i dd)
def dgNil : TDGs := fun ds E Q => ds = [] ∧ Q E
def dgCons (g : TDG) (u : TDGs) : TDGs := fun ds E Q => match ds with
  | d :: r => g d E fun E' => u r E' Q
  | [] => False
theorem dgs_nil : DGs X [] [] dgNil := by
  refine ⟨fun d E Q Q' w h => ⟨h.1, w _ h.2⟩, fun d E Q h => ⟨h.1, h.2, rfl, rfl, fun _ _ => rfl⟩, PGs_imp pgs_nil fun us σ H Q ⟨F, M, E, ds, R, dd, h1, h2⟩ => ?_⟩
  subst h1
  cases dd
  exact ⟨rfl, h2 σ (fun _ _ => rfl) R⟩
theorem dgs_cons {es : List Expr} {vs ws : List Nat} {g : TDG} {u : TDGs} (h1 : DG X e vs g) (h2 : DGs X es ws u) (hs : (assignEach (e :: es) X.env).map (·.2) = assign e X.env :: (assignEach es X.env).map (·.2) := by rfl) : DGs X (e :: es) (vs ++ ws) (dgCons g u) := by
  refine ⟨fun d E Q Q' w h => ?_, fun d E Q h => ?_, PGs_imp (pgs_cons h1.run h2.run hs) fun us σ H Q ⟨F, M, E, ds, R, dd, h⟩ => ?_⟩
  · unfold dgCons at h ⊢
    cases d with
    | nil => exact h.elim
    | cons d r => exact h1.mono _ _ _ _ (fun E' k => h2.mono _ _ _ _ w k) h
  · unfold dgCons at h ⊢
    cases d with
    | nil => exact h.elim
    | cons d r =>
      refine h1.mono _ _ _ _ (fun E' k => ?_) (h1.kept _ _ _ h)
      refine h2.mono _ _ _ _ (fun E'' k2 => ⟨k2.1, k2.2.1.trans k.2.1, k2.2.2.1.trans k.2.2.1, fun i hi => ?_⟩) (h2.kept _ _ _ k.1)
      have a1 : i ∉ vs := fun q => hi (List.mem_append_left _ q)
      have a2 : i ∉ ws := fun q => hi (List.mem_append_right _ q)
      exact (k2.2.2.2 i a2).trans (k.2.2.2 i a1)
  · unfold dgCons at h
    cases ds with
    | nil => exact h.elim
    | cons d r =>
      cases dd with
      | cons d1 dr =>
        refine ⟨_, _, rfl, F, M, E, d, R, d1, h1.mono _ _ _ _ (fun E' k σ' e1 R' => ?_) h⟩
        refine ⟨F, M, E', r, R', dr, h2.mono _ _ _ _ (fun E'' k2 σ'' e2 R'' => k2 σ'' (fun i hi => ?_) R'') k⟩
        have a1 : i ∉ vs := fun q => hi (List.mem_append_left _ q)
        have a2 : i ∉ ws := fun q => hi (List.mem_append_right _ q)
        exact (e2 i a2).trans (e1 i a1)
def dgTup (n : Nat) (u : TDGs) : TDG := fun d E Q => match d with
  | .tuple ds => ds.length = n ∧ u ds E Q
  | _ => False
def dgLst (n : Nat) (u : TDGs) : TDG := fun d E Q => match d with
  | .list ds => ds.length = n ∧ u ds E Q
  | _ => False
theorem dg_tup {es : List Expr} {k n : Nat} {vs : List Nat} {u : TDGs} (hc : X.calm = true) (h : DGs X es vs u) (hn : (assignEach es X.env).length = n := by rfl) (hst : (assignEach es X.env).findIdx? (·.1) = none := by rfl) : DG X (.Tuple es k pos) vs (dgTup n u) := by
  refine ⟨fun d E Q Q' w q => ?_, fun d E Q q => ?_, PG_imp (pg_tup hc h.run hn hst) fun v σ H Q ⟨F, M, E, d, R, dd, q⟩ => ?_⟩
  · cases d with
    | tuple ds => exact ⟨q.1, h.mono _ _ _ _ w q.2⟩
    | _ => exact q.elim
  · cases d with
    | tuple ds => exact ⟨q.1, h.kept _ _ _ q.2⟩
    | _ => exact q.elim
  · cases d with
    | tuple ds =>
      cases dd with
      | tup e r => exact ⟨_, _, rfl, e, by rw [r.length]; exact q.1, F, M, E, ds, R, r, q.2⟩
    | _ => exact q.elim
theorem dg_lst {es : List Expr} {k n : Nat} {vs : List Nat} {u : TDGs} (hc : X.calm = true) (h : DGs X es vs u) (hn : (assignEach es X.env).length = n := by rfl) (hst : (assignEach es X.env).findIdx? (·.1) = none := by rfl) : DG X (.Tuple es k pos) vs (dgLst n u) := by
  refine ⟨fun d E Q Q' w q => ?_, fun d E Q q => ?_, PG_imp (pg_unl hc h.run hn hst) fun v σ H Q ⟨F, M, E, d, R, dd, q⟩ => ?_⟩
  · cases d with
    | list ds => exact ⟨q.1, h.mono _ _ _ _ w q.2⟩
    | _ => exact q.elim
  · cases d with
    | list ds => exact ⟨q.1, h.kept _ _ _ q.2⟩
    | _ => exact q.elim
  · cases d with
    | list ds =>
      cases dd with
      | lst e n r => exact ⟨_, _, rfl, .of e, by rw [r.length]; exact q.1, F, M, E, ds, R, r, q.2⟩
    | _ => exact q.elim
end

/-! ### comprehensions -/
section
variable {K : PySem.W.Frag} {F : Fm} {M : Addr → Prop} {H H' : Hp} {σ : L2.St} {E : En}
def Fm.plus (F : Fm) (D : Addr) : Fm := ⟨fun a => F.N0 a ∨ a = D, F.pz, F.G⟩
theorem SlOk.fm {F' : Fm} {As : List Addr} {v : Option V} {s : Sl} (h : SlOk K F M H As v s) (ep : F'.pz = F.pz) (eg : F'.G = F.G) (w : ∀ (a : Addr) (xs : List V), H a = some (.lst xs) → ¬ F.N0 a → ¬ F'.N0 a) : SlOk K F' M H As v s := by
  have w2 : ∀ (a : Addr) (xs : List V), H a = some (.lst xs) → ¬ (F.N0 a ∨ M a) → ¬ (F'.N0 a ∨ M a) := fun a xs e n q => q.elim (w a xs e fun z => n (.inl z)) fun z => n (.inr z)
  cases s with
  | no => trivial
  | dat d => obtain ⟨x, h1, h2⟩ := h; exact ⟨x, h1, h2.move (fun a xs e n => ⟨e, w2 a xs e n⟩) (fun _ _ h => h)⟩
  | gen d => obtain ⟨x, h1, h2⟩ := h; exact ⟨x, h1, h2.move (fun a xs e n => ⟨e, fun q => q.elim (w a xs e fun z => n (.inl z)) fun z => n (.inr (by rw [eg] at z; exact z))⟩) (fun _ _ h => h)⟩
  | own l => obtain ⟨a, xs, h1, h2, h3, h4⟩ := h; exact ⟨a, xs, h1, h2, h3, h4.move (fun a xs e n => ⟨e, w2 a xs e n⟩) (fun _ _ h => h)⟩
  | own2 ll => obtain ⟨a, bs, h1, h2, h3, h4⟩ := h; exact ⟨a, bs, h1, h2, h3, h4.move (fun a xs e n => ⟨e, w2 a xs e n⟩) (fun _ _ h => h) (fun _ _ _ q => q)⟩
  | frs d => exact h
  | pz => obtain ⟨p, c, h1, h2⟩ := h; exact ⟨p, c, ep.trans h1, h2⟩
/-- a new list is laid apart, no one's data -/
theorem Rep.plus {D : Addr} {xs : List V} (R : Rep K F M H σ E) (hD : H D = none) (hz : xs.length ≤ sizeLine) : Rep K (F.plus D) M (upd H D (.lst xs)) σ E := by
  obtain ⟨W, R⟩ := R
  have R1 : RepW K F M W (upd H D (.lst xs)) σ E := R.same (same_new hD) fun a ys e => by
    by_cases c : a = D
    · subst c
      rw [upd_same] at e
      cases e
      exact hz
    · rw [upd_ne c] at e
      exact R.len a ys e
  refine ⟨W, R1.ln, fun i s h => ?_, R1.apart, R1.nd, fun i a h => ⟨(R1.mine i a h).1, fun q => ?_⟩, R1.pok, fun a q => ?_, R1.m, fun a q => ⟨(R1.m0 a q).1, .inl (R1.m0 a q).2⟩, R1.len, R1.g⟩
  · obtain ⟨v, h1, h2⟩ := R.sl i s h
    refine ⟨v, h1, (h2.fm (F' := F.plus D) rfl rfl fun a xs e n q => ?_).same (same_new hD)⟩
    rcases q with q | q
    · exact n q
    · rw [q, hD] at e; cases e
  · rcases q with q | q
    · exact (R1.mine i a h).2 q
    · obtain ⟨ys, e⟩ := R.m a (R.mine i a h).1
      rw [q, hD] at e; cases e
  · rcases q with q | q
    · exact R1.n0 a q
    · exact ⟨xs, by rw [q, upd_same]⟩
theorem Rep.unplus {D : Addr} (R : Rep K (F.plus D) M H σ E) (hm : ∀ a, F.M0 a → F.N0 a) : Rep K F M H σ E := by
  obtain ⟨W, R⟩ := R
  refine ⟨W, R.ln, fun i s h => ?_, R.apart, R.nd, fun i a h => ⟨(R.mine i a h).1, fun q => (R.mine i a h).2 (.inl q)⟩, R.pok, fun a q => R.n0 a (.inl q), R.m, fun a q => ⟨(R.m0 a q).1, hm a q⟩, R.len, R.g⟩
  obtain ⟨v, h1, h2⟩ := R.sl i s h
  exact ⟨v, h1, h2.fm (F' := F) rfl rfl fun a xs e n q => n (.inl q)⟩
theorem Rep.m0n (R : Rep K F M H σ E) : ∀ a, F.M0 a → M a ∧ F.N0 a := by
  obtain ⟨W, R⟩ := R
  exact R.m0
/-- the list apart is changed -/
theorem Rep.updN {D : Addr} {xs : List V} (R : Rep K F M H σ E) (hD : F.N0 D) (hm : ¬ M D) (hz : xs.length ≤ sizeLine) : Rep K F M (upd H D (.lst xs)) σ E := by
  obtain ⟨W, R⟩ := R
  have notM0 : ¬ F.M0 D := fun q => hm (R.m0 D q).1
  obtain ⟨ys, eD⟩ := R.n0 D hD
  have isl : ∀ a, IsL H a → IsL (upd H D (.lst xs)) a := fun a ⟨zs, e⟩ => by
    by_cases c : a = D
    · exact ⟨xs, by rw [c, upd_same]⟩
    · exact ⟨zs, by rw [upd_ne c]; exact e⟩
  have kl : ∀ (N : Addr → Prop), N D → ∀ (a : Addr) (zs : List V), H a = some (.lst zs) → ¬ N a → upd H D (.lst xs) a = some (.lst zs) ∧ ¬ N a := fun N hN a zs e n => ⟨by rw [upd_ne (fun c => n (by rw [c]; exact hN))]; exact e, n⟩
  have kt : ∀ a zs, SqT K H a zs → SqT K (upd H D (.lst xs)) a zs := fun a zs h => by
    rcases h with (h | ⟨o, h⟩) | h
    · exact .inl (.inl (by rw [upd_ne (ne_of h eD (by intro z; cases z))]; exact h))
    · exact .inl (.inr ⟨o, by rw [upd_ne (ne_of h eD (by intro z; cases z))]; exact h⟩)
    · exact .inr h
  have nW : ∀ i a, a ∈ W i → a ≠ D := fun i a h e => (R.mine i a h).2 (by rw [e]; exact hD)
  refine ⟨W, R.ln, fun i s h => ?_, R.apart, R.nd, R.mine, fun p c e => ?_, fun a q => isl a (R.n0 a q), fun a q => isl a (R.m a q), R.m0, fun a zs e => ?_, fun a q => isl a (R.g a q)⟩
  · obtain ⟨v, h1, h2⟩ := R.sl i s h
    refine ⟨v, h1, ?_⟩
    cases s with
    | no => trivial
    | dat d => obtain ⟨x, h3, h4⟩ := h2; exact ⟨x, h3, h4.move (kl _ (.inl hD)) kt⟩
    | gen d => obtain ⟨x, h3, h4⟩ := h2; exact ⟨x, h3, h4.move (kl _ (.inl hD)) kt⟩
    | own l =>
      obtain ⟨a, ws, h3, h4, h5, h6⟩ := h2
      exact ⟨a, ws, h3, h4, by rw [upd_ne (nW i a (by rw [h4]; exact List.mem_singleton_self a))]; exact h5, h6.move (kl _ (.inl hD)) kt⟩
    | own2 ll =>
      obtain ⟨a, bs, h3, h4, h5, h6⟩ := h2
      exact ⟨a, bs, h3, h4, by rw [upd_ne (nW i a (by rw [h4]; exact List.mem_cons_self ..))]; exact h5, h6.move (kl _ (.inl hD)) kt fun b hb ws q => by rw [upd_ne (nW i b (by rw [h4]; exact List.mem_cons_of_mem _ hb))]; exact q⟩
    | frs d => obtain ⟨x, h3, h4⟩ := h2; exact ⟨x, h3, h4.move (kl _ (fun q => nW i D q rfl)) kt⟩
    | pz => exact h2
  · obtain ⟨h0, ns, w, h1, h2, h3⟩ := R.pok p c e
    exact ⟨h0, ns, w, by rw [upd_ne (fun q => notM0 ⟨p, c, e, .inl q.symm⟩)]; exact h1, by rw [upd_ne (fun q => notM0 ⟨p, c, e, .inr q.symm⟩)]; exact h2, h3⟩
  · by_cases c : a = D
    · rw [c, upd_same] at e
      cases e
      exact hz
    · rw [upd_ne c] at e
      exact R.len a zs e
theorem Rep.wipe (R : Rep K F M H σ E) (vs : List Nat) : Rep K F M H (L2.wipe σ vs) (wipeE vs E) := by
  obtain ⟨W, R⟩ := R
  refine ⟨W, by rw [wipe_length, R.ln]; exact (wipeL_length _ _).symm, fun i s h => ?_, R.apart, R.nd, R.mine, R.pok, R.n0, R.m, R.m0, R.len, R.g⟩
  have h' : (wipeL E.sl vs)[i]? = some s := h
  by_cases c : i ∈ vs
  · have e := wipeL_in c s h'
    subst e
    have hi : i < (L2.wipe σ vs).length := by
      rw [wipe_length, R.ln, ← wipeL_length E.sl vs]
      exact (List.getElem?_eq_some_iff.mp h').1
    exact ⟨_, List.getElem?_eq_getElem hi, trivial⟩
  · rw [wipeL_out c] at h'
    obtain ⟨v, h1, h2⟩ := R.sl i s h'
    exact ⟨v, by rw [wipe_out c]; exact h1, h2⟩
def Sl.plain : Sl → Bool
  | .no => true
  | .dat _ => true
  | .gen _ => true
  | .pz => true
  | _ => false
/-- behind a block the names around are what they were -/
theorem Rep.recover {σ2 : L2.St} {E2 : En} {M2 : Addr → Prop} {H2 : Hp} {vs : List Nat} (R : Rep K F M H σ E) (R2 : Rep K F M2 H2 σ2 E2) (st : Step M H M2 H2) (hσ : ∀ i, i ∉ vs → σ2[i]? = σ[i]?) (hE : ∀ i, i ∉ vs → E2.sl[i]? = E.sl[i]?) (hl : E2.sl.length = E.sl.length)
    (hp : ∀ i ∈ vs, ∀ s, E.sl[i]? = some s → s.plain = true) : Rep K F M2 H2 σ ⟨E.sl, E2.fu⟩ := by
  obtain ⟨W, R⟩ := R
  obtain ⟨W2, R2⟩ := R2
  refine ⟨fun i => if i ∈ vs then [] else W2 i, R.ln, fun i s h => ?_, fun i j a hi hj => ?_, fun i => ?_, fun i a h => ?_, R2.pok, R2.n0, R2.m, R2.m0, R2.len, R2.g⟩
  · by_cases c : i ∈ vs
    · obtain ⟨v, h1, h2⟩ := R.sl i s h
      refine ⟨v, h1, ?_⟩
      rw [if_pos c]
      have p := hp i c s h
      cases s with
      | no => trivial
      | dat d => obtain ⟨x, h3, h4⟩ := h2; exact ⟨x, h3, h4.step st R.m⟩
      | gen d =>
        have h5 : SlOk K F M H [] v (.gen d) := h2
        exact h5.step st R.m (fun _ q => nomatch q) (fun _ q => nomatch q)
      | pz => exact h2
      | _ => cases p
    · have h' : E2.sl[i]? = some s := (hE i c).trans h
      obtain ⟨v, h1, h2⟩ := R2.sl i s h'
      refine ⟨v, (hσ i c).symm.trans h1, ?_⟩
      rw [if_neg c]
      exact h2
  · by_cases c : i ∈ vs
    · simp only [if_pos c] at hi; cases hi
    · by_cases d : j ∈ vs
      · simp only [if_pos d] at hj; cases hj
      · simp only [if_neg c] at hi
        simp only [if_neg d] at hj
        exact R2.apart i j a hi hj
  · by_cases c : i ∈ vs
    · simp only [if_pos c]; exact List.nodup_nil
    · simp only [if_neg c]; exact R2.nd i
  · by_cases c : i ∈ vs
    · simp only [if_pos c] at h; cases h
    · simp only [if_neg c] at h; exact R2.mine i a h
end
def lcGo (g : TDG) (tt : TDT) (te : TDE) (vs : List Nat) (sl : List Sl) (Q : List PyData → En → Prop) : List PyData → List PyData → Nat → Prop
  | [], acc, fu => Q acc ⟨sl, fu⟩
  | d :: ds, acc, fu => g d (wipeE vs ⟨sl, fu⟩) fun E2 => tt E2 fun b E3 => if b = true then te E3 fun y E4 => E4.sl = E2.sl ∧ lcGo g tt te vs sl Q ds (acc ++ [y]) E4.fu else E3.sl = E2.sl ∧ lcGo g tt te vs sl Q ds acc E3.fu
def dLc (ti : TDI) (g : TDG) (tt : TDT) (te : TDE) (vs : List Nat) : TDE := fun E Q => ti E fun ds E1 => (vs.all fun i => ((E1.sl[i]?).map Sl.plain).getD true) = true ∧ lcGo g tt te vs E1.sl (fun acc E' => Q (.list acc) E') ds [] E1.fu
structure DTs (X : Cx) (ifs : List Expr) (t : TDT) : Prop where
  mono : MonoT t
  run : PTs X ifs (embT X.K t)
def dYes : TDT := fun E Q => Q true E
section
variable {X : Cx} {tg elt iter : Expr} {ifs : List Expr}
theorem PTs_imp {t u : TT} (h : PTs X ifs t) (w : ∀ σ H Q, LenOk H → u σ H Q → t σ H Q) : PTs X ifs u := ⟨fun pins s σ H Q I q => h.run pins s σ H Q I (w _ _ _ (inv_len I) q)⟩
theorem dts_nil : DTs X [] dYes := ⟨fun E Q Q' w h => w _ _ h, PTs_imp pts_nil fun σ H Q l ⟨F, M, E, R, q⟩ => q H .refl R⟩
theorem dts_one {c : Expr} {t : TDT} (h : DT X c t) : DTs X [c] t := ⟨h.mono, pts_one h.run⟩
theorem lcGo_mono {g : TDG} {tt : TDT} {te : TDE} {vs : List Nat} {sl : List Sl} (hg : ∀ d E (Q Q' : En → Prop), (∀ E', Q E' → Q' E') → g d E Q → g d E Q') (ht : MonoT tt) (he : MonoE te) {Q Q' : List PyData → En → Prop} (w : ∀ a E, Q a E → Q' a E) :
    ∀ (ds acc : List PyData) (fu : Nat), lcGo g tt te vs sl Q ds acc fu → lcGo g tt te vs sl Q' ds acc fu
  | [], _, _, h => w _ _ h
  | d :: ds, acc, fu, h => hg _ _ _ _ (fun E2 k => ht _ _ _ (fun b E3 k2 => ite_mono (fun k3 => he _ _ _ (fun y E4 k4 => ⟨k4.1, lcGo_mono hg ht he w ds _ _ k4.2⟩) k3) (fun k3 => ⟨k3.1, lcGo_mono hg ht he w ds _ _ k3.2⟩) k2) k) h
theorem wipe_in {σ : L2.St} {i : Nat} : ∀ {vs : List Nat}, i ∈ vs → i < σ.length → (L2.wipe σ vs)[i]? = some none
  | [], h, _ => by cases h
  | v :: vs, h, hi => by
    unfold L2.wipe
    by_cases c : v = i
    · subst c
      rw [List.getElem?_set_self (by rw [wipe_length]; exact hi)]
    · rw [List.getElem?_set_ne c]
      rcases List.mem_cons.mp h with q | q
      · exact absurd q.symm c
      · exact wipe_in q hi
theorem wipe_eq {σ σ' : L2.St} {vs : List Nat} (hl : σ'.length = σ.length) (h : ∀ i, i ∉ vs → σ'[i]? = σ[i]?) : L2.wipe σ' vs = L2.wipe σ vs := by
  apply List.ext_getElem?
  intro i
  by_cases c : i ∈ vs
  · by_cases d : i < σ.length
    · rw [wipe_in c d, wipe_in c (by rw [hl]; exact d)]
    · rw [List.getElem?_eq_none (by rw [wipe_length, hl]; omega), List.getElem?_eq_none (by rw [wipe_length]; omega)]
  · rw [wipe_out c, wipe_out c, h i c]
theorem Rep.ln {K : PySem.W.Frag} {F : Fm} {M : Addr → Prop} {H : Hp} {σ : L2.St} {E : En} (R : Rep K F M H σ E) : σ.length = E.sl.length := by
  obtain ⟨W, R⟩ := R
  exact R.ln
/-- the same with values that lie away from what stood at the entry, too -/
def embX (K : PySem.W.Frag) (g : Bool) (t : TDE) : TE := fun σ H Q => ∃ F M E, Rep K F M H σ E ∧ t E fun d E' => ∀ v H', Step M H M H' → Rep K F M H' σ E' → Dat K (fun a => (F.N0 a ∨ M a) ∨ (g = true ∧ F.G a)) H' v d → Q v H'
structure DF (X : Cx) (e : Expr) (t : TDE) : Prop where
  mono : MonoE t
  run : PE X e (embX X.K true t)
theorem emb_x {K : PySem.W.Frag} {t : TDE} (m : MonoE t) {σ : L2.St} {H : Hp} {Q : VK} (h : embX K false t σ H Q) : embE K t σ H Q := by
  obtain ⟨F, M, E, R, q⟩ := h
  exact ⟨F, M, E, R, m _ _ _ (fun d E' k v H' s R' dd => k v H' s R' (dd.weak fun a z => z.elim id fun z => nomatch z.1)) q⟩
theorem x_emb {K : PySem.W.Frag} {t : TDE} (m : MonoE t) {σ : L2.St} {H : Hp} {Q : VK} (h : embE K t σ H Q) : embX K false t σ H Q := by
  obtain ⟨F, M, E, R, q⟩ := h
  exact ⟨F, M, E, R, m _ _ _ (fun d E' k v H' s R' dd => k v H' s R' (dd.weak fun a z => .inl z)) q⟩
theorem PE_imp0 {e : Expr} {t u : TE} (h : PE X e t) (w : ∀ σ H Q, LenOk H → u σ H Q → t σ H Q) : PE X e u := ⟨fun pins s σ H Q I q => h.run pins s σ H Q I (w _ _ _ (inv_len I) q)⟩
theorem Dat.stepB {K : PySem.W.Frag} {N0 M B : Addr → Prop} {H H' : Hp} (s : Step M H M H') (hm : ∀ a, M a → IsL H a) {d : PyData} {v : V} (h : Dat K (fun a => (N0 a ∨ M a) ∨ B a) H v d) : Dat K (fun a => (N0 a ∨ M a) ∨ B a) H' v d :=
  h.move (fun a xs e n => ⟨s.keep _ _ (fun q => n (.inl (.inr q))) e, n⟩) (fun a xs => s.seqT hm)
theorem DatA.stepB {K : PySem.W.Frag} {N0 M B : Addr → Prop} {H H' : Hp} (s : Step M H M H') (hm : ∀ a, M a → IsL H a) {d : List PyData} {v : List V} (h : DatA K (fun a => (N0 a ∨ M a) ∨ B a) H v d) : DatA K (fun a => (N0 a ∨ M a) ∨ B a) H' v d :=
  h.move (fun a xs e n => ⟨s.keep _ _ (fun q => n (.inl (.inr q))) e, n⟩) (fun a xs => s.seqT hm)
/-- what a comprehension's parts say, for its reading -/
theorem lc_run {scope : Scope} {ti : TDI} {g : TDG} {tt : TDT} {te : TDE} {vs : List Nat} {gb : Bool} (hi : DI X tg iter ti) (hmg : ∀ d E (Q Q' : En → Prop), (∀ E', Q E' → Q' E') → g d E Q → g d E Q') (hkg : ∀ d E Q, g d E Q → g d E fun E' => Q E' ∧ Ek vs E E') (ht : MonoT tt) (he : MonoE te)
    {σ : L2.St} {H : Hp} {Q : VK} (q : embX X.K gb (dLc ti g tt te vs) σ H Q) :
    tLc (embI X.K ti) (embG X.K vs g) (embT X.K tt) (embX X.K gb te) vs σ H fun v H' => Q v H' := by
  obtain ⟨F, M, E, R, q⟩ := q
  refine ⟨F, M, E, R, hi.mono _ _ _ (fun ds E1 k J H1 s1 R1 ok D hD => ?_) q⟩
  obtain ⟨kp, k⟩ := k
  have hp : ∀ i ∈ vs, ∀ s, E1.sl[i]? = some s → s.plain = true := fun i hi s hs => by
    have z := List.all_eq_true.mp kp i hi
    rw [hs] at z
    exact z
  have notM : ¬ M D := not_new (fun a h => R1.m a h) hD
  have Rp : Rep X.K (F.plus D) M (upd H1 D (.lst [])) σ E1 := R1.plus hD (Nat.zero_le _)
  have stp : ∀ H', Step M H1 M H' → ∀ xs, Step M H1 M (upd H' D (.lst xs)) := fun H' s xs => ⟨fun a o n e => by rw [upd_ne (ne_of_none e hD)]; exact s.keep a o n e, s.new⟩
  refine ⟨fun i m H' => m = ds.length - i ∧ i ≤ ds.length ∧ ∃ (acc : List PyData) (fu : Nat) (va : List V), Step M H1 M H' ∧ Rep X.K (F.plus D) M H' σ ⟨E1.sl, fu⟩ ∧ H' D = some (.lst va) ∧ DatA X.K (fun a => ((F.plus D).N0 a ∨ M a) ∨ (gb = true ∧ F.G a)) H' va acc ∧ acc.length ≤ i ∧
    lcGo g tt te vs E1.sl (fun acc E' => ∀ v H', Step M H M H' → Rep X.K F M H' σ E' → Dat X.K (fun a => (F.N0 a ∨ M a) ∨ (gb = true ∧ F.G a)) H' v (.list acc) → Q v H') (ds.drop i) acc fu, ⟨_, rfl, Nat.zero_le _, [], E1.fu, [], stp _ .refl _, Rp, upd_same, .nil, Nat.zero_le _, k⟩, ?_⟩
  rintro i m H' ⟨rfl, hil, acc, fu, va, s2, R2, eD, da, hal, k⟩
  by_cases hlt : i < ds.length
  · refine .inr ⟨ok.go M H' i s2 hlt, fun H'' => ∃ (acc : List PyData) (fu : Nat) (va : List V), Step M H1 M H'' ∧ Rep X.K (F.plus D) M H'' σ ⟨E1.sl, fu⟩ ∧ H'' D = some (.lst va) ∧ DatA X.K (fun a => ((F.plus D).N0 a ∨ M a) ∨ (gb = true ∧ F.G a)) H'' va acc ∧ acc.length ≤ i + 1 ∧
      lcGo g tt te vs E1.sl (fun acc E' => ∀ v H', Step M H M H' → Rep X.K F M H' σ E' → Dat X.K (fun a => (F.N0 a ∨ M a) ∨ (gb = true ∧ F.G a)) H' v (.list acc) → Q v H') (ds.drop (i + 1)) acc fu, fun H'' ⟨acc, fu, va, h⟩ => ⟨ds.length - (i + 1), by omega, rfl, hlt, acc, fu, va, h⟩, fun x H3 y => ?_⟩
    have hdrop : ds.drop i = ds[i] :: ds.drop (i + 1) := List.drop_eq_getElem_cons hlt
    rw [hdrop] at k
    obtain ⟨sm, lk, dx⟩ := ok.yld M H' (fun a => (F.plus D).N0 a ∨ M a) i x H3 ds[i] s2 (fun a q => by
      rcases q with (q | q) | q
      · exact .inl q
      · exact .inr (.inr (by rw [q]; exact hD))
      · exact .inr (.inl q)) (List.getElem?_eq_getElem hlt) y
    have s3 : Step M H1 M H3 := s2.trans (.same sm)
    have R3 : Rep X.K (F.plus D) M H3 σ ⟨E1.sl, fu⟩ := R2.same sm (lk R2.len)
    have eD3 : H3 D = some (.lst va) := sm _ _ eD
    have da3 : DatA X.K (fun a => ((F.plus D).N0 a ∨ M a) ∨ (gb = true ∧ F.G a)) H3 va acc := da.same sm
    refine ⟨F.plus D, M, wipeE vs ⟨E1.sl, fu⟩, ds[i], R3.wipe vs, dx, hmg _ _ _ _ (fun E2 k2 σ2 hσ2 RB => ?_) (hkg _ _ _ k)⟩
    obtain ⟨k2, ef, el, eo⟩ := k2
    have hlen : σ2.length = σ.length := by
      rw [RB.ln, el, R3.ln]
      exact wipeL_length _ _
    have hσo : ∀ i, i ∉ vs → σ2[i]? = σ[i]? := fun i hi => (hσ2 i hi).trans (wipe_out hi)
    have hEo : ∀ E4 : En, E4.sl = E2.sl → ∀ i, i ∉ vs → E4.sl[i]? = E1.sl[i]? := fun E4 e i hi => by
      rw [e]
      exact (eo i hi).trans (wipeL_out hi)
    have hEl : ∀ E4 : En, E4.sl = E2.sl → E4.sl.length = E1.sl.length := fun E4 e => by
      rw [e, el]
      exact wipeL_length _ _
    refine ⟨wipe_eq hlen hσo, F.plus D, M, E2, RB, ht _ _ _ (fun b E3 k3 H4 s4 R4 => ?_) k2⟩
    have eD4 : H4 D = some (.lst va) := s4.keep _ _ notM eD3
    cases b with
    | false =>
      refine iteF ?_
      have k3 : E3.sl = E2.sl ∧ lcGo g tt te vs E1.sl _ (ds.drop (i + 1)) acc E3.fu := k3
      exact ⟨acc, E3.fu, va, s3.trans s4, R3.recover R4 s4 hσo (hEo E3 k3.1) (hEl E3 k3.1) hp, eD4, da3.stepB s4 R3.m, Nat.le_succ_of_le hal, k3.2⟩
    | true =>
      refine iteT ⟨F.plus D, M, E3, R4, he _ _ _ (fun y E4 k4 v H5 s5 R5 dv => ?_) (show te E3 _ from k3)⟩
      have eD5 : H5 D = some (.lst va) := s5.keep _ _ notM eD4
      have R6 : Rep X.K (F.plus D) M H5 σ ⟨E1.sl, E4.fu⟩ := R3.recover R5 (s4.trans s5) hσo (hEo E4 k4.1) (hEl E4 k4.1) hp
      have hva : va.length < sizeLine := by
        have := ok.len
        rw [da.length]
        omega
      have hz : (va ++ [v]).length ≤ sizeLine := by
        rw [List.length_append]
        exact hva
      have da5 : DatA X.K (fun a => ((F.plus D).N0 a ∨ M a) ∨ (gb = true ∧ F.G a)) H5 va acc := da3.stepB (s4.trans s5) R3.m
      have R7 := R6.updN (xs := va ++ [v]) (D := D) (.inr rfl) notM hz
      refine ⟨va, eD5, hva, acc ++ [y], E4.fu, va ++ [v], stp _ ((s3.trans s4).trans s5) _, R7, upd_same, ?_, by simp; omega, k4.2⟩
      have kl : ∀ (a : Addr) (zs : List V), H5 a = some (.lst zs) → ¬ (((F.plus D).N0 a ∨ M a) ∨ (gb = true ∧ F.G a)) → upd H5 D (.lst (va ++ [v])) a = some (.lst zs) ∧ ¬ (((F.plus D).N0 a ∨ M a) ∨ (gb = true ∧ F.G a)) := fun a zs e n => ⟨by rw [upd_ne (fun c => n (.inl (.inl (.inr c))))]; exact e, n⟩
      have kt : ∀ a zs, SqT X.K H5 a zs → SqT X.K (upd H5 D (.lst (va ++ [v]))) a zs := fun a zs h => by
        rcases h with (h | ⟨o, h⟩) | h
        · exact .inl (.inl (by rw [upd_ne (ne_of h eD5 (by intro z; cases z))]; exact h))
        · exact .inl (.inr ⟨o, by rw [upd_ne (ne_of h eD5 (by intro z; cases z))]; exact h⟩)
        · exact .inr h
      exact (da5.move kl kt).app (.one (dv.move kl kt))
  · have ei : i = ds.length := by omega
    subst ei
    rw [List.drop_length] at k
    refine .inl ⟨ok.stop M H' s2, k (.ref D) H' (s1.trans s2) (R2.unplus fun a h => (R.m0n a h).2) (.lst eD (fun q => q.elim (fun q => q.elim (not_new (fun a h => R1.nl a (.inl h)) hD) notM) fun q => not_new R1.gl hD q.2) (da.weak fun a q => q.imp (fun q => q.imp .inl id) id))⟩
theorem dLc_mono {ti : TDI} {g : TDG} {tt : TDT} {te : TDE} {vs : List Nat} (hi : MonoA ti) (hg : ∀ d E (Q Q' : En → Prop), (∀ E', Q E' → Q' E') → g d E Q → g d E Q') (ht : MonoT tt) (he : MonoE te) : MonoE (dLc ti g tt te vs) := fun E Q Q' w h =>
  hi _ _ _ (fun ds E1 k => ⟨k.1, lcGo_mono hg ht he (fun a E' q => w _ _ q) _ _ _ k.2⟩) h
/-- [elt for tg in iter if ..] -/
theorem de_lc {scope : Scope} {own : List (Str × Nat)} {pos : Pos} {ti : TDI} {g : TDG} {tt : TDT} {te : TDE} (hc : X.calm = true) (hN : X.N.Nodup) (hi : DI X tg iter ti) (ok : BlkOk X.N X.env.scope scope own)
    (hg : ∀ (s : Shared) (H : Hp) (C : Addr) (cl : List (Str × Addr)) (fp : List Addr), DG (X.blk s H scope (compEnvC scope cl C X.env) fp) tg (own.map (·.2)) g) (ht : ∀ (s : Shared) (H : Hp) (C : Addr) (cl : List (Str × Addr)) (fp : List Addr), DTs (X.blk s H scope (compEnvC scope cl C X.env) fp) ifs tt)
    (he : ∀ (s : Shared) (H : Hp) (C : Addr) (cl : List (Str × Addr)) (fp : List Addr), DE (X.blk s H scope (compEnvC scope cl C X.env) fp) elt te) (hs : ∀ x, foldedSetIterable iter X.env x = pure x := by intro _; rfl) :
    DE X (.ListComp elt [⟨tg, iter, ifs, 0⟩] scope pos) (dLc ti g tt te (own.map (·.2))) := by
  have g0 := hg X.s_0 X.H_0 0 [] []
  have t0 := ht X.s_0 X.H_0 0 [] []
  have e0 := he X.s_0 X.H_0 0 [] []
  have hm := dLc_mono (vs := own.map (·.2)) hi.mono g0.mono t0.mono e0.mono
  refine ⟨hm, PE_imp0 (pe_lc (pos := pos) (te := embX X.K false te) (tt := embT X.K tt) (g := embG X.K (own.map (·.2)) g) hc hN hi.run ok (fun s H C cl fp => (hg s H C cl fp).run) (fun s H C cl fp => (ht s H C cl fp).run) (fun s H C cl fp => PE_imp0 (he s H C cl fp).run fun σ H Q _ q => emb_x e0.mono q) hs) fun σ H Q _ q => ?_⟩
  exact lc_run (scope := scope) hi g0.mono g0.kept t0.mono e0.mono (x_emb hm q)
theorem df_lc {scope : Scope} {own : List (Str × Nat)} {pos : Pos} {ti : TDI} {g : TDG} {tt : TDT} {te : TDE} (hc : X.calm = true) (hN : X.N.Nodup) (hi : DI X tg iter ti) (ok : BlkOk X.N X.env.scope scope own)
    (hg : ∀ (s : Shared) (H : Hp) (C : Addr) (cl : List (Str × Addr)) (fp : List Addr), DG (X.blk s H scope (compEnvC scope cl C X.env) fp) tg (own.map (·.2)) g) (ht : ∀ (s : Shared) (H : Hp) (C : Addr) (cl : List (Str × Addr)) (fp : List Addr), DTs (X.blk s H scope (compEnvC scope cl C X.env) fp) ifs tt)
    (he : ∀ (s : Shared) (H : Hp) (C : Addr) (cl : List (Str × Addr)) (fp : List Addr), DF (X.blk s H scope (compEnvC scope cl C X.env) fp) elt te) (hs : ∀ x, foldedSetIterable iter X.env x = pure x := by intro _; rfl) :
    DF X (.ListComp elt [⟨tg, iter, ifs, 0⟩] scope pos) (dLc ti g tt te (own.map (·.2))) := by
  have g0 := hg X.s_0 X.H_0 0 [] []
  have t0 := ht X.s_0 X.H_0 0 [] []
  have e0 := he X.s_0 X.H_0 0 [] []
  have hm := dLc_mono (vs := own.map (·.2)) hi.mono g0.mono t0.mono e0.mono
  refine ⟨hm, PE_imp0 (pe_lc (pos := pos) (te := embX X.K true te) (tt := embT X.K tt) (g := embG X.K (own.map (·.2)) g) hc hN hi.run ok (fun s H C cl fp => (hg s H C cl fp).run) (fun s H C cl fp => (ht s H C cl fp).run) (fun s H C cl fp => (he s H C cl fp).run) hs) fun σ H Q _ q => ?_⟩
  exact lc_run (scope := scope) hi g0.mono g0.kept t0.mono e0.mono q
/-- a scalar lies away from anything -/
theorem df_scal {e : Expr} {t : TDE} (h : DE X e t) : DF X e fun E Q => t E fun d E' => scal d = true ∧ Q d E' := by
  refine ⟨fun E Q Q' w q => h.mono _ _ _ (fun d E1 k => ⟨k.1, w _ _ k.2⟩) q, PE_imp0 h.run fun σ H Q l ⟨F, M, E, R, q⟩ => ?_⟩
  exact ⟨F, M, E, R, h.mono _ _ _ (fun d E1 k v H1 s1 R1 d1 => k.2 v H1 s1 R1 (d1.scalar k.1)) q⟩
theorem DF.de {e : Expr} {t : TDE} (h : DF X e t) : DE X e t := by
  refine ⟨h.mono, PE_imp0 h.run fun σ H Q l ⟨F, M, E, R, q⟩ => ?_⟩
  exact ⟨F, M, E, R, h.mono _ _ _ (fun d E1 k v H1 s1 R1 d1 => k v H1 s1 R1 (d1.weak fun a z => .inl z)) q⟩
end
end K22

set_option Elab.async false
set_option linter.all false
set_option maxRecDepth 100000
set_option maxHeartbeats 4000000
/-! M4: statements, defs, calls by data. -/
namespace K22
open PySem PySem.Spec PyProof.Rows L2
structure DEnds where
  nx : En → Prop
  rt : PyData → Nat → Prop
  /-- returned: data made since the entry -/
  rf : PyData → Nat → Prop
  bk : En → Prop
  ct : En → Prop
abbrev TDS := DEnds → En → Prop
structure DEnds.Le (D D' : DEnds) : Prop where
  nx : ∀ E, D.nx E → D'.nx E
  rt : ∀ d n, D.rt d n → D'.rt d n
  rf : ∀ d n, D.rf d n → D'.rf d n
  bk : ∀ E, D.bk E → D'.bk E
  ct : ∀ E, D.ct E → D'.ct E
def MonoS (t : TDS) : Prop := ∀ D D' E, DEnds.Le D D' → t D E → t D' E
def conts (K : PySem.W.Frag) (F : Fm) (M : Addr → Prop) (H : Hp) (D : Ends) : DEnds where
  nx := fun E' => ∀ M' σ' H', Step M H M' H' → Rep K F M' H' σ' E' → D.nx σ' H'
  rt := fun d n => ∀ v H', Step M H F.M0 H' → Dat K F.N0 H' v d → PzOk F H' n → LenOk H' → D.rt v H'
  rf := fun d n => ∀ v H', Step M H F.M0 H' → Dat K (fun a => F.N0 a ∨ F.G a) H' v d → PzOk F H' n → LenOk H' → D.rt v H'
  bk := fun E' => ∀ M' σ' H', Step M H M' H' → Rep K F M' H' σ' E' → D.bk σ' H'
  ct := fun E' => ∀ M' σ' H', Step M H M' H' → Rep K F M' H' σ' E' → D.ct σ' H'
def embS (K : PySem.W.Frag) (t : TDS) : TS := fun D σ H => ∃ F M E, Rep K F M H σ E ∧ t (conts K F M H D) E
structure DS (X : Cx) (st : Stmt) (t : TDS) : Prop where
  mono : MonoS t
  run : PS X st (embS X.K t)
structure DSs (X : Cx) (st : List Stmt) (t : TDS) : Prop where
  mono : MonoS t
  run : PSs X st (embS X.K t)
/-- what comes behind, from a later state on -/
theorem conts_le {K : PySem.W.Frag} {F : Fm} {M M1 : Addr → Prop} {H H1 : Hp} {D : Ends} (s : Step M H M1 H1) : DEnds.Le (conts K F M H D) (conts K F M1 H1 D) :=
  ⟨fun E h M' σ' H' s' R => h M' σ' H' (s.trans s') R, fun d n h v H' s' => h v H' (s.trans s'), fun d n h v H' s' => h v H' (s.trans s'), fun E h M' σ' H' s' R => h M' σ' H' (s.trans s') R, fun E h M' σ' H' s' R => h M' σ' H' (s.trans s') R⟩
theorem Step.was {M M' : Addr → Prop} {H H' : Hp} (s : Step M H M' H') {p : Addr} (hp : H' p = none) : M p ∨ H p = none := by
  cases q : H p with
  | none => exact .inr rfl
  | some o =>
    by_cases c : M p
    · exact .inl c
    · rw [s.keep p o c q] at hp; cases hp
section
variable {X : Cx} {st : Stmt} {rest : List Stmt} {t u : TDS} {e tg : Expr} {te : TDE} {pos : Pos}
theorem dss_nil : DSs X [] fun D E => D.nx E := ⟨fun D D' E w h => w.nx E h, ⟨fun pins s σ H D I ⟨F, M, E, R, q⟩ => pss_nil.run pins s σ H D I (q M σ H .refl R)⟩⟩
def dSeq (t u : TDS) : TDS := fun D E => t { D with nx := u D } E
theorem dSeq_mono (ht : MonoS t) (hu : MonoS u) : MonoS (dSeq t u) := fun D D' E w h => ht { D with nx := u D } { D' with nx := u D' } E ⟨fun E' k => hu _ _ _ w k, w.rt, w.rf, w.bk, w.ct⟩ h
theorem dss_cons (h1 : DS X st t) (h2 : DSs X rest u) : DSs X (st :: rest) (dSeq t u) := by
  refine ⟨dSeq_mono h1.mono h2.mono, ⟨fun pins s σ H D I ⟨F, M, E, R, q⟩ => (pss_cons h1.run h2.run).run pins s σ H D I ?_⟩⟩
  refine ⟨F, M, E, R, h1.mono { conts X.K F M H D with nx := u (conts X.K F M H D) } _ _ ⟨fun E' k M' σ' H' s' R' => ?_, fun d n k => k, fun d n k => k, fun E' k => k, fun E' k => k⟩ q⟩
  exact ⟨F, M', E', R', h2.mono (conts X.K F M H D) _ _ (conts_le s') k⟩
theorem dss_one (h1 : DS X st t) : DSs X [st] t := ⟨h1.mono, pss_one h1.run⟩
/-- an own list is given up ahead of the block, of the statement -/
def En.rel1 (E : En) (i : Nat) : En := ⟨E.sl.modify i Sl.rel, E.fu⟩
def dRel (i : Nat) (t : TDS) : TDS := fun D E => t D (E.rel1 i)
theorem rel_emb {K : PySem.W.Frag} {i : Nat} {D : Ends} {σ : L2.St} {H : Hp} (m : MonoS t) (h : embS K (dRel i t) D σ H) : embS K t D σ H := by
  obtain ⟨F, M, E, R, q⟩ := h
  obtain ⟨M', w, R'⟩ := R.rel1 i
  exact ⟨F, M', _, R', m _ _ _ (conts_le ⟨fun _ _ _ e => e, fun a h => .inl (w a h)⟩) q⟩
theorem ds_rel (i : Nat) (h : DS X st t) : DS X st (dRel i t) := ⟨fun D D' E w q => h.mono _ _ _ w q, ⟨fun pins s σ H D I q => h.run.run pins s σ H D I (rel_emb h.mono q)⟩⟩
theorem dss_rel (i : Nat) (h : DSs X rest t) : DSs X rest (dRel i t) := ⟨fun D D' E w q => h.mono _ _ _ w q, ⟨fun pins s σ H D I q => h.run.run pins s σ H D I (rel_emb h.mono q)⟩⟩
def dNever : TDS := fun _ _ => False
theorem ds_never : DS X st dNever := ⟨fun _ _ _ _ h => h, ⟨fun pins s σ H D I ⟨_, _, _, _, q⟩ => q.elim⟩⟩
theorem dss_never : DSs X rest dNever := ⟨fun _ _ _ _ h => h, ⟨fun pins s σ H D I ⟨_, _, _, _, q⟩ => q.elim⟩⟩
/-- x = e -/
def dSet (i : Nat) (te : TDE) : TDS := fun D E => te E fun d E1 => D.nx (E1.set i (.dat d))
theorem dSet_mono {i : Nat} (h : MonoE te) : MonoS (dSet i te) := fun D D' E w q => h _ _ _ (fun d E1 k => w.nx _ k) q
theorem PS_imp {t u : TS} (h : PS X st t) (w : ∀ D σ H, LenOk H → u D σ H → t D σ H) : PS X st u := ⟨fun pins s σ H D I q => h.run pins s σ H D I (w _ _ _ (inv_len I) q)⟩
theorem ds_set {x : Str} {pos' : Pos} (i : Nat) (hN : X.N.Nodup) (he : DE X e te) (hi : X.N[i]? = some x := by rfl) (hx : Loc X.env.scope x := by first | exact Or.inl rfl | exact Or.inr rfl) (hs : swapsWith e (some (.Name x pos')) pos.line X.env = pure false := by rfl)
    (hf : X.fn x = true ∨ X.env.scope.names.lookup x = some .local := by first | exact .inl rfl | exact .inr rfl | assumption) : DS X (.Assign [.Name x pos'] e pos) (dSet i te) := by
  refine ⟨dSet_mono he.mono, PS_imp (ps_set hN hi hx he.run hs hf) fun D σ H l ⟨F, M, E, R, q⟩ => ?_⟩
  exact ⟨F, M, E, R, he.mono _ _ _ (fun d E1 k v H1 s1 R1 d1 => k M _ H1 s1 (R1.putD i d1)) q⟩
/-- x = [..] of a comprehension, on one line -/
theorem ds_setLc {elt tg iter : Expr} {ifs : List Expr} {scope : Scope} {own : List (Str × Nat)} {y : Str} {py spos : Pos} {ti : TDI} {g : TDG} {tt : TDT} {te : TDE} (i : Nat) (hc : X.calm = true) (hN : X.N.Nodup)
    (hsw : swapsWith (.ListComp elt [⟨tg, iter, ifs, 0⟩] scope pos) (some (.Name y py)) spos.line X.env = pure true) (hi : DI X tg iter ti) (ok : BlkOk X.N X.env.scope scope own)
    (hg : ∀ (s : Shared) (H : Hp) (C : Addr) (cl : List (Str × Addr)) (fp : List Addr), DG (X.blk s H scope (compEnvC scope cl C X.env) fp) tg (own.map (·.2)) g) (ht : ∀ (s : Shared) (H : Hp) (C : Addr) (cl : List (Str × Addr)) (fp : List Addr), DTs (X.blk s H scope (compEnvC scope cl C X.env) fp) ifs tt)
    (he : ∀ (s : Shared) (H : Hp) (C : Addr) (cl : List (Str × Addr)) (fp : List Addr), DE (X.blk s H scope (compEnvC scope cl C X.env) fp) elt te) (hy : X.N[i]? = some y := by rfl) (hyl : X.env.scope.names.lookup y = some .local := by rfl) (hs : ∀ x, foldedSetIterable iter X.env x = pure x := by intro _; rfl) :
    DS X (.Assign [.Name y py] (.ListComp elt [⟨tg, iter, ifs, 0⟩] scope pos) spos) (dSet i (dLc ti g tt te (own.map (·.2)))) := by
  have g0 := hg X.s_0 X.H_0 0 [] []
  have t0 := ht X.s_0 X.H_0 0 [] []
  have e0 := he X.s_0 X.H_0 0 [] []
  have hm := dLc_mono (vs := own.map (·.2)) hi.mono g0.mono t0.mono e0.mono
  refine ⟨dSet_mono hm, PS_imp (ps_setLc (te := embX X.K false te) (tt := embT X.K tt) (g := embG X.K (own.map (·.2)) g) hc hN hy hyl hsw hi.run ok (fun s H C cl fp => (hg s H C cl fp).run) (fun s H C cl fp => (ht s H C cl fp).run) (fun s H C cl fp => K22.PE_imp0 (he s H C cl fp).run fun σ H Q _ q => emb_x e0.mono q) hs) fun D σ H l ⟨F, M, E, R, q⟩ => ?_⟩
  exact lc_run (scope := scope) hi g0.mono g0.kept t0.mono e0.mono (Q := fun v H' => D.nx (σ.set i (some v)) H') (x_emb hm ⟨F, M, E, R, hm _ _ _ (fun d E1 k v H1 s1 R1 d1 => k M _ H1 s1 (R1.putD i d1)) q⟩)
/-- (a, b, ..) = e -/
def dAsg (te : TDE) (g : TDG) : TDS := fun D E => te E fun d E1 => g d E1 D.nx
theorem ds_asg {g : TDG} {vs : List Nat} (he : DE X e te) (hg : DG X tg vs g) (hs : swapsWithSole [tg] e pos.line X.env = pure false := by rfl) (hw : swappedStores [tg] e X.env = pure none := by rfl) (h1 : (assignEach [tg] X.env).map (·.2) = [assign tg X.env] := by rfl) : DS X (.Assign [tg] e pos) (dAsg te g) := by
  refine ⟨fun D D' E w q => he.mono _ _ _ (fun d E1 k => hg.mono _ _ _ _ w.nx k) q, PS_imp (ps_asg he.run hg.run hs hw h1) fun D σ H l ⟨F, M, E, R, q⟩ => ?_⟩
  refine ⟨F, M, E, R, he.mono _ _ _ (fun d E1 k v H1 s1 R1 d1 => ?_) q⟩
  exact ⟨F, M, E1, d, R1, d1, hg.mono _ _ _ _ (fun E2 k2 σ' _ R2 => k2 M σ' H1 s1 R2) k⟩
/-- a, b = x, y -/
def dPar (i j : Nat) (ta : TDA) : TDS := fun D E => ta E fun ds E1 => match ds with
  | [x, y] => D.nx ((E1.set i (.dat x)).set j (.dat y))
  | _ => False
theorem ds_par {x y : Str} {a b : Expr} {ta : TDA} {px py pt : Pos} {kt k2 pt2} (i j : Nat) (hc : X.calm = true) (hN : X.N.Nodup) (ha : DA X [a, b] ta) (hi : X.N[i]? = some x := by rfl) (hj : X.N[j]? = some y := by rfl) (hij : i ≠ j := by decide)
    (hx : X.env.scope.names.lookup x = some .local := by rfl) (hy : X.env.scope.names.lookup y = some .local := by rfl)
    (hw : swappedStores [.Tuple [.Name x px, .Name y py] kt pt] (.Tuple [a, b] k2 pt2) X.env = pure (some [x, y]) := by rfl)
    (hs : swapsWithSole [.Tuple [.Name x px, .Name y py] kt pt] (.Tuple [a, b] k2 pt2) pos.line X.env = pure false := by rfl) :
    DS X (.Assign [.Tuple [.Name x px, .Name y py] kt pt] (.Tuple [a, b] k2 pt2) pos) (dPar i j ta) := by
  refine ⟨fun D D' E w q => ha.mono _ _ _ (fun ds E1 k => ?_) q, PS_imp (ps_par hc hN hi hj hij hx hy ha.run hw hs) fun D σ H l ⟨F, M, E, R, q⟩ => ?_⟩
  · split at k
    · exact w.nx _ k
    · exact k.elim
  · refine ⟨F, M, E, R, ha.mono _ _ _ (fun ds E1 k vs H1 s1 R1 d1 => ?_) q⟩
    split at k
    · cases d1 with
      | cons d1 r =>
        cases r with
        | cons d2 r =>
          cases r
          exact ⟨_, _, rfl, k M _ H1 s1 ((R1.putD i d1).putD j d2)⟩
    · exact k.elim
def dExpr (te : TDE) : TDS := fun D E => te E fun _ E1 => D.nx E1
theorem ds_expr (he : DE X e te) (hs : swapsWith e none pos.line X.env = pure false := by rfl) : DS X (.Expr e pos) (dExpr te) :=
  ⟨fun D D' E w q => he.mono _ _ _ (fun d E1 k => w.nx _ k) q, PS_imp (ps_expr he.run hs) fun D σ H l ⟨F, M, E, R, q⟩ => ⟨F, M, E, R, he.mono _ _ _ (fun d E1 k v H1 s1 R1 d1 => k M σ H1 s1 R1) q⟩⟩
/-- return e; own lists are given up -/
def dRet (te : TDE) : TDS := fun D E => te E.rel fun d E1 => D.rt d E1.fu
theorem ds_ret (he : DE X e te) : DS X (.Return (some e) pos) (dRet te) := by
  refine ⟨fun D D' E w q => he.mono _ _ _ (fun d E1 k => w.rt _ _ k) q, PS_imp (ps_ret he.run) fun D σ H l ⟨F, M, E, R, q⟩ => ?_⟩
  refine ⟨F, F.M0, E.rel, R.rel, he.mono _ _ _ (fun d E1 k v H1 s1 R1 d1 => ?_) q⟩
  exact k v H1 ⟨fun a o n e => s1.keep a o (fun z => n (R.m0n a z).1) e, fun a h => .inl (R.m0n a h).1⟩ (d1.weak fun a h => .inl h) R1.pok R1.len
def dIfS (c : TDT) (t u : TDS) : TDS := fun D E => c E fun b E1 => if b = true then t D E1 else u D E1
theorem ds_if {c : Expr} {a b : List Stmt} {tc : TDT} (hc : DT X c tc) (ha : DSs X a t) (hb : DSs X b u) : DS X (.If c a b pos) (dIfS tc t u) := by
  refine ⟨fun D D' E w q => hc.mono _ _ _ (fun b E1 k => ite_mono (ha.mono _ _ _ w) (hb.mono _ _ _ w) k) q, PS_imp (ps_if hc.run ha.run hb.run) fun D σ H l ⟨F, M, E, R, q⟩ => ?_⟩
  refine ⟨F, M, E, R, hc.mono _ _ _ (fun b E1 k H1 s1 R1 => ?_) q⟩
  cases b with
  | true => exact iteT ⟨F, M, E1, R1, ha.mono _ _ _ (conts_le s1) k⟩
  | false => exact iteF ⟨F, M, E1, R1, hb.mono _ _ _ (conts_le s1) k⟩
/-! ### for -/
def forGo (g : TDG) (tb : TDS) (D : DEnds) : List PyData → En → Prop
  | [], E => D.nx E
  | d :: ds, E => g d E fun E2 => tb { D with nx := forGo g tb D ds, ct := forGo g tb D ds, bk := D.nx } E2
def dFor (ti : TDI) (g : TDG) (tb : TDS) : TDS := fun D E => ti E fun ds E1 => forGo g tb D ds E1
theorem forGo_mono {g : TDG} {tb : TDS} (hg : ∀ d E (Q Q' : En → Prop), (∀ E', Q E' → Q' E') → g d E Q → g d E Q') (ht : MonoS tb) {D D' : DEnds} (w : DEnds.Le D D') : ∀ (ds : List PyData) (E : En), forGo g tb D ds E → forGo g tb D' ds E
  | [], E, h => w.nx E h
  | d :: ds, E, h => hg _ _ _ _ (fun E2 k => ht { D with nx := forGo g tb D ds, ct := forGo g tb D ds, bk := D.nx } { D' with nx := forGo g tb D' ds, ct := forGo g tb D' ds, bk := D'.nx } _ ⟨fun E' q => forGo_mono hg ht w ds E' q, w.rt, w.rf, w.nx, fun E' q => forGo_mono hg ht w ds E' q⟩ k) h
theorem ds_for {iter : Expr} {body : List Stmt} {ti : TDI} {g : TDG} {tb : TDS} {vs : List Nat} (hp : PassesOwn (model X.prog X.w) X.A X.env X.xe) (hc : X.calm = true) (hi : DI X tg iter ti) (hg : DG X tg vs g) (hb : DSs X body tb)
    (hs : ∀ x, foldedSetIterable iter X.env x = pure x := by intro _; rfl) : DS X (.For tg iter body [] pos) (dFor ti g tb) := by
  refine ⟨fun D D' E w q => hi.mono _ _ _ (fun ds E1 k => forGo_mono hg.mono hb.mono w ds E1 k) q, PS_imp (ps_for hp hc hi.run hg.run hb.run hs) fun D σ H l ⟨F, M, E, R, q⟩ => ?_⟩
  refine ⟨F, M, E, R, hi.mono _ _ _ (fun ds E1 k J H1 s1 R1 ok => ?_) q⟩
  refine ⟨fun i m σ' H' => m = ds.length - i ∧ i ≤ ds.length ∧ ∃ M' E', Step M H1 M' H' ∧ Rep X.K F M' H' σ' E' ∧ forGo g tb (conts X.K F M H D) (ds.drop i) E', ⟨_, rfl, Nat.zero_le _, M, E1, .refl, R1, k⟩, ?_⟩
  rintro i m σ' H' ⟨rfl, hil, M', E', s2, R2, k⟩
  by_cases hlt : i < ds.length
  · refine .inr ⟨ok.go M' H' i s2 hlt, fun σ'' H'' => ∃ M' E', Step M H1 M' H'' ∧ Rep X.K F M' H'' σ'' E' ∧ forGo g tb (conts X.K F M H D) (ds.drop (i + 1)) E', fun σ'' H'' h => ⟨ds.length - (i + 1), by omega, rfl, hlt, h⟩, fun x H3 y => ?_⟩
    have hdrop : ds.drop i = ds[i] :: ds.drop (i + 1) := List.drop_eq_getElem_cons hlt
    rw [hdrop] at k
    obtain ⟨sm, lk, dx⟩ := ok.yld M' H' (fun a => F.N0 a ∨ M' a) i x H3 ds[i] s2 (fun a q => q.imp id fun z => s2.new a z) (List.getElem?_eq_getElem hlt) y
    have R3 := R2.same sm (lk R2.len)
    refine ⟨F, M', E', ds[i], R3, dx, hg.mono _ _ _ _ (fun E2 k2 σ2 _ R4 => ?_) k⟩
    have s3 : Step M H1 M' H3 := s2.trans (.same sm)
    refine ⟨F, M', E2, R4, hb.mono { conts X.K F M H D with nx := forGo g tb (conts X.K F M H D) (ds.drop (i + 1)), ct := forGo g tb (conts X.K F M H D) (ds.drop (i + 1)), bk := (conts X.K F M H D).nx } _ _ ⟨fun E4 k4 M4 σ4 H4 s4 R4 => ⟨M4, E4, s3.trans s4, R4, k4⟩, fun d n k4 v H4 s4 => k4 v H4 ((s1.trans s3).trans s4), fun d n k4 v H4 s4 => k4 v H4 ((s1.trans s3).trans s4), fun E4 k4 M4 σ4 H4 s4 R4 => k4 M4 σ4 H4 ((s1.trans s3).trans s4) R4, fun E4 k4 M4 σ4 H4 s4 R4 => ⟨M4, E4, s3.trans s4, R4, k4⟩⟩ k2⟩
  · have ei : i = ds.length := by omega
    subst ei
    rw [List.drop_length] at k
    exact .inl ⟨ok.stop M' H' s2, k M' σ' H' (s1.trans s2) R2⟩
/-! ### while -/
def dWhile (tc : TDT) (tb : TDS) : TDS := fun D E => ∃ I : Nat → En → Prop, (∃ m, I m E) ∧ ∀ m E, I m E → tc E fun b E1 => if b = true then tb { D with nx := fun E' => ∃ m', m' < m ∧ I m' E', ct := fun E' => ∃ m', m' < m ∧ I m' E', bk := D.nx } E1 else D.nx E1
theorem ds_while {c : Expr} {body : List Stmt} {tc : TDT} {tb : TDS} (hp : PassesOwn (model X.prog X.w) X.A X.env X.xe) (hc : DT X c tc) (hb : DSs X body tb) : DS X (.While c body [] pos) (dWhile tc tb) := by
  refine ⟨fun D D' E w ⟨I, h0, h⟩ => ⟨I, h0, fun m E i => hc.mono _ _ _ (fun b E1 k => ite_mono (hb.mono { D with nx := fun E' => ∃ m', m' < m ∧ I m' E', ct := fun E' => ∃ m', m' < m ∧ I m' E', bk := D.nx } { D' with nx := fun E' => ∃ m', m' < m ∧ I m' E', ct := fun E' => ∃ m', m' < m ∧ I m' E', bk := D'.nx } _ ⟨fun _ q => q, w.rt, w.rf, w.nx, fun _ q => q⟩) (w.nx _) k) (h m E i)⟩, PS_imp (ps_while hp hc.run hb.run) fun D σ H l ⟨F, M, E, R, I, ⟨m0, h0⟩, h⟩ => ?_⟩
  refine ⟨fun m σ' H' => ∃ M' E', Step M H M' H' ∧ Rep X.K F M' H' σ' E' ∧ I m E', ⟨m0, M, E, .refl, R, h0⟩, fun m σ' H' ⟨M', E', s', R', hI⟩ => ?_⟩
  refine ⟨F, M', E', R', hc.mono _ _ _ (fun b E1 k H1 s1 R1 => ?_) (h m E' hI)⟩
  cases b with
  | false => exact iteF (k M' σ' H1 (s'.trans s1) R1)
  | true =>
    refine iteT ⟨fun σ2 H2 => ∃ m', m' < m ∧ ∃ M2 E2, Step M H M2 H2 ∧ Rep X.K F M2 H2 σ2 E2 ∧ I m' E2, fun σ2 H2 ⟨m', l', h⟩ => ⟨m', l', h⟩, ?_⟩
    have s2 := s'.trans s1
    refine ⟨F, M', E1, R1, hb.mono { conts X.K F M H D with nx := fun E' => ∃ m', m' < m ∧ I m' E', ct := fun E' => ∃ m', m' < m ∧ I m' E', bk := (conts X.K F M H D).nx } _ _ ⟨fun E4 ⟨m', l', k4⟩ M4 σ4 H4 s4 R4 => ⟨m', l', M4, E4, s2.trans s4, R4, k4⟩, fun d n k4 v H4 s4 => k4 v H4 (s2.trans s4), fun d n k4 v H4 s4 => k4 v H4 (s2.trans s4), fun E4 k4 M4 σ4 H4 s4 R4 => k4 M4 σ4 H4 (s2.trans s4) R4, fun E4 ⟨m', l', k4⟩ M4 σ4 H4 s4 R4 => ⟨m', l', M4, E4, s2.trans s4, R4, k4⟩⟩ k⟩
/-! ### own lists -/
/-- x = [e, ..], x the frame's own list -/
def dNew (i : Nat) (ta : TDA) : TDS := fun D E => ta E fun ds E1 => ds.length ≤ sizeLine ∧ D.nx (E1.set i (.own ds))
theorem ds_new {x : Str} {es : List Expr} {ta : TDA} {pos' p2 : Pos} (i : Nat) (hN : X.N.Nodup) (ha : DA X es ta) (hi : X.N[i]? = some x := by rfl) (hx : Loc X.env.scope x := by first | exact Or.inl rfl | exact Or.inr rfl) (hs : swapsWith (.List es p2) (some (.Name x pos')) pos.line X.env = pure false := by rfl)
    (hf : X.fn x = true ∨ X.env.scope.names.lookup x = some .local := by first | exact .inl rfl | exact .inr rfl | assumption) : DS X (.Assign [.Name x pos'] (.List es p2) pos) (dNew i ta) := by
  refine ⟨fun D D' E w q => ha.mono _ _ _ (fun ds E1 k => ⟨k.1, w.nx _ k.2⟩) q, PS_imp (ps_set hN hi hx (pe_lst ha.run) hs hf) fun D σ H l ⟨F, M, E, R, q⟩ => ?_⟩
  refine ⟨F, M, E, R, ha.mono _ _ _ (fun ds E1 k vs H1 s1 R1 d1 => ⟨by rw [d1.length]; exact k.1, fun p hp => ?_⟩) q⟩
  obtain ⟨W, RW⟩ := R1
  have hlen : LenOk (upd H1 p (.lst vs)) := fun a ys e => by
    by_cases c : a = p
    · rw [c, upd_same] at e
      cases e
      rw [d1.length]; exact k.1
    · rw [upd_ne c] at e
      exact RW.len a ys e
  have sm := same_new (o := .lst vs) hp
  obtain ⟨W', R2⟩ := RW.newOwn hlen i (.ref p) (.own ds) [p] sm (fun a ha => by rw [List.mem_singleton.mp ha]; exact hp) (fun a ha => ⟨vs, by rw [List.mem_singleton.mp ha, upd_same]⟩) (by simp)
    ⟨p, vs, rfl, rfl, upd_same, d1.move (fun a xs e n => ⟨sm _ _ e, fun q => by
      rcases q with q | q | q
      · exact n (.inl q)
      · exact n (.inr q)
      · rw [List.mem_singleton.mp q, hp] at e; cases e⟩) (fun _ _ h => sqT_same sm h)⟩
  exact k.2 _ _ _ ⟨fun a o n e => sm a o (s1.keep a o n e), fun a q => by
    rcases q with q | q
    · exact s1.new a q
    · rw [List.mem_singleton.mp q]
      exact s1.was hp⟩ ⟨W', R2⟩
end
end K22

set_option Elab.async false
set_option linter.all false
set_option maxRecDepth 100000
set_option maxHeartbeats 4000000
/-! M5: what defs promise by data; their calls; data made since the entry. -/
namespace K22
open PySem PySem.Spec PyProof.Rows L2
abbrev RP := List PyData → (PyData → Prop) → Prop
abbrev RZ := List PyData → Nat → (PyData → Nat → Prop) → Prop
def MonoP (R : RP) : Prop := ∀ ds P P', (∀ d, P d → P' d) → R ds P → R ds P'
def MonoZ (R : RZ) : Prop := ∀ ds n P P', (∀ d m, P d m → P' d m) → R ds n P → R ds n P'
def NOk (N : Addr → Prop) (H : Hp) : Prop := ∀ a, N a → IsL H a
def spP (K : PySem.W.Frag) (n : Nat) (R : RP) : Sp := fun vs H Q _ => ∃ N ds, vs.length = n ∧ NOk N H ∧ LenOk H ∧ DatA K N H vs ds ∧ R ds fun d => ∀ v H', Same H H' → LenOk H' → Dat K N H' v d → Q v H'
/-- the same; what is told is new all the way down -/
def spF (K : PySem.W.Frag) (n : Nat) (R : RP) : Sp := fun vs H Q _ => ∃ N ds, vs.length = n ∧ NOk N H ∧ LenOk H ∧ DatA K N H vs ds ∧ R ds fun d => ∀ v H', Same H H' → LenOk H' → Dat K (fun a => N a ∨ IsL H a) H' v d → Q v H'
/-- the same of a def that draws -/
def spZ (K : PySem.W.Frag) (n : Nat) (R : RZ) : Sp := fun vs H Q _ => ∃ F p c vs' ds fu, F.pz = some (p, c) ∧ vs = .ref p :: vs' ∧ vs'.length = n ∧ NOk F.N0 H ∧ (∀ a, F.M0 a → F.N0 a) ∧ LenOk H ∧ PzOk F H fu ∧ DatA K F.N0 H vs' ds ∧
  R ds fu fun d fu' => ∀ v H', Step F.M0 H F.M0 H' → LenOk H' → Dat K F.N0 H' v d → PzOk F H' fu' → Q v H'
def enP (m : Nat) (ds : List PyData) : En := ⟨ds.map .dat ++ List.replicate (m - ds.length) .no, 0⟩
def enZ (m : Nat) (ds : List PyData) (fu : Nat) : En := ⟨.pz :: (ds.map .dat ++ List.replicate (m - 1 - ds.length) .no), fu⟩
def endP (P : PyData → Prop) : DEnds := ⟨fun _ => P .none, fun d _ => P d, fun d _ => P d, fun _ => False, fun _ => False⟩
def endF (P : PyData → Prop) : DEnds := ⟨fun _ => P .none, fun _ _ => False, fun d _ => P d, fun _ => False, fun _ => False⟩
def endZ (P : PyData → Nat → Prop) : DEnds := ⟨fun E => P .none E.fu, fun d n => P d n, fun d n => P d n, fun _ => False, fun _ => False⟩
theorem fm0 {N G : Addr → Prop} : ∀ a, ¬ (Fm.mk N none G).M0 a := fun a ⟨p, c, e, _⟩ => nomatch (show (none : Option (Addr × Addr)) = some (p, c) from e)
theorem slots_get {vs : List V} {ds : List PyData} {K : PySem.W.Frag} {N : Addr → Prop} {H : Hp} (r : DatA K N H vs ds) {k : Nat} : ∀ (i : Nat) (s : Sl), (ds.map Sl.dat ++ List.replicate (k - ds.length) Sl.no)[i]? = some s → ∃ v, (vs.map some ++ List.replicate (k - vs.length) none)[i]? = some v ∧ (s = .no ∨ ∃ d x, s = .dat d ∧ v = some x ∧ Dat K N H x d) := fun i s h => by
  have hl := r.length
  by_cases c : i < ds.length
  · rw [List.getElem?_append_left (by simpa using c), List.getElem?_map] at h
    rw [List.getElem?_append_left (by simpa [hl] using c), List.getElem?_map]
    have hd : ds[i]? = some ds[i] := List.getElem?_eq_getElem c
    rw [hd] at h
    obtain ⟨x, hx, dx⟩ := r.get_of hd
    rw [hx]
    exact ⟨some x, rfl, .inr ⟨ds[i], x, (Option.some.inj h).symm, rfl, dx⟩⟩
  · rw [List.getElem?_append_right (by simpa using c), List.getElem?_replicate] at h
    rw [List.getElem?_append_right (by rw [List.length_map, hl]; omega), List.getElem?_replicate]
    have e : i - (vs.map some).length = i - (ds.map Sl.dat).length := by simp [hl]
    rw [e, hl]
    by_cases d : i - (ds.map Sl.dat).length < k - ds.length
    · rw [if_pos d] at h ⊢
      exact ⟨none, rfl, .inl (Option.some.inj h).symm⟩
    · rw [if_neg d] at h
      cases h
theorem rep_start {K : PySem.W.Frag} {N G : Addr → Prop} {H : Hp} {vs : List V} {ds : List PyData} {Nm : List Str} (n : NOk N H) (g : NOk G H) (l : LenOk H) (r : DatA K N H vs ds) : Rep K ⟨N, none, G⟩ (Fm.mk N none G).M0 H (start Nm vs) (enP Nm.length ds) := by
  have hl := r.length
  refine ⟨fun _ => [], by simp [L2.start, enP, hl], fun i s h => ?_, fun _ _ _ h => (nomatch h), fun _ => List.nodup_nil, fun _ _ h => (nomatch h), fun p c e => (nomatch (show (none : Option (Addr × Addr)) = some (p, c) from e)), n, fun a h => (fm0 a h).elim, fun a h => (fm0 a h).elim, l, g⟩
  obtain ⟨v, h1, h2⟩ := slots_get r i s h
  refine ⟨v, h1, ?_⟩
  rcases h2 with rfl | ⟨d, x, rfl, rfl, dx⟩
  · trivial
  · exact ⟨x, rfl, dx.weak fun a q => q.elim id fun q => (fm0 a q).elim⟩
theorem rep_startZ {K : PySem.W.Frag} {F : Fm} {p c : Addr} {H : Hp} {vs : List V} {ds : List PyData} {Nm : List Str} {fu : Nat} (hp : F.pz = some (p, c)) (n : NOk F.N0 H) (m0 : ∀ a, F.M0 a → F.N0 a) (g : NOk F.G H) (l : LenOk H) (z : PzOk F H fu) (r : DatA K F.N0 H vs ds) (hN : 1 ≤ Nm.length) :
    Rep K F F.M0 H (start Nm (.ref p :: vs)) (enZ Nm.length ds fu) := by
  have hl := r.length
  refine ⟨fun _ => [], by simp [L2.start, enZ, hl]; omega, fun i s h => ?_, fun _ _ _ h => (nomatch h), fun _ => List.nodup_nil, fun _ _ h => (nomatch h), z, n, fun a h => n a (m0 a h), fun a h => ⟨h, m0 a h⟩, l, g⟩
  cases i with
  | zero =>
    have e : s = .pz := (Option.some.inj h).symm
    subst e
    exact ⟨some (.ref p), rfl, p, c, hp, rfl⟩
  | succ i =>
    have h' : (ds.map Sl.dat ++ List.replicate (Nm.length - 1 - ds.length) Sl.no)[i]? = some s := by simpa [enZ] using h
    obtain ⟨v, h1, h2⟩ := slots_get r i s h'
    refine ⟨v, ?_, ?_⟩
    · show (some (V.ref p) :: (vs.map some ++ List.replicate (Nm.length - (vs.length + 1)) none))[i + 1]? = some v
      rw [List.getElem?_cons_succ, show Nm.length - (vs.length + 1) = Nm.length - 1 - vs.length by omega]
      exact h1
    · rcases h2 with rfl | ⟨d, x, rfl, rfl, dx⟩
      · trivial
      · exact ⟨x, rfl, dx.weak fun a q => q.elim id (m0 a)⟩
section
variable {P : Program} {w : World} {K : PySem.W.Frag} {mg : Str → Option Value} {base : Heap} {x qual : Str} {params : Arguments} {body : List Stmt} {scope : Scope} {kws : List (Str × V)} {f : Addr} {fd : FuncData} {N ps : List Str} {k n : Nat} {t : TDS}
theorem same_of {M M' : Addr → Prop} {H H' : Hp} (s : Step M H M' H') (h : ∀ a, ¬ M a) : Same H H' := fun a o e => s.keep a o (h a) e
/-- a def that draws nothing -/
theorem ok_P {R : RP} (F : FunD K x qual params body scope [] kws f fd) (S : FnScope N ps scope) (hn : ps.length = n)
    (hb : ∀ (cdv : Value) (A : Around) (outer : List Env) (s : Shared) (H : Hp) (E : XK), Room k (A.deeper (envOfC qual scope s.heap.objs.size f cdv)) → DSs (cxOf CX0 P w K mg base N qual scope f cdv A outer s H E).nox body t)
    (hr : ∀ ds Q, ds.length = n → R ds Q → t (endP Q) (enP N.length ds)) : FnOk P w K mg base CX0 (k + 1) f fd ps (spP K n R) := by
  refine F.ok S (fun vs H Q E h => ?_) (fun cdv A outer s H vs Q E hroom h => ?_)
  · obtain ⟨N', ds, h1, _⟩ := h
    rw [h1, hn]
  · obtain ⟨N', ds, h1, h2, h3, h4, h5⟩ := h
    have b := hb cdv A outer s H E hroom
    refine ⟨embS K t, PSs.nox b.run, ⟨N', none, fun _ => False⟩, _, _, rep_start (G := fun _ => False) h2 (fun a q => q.elim) h3 h4, ?_⟩
    refine b.mono _ _ _ ⟨fun E' q M' σ' H' s' R' => ?_, fun d m q v H' s' dv _ l => ?_, fun d m q v H' s' dv _ l => ?_, fun _ q => (show False from q).elim, fun _ q => (show False from q).elim⟩ (hr ds _ (by rw [← h4.length]; exact h1) h5)
    · exact q .non H' (same_of s' fm0) R'.len .non
    · exact q v H' (same_of s' fm0) l dv
    · exact q v H' (same_of s' fm0) l (dv.weak fun a z => .inl z)
/-- a def that tells new data alone -/
theorem ok_F {R : RP} (F : FunD K x qual params body scope [] kws f fd) (S : FnScope N ps scope) (hn : ps.length = n)
    (hb : ∀ (cdv : Value) (A : Around) (outer : List Env) (s : Shared) (H : Hp) (E : XK), Room k (A.deeper (envOfC qual scope s.heap.objs.size f cdv)) → DSs (cxOf CX0 P w K mg base N qual scope f cdv A outer s H E).nox body t)
    (hr : ∀ ds Q, ds.length = n → R ds Q → t (endF Q) (enP N.length ds)) : FnOk P w K mg base CX0 (k + 1) f fd ps (spF K n R) := by
  refine F.ok S (fun vs H Q E h => ?_) (fun cdv A outer s H vs Q E hroom h => ?_)
  · obtain ⟨N', ds, h1, _⟩ := h
    rw [h1, hn]
  · obtain ⟨N', ds, h1, h2, h3, h4, h5⟩ := h
    have b := hb cdv A outer s H E hroom
    refine ⟨embS K t, PSs.nox b.run, ⟨N', none, IsL H⟩, _, _, rep_start (G := IsL H) h2 (fun a q => q) h3 h4, ?_⟩
    refine b.mono _ _ _ ⟨fun E' q M' σ' H' s' R' => ?_, fun d m q => (show False from q).elim, fun d m q v H' s' dv _ l => ?_, fun _ q => (show False from q).elim, fun _ q => (show False from q).elim⟩ (hr ds _ (by rw [← h4.length]; exact h1) h5)
    · exact q .non H' (same_of s' fm0) R'.len .non
    · exact q v H' (same_of s' fm0) l dv
/-- a def that draws: its first argument is the purse -/
theorem ok_Z {R : RZ} (F : FunD K x qual params body scope [] kws f fd) (S : FnScope N ps scope) (hn : ps.length = n + 1)
    (hb : ∀ (cdv : Value) (A : Around) (outer : List Env) (s : Shared) (H : Hp) (E : XK), Room k (A.deeper (envOfC qual scope s.heap.objs.size f cdv)) → DSs (cxOf CX0 P w K mg base N qual scope f cdv A outer s H E).nox body t)
    (hr : ∀ ds fu Q, ds.length = n → R ds fu Q → t (endZ Q) (enZ N.length ds fu)) : FnOk P w K mg base CX0 (k + 1) f fd ps (spZ K n R) := by
  have hN : 1 ≤ N.length := by
    have := congrArg List.length S.pre
    rw [List.length_take] at this
    omega
  refine F.ok S (fun vs H Q E h => ?_) (fun cdv A outer s H vs Q E hroom h => ?_)
  · obtain ⟨_, p, c, vs', ds, fu, _, e, h1, _⟩ := h
    rw [e, List.length_cons, h1, hn]
  · obtain ⟨Fr, p, c, vs', ds, fu, hp, e, h1, h2, h2', h3, hz, h4, h5⟩ := h
    subst e
    have b := hb cdv A outer s H E hroom
    have hz' : PzOk ⟨Fr.N0, Fr.pz, fun _ => False⟩ H fu := hz
    refine ⟨embS K t, PSs.nox b.run, ⟨Fr.N0, Fr.pz, fun _ => False⟩, _, _, rep_startZ (F := ⟨Fr.N0, Fr.pz, fun _ => False⟩) hp h2 h2' (fun a q => q.elim) h3 hz' h4 hN, ?_⟩
    refine b.mono _ _ _ ⟨fun E' q M' σ' H' s' R' => ?_, fun d m q v H' s' dv z l => ?_, fun d m q v H' s' dv z l => ?_, fun _ q => (show False from q).elim, fun _ q => (show False from q).elim⟩ (hr ds fu _ (by rw [← h4.length]; exact h1) h5)
    · exact q .non H' ⟨fun a o n e => s'.keep a o n e, fun a h => .inl h⟩ R'.len .non R'.pok
    · exact q v H' s' l dv z
    · exact q v H' s' l (dv.weak fun a z => .inl z) z
end
/-! ### calls -/
section
variable {X : Cx} {e : Expr} {es : List Expr} {x : Str} {p pos : Pos} {f : Addr} {fd : FuncData} {ps : List Str} {j k n : Nat} {R : RP} {u : TDA} {t : TDE}
def dUse (n : Nat) (R : RP) (u : TDA) : TDE := fun E Q => u E fun ds E1 => ds.length = n ∧ R ds fun d => Q d E1
theorem dUse_mono (hR : MonoP R) (hu : MonoA u) : MonoE (dUse n R u) := fun E Q Q' w h => hu _ _ _ (fun ds E1 k => ⟨k.1, hR _ _ _ (fun d z => w _ _ z) k.2⟩) h
theorem de_call (G : FnOk X.prog X.w X.K X.mg X.base CX0 j f fd ps (spP X.K n R)) (hR : MonoP R) (hr : Room k X.A) (hk : PySem.W.keepIn X.K (.ref f) = true) (hb : Binds X.K fd ps []) (hm : X.mg x = some (.ref f)) (ha : DA X (e :: es) u) (hj : j ≤ k := by decide) (hg : Gl X x := by rfl)
    (hdb : (x == ("__debug__" : Str)) = false := by decide) (he : starEach (e :: es) X.env = (false, eval e X.env) :: starEach es X.env := by rfl) (hpl : (backTo pos (starEach es X.env)).any (·.1) = false := by rfl) : DE X (.Call (.Name x p) (e :: es) [] pos) (dUse n R u) := by
  refine ⟨dUse_mono hR ha.mono, (pe_call (E := E0) (dvs := []) (G.mono hj) hr hg hm hk hb .nil pass0 ha.run hdb he hpl).imp fun σ H Q l ⟨F, M, E, Rp, q⟩ => ?_⟩
  refine ⟨F, M, E, Rp, ha.mono _ _ _ (fun ds E1 k vs H1 s1 R1 d1 => ?_) q⟩
  show spP X.K n R (vs ++ []) H1 _ E0
  rw [List.append_nil]
  exact ⟨_, ds, d1.length.trans k.1, R1.nl, R1.len, d1, hR _ _ _ (fun d z v H' sm l' dd _ => z v H' (s1.trans (.same sm)) (R1.same sm l') dd) k.2⟩
/-- .. whose written arguments are followed by a default -/
theorem de_callD {dv : V} {du : Value} {dd : PyData} (G : FnOk X.prog X.w X.K X.mg X.base CX0 j f fd ps (spP X.K n R)) (hR : MonoP R) (hr : Room k X.A) (hk : PySem.W.keepIn X.K (.ref f) = true) (hb : Binds X.K fd ps [du]) (rv : RelV dv du) (hdd : ∀ N H, Dat X.K N H dv dd) (hm : X.mg x = some (.ref f)) (ha : DA X (e :: es) u) (hj : j ≤ k := by decide) (hg : Gl X x := by rfl)
    (hdb : (x == ("__debug__" : Str)) = false := by decide) (he : starEach (e :: es) X.env = (false, eval e X.env) :: starEach es X.env := by rfl) (hpl : (backTo pos (starEach es X.env)).any (·.1) = false := by rfl) : DE X (.Call (.Name x p) (e :: es) [] pos) (dUse n R (fun E Q => u E fun ds E1 => Q (ds ++ [dd]) E1)) := by
  refine ⟨dUse_mono hR fun E Q Q' w h => ha.mono _ _ _ (fun ds E1 k => w _ _ k) h, (pe_call (E := E0) (dvs := [dv]) (G.mono hj) hr hg hm hk hb (.cons rv .nil) pass0 ha.run hdb he hpl).imp fun σ H Q l ⟨F, M, E, Rp, q⟩ => ?_⟩
  refine ⟨F, M, E, Rp, ha.mono _ _ _ (fun ds E1 k vs H1 s1 R1 d1 => ?_) q⟩
  have d2 : DatA X.K (fun a => F.N0 a ∨ M a) H1 (vs ++ [dv]) (ds ++ [dd]) := d1.app (.one (hdd _ _))
  exact ⟨_, ds ++ [dd], d2.length.trans k.1, R1.nl, R1.len, d2, hR _ _ _ (fun d z v H' sm l' dd _ => z v H' (s1.trans (.same sm)) (R1.same sm l') dd) k.2⟩
/-- keyword arguments -/
structure DK (X : Cx) (kws : List Keyword) (t : TDA) : Prop where
  mono : MonoA t
  run : PK X kws (embA X.K t)
theorem dk_one {kx : Option Str} {kpos : Pos} (he : DE X e t) : DK X [⟨kx, e, kpos⟩] (dCons t dNil) := by
  refine ⟨dCons_mono he.mono dNil_mono, ⟨fun pos pins s σ H Q I ⟨F, M, E, R, q⟩ => (pk_cons he.run pk_nil).run pos pins s σ H Q I ?_⟩⟩
  exact ⟨F, M, E, R, he.mono _ _ _ (fun d E1 k v H1 s1 R1 d1 => k [v] H1 s1 R1 (.one d1)) q⟩
theorem de_callK {m : Nat} {ks : List Str} {kws : List Keyword} {u2 : TDA} {g : List Value → List Value → List Value} (G : FnOk X.prog X.w X.K X.mg X.base CX0 j f fd ps (spP X.K n R)) (hR : MonoP R) (hr : Room k X.A) (hk : PySem.W.keepIn X.K (.ref f) = true) (hb : KBn X.K fd ps m ks g (fun vs zs => vs ++ zs)) (hm : X.mg x = some (.ref f)) (ha : DA X (e :: es) u) (hkw : DK X kws u2) (hj : j ≤ k := by decide) (hg : Gl X x := by rfl)
    (hall : (backToKw pos (keywordEach kws X.env)).all (·.1.isSome) = true := by rfl) (hks : (backToKw pos (keywordEach kws X.env)).filterMap (·.1) = ks := by rfl)
    (hdb : (x == ("__debug__" : Str)) = false := by decide) (he : starEach (e :: es) X.env = (false, eval e X.env) :: starEach es X.env := by rfl)
    (hpl : ((backTo pos (starEach (e :: es) X.env)).any (·.1) || (backToKw pos (keywordEach kws X.env)).any (·.1.isNone)) = false := by rfl) :
    DE X (.Call (.Name x p) (e :: es) kws pos) (dUse n R (fun E Q => u E fun ds E1 => u2 E1 fun zs E2 => ds.length = m ∧ zs.length = ks.length ∧ Q (ds ++ zs) E2)) := by
  refine ⟨dUse_mono hR fun E Q Q' w h => ha.mono _ _ _ (fun ds E1 k => hkw.mono _ _ _ (fun zs E2 k => ⟨k.1, k.2.1, w _ _ k.2.2⟩) k) h, (pe_callN (E := E0) (G.mono hj) hr hg hm hk hb pass0 ha.run hkw.run hall hks hdb he hpl).imp fun σ H Q l ⟨F, M, E, Rp, q⟩ => ?_⟩
  refine ⟨F, M, E, Rp, ha.mono _ _ _ (fun ds E1 k vs H1 s1 R1 d1 => ?_) q⟩
  refine ⟨F, M, E1, R1, hkw.mono _ _ _ (fun zs E2 k vs2 H2 s2 R2 d2 => ?_) k⟩
  obtain ⟨k1, k2, k3, k4⟩ := k
  have d3 := (d1.step s2 R1.m).app d2
  exact ⟨d1.length.trans k1, d2.length.trans k2, _, ds ++ zs, d3.length.trans k3, R2.nl, R2.len, d3, hR _ _ _ (fun d z v H' sm l' dd _ => z v H' ((s1.trans s2).trans (.same sm)) (R2.same sm l') dd) k4⟩
/-- a def that tells new data -/
theorem df_callF (G : FnOk X.prog X.w X.K X.mg X.base CX0 j f fd ps (spF X.K n R)) (hR : MonoP R) (hr : Room k X.A) (hk : PySem.W.keepIn X.K (.ref f) = true) (hb : Binds X.K fd ps []) (hm : X.mg x = some (.ref f)) (ha : DA X (e :: es) u) (hj : j ≤ k := by decide) (hg : Gl X x := by rfl)
    (hdb : (x == ("__debug__" : Str)) = false := by decide) (he : starEach (e :: es) X.env = (false, eval e X.env) :: starEach es X.env := by rfl) (hpl : (backTo pos (starEach es X.env)).any (·.1) = false := by rfl) : DF X (.Call (.Name x p) (e :: es) [] pos) (dUse n R u) := by
  refine ⟨dUse_mono hR ha.mono, (pe_call (E := E0) (dvs := []) (G.mono hj) hr hg hm hk hb .nil pass0 ha.run hdb he hpl).imp fun σ H Q l ⟨F, M, E, Rp, q⟩ => ?_⟩
  refine ⟨F, M, E, Rp, ha.mono _ _ _ (fun ds E1 k vs H1 s1 R1 d1 => ?_) q⟩
  show spF X.K n R (vs ++ []) H1 _ E0
  rw [List.append_nil]
  exact ⟨_, ds, d1.length.trans k.1, R1.nl, R1.len, d1, hR _ _ _ (fun d z v H' sm l' dd _ => z v H' (s1.trans (.same sm)) (R1.same sm l') (dd.weak fun a y => y.imp id fun y => R1.gl a y.2)) k.2⟩
/-- a def of one argument, new data: it tells new data -/
theorem df_call1 (G : FnOk X.prog X.w X.K X.mg X.base CX0 j f fd ps (spP X.K n R)) (hR : MonoP R) (hr : Room k X.A) (hk : PySem.W.keepIn X.K (.ref f) = true) (hb : Binds X.K fd ps []) (hm : X.mg x = some (.ref f)) (ha : DF X e t) (hj : j ≤ k := by decide) (hg : Gl X x := by rfl)
    (hdb : (x == ("__debug__" : Str)) = false := by decide) (he : starEach [e] X.env = (false, eval e X.env) :: starEach [] X.env := by rfl) (hpl : (backTo pos (starEach [] X.env)).any (·.1) = false := by rfl) : DF X (.Call (.Name x p) [e] [] pos) (dUse n R (dCons t dNil)) := by
  refine ⟨dUse_mono hR (dCons_mono ha.mono dNil_mono), (pe_call (E := E0) (dvs := []) (G.mono hj) hr hg hm hk hb .nil pass0 (pa_cons ha.run pa_nil he) hdb he hpl).imp fun σ H Q l ⟨F, M, E, Rp, q⟩ => ?_⟩
  refine ⟨F, M, E, Rp, ha.mono _ _ _ (fun d E1 k v H1 s1 R1 d1 => ?_) q⟩
  refine ⟨_, [d], k.1, fun a y => ?_, R1.len, .one d1, hR _ _ _ (fun d z v H' sm l' dd _ => z v H' (s1.trans (.same sm)) (R1.same sm l') dd) k.2⟩
  rcases y with y | y
  · exact R1.nl a y
  · exact R1.gl a y.2
/-- a slot that holds new data -/
def dVarG (i : Nat) : TDE := fun E Q => match E.sl[i]? with
  | some (.gen d) => Q d E
  | _ => False
theorem df_var (i : Nat) {x : Str} (hN : X.N[i]? = some x := by rfl) (hv : Vis X.env.scope x := by first | exact Or.inl rfl | exact Or.inr (Or.inl rfl) | exact Or.inr (Or.inr rfl)) (hd : (x == ("__debug__" : Str)) = false := by decide)
    (hcd : (x == ("__classdict__" : Str)) = false := by decide) : DF X (.Name x pos) (dVarG i) := by
  refine ⟨fun E Q Q' w h => ?_, (pe_var hN hv hd hcd).imp fun σ H Q l ⟨F, M, E, R, q⟩ => ?_⟩
  · unfold dVarG at h ⊢
    split at h
    · exact w _ _ h
    · exact h.elim
  · unfold dVarG at q
    split at q
    · rename_i d hd
      obtain ⟨v, h1, h2⟩ := R.gen hd
      exact ⟨v, h1, fun _ => q v H .refl R (h2.weak fun a z => z.elim (fun z => z.imp id .inl) fun z => .inr (.inr z.2))⟩
    · exact q.elim
/-- new data in a row, in a tuple -/
structure DFA (X : Cx) (es : List Expr) (t : TDA) : Prop where
  mono : MonoA t
  run : PA X es fun σ H Q => ∃ F M E, Rep X.K F M H σ E ∧ t E fun ds E' => ∀ vs H', Step M H M H' → Rep X.K F M H' σ E' → DatA X.K (fun a => (F.N0 a ∨ M a) ∨ (true = true ∧ F.G a)) H' vs ds → Q vs H'
theorem dfa_nil : DFA X [] dNil := ⟨dNil_mono, pa_nil.imp fun σ H Q l ⟨F, M, E, R, q⟩ _ => q [] H .refl R .nil⟩
theorem dfa_cons (h1 : DF X e t) (hr : DFA X es u) (hs : starEach (e :: es) X.env = (false, eval e X.env) :: starEach es X.env := by rfl) : DFA X (e :: es) (dCons t u) := by
  refine ⟨dCons_mono h1.mono hr.mono, (pa_cons h1.run hr.run hs).imp fun σ H Q l ⟨F, M, E, R, q⟩ => ?_⟩
  refine ⟨F, M, E, R, h1.mono _ _ _ (fun d E1 k v H1 s1 R1 d1 => ?_) q⟩
  exact ⟨F, M, E1, R1, hr.mono _ _ _ (fun ds E2 k2 vs H2 s2 R2 d2 _ => k2 (v :: vs) H2 (s1.trans s2) R2 (.cons (d1.stepB s2 R1.m) d2)) k⟩
theorem df_tup {k : Nat} (h : DFA X es u) : DF X (.Tuple es k pos) (dTup u) := by
  refine ⟨fun E Q Q' w q => h.mono _ _ _ (fun d E1 k => ⟨k.1, w _ _ k.2⟩) q, (pe_tup h.run).imp fun σ H Q l ⟨F, M, E, R, q⟩ => ?_⟩
  refine ⟨F, M, E, R, h.mono _ _ _ (fun ds E1 k vs H1 s1 R1 d1 => ?_) q⟩
  exact ⟨by rw [d1.length]; exact k.1, fun p hp l' => k.2 _ _ (s1.trans (.same (same_new hp))) (R1.same (same_new hp) l') (new_tup hp d1)⟩
/-- list(x), x of scalars -/
def dList (t : TDE) : TDE := fun E Q => t E fun d E1 => match d with
  | .list l => l.all scal = true ∧ Q (.list l) E1
  | .tuple l => l.all scal = true ∧ Q (.list l) E1
  | _ => False
theorem datA_scal {K : PySem.W.Frag} {N N' : Addr → Prop} {H H' : Hp} : ∀ {ds : List PyData} {vs : List V}, ds.all scal = true → DatA K N H vs ds → DatA K N' H' vs ds
  | [], _, _, h => by cases h; exact .nil
  | d :: ds, _, s, h => by
    have s' : scal d = true ∧ ds.all scal = true := by simpa using s
    cases h with
    | cons h r => exact .cons (h.scalar s'.1) (datA_scal s'.2 r)
theorem df_list (ha : DE X e t) (hm : X.mg "list" = none) (hg : Gl X "list" := by rfl)
    (he : starEach [e] X.env = (false, eval e X.env) :: starEach [] X.env := by rfl) (hpl : (backTo pos (starEach [] X.env)).any (·.1) = false := by rfl) : DF X (.Call (.Name "list" p) [e] [] pos) (dList t) := by
  refine ⟨fun E Q Q' w q => ha.mono _ _ _ (fun d E1 k => ?_) q, (pe_callTy call_list_of hg hm (by decide +kernel) (pa_cons ha.run pa_nil he) (by decide) (by decide) he hpl).imp fun σ H Q l ⟨F, M, E, R, q⟩ => ?_⟩
  · cases d with
    | list l => exact ⟨k.1, w _ _ k.2⟩
    | tuple l => exact ⟨k.1, w _ _ k.2⟩
    | _ => exact k.elim
  · refine ⟨F, M, E, R, ha.mono _ _ _ (fun d E1 k v H1 s1 R1 d1 => ?_) q⟩
    have nl : ∀ a, ((F.N0 a ∨ M a) ∨ (true = true ∧ F.G a)) → IsL H1 a := fun a z => z.elim (R1.nl a) fun z => R1.gl a z.2
    cases d with
    | list l =>
      cases d1 with
      | lst e n r => exact ⟨_, _, rfl, .inl (.of e), fun p hp l' => k.2 _ _ (s1.trans (.same (same_new hp))) (R1.same (same_new hp) l') (new_lst nl hp (datA_scal k.1 r))⟩
    | tuple l =>
      cases d1 with
      | tup e r => exact ⟨_, _, rfl, .inr e, fun p hp l' => k.2 _ _ (s1.trans (.same (same_new hp))) (R1.same (same_new hp) l') (new_lst nl hp (datA_scal k.1 r))⟩
    | _ => exact k.elim
/-- a def that draws -/
def dDraw (i n : Nat) (R : RZ) (u : TDA) : TDE := fun E Q => match E.sl[i]? with
  | some .pz => u E fun ds E1 => ds.length = n ∧ R ds E1.fu fun d m => Q d ⟨E1.sl, m⟩
  | _ => False
theorem de_callZ {z : Str} {pz : Pos} {R : RZ} (i : Nat) (G : FnOk X.prog X.w X.K X.mg X.base CX0 j f fd ps (spZ X.K n R)) (hR : MonoZ R) (hr : Room k X.A) (hk : PySem.W.keepIn X.K (.ref f) = true) (hb : Binds X.K fd ps []) (hm : X.mg x = some (.ref f)) (ha : DA X es u) (hj : j ≤ k := by decide) (hg : Gl X x := by rfl)
    (hN : X.N[i]? = some z := by rfl) (hv : Vis X.env.scope z := by first | exact Or.inl rfl | exact Or.inr (Or.inl rfl) | exact Or.inr (Or.inr rfl)) (hd : (z == ("__debug__" : Str)) = false := by decide) (hcd : (z == ("__classdict__" : Str)) = false := by decide)
    (hdb : (x == ("__debug__" : Str)) = false := by decide) (he : starEach (.Name z pz :: es) X.env = (false, eval (.Name z pz) X.env) :: starEach es X.env := by rfl) (hpl : (backTo pos (starEach es X.env)).any (·.1) = false := by rfl) : DE X (.Call (.Name x p) (.Name z pz :: es) [] pos) (dDraw i n R u) := by
  refine ⟨fun E Q Q' w q => ?_, (pe_call (E := E0) (dvs := []) (G.mono hj) hr hg hm hk hb .nil pass0 (pa_cons (pe_var hN hv hd hcd) ha.run he) hdb he hpl).imp fun σ H Q l ⟨F, M, E, Rp, q⟩ => ?_⟩
  · unfold dDraw at q ⊢
    split at q
    · exact ha.mono _ _ _ (fun ds E1 k => ⟨k.1, hR _ _ _ _ (fun d m y => w _ _ y) k.2⟩) q
    · exact q.elim
  · unfold dDraw at q
    split at q
    · rename_i hs
      obtain ⟨W, RW⟩ := id Rp
      obtain ⟨v, h1, p, c, hp, h2⟩ := RW.sl i _ hs
      subst h2
      refine ⟨_, h1, F, M, E, Rp, ha.mono _ _ _ (fun ds E1 k vs H1 s1 R1 d1 => ?_) q⟩
      show spZ X.K n R ((.ref p :: vs) ++ []) H1 _ E0
      rw [List.append_nil]
      refine ⟨⟨fun a => F.N0 a ∨ M a, F.pz, fun _ => False⟩, p, c, vs, ds, E1.fu, hp, rfl, d1.length.trans k.1, R1.nl, fun a y => .inl (R1.m0n a y).2, R1.len, R1.pok, d1, hR _ _ _ _ (fun d m y v H' st l' dd pz' _ => ?_) k.2⟩
      have st' : Step F.M0 H1 F.M0 H' := st
      exact y v H' (s1.trans (R1.stepM0 st')) (R1.after st' pz' l') dd
    · exact q.elim
end
end K22

set_option Elab.async false
set_option linter.all false
set_option maxRecDepth 100000
set_option maxHeartbeats 4000000
/-! M6: new data in slots; own lists changed. -/
namespace K22
open PySem PySem.Spec PyProof.Rows L2
section
variable {X : Cx} {e tg : Expr} {t te : TDE} {pos : Pos}
theorem Rep.putG {K : PySem.W.Frag} {F : Fm} {M : Addr → Prop} {H : Hp} {σ : L2.St} {E : En} (R : Rep K F M H σ E) (i : Nat) {x : V} {d : PyData} (h : Dat K (fun a => (F.N0 a ∨ M a) ∨ (true = true ∧ F.G a)) H x d) : Rep K F M H (σ.set i (some x)) (E.set i (.gen d)) := by
  obtain ⟨W, R⟩ := R
  exact ⟨_, R.put i x (.gen d) [] ⟨x, rfl, h.weak fun a z => z.elim (fun z => .inl (.inl z)) fun z => z.elim (fun z => .inl (.inr z)) fun z => .inr ⟨rfl, z⟩⟩ List.nodup_nil (fun a h => nomatch h) fun _ a _ _ h => nomatch h⟩
def dSetG (i : Nat) (te : TDE) : TDS := fun D E => te E fun d E1 => D.nx (E1.set i (.gen d))
theorem ds_setG {x : Str} {pos' : Pos} (i : Nat) (hN : X.N.Nodup) (he : DF X e te) (hi : X.N[i]? = some x := by rfl) (hx : Loc X.env.scope x := by first | exact Or.inl rfl | exact Or.inr rfl) (hs : swapsWith e (some (.Name x pos')) pos.line X.env = pure false := by rfl)
    (hf : X.fn x = true ∨ X.env.scope.names.lookup x = some .local := by first | exact .inl rfl | exact .inr rfl | assumption) : DS X (.Assign [.Name x pos'] e pos) (dSetG i te) := by
  refine ⟨fun D D' E w q => he.mono _ _ _ (fun d E1 k => w.nx _ k) q, PS_imp (ps_set hN hi hx he.run hs hf) fun D σ H l ⟨F, M, E, R, q⟩ => ?_⟩
  exact ⟨F, M, E, R, he.mono _ _ _ (fun d E1 k v H1 s1 R1 d1 => k M _ H1 s1 (R1.putG i d1)) q⟩
theorem ds_setLcG {elt tg iter : Expr} {ifs : List Expr} {scope : Scope} {own : List (Str × Nat)} {y : Str} {py spos : Pos} {ti : TDI} {g : TDG} {tt : TDT} {te : TDE} (i : Nat) (hc : X.calm = true) (hN : X.N.Nodup)
    (hsw : swapsWith (.ListComp elt [⟨tg, iter, ifs, 0⟩] scope pos) (some (.Name y py)) spos.line X.env = pure true) (hi : DI X tg iter ti) (ok : BlkOk X.N X.env.scope scope own)
    (hg : ∀ (s : Shared) (H : Hp) (C : Addr) (cl : List (Str × Addr)) (fp : List Addr), DG (X.blk s H scope (compEnvC scope cl C X.env) fp) tg (own.map (·.2)) g) (ht : ∀ (s : Shared) (H : Hp) (C : Addr) (cl : List (Str × Addr)) (fp : List Addr), DTs (X.blk s H scope (compEnvC scope cl C X.env) fp) ifs tt)
    (he : ∀ (s : Shared) (H : Hp) (C : Addr) (cl : List (Str × Addr)) (fp : List Addr), DF (X.blk s H scope (compEnvC scope cl C X.env) fp) elt te) (hy : X.N[i]? = some y := by rfl) (hyl : X.env.scope.names.lookup y = some .local := by rfl) (hs : ∀ x, foldedSetIterable iter X.env x = pure x := by intro _; rfl) :
    DS X (.Assign [.Name y py] (.ListComp elt [⟨tg, iter, ifs, 0⟩] scope pos) spos) (dSetG i (dLc ti g tt te (own.map (·.2)))) := by
  have g0 := hg X.s_0 X.H_0 0 [] []
  have t0 := ht X.s_0 X.H_0 0 [] []
  have e0 := he X.s_0 X.H_0 0 [] []
  have hm := dLc_mono (vs := own.map (·.2)) hi.mono g0.mono t0.mono e0.mono
  refine ⟨fun D D' E w q => hm _ _ _ (fun d E1 k => w.nx _ k) q, PS_imp (ps_setLc (te := embX X.K true te) (tt := embT X.K tt) (g := embG X.K (own.map (·.2)) g) hc hN hy hyl hsw hi.run ok (fun s H C cl fp => (hg s H C cl fp).run) (fun s H C cl fp => (ht s H C cl fp).run) (fun s H C cl fp => (he s H C cl fp).run) hs) fun D σ H l ⟨F, M, E, R, q⟩ => ?_⟩
  exact lc_run (scope := scope) hi g0.mono g0.kept t0.mono e0.mono (Q := fun v H' => D.nx (σ.set i (some v)) H') ⟨F, M, E, R, hm _ _ _ (fun d E1 k v H1 s1 R1 d1 => k M _ H1 s1 (R1.putG i d1)) q⟩
def dRetF (te : TDE) : TDS := fun D E => te E.rel fun d E1 => D.rf d E1.fu
theorem ds_retF (he : DF X e te) : DS X (.Return (some e) pos) (dRetF te) := by
  refine ⟨fun D D' E w q => he.mono _ _ _ (fun d E1 k => w.rf _ _ k) q, PS_imp (ps_ret he.run) fun D σ H l ⟨F, M, E, R, q⟩ => ?_⟩
  refine ⟨F, F.M0, E.rel, R.rel, he.mono _ _ _ (fun d E1 k v H1 s1 R1 d1 => ?_) q⟩
  exact k v H1 ⟨fun a o n e => s1.keep a o (fun z => n (R.m0n a z).1) e, fun a h => .inl (R.m0n a h).1⟩ (d1.weak fun a h => h.elim (fun h => .inl (.inl h)) fun h => .inr ⟨rfl, h⟩) R1.pok R1.len
/-! ### own lists -/
theorem m_nil {M : Addr → Prop} : (fun a => M a ∨ a ∈ ([] : List Addr)) = M := by
  funext a
  exact propext ⟨fun h => h.elim id (fun h => nomatch h), .inl⟩
/-- one list of the frame's own is stored anew -/
theorem RepW.store {K : PySem.W.Frag} {F : Fm} {M : Addr → Prop} {W : Nat → List Addr} {H : Hp} {σ : L2.St} {E : En} {i : Nat} {a : Addr} {xs ys : List V} {l l' : List PyData} (R : RepW K F M W H σ E) (hs : E.sl[i]? = some (.own l)) (ha : σ[i]? = some (some (.ref a))) (hH : H a = some (.lst xs)) (hz : ys.length ≤ sizeLine)
    (d : DatA K (fun a => F.N0 a ∨ M a) H ys l') : Rep K F M (upd H a (.lst ys)) σ (E.set i (.own l')) := by
  obtain ⟨v, h1, a', xs', h2, h3, h4, h5⟩ := R.sl i _ hs
  rw [h1] at ha
  cases ha
  cases h2
  have hM := R.mine i a (by rw [h3]; exact List.mem_singleton_self a)
  have hl : LenOk (upd H a (.lst ys)) := fun b zs e => by
    by_cases c : b = a
    · rw [c, upd_same] at e
      cases e
      exact hz
    · rw [upd_ne c] at e
      exact R.len b zs e
  obtain ⟨W', R'⟩ := R.change (H' := upd H a (.lst ys)) hl i (.own l') (W i) [] (by simp) (fun b o n e => by rw [upd_ne (fun c => n (by rw [h3, c]; exact List.mem_singleton_self a))]; exact e) (fun b hb => nomatch hb)
    (fun b hb => ⟨ys, by
      have : b = a := by rw [h3] at hb; exact List.mem_singleton.mp hb
      rw [this, upd_same]⟩) (R.nd i) h1
    ⟨a, ys, rfl, h3, upd_same, by
      rw [m_nil]
      exact d.move (fun b zs e n => ⟨by rw [upd_ne (fun c => n (by rw [c]; exact .inr hM.1))]; exact e, n⟩) (fun b zs h => by
        rcases h with (h | ⟨o, h⟩) | h
        · exact .inl (.inl (by rw [upd_ne (ne_of h hH (by intro z; cases z))]; exact h))
        · exact .inl (.inr ⟨o, by rw [upd_ne (ne_of h hH (by intro z; cases z))]; exact h⟩)
        · exact .inr h)⟩
  rw [m_nil] at R'
  exact ⟨W', R'⟩
theorem step_own {M : Addr → Prop} {H : Hp} {a : Addr} {o : HO} (h : M a) : Step M H M (upd H a o) := ⟨fun b o n e => by rw [upd_ne (fun c => n (by rw [c]; exact h))]; exact e, fun b h => .inl h⟩
theorem Rep.own {K : PySem.W.Frag} {F : Fm} {M : Addr → Prop} {H : Hp} {σ : L2.St} {E : En} (R : Rep K F M H σ E) {i : Nat} {l : List PyData} (hs : E.sl[i]? = some (.own l)) : ∃ a xs, σ[i]? = some (some (.ref a)) ∧ H a = some (.lst xs) ∧ DatA K (fun a => F.N0 a ∨ M a) H xs l ∧ M a := by
  obtain ⟨W, R⟩ := R
  obtain ⟨v, h1, a, xs, h2, h3, h4, h5⟩ := R.sl i _ hs
  subst h2
  exact ⟨a, xs, h1, h4, h5, (R.mine i a (by rw [h3]; exact List.mem_singleton_self a)).1⟩
/-- x.append(e) -/
def dApp (i : Nat) (te : TDE) : TDS := fun D E => match E.sl[i]? with
  | some (.own _) => te E fun d E1 => match E1.sl[i]? with
    | some (.own l) => l.length < 1000000 ∧ D.nx (E1.set i (.own (l ++ [d])))
    | _ => False
  | _ => False
theorem ds_app {x : Str} {px ap cp : Pos} (i : Nat) (he : DE X e te) (hN : X.N[i]? = some x := by rfl) (hv : Vis X.env.scope x := by first | exact Or.inl rfl | exact Or.inr (Or.inl rfl) | exact Or.inr (Or.inr rfl)) (hd : (x == ("__debug__" : Str)) = false := by decide) (hcd : (x == ("__classdict__" : Str)) = false := by decide)
    (hp : PE X (.Call (.Attribute (.Name x px) "append" ap) [e] [] cp) (tBM X.K "list" rAppend (tVar i) (tCons (embE X.K te) tNil))) (hs : swapsWith (.Call (.Attribute (.Name x px) "append" ap) [e] [] cp) none pos.line X.env = pure false := by rfl) :
    DS X (.Expr (.Call (.Attribute (.Name x px) "append" ap) [e] [] cp) pos) (dApp i te) := by
  refine ⟨fun D D' E w q => ?_, PS_imp (ps_expr hp hs) fun D σ H l ⟨F, M, E, R, q⟩ => ?_⟩
  · unfold dApp at q ⊢
    split at q
    · refine he.mono _ _ _ (fun d E1 k => ?_) q
      split at k
      · exact ⟨k.1, w.nx _ k.2⟩
      · exact k.elim
    · exact q.elim
  · unfold dApp at q
    split at q
    · rename_i l0 hs0
      obtain ⟨a, xs, h1, h2, h3, h4⟩ := R.own hs0
      refine ⟨_, h1, .inl ⟨rfl, _, SqL.of h2⟩, F, M, E, R, he.mono _ _ _ (fun d E1 k v H1 s1 R1 d1 => ?_) q⟩
      split at k
      · rename_i l1 hs1
        obtain ⟨a', xs', g1, g2, g3, g4⟩ := R1.own hs1
        rw [h1] at g1
        cases g1
        refine ⟨a, xs', v, rfl, rfl, g2, by rw [g3.length]; exact Nat.lt_of_lt_of_le k.1 sizeLine_big, k.2 M _ _ (s1.trans (step_own g4)) ?_⟩
        obtain ⟨W, RW⟩ := R1
        exact RW.store hs1 h1 g2 (by rw [List.length_append, g3.length]; exact Nat.le_trans k.1 sizeLine_big) (g3.app (.one d1))
      · exact k.elim
    · exact q.elim
/-- x.pop(e) -/
def dPop (i : Nat) (te : TDE) : TDE := fun E Q => match E.sl[i]? with
  | some (.own _) => te E fun d E1 => match d, E1.sl[i]? with
    | .int n, some (.own l) => 0 ≤ n ∧ ∃ y, l[n.toNat]? = some y ∧ Q y (E1.set i (.own (l.eraseIdx n.toNat)))
    | _, _ => False
  | _ => False
theorem de_pop {x : Str} {px ap : Pos} (i : Nat) (he : DE X e te) (hN : X.N[i]? = some x := by rfl) (hv : Vis X.env.scope x := by first | exact Or.inl rfl | exact Or.inr (Or.inl rfl) | exact Or.inr (Or.inr rfl)) (hd : (x == ("__debug__" : Str)) = false := by decide) (hcd : (x == ("__classdict__" : Str)) = false := by decide)
    (hp : PE X (.Call (.Attribute (.Name x px) "pop" ap) [e] [] pos) (tBM X.K "list" rPopAt (tVar i) (tCons (embE X.K te) tNil))) : DE X (.Call (.Attribute (.Name x px) "pop" ap) [e] [] pos) (dPop i te) := by
  refine ⟨fun E Q Q' w q => ?_, hp.imp fun σ H Q l ⟨F, M, E, R, q⟩ => ?_⟩
  · unfold dPop at q ⊢
    split at q
    · refine he.mono _ _ _ (fun d E1 k => ?_) q
      split at k
      · obtain ⟨k1, y, k2, k3⟩ := k
        exact ⟨k1, y, k2, w _ _ k3⟩
      · exact k.elim
    · exact q.elim
  · unfold dPop at q
    split at q
    · rename_i l0 hs0
      obtain ⟨a, xs, h1, h2, h3, h4⟩ := R.own hs0
      refine ⟨_, h1, .inl ⟨rfl, _, SqL.of h2⟩, F, M, E, R, he.mono _ _ _ (fun d E1 k v H1 s1 R1 d1 => ?_) q⟩
      split at k
      · rename_i n l1 hs1
        obtain ⟨k1, y, k2, k3⟩ := k
        obtain ⟨a', xs', g1, g2, g3, g4⟩ := R1.own hs1
        rw [h1] at g1
        cases g1
        cases d1
        obtain ⟨v, g5, g6⟩ := g3.get_of k2
        have hlt : n.toNat < xs'.length := (List.getElem?_eq_some_iff.mp g5).1
        have hbig := R1.len _ _ g2
        have hat : atI xs' n = some v := by
          have e : n = ((n.toNat : Nat) : Int) := by omega
          rw [e]
          exact atI_nat g5
        obtain ⟨j, q1, q2, q3, q4, q5⟩ := atI_get hat
        have ej : j = n.toNat := by
          have z := q1
          unfold seqIndex? at z
          simp only [] at z
          split at z <;> (first | (split at z <;> first | (cases z; omega) | cases z) | (cases z; omega) | cases z)
        have hl63 : (sizeLine : Nat) < 2 ^ 63 := line63
        refine ⟨a, xs', n, j, v, rfl, rfl, g2, by omega, by omega, q1, q2, fun l' => k3 v _ (s1.trans (step_own g4)) ?_ ?_⟩
        · rw [ej]
          obtain ⟨W, RW⟩ := R1
          exact RW.store hs1 h1 g2 (Nat.le_trans (len_erase _ _) hbig) (g3.erase _)
        · exact g6.move (fun b zs e n => ⟨by rw [upd_ne (fun c => n (by rw [c]; exact .inr g4))]; exact e, n⟩) (fun b zs h => by
            rcases h with (h | ⟨o, h⟩) | h
            · exact .inl (.inl (by rw [upd_ne (ne_of h g2 (by intro z; cases z))]; exact h))
            · exact .inl (.inr ⟨o, by rw [upd_ne (ne_of h g2 (by intro z; cases z))]; exact h⟩)
            · exact .inr h)
      · exact k.elim
    · exact q.elim
end
end K22

set_option Elab.async false
set_option linter.all false
set_option maxRecDepth 100000
set_option maxHeartbeats 6400000
/-! Z1: len(set(xs)) of unlike texts. -/
namespace K22
open PySem PySem.Spec PyProof.Rows
section
variable {prog : Program} {w : World} {A : Around} {R : Result → Shared → Prop} {I : Addr} {fp wr : List Addr} {G : Array GenState → Array GenState → Prop} {n : Nat} {P : Nat → Value → Prop} {St : Nat → Shared → Prop}
theorem any_take {xs : List Str} {i : Nat} (hi : i < xs.length) (k : Str) : ((xs.take i).any (· == k) || decide (k = xs.getD i Str.empty)) = (xs.take (i + 1)).any (· == k) := by
  have e : xs.getD i Str.empty = xs[i] := by simp [List.getD, List.getElem?_eq_getElem hi]
  rw [List.take_add_one, List.getElem?_eq_getElem hi, e, List.any_append]
  show _ = (_ || (xs[i] == k || false))
  rw [Bool.or_false]
  congr 1
  by_cases c : k = xs[i]
  · rw [decide_eq_true c, c]
    simp
  · rw [decide_eq_false c]
    exact (beq_eq_false_iff_ne.mpr fun q => c q.symm).symm
/-- the set's loop over unlike texts -/
theorem loop_texts (W : WalksS prog w A.in1 I fp wr G n P St) (S : Addr) (hSf : S ∉ fp) (xs : List Str) (hsz : xs.length = n) (hnd : xs.Nodup) (hbd : n + 1 < scanBound)
    (hval : ∀ i v, P i v → ∃ t, v = .str (xs.getD i Str.empty) t) :
    ∀ (k i : Nat) (s : Shared), n - i = k → i ≤ n → St i s → s.heap.SetOf (PySem.strKind prog w) S (fun k' => (xs.take i).any (· == k')) i →
      (∀ s', Moved (S :: wr) G s s' → s'.heap.SetOf (PySem.strKind prog w) S (fun k' => (xs.take n).any (· == k')) n → R (.ok (.ret .none)) s') →
      codeAny (model prog w) A (.builtin "set.update.loop" ⟨[.ref S, .ref I], []⟩) R s := by
  have apart : S ∉ wr := fun h => hSf (W.sub _ h)
  have more : ∀ b ∈ wr, b ∈ S :: wr := fun b hb => List.mem_cons_of_mem _ hb
  have still : ∀ {s s' : Shared} {i : Nat}, Moved wr G s s' → s.heap.SetOf (PySem.strKind prog w) S (fun k' => (xs.take i).any (· == k')) i → s'.heap.SetOf (PySem.strKind prog w) S (fun k' => (xs.take i).any (· == k')) i := fun hm hS => by
    obtain ⟨o, es, ep, t, ho, r⟩ := hS
    exact ⟨o, es, ep, t, hm.heap S _ apart ho, r⟩
  intro k
  induction k with
  | zero =>
    intro i s hk hi hst hS hR
    obtain rfl : i = n := by omega
    refine codeAny_builtin PyProof.Rows.F.entry_set_update_loop ?_
    rw [Around.under_plainId PyProof.Rows.F.plain_set_update_loop _]
    show wpAny _ A.in1 (pyNext (.ref I) >>= _) _ _ s
    refine wpAny_bind (W.done s _ _ hst fun s' hm => ?_)
    show wpAny _ A.in1 (ret Value.none) _ _ s'
    exact wpAny_pure (hR s' (hm.mono more) (still hm hS))
  | succ k ih =>
    intro i s hk hi hst hS hR
    have hlt : i < n := by omega
    have hix : i < xs.length := by omega
    refine codeAny_builtin PyProof.Rows.F.entry_set_update_loop ?_
    rw [Around.under_plainId PyProof.Rows.F.plain_set_update_loop _]
    show wpAny _ A.in1 (pyNext (.ref I) >>= _) _ _ s
    refine wpAny_bind (W.item i s _ _ hlt hst fun v s' hP hst' hm => ?_)
    obtain ⟨t, rfl⟩ := hval i v hP
    have hS1 : s'.heap.SetOf (PySem.strKind prog w) S (fun k' => (xs.take i).any (· == k')) i := still hm hS
    show wpAny _ A.in1 (holding [Value.str (xs.getD i Str.empty) t] (setAdd S (.str (xs.getD i Str.empty) t)) >>= _) _ _ s'
    refine wpAny_bind (wpAny_holding ?_)
    unfold setAdd
    refine wpAny_holding (wpAny_bind ((PySem.strKind prog w).pyHash (k := xs.getD i Str.empty) (strKind_is _ _ _ _) ?_))
    refine wpAny_setAddHashed_of (knd := PySem.strKind prog w) (s := { s' with toks := s'.toks + 1 }) (strKind_is _ _ _ _) rfl hS1 (by omega) fun h' hsb hS2 => ?_
    have isn : (xs.take i).any (· == xs.getD i Str.empty) = false := by
      cases q : (xs.take i).any (· == xs.getD i Str.empty) with
      | false => rfl
      | true =>
        obtain ⟨y, hy, e⟩ := List.any_eq_true.mp q
        have e : y = xs[i] := (eq_of_beq e).trans (by simp [List.getD, List.getElem?_eq_getElem hix])
        obtain ⟨j, hj, ej⟩ := List.mem_take_iff_getElem.mp hy
        have hj' : j < i := by omega
        have hne := (List.nodup_iff_pairwise_ne.mp hnd)
        have := (List.pairwise_iff_getElem.mp hne) j i (by omega) hix hj'
        exact absurd (ej.trans e) this
    have hSi : h'.SetOf (PySem.strKind prog w) S (fun k' => (xs.take (i + 1)).any (· == k')) (i + 1) := by
      refine SetOf_congr hS2 (fun k' => any_take hix k') ?_
      simp only [isn]
      rfl
    refine wpAny_pure ⟨plainId_quiet PyProof.Rows.F.plain_set_update_loop _, ih (i + 1) _ (by omega) hlt (W.frame _ s' _ _ hst' (Nat.le_succ _) fun b hb o e => ?_) hSi fun s'' hm'' hS'' => ?_⟩
    · rw [hsb.2 b (fun h : b = S => hSf (h ▸ hb))]; exact e
    · refine hR s'' (Moved.trans W.gtrans ((hm.mono more).then_heap (Nat.le_succ _) fun b o hb e => ?_) hm'') hS''
      rw [hsb.2 b (fun h : b = S => hb (h ▸ List.mem_cons_self))]; exact e
end
section
variable {prog : Program} {w : World} {A : Around} {E : Value → Shared → Prop} {s : Shared}
/-- set(l), l a list or a tuple of unlike texts -/
theorem call_set_texts {l : Addr} {items : Array Value} {xs : List Str} {Q : Value → Shared → Prop} (hh : A.handled = none) (hl : s.heap.IsList l items ∨ s.heap.IsTuple l items) (hi : PyProof.Rows.StrsAre items.toList xs) (hnd : xs.Nodup) (hbd : xs.length + 1 < scanBound)
    (h : ∀ (h' : Heap) (tk : Nat), h'.SetOf (PySem.strKind prog w) s.heap.objs.size (fun k' => (xs.take items.size).any (· == k')) items.size → (∀ b o, b < s.heap.objs.size → s.heap.get? b = some o → h'.get? b = some o) → Q (.ref s.heap.objs.size) { s with heap := h', toks := tk }) :
    wpAny (model prog w) A (call (.type "set") [.ref l]) Q E s := by
  obtain ⟨c, tl, hmro⟩ := PySem.F.called_set.mro
  have hmade := PySem.F.called_set.made
  have hsub := PySem.F.called_set.sub
  refine wpAny_call (codeAny_of_tree ?_)
  show wpAny _ _ (callAny (.type "set") _) _ _ _
  refine wpAny_pure ⟨Code.quiet_builtin _ (by decide +kernel), codeAny_builtin PySem.F.entry_type_call ?_⟩
  rw [Around.under_plain (weight_type_call_type "set" [.ref l] []) rfl]
  have h1 := PySem.F.called_set.notType
  have h2 := PySem.F.called_set.canCreate
  have hct := PySem.F.typeCall_set_1 (.ref l)
  repeat (any_goals (first | assumption | wp_step))
  refine codeAny_mono (code_set_new_1 (.ref l) (E := E) (Q₁ := fun obj s₁ => ∃ led : Bool, obj = .ref s.heap.objs.size ∧ s₁ = { s with heap := s.heap.push { cls := .type "set", dict := none, data := .set #[] 0 (.fresh 0 0 led) } }) fun led => ⟨led, rfl, rfl⟩) fun r s₁ hr => ?_
  cases r with
  | error e => exact hr
  | ok fl =>
    cases fl with
    | ret obj =>
      obtain ⟨led, rfl, rfl⟩ := hr
      generalize hn : (⟨.type "set", none, .set #[] 0 (.fresh 0 0 led), #[]⟩ : Obj) = new
      have hS : (s.heap.push new).get? s.heap.objs.size = some new := Heap.get?_push_size _ (by subst hn; rfl)
      have hT : Shared.TypeIs { s with heap := s.heap.push new } (.ref s.heap.objs.size) "set" := ⟨_, hS, by subst hn; rfl⟩
      have hli := PySem.F.called_set.init.lookup
      have hbi := PySem.F.called_set.init.bind (.ref s.heap.objs.size)
      repeat (any_goals (first | assumption | wp_step))
      refine codeAny_mono (codeAny_call_builtin (R := wants (fun r s₂ => r = .none ∧ ∃ h' tk, s₂ = { s with heap := h', toks := tk } ∧
          h'.SetOf (PySem.strKind prog w) s.heap.objs.size (fun k' => (xs.take items.size).any (· == k')) items.size ∧
          (∀ b o, b < s.heap.objs.size → s.heap.get? b = some o → h'.get? b = some o)) E) PySem.F.called_set.init.plain PySem.F.entry_set_init (check_set_init_1 hT ?_)) fun r₂ s₂ hr₂ => ?_
      · have hlS : l < s.heap.objs.size := by
          rcases hl with hl | hl <;> (obtain ⟨ol, hol, _⟩ := hl; exact Heap.lt_size hol)
        have hh3 : A.in1.in1.in1.handled = none := by simp [hh]
        have nI : l ≠ (s.heap.push new).objs.size := by rw [Heap.size_push]; exact Nat.ne_of_lt (Nat.lt_succ_of_lt hlS)
        have hSf : s.heap.objs.size ∉ [(s.heap.push new).objs.size, l] := by
          rw [Heap.size_push]
          simp only [List.mem_cons, List.not_mem_nil, or_false, not_or]
          exact ⟨Nat.ne_of_lt (Nat.lt_succ_self _), Nat.ne_of_gt hlS⟩
        have hsz : xs.length = items.size := by rw [← StrsAre.len_eq hi, Array.length_toList]
        have hval : ∀ (i : Nat) (v : Value), items[i]? = some v → ∃ t, v = .str (xs.getD i Str.empty) t := fun i v hv => SS.strs_at hi i v (by rw [Array.getElem?_toList]; exact hv)
        have fin : ∀ (o : Obj) (s' : Shared) (G : Array GenState → Array GenState → Prop), (∀ a b, G a b → b = a) → Moved (s.heap.objs.size :: [(s.heap.push new).objs.size]) G { s with heap := (s.heap.push new).push o } s' → s'.heap.SetOf (PySem.strKind prog w) s.heap.objs.size (fun k' => (xs.take items.size).any (· == k')) items.size →
            ∃ h' tk, s' = { s with heap := h', toks := tk } ∧ h'.SetOf (PySem.strKind prog w) s.heap.objs.size (fun k' => (xs.take items.size).any (· == k')) items.size ∧ ∀ b o, b < s.heap.objs.size → s.heap.get? b = some o → h'.get? b = some o := fun o s' G hG hm hS' => by
          obtain ⟨h', g', d', tk', os'⟩ := s'
          have eg : g' = s.gens := hG _ _ hm.gens
          have ed : d' = s.drawn := hm.drawn
          have eo : os' = s.os := hm.os
          subst eg; subst ed; subst eo
          refine ⟨h', tk', rfl, hS', fun b o hb e => hm.heap b o ?_ (Heap.get?_push_of_some _ (Heap.get?_push_of_some _ e))⟩
          rw [Heap.size_push]
          simp only [List.mem_cons, List.not_mem_nil, or_false, not_or]
          exact ⟨Nat.ne_of_lt hb, Nat.ne_of_lt (Nat.lt_succ_of_lt hb)⟩
        have beg : ∀ o : Obj, ((s.heap.push new).push o).SetOf (PySem.strKind prog w) s.heap.objs.size (fun k' => (xs.take 0).any (· == k')) 0 := fun o => by
          have hget : ((s.heap.push new).push o).get? s.heap.objs.size = some new := Heap.get?_push_of_some _ hS
          subst hn
          exact PyProof.Rows.SetOf_congr ((PyProof.Rows.setObjOf_fresh (knd := PySem.strKind prog w) led).setOf hget (by omega)) (fun _ => rfl) rfl
        have hbd' : items.size + 1 < scanBound := by rw [← hsz]; exact hbd
        subst hn
        rcases hl with hl | hl
        · have hl1 := hl.push { cls := .type "set", dict := none, data := .set #[] 0 (.fresh 0 0 led) }
          obtain ⟨ol, hol, hcl, nl, hdl⟩ := id hl1
          obtain ⟨ocls, odict, odata, oslots⟩ := ol
          simp only at hcl hdl
          subst hcl; subst hdl
          have hsls := PySem.F.sub_list_set
          have hslf := PySem.F.sub_list_frozenset
          have hne : (Value.type "list" == Value.type "dict") = false := by decide
          unfold Builtin.«set.__init__» noKeywords Builtin.Frozenset.updateFrom
          generalize hPI : pyIter = PI
          wp_walk
          subst hPI
          refine wpAny_pyIter_list hl1 ?_
          refine wpAny_bind (wpAny_runValue ?_)
          refine loop_texts ((Walks.list hh3 _ l nI items).toS) s.heap.objs.size hSf xs hsz hnd hbd' hval (items.size - 0) 0 _ (by omega) (Nat.zero_le _) ⟨⟨_, Heap.get?_push_size _ rfl, rfl, rfl⟩, hl1.push _⟩ (beg _) fun s' hm hS' => ?_
          obtain ⟨h', tk, rfl, q1, q2⟩ := fin _ s' _ (fun a b z => by first | exact z | exact z.symm) hm hS'
          show wpAny _ _ _ _ _ _
          refine wpAny_pure ?_
          show wpAny _ _ (ret Value.none) _ _ _
          exact wpAny_pure ⟨rfl, h', tk, rfl, q1, q2⟩
        · have hl1 := hl.push { cls := .type "set", dict := none, data := .set #[] 0 (.fresh 0 0 led) }
          obtain ⟨ol, hol, hcl, nl, hdl⟩ := id hl1
          obtain ⟨ocls, odict, odata, oslots⟩ := ol
          simp only at hcl hdl
          subst hcl; subst hdl
          have hsls := PySem.F.sub_tuple_set
          have hslf := PySem.F.sub_tuple_frozenset
          have hne : (Value.type "tuple" == Value.type "dict") = false := by decide
          unfold Builtin.«set.__init__» noKeywords Builtin.Frozenset.updateFrom
          generalize hPI : pyIter = PI
          wp_walk
          subst hPI
          refine wpAny_pyIter_tuple hl1 ?_
          refine wpAny_bind (wpAny_runValue ?_)
          refine loop_texts ((Walks.tuple hh3 _ l nI items).toS) s.heap.objs.size hSf xs hsz hnd hbd' hval (items.size - 0) 0 _ (by omega) (Nat.zero_le _) ⟨⟨_, Heap.get?_push_size _ rfl, rfl, rfl⟩, hl1.push _⟩ (beg _) fun s' hm hS' => ?_
          obtain ⟨h', tk, rfl, q1, q2⟩ := fin _ s' _ (fun a b z => by first | exact z | exact z.symm) hm hS'
          show wpAny _ _ _ _ _ _
          refine wpAny_pure ?_
          show wpAny _ _ (ret Value.none) _ _ _
          exact wpAny_pure ⟨rfl, h', tk, rfl, q1, q2⟩
      · cases r₂ with
        | error e => exact hr₂
        | ok fl₂ =>
          cases fl₂ with
          | ret r =>
            obtain ⟨rfl, h', tk, rfl, hS', hk'⟩ := hr₂
            repeat (any_goals (first | assumption | wp_step))
            exact h _ _ hS' hk'
          | _ => exact hr₂.elim
    | _ => exact hr.elim
end
end K22
namespace K22
open PySem PySem.Spec PyProof.Rows L2
section
variable {X : Cx} {e : Expr} {t : TDE}
/-- len(set(x)) of unlike texts -/
def tLenSet2 (K : PySem.W.Frag) (ta : TE) : TE := fun σ H Q => ta σ H fun x H1 => ∃ l, ∃ xs : List Str, x = .ref l ∧ (SqL K H1 l (xs.map V.str) ∨ SqT K H1 l (xs.map V.str)) ∧ xs.Nodup ∧ xs.length ≤ 4000 ∧ Q (.int xs.length) H1
theorem pe_lenSet2 {ta : TE} {p p2 q pos : Pos} (hc : X.calm = true) (hg : Gl X "len") (hm : X.mg "len" = none) (hg2 : Gl X "set") (hm2 : X.mg "set" = none) (ha : PE X e ta)
    (na : starEach [e] X.env = (false, eval e X.env) :: starEach [] X.env := by rfl) : PE X (.Call (.Name "len" p) [.Call (.Name "set" p2) [e] [] q] [] pos) (tLenSet2 X.K ta) := by
  refine ⟨fun pins s σ H Q I h => ?_⟩
  refine Call_ (ld_blt I hg hm boot_len ?_)
  refine PyProof.Rows.callWith_builtin1 (PyProof.Rows.args_cons ?_ rfl) rfl rfl
  refine Call_ (ld_blt I hg2 hm2 boot_set ?_)
  refine PyProof.Rows.callWith_type1 (PyProof.Rows.args_cons (thn (ha.run pins s σ H _ I h) fun v s1 ⟨x, H1, I1, r1, q1⟩ => PyProof.Rows.args_nil ?_) na) na rfl
  obtain ⟨l, xs, rfl, hq, hnd, hl, q1⟩ := q1
  cases r1
  have sb : xs.length + 1 < scanBound := by unfold scanBound; omega
  have fin : ∀ its : List Value, Vals (xs.map V.str) its → ∀ (h' : Heap) (tk : Nat), h'.SetOf (PySem.strKind X.prog X.w) s1.heap.objs.size (fun k' => (xs.take its.toArray.size).any (· == k')) its.toArray.size → (∀ b o, b < s1.heap.objs.size → s1.heap.get? b = some o → h'.get? b = some o) →
      wpAny (model X.prog X.w) X.A (spliced (backTo pos (starEach [] X.env))) (fun vs s₂ => wpAny (model X.prog X.w) X.A (call (.builtin "len") (Value.ref s1.heap.objs.size :: vs)) (EP X pins σ Q) X.xe s₂) X.xe { s1 with heap := h', toks := tk } := fun its r h' tk hS hk => by
    refine PyProof.Rows.args_nil ?_
    have hl : its.toArray.size = xs.length := by rw [List.size_toArray, ← r.length, List.length_map]
    rw [hl] at hS
    obtain ⟨o, es, ep, t, ho, hex, hd, _, _, _, hf, hn⟩ := hS
    have I2 : Inv X pins σ H1 { s1 with heap := h', toks := tk } := I1.kept fun b o e => hk b o (Heap.lt_size e) e
    exact call_len_set ho hex hd hf (by rw [hn] <;> omega) ⟨.int xs.length, H1, I2.tok _, ⟨_, by rw [hn]⟩, q1⟩
  rcases hq with hq | hq
  · obtain ⟨its, r, pl, hz⟩ := I1.list hq
    exact call_set_texts (I1.ok.hd hc) (.inl pl.isList) (by simpa using strsAre_of r) hnd sb fun h' tk hS hk => fin its r h' tk hS hk
  · obtain ⟨its, r, pl, hz⟩ := I1.tuple hq
    exact call_set_texts (I1.ok.hd hc) (.inr pl) (by simpa using strsAre_of r) hnd sb fun h' tk hS hk => fin its r h' tk hS hk
def dLenSet (t : TDE) : TDE := fun E Q => t E fun d E1 => ∃ xs : List Str, (d = .list (xs.map .str) ∨ d = .tuple (xs.map .str)) ∧ xs.Nodup ∧ xs.length ≤ 4000 ∧ Q (.int xs.length) E1
theorem de_lenSet {p p2 q pos : Pos} (hc : X.calm = true) (he : DE X e t) (hm : X.mg "len" = none) (hm2 : X.mg "set" = none) (hg : Gl X "len" := by rfl) (hg2 : Gl X "set" := by rfl)
    (na : starEach [e] X.env = (false, eval e X.env) :: starEach [] X.env := by rfl) : DE X (.Call (.Name "len" p) [.Call (.Name "set" p2) [e] [] q] [] pos) (dLenSet t) := by
  refine ⟨fun E Q Q' w q => he.mono _ _ _ (fun d E1 ⟨xs, k1, k2, k3, k4⟩ => ⟨xs, k1, k2, k3, w _ _ k4⟩) q, (pe_lenSet2 hc hg hm hg2 hm2 he.run na).imp fun σ H Q l ⟨F, M, E, R, q⟩ => ?_⟩
  refine ⟨F, M, E, R, he.mono _ _ _ (fun d E1 ⟨xs, k1, k2, k3, k4⟩ v H1 s1 R1 d1 => ?_) q⟩
  rcases k1 with rfl | rfl
  · cases d1 with
    | lst e n r => exact ⟨_, xs, rfl, .inl (.of (by rw [r.strs] at e; exact e)), k2, k3, fun _ => k4 _ H1 s1 R1 (.int _)⟩
  · cases d1 with
    | tup e r => exact ⟨_, xs, rfl, .inr (by rw [r.strs] at e; exact e), k2, k3, fun _ => k4 _ H1 s1 R1 (.int _)⟩
/-- len(set(x)) of unlike ints -/
def dLenSetI (t : TDE) : TDE := fun E Q => t E fun d E1 => ∃ ns : List Int, d = .list (ns.map .int) ∧ ns.Nodup ∧ ns.length ≤ 4000 ∧ Q (.int ns.length) E1
theorem de_lenSetI {p p2 q pos : Pos} (hc : X.calm = true) (he : DE X e t) (hm : X.mg "len" = none) (hm2 : X.mg "set" = none) (hg : Gl X "len" := by rfl) (hg2 : Gl X "set" := by rfl)
    (na : starEach [e] X.env = (false, eval e X.env) :: starEach [] X.env := by rfl) : DE X (.Call (.Name "len" p) [.Call (.Name "set" p2) [e] [] q] [] pos) (dLenSetI t) := by
  refine ⟨fun E Q Q' w q => he.mono _ _ _ (fun d E1 ⟨xs, k1, k2, k3, k4⟩ => ⟨xs, k1, k2, k3, w _ _ k4⟩) q, (RZ.pe_lenSetI hg hm hg2 hm2 he.run hc na).imp fun σ H Q l ⟨F, M, E, R, q⟩ => ?_⟩
  refine ⟨F, M, E, R, he.mono _ _ _ (fun d E1 ⟨ns, k1, k2, k3, k4⟩ v H1 s1 R1 d1 => ?_) q⟩
  subst k1
  cases d1 with
  | lst e n r => exact ⟨_, ns, rfl, .of (by rw [r.ints] at e; exact e), k2, k3, fun _ => k4 _ H1 s1 R1 (.int _)⟩
end
end K22

set_option Elab.async false
set_option linter.all false
set_option maxRecDepth 100000
set_option maxHeartbeats 6400000
/-! Z2: zip(a, b, strict=True) of two lists of one length. -/
namespace K22
open PySem
open PySem.Sem (wp)
abbrev IsZs (h : Heap) (z TI TO : Addr) (f0 : Value) (f1 : Bool) : Prop :=
  h.get? z = some { cls := .type "zip", dict := none, data := .fields #[f0, .bool f1, .bool true, .ref TI, .ref TO], slots := #[] }
section
variable {prog : Program} {w : World} {A : Around} {E : Value → Shared → Prop} {s : Shared}
/-- a list's iterator asked by a strict zip -/
theorem ask_item {it l : Addr} {i : Nat} {items : Array Value} {x : Value} {Q : Option Value → Shared → Prop} (hit : s.heap.IsListIter it l i) (hl : s.heap.IsList l items) (hx : items[i]? = some x)
    (hQ : ∀ h', h'.IsListIter it l (i + 1) → Heap.SameBut it s.heap h' → Q (some x) { s with heap := h' }) : wpAny (model prog w) A (Builtin.SmallTypes.nextOrEnd (.ref it)) Q E s := by
  unfold Builtin.SmallTypes.nextOrEnd
  exact wpAny_bind (wpAny_attempt (wpAny_nextOf_list_item hit hl hx fun h' h1 h2 => wpAny_pure (hQ h' h1 h2)))
theorem ask_end {it l : Addr} {i : Nat} {items : Array Value} {Q : Option Value → Shared → Prop} (hh : A.handled = none) (hit : s.heap.IsListIter it l i) (hl : s.heap.IsList l items) (hx : items[i]? = none)
    (hQ : ∀ h', Heap.ExtBut it s.heap h' → Q none { s with heap := h' }) : wpAny (model prog w) A (Builtin.SmallTypes.nextOrEnd (.ref it)) Q E s := by
  unfold Builtin.SmallTypes.nextOrEnd
  refine wpAny_bind (wpAny_attempt (wpAny_nextOf_list_end hh hit hl hx fun h' e h1 ⟨o, ho, hc⟩ => ?_))
  exact wpAny_bind (wpAny_isInstance (T := "StopIteration") (b := true) ⟨o, ho, hc⟩ isSubtype_stop (wpAny_pure (hQ h' h1)))
theorem stop_run {α : Type} {Q : α → Shared → Prop} (hh : A.handled = none)
    (hE : ∀ h' e, (∀ c o, s.heap.get? c = some o → h'.get? c = some o) → (∃ o, h'.get? e = some o ∧ o.cls = .type "StopIteration") → E (.ref e) { s with heap := h' }) : wpAny (model prog w) A (Builtin.SmallTypes.stopIteration : Sem α) Q E s := by
  unfold Builtin.SmallTypes.stopIteration
  show wpAny _ _ (newExc (.type "StopIteration") [] >>= _) _ _ _
  refine wpAny_bind ?_
  simp only [newExc, newTuple]
  refine wpAny_bind (wpAny_newObj_type ?_ (by size_fits))
  refine wpAny_bind (m := firstArgMember _ _) (wpAny_of_eq (a := Value.none) (by first | rfl | (simp only [firstArgMember]; rfl)) ?_)
  refine wpAny_newObj_type ?_ (by size_fits)
  simp only [raiseNew]
  refine wpAny_bind (wpAny_handled ?_)
  first | rw [show A.in1.handled = none from hh] | rw [hh]
  refine wpAny_bind (wpAny_pure (wpAny_throw ?_))
  exact hE _ _ (fun c o x => Heap.get?_push_of_some _ (Heap.get?_push_of_some _ x)) ⟨_, Heap.get?_push_size _ rfl, rfl⟩
/-- the other list is at its end too -/
theorem both_end {i1 i2 l2 : Addr} {k2 : Nat} {ys : Array Value} {Q : Option Value → Shared → Prop} (hh : A.handled = none) (h2 : s.heap.IsListIter i2 l2 k2) (hl2 : s.heap.IsList l2 ys) (hy : ys[k2]? = none)
    (hE : ∀ h' e, (∀ c o, c ≠ i2 → s.heap.get? c = some o → h'.get? c = some o) → (∃ o, h'.get? e = some o ∧ o.cls = .type "StopIteration") → E (.ref e) { s with heap := h' }) (m : Option Value → Sem PySem.Fin) (R : PySem.Fin → Shared → Prop) 
    (hm : m none = Builtin.SmallTypes.stopIteration) : wpAny (model prog w) A (Builtin.SmallTypes.nextOrEnd (.ref i2) >>= m) R E s := by
  refine wpAny_bind (ask_end hh h2 hl2 hy fun h' u => ?_)
  rw [hm]
  exact stop_run hh fun h'' e k ho => hE h'' e (fun c o c1 x => k c o (u c o c1 x)) ho
/-- the next pair, the tuple of the one ahead given back -/
theorem zs_item {z TI TO i1 i2 l1 l2 : Addr} {k1 k2 : Nat} {xs ys : Array Value} {x y a b : Value} {Q : Value → Shared → Prop} (D : ZipApart z TI TO i1 i2 l1 l2)
    (hz : IsZs s.heap z TI TO .none false) (hTI : IsPair s.heap TI (.ref i1) (.ref i2)) (hTO : IsPair s.heap TO a b)
    (h1 : s.heap.IsListIter i1 l1 k1) (h2 : s.heap.IsListIter i2 l2 k2) (hl1 : s.heap.IsList l1 xs) (hl2 : s.heap.IsList l2 ys) (hx : xs[k1]? = some x) (hy : ys[k2]? = some y)
    (hQ : ∀ h', IsZs h' z TI TO (rawInt s.heap.objs.size) false → IsPair h' TO x y → h'.IsListIter i1 l1 (k1 + 1) → h'.IsListIter i2 l2 (k2 + 1) → IsPair h' s.heap.objs.size x y → h'.objs.size = s.heap.objs.size + 1 →
      (∀ c o, c ≠ z → c ≠ TO → c ≠ i1 → c ≠ i2 → s.heap.get? c = some o → h'.get? c = some o) → Q (.ref s.heap.objs.size) { s with heap := h' }) :
    wpAny (model prog w) A (Builtin.«zip.__next__» ⟨[.ref z], []⟩) (fun fin s' => ∃ v, fin = .done (.ret v) ∧ Q v s') E s := by
  show wpAny _ _ (field (.ref z) 2 >>= _) _ _ _
  refine wpAny_bind (wpAny_field hz rfl (x := .bool true) rfl ?_)
  show wpAny _ _ (field (.ref z) 3 >>= _) _ _ _
  refine wpAny_bind (wpAny_field hz rfl (x := .ref TI) rfl (wpAny_bind (wpAny_seqItems hTI rfl ?_)))
  show wpAny _ _ (Builtin.SmallTypes.ownedTupleIsFree (.ref z) >>= _) _ _ _
  refine wpAny_bind ?_
  unfold Builtin.SmallTypes.ownedTupleIsFree
  refine wpAny_bind (wpAny_field hz rfl (x := .none) rfl (wpAny_pure ?_))
  simp only [if_true]
  refine wpAny_bind (wpAny_rule (wpAny_bind (wpAny_field hz rfl (x := .ref TO) rfl ?_)))
  refine wpAny_bind (wpAny_setField_rec hz (by simp) fun g1 z1 u1 => ?_)
  replace z1 : IsZs g1 z TI TO .ellipsis false := z1
  refine wpAny_bind ?_
  simp only [List.zipIdx_cons, List.zipIdx_nil, List.forIn_cons, List.forIn_nil]
  refine wpAny_bind (wpAny_bind (wpAny_onRaise ?_))
  show wpAny _ _ (Builtin.SmallTypes.nextOrEnd (.ref i1)) _ _ _
  refine ask_item (s := { s with heap := g1 }) (h1.extBut u1.extBut D.i1z) (hl1.extBut u1.extBut D.l1z) hx fun g2 a2 u2 => ?_
  have t2 : IsPair g2 TO a b := u2.extBut _ _ D.TOi1 (u1.extBut _ _ D.TOz hTO)
  refine wpAny_bind (wpAny_seqItems t2 rfl (wpAny_bind (wpAny_updateSeq_pair t2 fun g3 t3 u3 => wpAny_bind (wpAny_letGo (wpAny_pure ?_)))))
  replace t3 : IsPair g3 TO x b := t3
  refine wpAny_bind (wpAny_bind (wpAny_onRaise ?_))
  show wpAny _ _ (Builtin.SmallTypes.nextOrEnd (.ref i2)) _ _ _
  refine ask_item (s := { s with heap := g3 }) (((h2.extBut u1.extBut D.i2z).extBut u2.extBut D.i12.symm).extBut u3.extBut D.TOi2.symm) (((hl2.extBut u1.extBut D.l2z).extBut u2.extBut D.l2i1).extBut u3.extBut D.l2TO) hy fun g4 a4 u4 => ?_
  have t4 : IsPair g4 TO x b := u4.extBut _ _ D.TOi2 t3
  refine wpAny_bind (wpAny_seqItems t4 rfl (wpAny_bind (wpAny_updateSeq_pair t4 fun g5 t5 u5 => wpAny_bind (wpAny_letGo (wpAny_pure (wpAny_pure ?_))))))
  replace t5 : IsPair g5 TO x y := t5
  refine wpAny_bind (wpAny_seqItems t5 rfl (wpAny_bind (wpAny_newTuple ?_)))
  have hsz : g5.objs.size = s.heap.objs.size := by rw [u5.1, u4.1, u3.1, u2.1, u1.1]
  have z5 : IsZs g5 z TI TO .ellipsis false := u5.extBut _ _ D.TOz.symm (u4.extBut _ _ D.i2z.symm (u3.extBut _ _ D.TOz.symm (u2.extBut _ _ D.i1z.symm z1)))
  have k5 : ∀ c o, c ≠ z → c ≠ TO → c ≠ i1 → c ≠ i2 → s.heap.get? c = some o → g5.get? c = some o := fun c o c1 c2 c3 c4 e => u5.extBut _ _ c2 (u4.extBut _ _ c4 (u3.extBut _ _ c2 (u2.extBut _ _ c3 (u1.extBut _ _ c1 e))))
  have b1 : g5.IsListIter i1 l1 (k1 + 1) := ((a2.extBut u3.extBut D.TOi1.symm).extBut u4.extBut D.i12).extBut u5.extBut D.TOi1.symm
  have b2 : g5.IsListIter i2 l2 (k2 + 1) := a4.extBut u5.extBut D.TOi2.symm
  have hzlt : z < g5.objs.size := Heap.lt_size z5
  show wpAny _ _ (Builtin.SmallTypes.ownedTupleHandOut (.ref z) (.ref g5.objs.size) >>= _) _ _ _
  refine wpAny_bind ?_
  unfold Builtin.SmallTypes.ownedTupleHandOut
  have z6 : IsZs (g5.push { cls := .type "tuple", data := .seq #[x, y] }) z TI TO .ellipsis false := Heap.get?_push_of_some _ z5
  refine wpAny_bind (wpAny_setField_rec z6 (by simp) fun g7 z7 u7 => ?_)
  replace z7 : IsZs g7 z TI TO (rawInt g5.objs.size) false := z7
  refine wpAny_setField_rec z7 (by simp) fun g8 z8 u8 => ?_
  replace z8 : IsZs g8 z TI TO (rawInt g5.objs.size) false := z8
  have up : ∀ c o, c ≠ z → g5.get? c = some o → g8.get? c = some o := fun c o c1 e => u8.extBut _ _ c1 (u7.extBut _ _ c1 (Heap.get?_push_of_some _ e))
  have t8 : IsPair g8 g5.objs.size x y := u8.extBut _ _ (Nat.ne_of_gt hzlt) (u7.extBut _ _ (Nat.ne_of_gt hzlt) (Heap.get?_push_size _ rfl))
  have sz8 : g8.objs.size = g5.objs.size + 1 := by rw [u8.1, u7.1, Heap.size_push]
  rw [hsz] at z8 t8 sz8
  refine wpAny_pure ⟨_, rfl, ?_⟩
  show Q (.ref g5.objs.size) _
  rw [hsz]
  exact hQ g8 z8 (up _ _ D.TOz t5) (b1.at fun o e => up _ o D.i1z e) (b2.at fun o e => up _ o D.i2z e) t8 sz8 fun c o c1 c2 c3 c4 e => up c o c1 (k5 c o c1 c2 c3 c4 e)
/-- the pairs' end, both lists at theirs -/
theorem zs_end {z TI TO i1 i2 l1 l2 : Addr} {k1 k2 : Nat} {xs ys : Array Value} {a b : Value} {Q : Fin → Shared → Prop} (hh : A.handled = none) (D : ZipApart z TI TO i1 i2 l1 l2)
    (hz : IsZs s.heap z TI TO .none false) (hTI : IsPair s.heap TI (.ref i1) (.ref i2)) (hTO : IsPair s.heap TO a b)
    (h1 : s.heap.IsListIter i1 l1 k1) (h2 : s.heap.IsListIter i2 l2 k2) (hl1 : s.heap.IsList l1 xs) (hl2 : s.heap.IsList l2 ys) (hx : xs[k1]? = none) (hy : ys[k2]? = none)
    (hE : ∀ h' e, (∀ c o, c ≠ z → c ≠ i1 → c ≠ i2 → s.heap.get? c = some o → h'.get? c = some o) → (∃ o, h'.get? e = some o ∧ o.cls = .type "StopIteration") → E (.ref e) { s with heap := h' }) :
    wpAny (model prog w) A (Builtin.«zip.__next__» ⟨[.ref z], []⟩) Q E s := by
  show wpAny _ _ (field (.ref z) 2 >>= _) _ _ _
  refine wpAny_bind (wpAny_field hz rfl (x := .bool true) rfl ?_)
  show wpAny _ _ (field (.ref z) 3 >>= _) _ _ _
  refine wpAny_bind (wpAny_field hz rfl (x := .ref TI) rfl (wpAny_bind (wpAny_seqItems hTI rfl ?_)))
  show wpAny _ _ (Builtin.SmallTypes.ownedTupleIsFree (.ref z) >>= _) _ _ _
  refine wpAny_bind ?_
  unfold Builtin.SmallTypes.ownedTupleIsFree
  refine wpAny_bind (wpAny_field hz rfl (x := .none) rfl (wpAny_pure ?_))
  simp only [if_true]
  refine wpAny_bind (wpAny_rule (wpAny_bind (wpAny_field hz rfl (x := .ref TO) rfl ?_)))
  refine wpAny_bind (wpAny_setField_rec hz (by simp) fun g1 z1 u1 => ?_)
  replace z1 : IsZs g1 z TI TO .ellipsis false := z1
  refine wpAny_bind ?_
  simp only [List.zipIdx_cons, List.zipIdx_nil, List.forIn_cons, List.forIn_nil]
  refine wpAny_bind (wpAny_bind (wpAny_onRaise ?_))
  show wpAny _ _ (Builtin.SmallTypes.nextOrEnd (.ref i1)) _ _ _
  refine ask_end (s := { s with heap := g1 }) hh (h1.extBut u1.extBut D.i1z) (hl1.extBut u1.extBut D.l1z) hx fun g2 u2 => ?_
  have z2 : IsZs g2 z TI TO .ellipsis false := u2 _ _ D.i1z.symm z1
  refine wpAny_bind (wpAny_setField_rec z2 (by simp) fun g3 z3 u3 => ?_)
  refine wpAny_bind ?_
  wp_delta
  rw [if_neg (by decide)]
  show wpAny _ _ (forIn [(Value.ref i2, 1)] PUnit.unit _ >>= _) _ _ _
  simp only [List.forIn_cons, List.forIn_nil]
  refine wpAny_bind (wpAny_bind (wpAny_bind (ask_end (s := { s with heap := g3 }) hh ((((h2.extBut u1.extBut D.i2z).extBut u2 D.i12.symm)).extBut u3.extBut D.i2z) (((hl2.extBut u1.extBut D.l2z).extBut u2 D.l2i1).extBut u3.extBut D.l2z) hy fun g4 u4 => ?_)))
  rw [if_neg (by simp)]
  refine wpAny_pure (wpAny_pure (wpAny_bind (wpAny_rule (stop_run (s := { s with heap := g4 }) hh fun h' e k ho => hE h' e (fun c o c1 c2 c3 x => k c o (u4 c o c3 (u3.extBut c o c1 (u2 c o c2 (u1.extBut c o c1 x))))) ho))))

abbrev IsZsHeld (h : Heap) (z TI TO T : Addr) (f : Bool) : Prop :=
  h.get? z = some { cls := .type "zip", dict := none, data := .fields #[rawInt T, .bool f, .bool true, .ref TI, .ref TO], slots := #[] }
theorem held_zs {z TI TO T : Addr} {f : Bool} {oT : Obj} {Q : Bool → Shared → Prop} (hz : IsZsHeld s.heap z TI TO T f) (hT : s.heap.get? T = some oT)
    (h : ∀ h', IsZsHeld h' z TI TO T true → Heap.SameBut z s.heap h' → Q false { s with heap := h' }) : wpAny (model prog w) A (Builtin.SmallTypes.ownedTupleIsFree (.ref z)) Q E s := by
  unfold Builtin.SmallTypes.ownedTupleIsFree
  refine wpAny_bind (wpAny_field hz rfl (x := rawInt T) rfl ?_)
  show wpAny _ _ (loadIfAlive ((T : Int).toNat) >>= _) _ _ _
  rw [Int.toNat_natCast]
  refine wpAny_bind (PySem.W.kdx_alive hT ?_)
  simp only [Option.isNone_some, Bool.false_eq_true, if_false]
  refine wpAny_bind (wpAny_field hz rfl (x := .bool f) rfl ?_)
  cases f with
  | true =>
    rw [if_neg (show ¬ ((Value.bool true != Value.bool true) = true) from Bool.false_ne_true)]
    exact wpAny_pure (h s.heap hz (Heap.SameBut.refl _ _))
  | false =>
    rw [if_pos (show (Value.bool false != Value.bool true) = true from rfl)]
    exact wpAny_bind (wpAny_setField_rec hz (by simp) fun h₁ hz₁ hs₁ => wpAny_pure (h h₁ hz₁ hs₁))
theorem zs_item_held {z TI TO T i1 i2 l1 l2 : Addr} {f : Bool} {oT : Obj} {k1 k2 : Nat} {xs ys : Array Value} {x y : Value} {Q : Value → Shared → Prop} (D : ZipApart z TI TO i1 i2 l1 l2)
    (hz : IsZsHeld s.heap z TI TO T f) (hT : s.heap.get? T = some oT) (hTI : IsPair s.heap TI (.ref i1) (.ref i2))
    (h1 : s.heap.IsListIter i1 l1 k1) (h2 : s.heap.IsListIter i2 l2 k2) (hl1 : s.heap.IsList l1 xs) (hl2 : s.heap.IsList l2 ys) (hx : xs[k1]? = some x) (hy : ys[k2]? = some y)
    (hQ : ∀ h', IsZsHeld h' z TI TO T true → h'.IsListIter i1 l1 (k1 + 1) → h'.IsListIter i2 l2 (k2 + 1) → IsPair h' s.heap.objs.size x y → h'.objs.size = s.heap.objs.size + 1 →
      (∀ c o, c ≠ z → c ≠ i1 → c ≠ i2 → s.heap.get? c = some o → h'.get? c = some o) → Q (.ref s.heap.objs.size) { s with heap := h' }) :
    wpAny (model prog w) A (Builtin.«zip.__next__» ⟨[.ref z], []⟩) (fun fin s' => ∃ v, fin = .done (.ret v) ∧ Q v s') E s := by
  show wpAny _ _ (field (.ref z) 2 >>= _) _ _ _
  refine wpAny_bind (wpAny_field hz rfl (x := .bool true) rfl ?_)
  show wpAny _ _ (field (.ref z) 3 >>= _) _ _ _
  refine wpAny_bind (wpAny_field hz rfl (x := .ref TI) rfl ?_)
  refine wpAny_bind (wpAny_seqItems hTI rfl ?_)
  show wpAny _ _ (Builtin.SmallTypes.ownedTupleIsFree (.ref z) >>= _) _ _ _
  refine wpAny_bind (held_zs hz hT fun h₁ hz₁ hs₁ => ?_)
  simp only [Bool.false_eq_true, if_false]
  refine wpAny_bind ?_
  rw [← Array.forIn_toList]
  simp only [List.forIn_cons, List.forIn_nil]
  refine wpAny_bind (wpAny_bind (wpAny_holding ?_))
  show wpAny _ _ (Builtin.SmallTypes.nextOrEnd (.ref i1)) _ _ _
  refine ask_item (s := { s with heap := h₁ }) (h1.extBut hs₁.extBut D.i1z) (hl1.extBut hs₁.extBut D.l1z) hx fun h₂ h1₂ hs₂ => ?_
  refine wpAny_pure ?_
  refine wpAny_bind (wpAny_bind (wpAny_holding ?_))
  show wpAny _ _ (Builtin.SmallTypes.nextOrEnd (.ref i2)) _ _ _
  refine ask_item (s := { s with heap := h₂ }) ((h2.extBut hs₁.extBut D.i2z).extBut hs₂.extBut D.i12.symm) ((hl2.extBut hs₁.extBut D.l2z).extBut hs₂.extBut D.l2i1) hy fun h₃ h2₃ hs₃ => ?_
  refine wpAny_pure (wpAny_pure ?_)
  show wpAny _ _ (newTuple [x, y] >>= _) _ _ _
  refine wpAny_bind (wpAny_newTuple ?_)
  have hsz : h₃.objs.size = s.heap.objs.size := by rw [hs₃.1, hs₂.1, hs₁.1]
  have hz₃ : IsZsHeld h₃ z TI TO T true := hs₃.extBut _ _ D.i2z.symm (hs₂.extBut _ _ D.i1z.symm hz₁)
  have hk : ∀ c o, c ≠ z → c ≠ i1 → c ≠ i2 → s.heap.get? c = some o → h₃.get? c = some o := fun c o c1 c2 c3 e => hs₃.extBut _ _ c3 (hs₂.extBut _ _ c2 (hs₁.extBut _ _ c1 e))
  have h1₃ : h₃.IsListIter i1 l1 (k1 + 1) := h1₂.extBut hs₃.extBut D.i12
  refine wpAny_pure ⟨_, rfl, ?_⟩
  show Q (.ref h₃.objs.size) _
  have hp : IsPair (h₃.push { cls := .type "tuple", data := .seq #[x, y] }) h₃.objs.size x y := Heap.get?_push_size _ rfl
  have hz4 : (h₃.push { cls := .type "tuple", data := .seq #[x, y] }).objs.size = h₃.objs.size + 1 := Heap.size_push ..
  rw [hsz] at hp hz4 ⊢
  exact hQ _ (Heap.get?_push_of_some _ hz₃) (h1₃.at fun o e => Heap.get?_push_of_some _ e) (h2₃.at fun o e => Heap.get?_push_of_some _ e) hp hz4 fun c o c1 c2 c3 e => Heap.get?_push_of_some _ (hk c o c1 c2 c3 e)
theorem zs_end_held {z TI TO T i1 i2 l1 l2 : Addr} {f : Bool} {oT : Obj} {k1 k2 : Nat} {xs ys : Array Value} {Q : PySem.Fin → Shared → Prop} (hh : A.handled = none) (D : ZipApart z TI TO i1 i2 l1 l2)
    (hz : IsZsHeld s.heap z TI TO T f) (hT : s.heap.get? T = some oT) (hTI : IsPair s.heap TI (.ref i1) (.ref i2))
    (h1 : s.heap.IsListIter i1 l1 k1) (h2 : s.heap.IsListIter i2 l2 k2) (hl1 : s.heap.IsList l1 xs) (hl2 : s.heap.IsList l2 ys) (hx : xs[k1]? = none) (hy : ys[k2]? = none)
    (hE : ∀ h' e, (∀ c o, c ≠ z → c ≠ i1 → c ≠ i2 → s.heap.get? c = some o → h'.get? c = some o) → (∃ o, h'.get? e = some o ∧ o.cls = .type "StopIteration") → E (.ref e) { s with heap := h' }) :
    wpAny (model prog w) A (Builtin.«zip.__next__» ⟨[.ref z], []⟩) Q E s := by
  show wpAny _ _ (field (.ref z) 2 >>= _) _ _ _
  refine wpAny_bind (wpAny_field hz rfl (x := .bool true) rfl ?_)
  show wpAny _ _ (field (.ref z) 3 >>= _) _ _ _
  refine wpAny_bind (wpAny_field hz rfl (x := .ref TI) rfl ?_)
  refine wpAny_bind (wpAny_seqItems hTI rfl ?_)
  show wpAny _ _ (Builtin.SmallTypes.ownedTupleIsFree (.ref z) >>= _) _ _ _
  refine wpAny_bind (held_zs hz hT fun h₁ hz₁ hs₁ => ?_)
  simp only [Bool.false_eq_true, if_false]
  refine wpAny_bind ?_
  rw [← Array.forIn_toList]
  simp only [List.forIn_cons, List.forIn_nil]
  refine wpAny_bind (wpAny_bind (wpAny_holding ?_))
  show wpAny _ _ (Builtin.SmallTypes.nextOrEnd (.ref i1)) _ _ _
  refine ask_end (s := { s with heap := h₁ }) hh (h1.extBut hs₁.extBut D.i1z) (hl1.extBut hs₁.extBut D.l1z) hx fun h₂ hs₂ => ?_
  refine wpAny_bind ?_
  wp_delta
  rw [if_neg (by decide)]
  show wpAny _ _ (forIn [(Value.ref i2, 1)] PUnit.unit _ >>= _) _ _ _
  simp only [List.forIn_cons, List.forIn_nil]
  refine wpAny_bind (wpAny_bind (wpAny_bind (ask_end (s := { s with heap := h₂ }) hh ((h2.extBut hs₁.extBut D.i2z).extBut hs₂ D.i12.symm) ((hl2.extBut hs₁.extBut D.l2z).extBut hs₂ D.l2i1) hy fun g4 u4 => ?_)))
  rw [if_neg (by simp)]
  refine wpAny_pure (wpAny_pure (wpAny_bind (wpAny_rule (stop_run (s := { s with heap := g4 }) hh fun h' e k ho => hE h' e (fun c o c1 c2 c3 x => k c o (u4 c o c3 (hs₂ c o c2 (hs₁.extBut c o c1 x)))) ho))))

/-- as it stands at turn k: the pair of the turn before is held, or none was given -/
def ZsSt (z TI TO i1 i2 : Addr) (l1 l2 : Addr) (k : Nat) (h : Heap) : Prop :=
  IsPair h TI (.ref i1) (.ref i2) ∧ h.IsListIter i1 l1 k ∧ h.IsListIter i2 l2 k ∧ ((IsZs h z TI TO .none false ∧ ∃ a b, IsPair h TO a b) ∨ ∃ T f oT, IsZsHeld h z TI TO T f ∧ h.get? T = some oT ∧ T ≠ z ∧ T ≠ i1 ∧ T ≠ i2)
theorem ZsSt.typeIs {z TI TO i1 i2 l1 l2 : Addr} {k : Nat} (h : ZsSt z TI TO i1 i2 l1 l2 k s.heap) : s.TypeIs (.ref z) "zip" := by
  obtain ⟨_, _, _, ⟨hz, _⟩ | ⟨T, f, oT, hz, _⟩⟩ := h
  · exact ⟨_, hz, rfl⟩
  · exact ⟨_, hz, rfl⟩
abbrev StopAt (e : Value) (s' : Shared) : Prop := ∃ a o, e = .ref a ∧ s'.heap.get? a = some o ∧ o.cls = .type "StopIteration"
theorem next_of_zip {z : Addr} {Q : Option Value → Shared → Prop} (hTy : s.TypeIs (.ref z) "zip") (h : wpAny (model prog w) A.in1 (Builtin.«zip.__next__» ⟨[.ref z], []⟩) (fun fin s' => ∃ v, fin = .done (.ret v) ∧ Q (some v) s') (fun e s' => StopAt e s' ∧ Q none s') s) : wpAny (model prog w) A (pyNext (.ref z)) Q E s := by
  unfold pyNext
  refine wpAny_bind (wpAny_attempt (wpAny_callSpecial?_slot (name := Str.ofString "__next__") hTy F.slot_zip_next
    (wpAny_call_entry F.slot_zip_next hTy F.entry_zip_next (wpAny_mono h (fun fin s' ⟨v, e, q⟩ => ⟨v, e, wpAny_pure q⟩) fun e s' ⟨⟨a, o, ea, ho, hc⟩, q⟩ => ?_) (F.args_zip_next_1 _))))
  subst ea
  exact wpAny_bind (wpAny_isInstance (T := "StopIteration") (b := true) ⟨o, ho, hc⟩ isSubtype_stop (wpAny_pure q))
/-- the next pair, held or not -/
theorem next_item {z TI TO i1 i2 l1 l2 : Addr} {k : Nat} {xs ys : Array Value} {x y : Value} {Q : Option Value → Shared → Prop} (D : ZipApart z TI TO i1 i2 l1 l2) (st : ZsSt z TI TO i1 i2 l1 l2 k s.heap)
    (hl1 : s.heap.IsList l1 xs) (hl2 : s.heap.IsList l2 ys) (hx : xs[k]? = some x) (hy : ys[k]? = some y)
    (hQ : ∀ h', ZsSt z TI TO i1 i2 l1 l2 (k + 1) h' → IsPair h' s.heap.objs.size x y → h'.objs.size = s.heap.objs.size + 1 →
      (∀ c o, c ≠ z → c ≠ TO → c ≠ i1 → c ≠ i2 → s.heap.get? c = some o → h'.get? c = some o) → Q (some (.ref s.heap.objs.size)) { s with heap := h' }) : wpAny (model prog w) A (pyNext (.ref z)) Q E s := by
  refine next_of_zip st.typeIs ?_
  obtain ⟨hTI, h1, h2, hz⟩ := st
  have lt : ∀ {c o}, s.heap.get? c = some o → s.heap.objs.size ≠ c := fun e => Nat.ne_of_gt (Heap.lt_size e)
  have n1 : s.heap.objs.size ≠ i1 := let ⟨_, e, _⟩ := h1; lt e
  have n2 : s.heap.objs.size ≠ i2 := let ⟨_, e, _⟩ := h2; lt e
  rcases hz with ⟨hz, a, b, hTO⟩ | ⟨T, f, oT, hz, hT, r1, r2, r3⟩
  · refine zs_item D hz hTI hTO h1 h2 hl1 hl2 hx hy fun h' a1 a2 a3 a4 a5 a6 hk => ?_
    exact hQ h' ⟨hk _ _ D.TIz D.TITO D.TIi1 D.TIi2 hTI, a3, a4, .inr ⟨_, false, _, a1, a5, lt hz, n1, n2⟩⟩ a5 a6 hk
  · by_cases c : T = TO
    · subst c
      refine zs_item_held D hz hT hTI h1 h2 hl1 hl2 hx hy fun h' a1 a3 a4 a5 a6 hk => ?_
      exact hQ h' ⟨hk _ _ D.TIz D.TIi1 D.TIi2 hTI, a3, a4, .inr ⟨T, true, oT, a1, hk _ _ r1 r2 r3 hT, r1, r2, r3⟩⟩ a5 a6 fun c o c1 _ c3 c4 e => hk c o c1 c3 c4 e
    · refine zs_item_held D hz hT hTI h1 h2 hl1 hl2 hx hy fun h' a1 a3 a4 a5 a6 hk => ?_
      exact hQ h' ⟨hk _ _ D.TIz D.TIi1 D.TIi2 hTI, a3, a4, .inr ⟨T, true, oT, a1, hk _ _ r1 r2 r3 hT, r1, r2, r3⟩⟩ a5 a6 fun c o c1 _ c3 c4 e => hk c o c1 c3 c4 e
theorem next_end {z TI TO i1 i2 l1 l2 : Addr} {k : Nat} {xs ys : Array Value} {Q : Option Value → Shared → Prop} (hh : A.handled = none) (D : ZipApart z TI TO i1 i2 l1 l2) (st : ZsSt z TI TO i1 i2 l1 l2 k s.heap)
    (hl1 : s.heap.IsList l1 xs) (hl2 : s.heap.IsList l2 ys) (hx : xs[k]? = none) (hy : ys[k]? = none)
    (hQ : ∀ h', (∀ c o, c ≠ z → c ≠ i1 → c ≠ i2 → s.heap.get? c = some o → h'.get? c = some o) → Q none { s with heap := h' }) : wpAny (model prog w) A (pyNext (.ref z)) Q E s := by
  refine next_of_zip st.typeIs ?_
  obtain ⟨hTI, h1, h2, hz⟩ := st
  rcases hz with ⟨hz, a, b, hTO⟩ | ⟨T, f, oT, hz, hT, r1, r2, r3⟩
  · exact zs_end hh D hz hTI hTO h1 h2 hl1 hl2 hx hy fun h' e k ⟨o, ho, hc⟩ => ⟨⟨e, o, rfl, ho, hc⟩, hQ h' k⟩
  · exact zs_end_held hh D hz hT hTI h1 h2 hl1 hl2 hx hy fun h' e k ⟨o, ho, hc⟩ => ⟨⟨e, o, rfl, ho, hc⟩, hQ h' k⟩
/-- the tuple unpacked is given back -/
theorem letgo_zs {elts : List Expr} {x1} {pos : Pos} {z TI TO T : Addr} {Q : Unit → Shared → Prop} (hz : IsZs s.heap z TI TO (rawInt T) false)
    (hQ : ∀ h', IsZs h' z TI TO .none false → Heap.SameBut z s.heap h' → Q () { s with heap := h' }) :
    wpAny (model prog w) A (letOwnedTupleGo (.Tuple elts x1 pos) (.ref z) (.ref T)) Q E s := by
  unfold letOwnedTupleGo
  refine wpAny_bind (wpAny_load hz ?_)
  show wpAny _ _ (if (["enumerate", "zip", "dict_itemiterator", "dict_reverseitemiterator", "odict_iterator", "itertools.zip_longest", "itertools.pairwise"].contains "zip" &&
      (#[rawInt T, .bool false, .bool true, .ref TI, .ref TO] : Array Value)[0]? == some (rawInt T)) = true then _ else _) Q E s
  rw [if_pos (by simp)]
  refine wpAny_bind (wpAny_rule ?_)
  show wpAny _ _ (setField (.ref z) 0 .none) Q E s
  exact wpAny_setField_rec hz (by simp) fun h' hz' hs' => hQ h' hz' hs'
theorem iter_zs {z : Addr} {Q : Value → Shared → Prop} (hT : s.TypeIs (.ref z) "zip") (h : Q (.ref z) s) : wpAny (model prog w) A (pyIter (.ref z)) Q E s := by
  refine wpAny_pyIter_slot hT F.slot_zip_iter (wpAny_call_entry F.slot_zip_iter hT F.entry_zip_iter ?_ (F.args_zip_iter_1 _))
  show wpAny _ _ (ret (.ref z)) _ _ s
  exact wpAny_pure ⟨_, rfl, "zip", _, hT, F.slot_zip_next.lookup, h⟩
/-! ### zip(a, b, strict=True) -/
theorem typeCall_zs (a b c : Value) : checkTypeCall "zip" ⟨[a, b], [(Str.ofString "strict", c)]⟩ = pure () := by kernel_rfl
theorem newCall_zs (a b c : Value) : checkBuiltinCall "zip.__new__" ⟨[.type "zip", a, b], [(Str.ofString "strict", c)]⟩ = pure () := by kernel_rfl
theorem args_zs (obj a b c : Value) : argsOk "object.__init__" ⟨[obj, a, b], [(Str.ofString "strict", c)]⟩ := by unfold argsOk; kernel_rfl
abbrev zsH5 (h : Heap) (l1 l2 : Addr) : Heap := (zipH4 h l1 l2).push { cls := .type "zip", data := .fields #[.none, .bool false, .bool true, .ref (zipH2 h l1 l2).objs.size, .ref (zipH3 h l1 l2).objs.size] }
set_option maxHeartbeats 1000000 in
theorem meets_zs (l1 l2 : Addr) (xs ys : Array Value) :
    Meets (Builtin.«zip.__new__» ⟨[.type "zip", .ref l1, .ref l2], [(Str.ofString "strict", .bool true)]⟩) (fun _ R s => s.heap.IsList l1 xs ∧ s.heap.IsList l2 ys ∧
      R (.ok (.ret (.ref (zipH4 s.heap l1 l2).objs.size))) { s with heap := zsH5 s.heap l1 l2 }) :=
  .of_wp fun prog w A R s h => by
    obtain ⟨hp, g, d, tk, os⟩ := s; obtain ⟨hl1, hl2, h⟩ := h
    have hsub := sub_zip
    have hL1 : Heap.IsList (Shared.heap ⟨hp, g, d, tk, os⟩) l1 xs := hl1
    have hL2 : Heap.IsList (Shared.heap ⟨hp.push { cls := .type "list_iterator", data := .fields #[.ref l1, .int 0 0] }, g, d, tk, os⟩) l2 ys := Heap.IsList.push hl2 _
    have e1 : (Str.ofString "strict" != ("strict" : Str)) = false := by decide +kernel
    have e2 : (Str.ofString "strict" == ("strict" : Str)) = true := by decide +kernel
    wp_walk using wpAny_pyIter_list hL1, wpAny_pyIter_list hL2
    exact ⟨_, rfl, h⟩
theorem call_zs {l1 l2 : Addr} {xs ys : Array Value} {Q : Value → Shared → Prop} (hl1 : s.heap.IsList l1 xs) (hl2 : s.heap.IsList l2 ys)
    (h : ∀ h', IsZs h' (s.heap.objs.size + 4) (s.heap.objs.size + 2) (s.heap.objs.size + 3) .none false → IsPair h' (s.heap.objs.size + 2) (.ref s.heap.objs.size) (.ref (s.heap.objs.size + 1)) →
      IsPair h' (s.heap.objs.size + 3) .none .none → h'.IsListIter s.heap.objs.size l1 0 → h'.IsListIter (s.heap.objs.size + 1) l2 0 → h'.objs.size = s.heap.objs.size + 5 →
      (∀ c o, s.heap.get? c = some o → h'.get? c = some o) → Q (.ref (s.heap.objs.size + 4)) { s with heap := h' }) :
    wpAny (model prog w) A (call (.type "zip") [.ref l1, .ref l2] [(Str.ofString "strict", .bool true)]) Q E s := by
  refine callType_newKw F.called_zip (by decide) (typeCall_zs _ _ _) (newCall_zs _ _ _) (fun obj => args_zs obj _ _ _) F.entry_zip_new
    (meets_zs l1 l2 xs ys) ⟨hl1, hl2, ?_⟩
  have z1 : (zipH1 s.heap l1).objs.size = s.heap.objs.size + 1 := Heap.size_push ..
  have z2 : (zipH2 s.heap l1 l2).objs.size = s.heap.objs.size + 2 := by rw [Heap.size_push, z1]
  have z3 : (zipH3 s.heap l1 l2).objs.size = s.heap.objs.size + 3 := by rw [Heap.size_push, z2]
  have z4 : (zipH4 s.heap l1 l2).objs.size = s.heap.objs.size + 4 := by rw [Heap.size_push, z3]
  have z5 : (zsH5 s.heap l1 l2).objs.size = s.heap.objs.size + 5 := by rw [Heap.size_push, z4]
  have g5 : (zsH5 s.heap l1 l2).get? (zipH4 s.heap l1 l2).objs.size = some _ := Heap.get?_push_size _ rfl
  have g4 : (zsH5 s.heap l1 l2).get? (zipH3 s.heap l1 l2).objs.size = some _ := Heap.get?_push_of_some _ (Heap.get?_push_size _ rfl)
  have g3 : (zsH5 s.heap l1 l2).get? (zipH2 s.heap l1 l2).objs.size = some _ := Heap.get?_push_of_some _ (Heap.get?_push_of_some _ (Heap.get?_push_size _ rfl))
  have g2 : (zsH5 s.heap l1 l2).get? (zipH1 s.heap l1).objs.size = some _ := Heap.get?_push_of_some _ (Heap.get?_push_of_some _ (Heap.get?_push_of_some _ (Heap.get?_push_size _ rfl)))
  have g1 : (zsH5 s.heap l1 l2).get? s.heap.objs.size = some _ := Heap.get?_push_of_some _ (Heap.get?_push_of_some _ (Heap.get?_push_of_some _ (Heap.get?_push_of_some _ (Heap.get?_push_size _ rfl))))
  show _ ∧ _
  rw [z2, z3, z4] at g5
  rw [z1, z2] at g3
  rw [z3] at g4
  rw [z1] at g2
  rw [z4]
  exact ⟨⟨_, g5, rfl⟩, h _ g5 g3 g4 ⟨_, g1, rfl, rfl⟩ ⟨_, g2, rfl, rfl⟩ z5 fun c o x =>
    Heap.get?_push_of_some _ (Heap.get?_push_of_some _ (Heap.get?_push_of_some _ (Heap.get?_push_of_some _ (Heap.get?_push_of_some _ x))))⟩
end
end K22

set_option Elab.async false
set_option linter.all false
set_option maxRecDepth 100000
set_option maxHeartbeats 6400000
/-! Z3: list(zip(a, b, strict=True)); loops over zip(a, b, strict=True). -/
namespace K22
open PySem PySem.Spec PyProof.Rows L2
open PySem.Sem (wp)
/-- the pairs that were made so far -/
structure PrG (xs ys : Array Value) (lo : Addr) (h : Heap) (as : List Addr) : Prop where
  rise : as.Pairwise (· < ·)
  above : ∀ a ∈ as, lo < a
  pairs : ∀ (j : Nat) (a : Addr), as[j]? = some a → ∃ x y, xs[j]? = some x ∧ ys[j]? = some y ∧ IsPair h a x y
theorem PrG.there {xs ys : Array Value} {lo : Addr} {h : Heap} {as : List Addr} (g : PrG xs ys lo h as) {a : Addr} (ha : a ∈ as) : a < h.objs.size := by
  obtain ⟨j, hj⟩ := List.mem_iff_getElem?.mp ha
  obtain ⟨_, _, _, _, e⟩ := g.pairs j a hj
  exact Heap.lt_size e
theorem ZsSt.keep {z TI TO i1 i2 l1 l2 S : Addr} {k : Nat} {h h' : Heap} (st : ZsSt z TI TO i1 i2 l1 l2 k h) (hS : S ≠ z ∧ S ≠ TI ∧ S ≠ TO ∧ S ≠ i1 ∧ S ≠ i2) (hk : ∀ b o, b ≠ S → h.get? b = some o → h'.get? b = some o) (hkS : ∃ o', h'.get? S = some o') : ZsSt z TI TO i1 i2 l1 l2 k h' := by
  obtain ⟨hTI, h1, h2, hz⟩ := st
  obtain ⟨s1, s2, s3, s4, s5⟩ := hS
  refine ⟨hk _ _ (Ne.symm s2) hTI, h1.at fun o e => hk _ o (Ne.symm s4) e, h2.at fun o e => hk _ o (Ne.symm s5) e, ?_⟩
  rcases hz with ⟨hz, a, b, hTO⟩ | ⟨T, f, oT, hz, hT, r1, r2, r3⟩
  · exact .inl ⟨hk _ _ (Ne.symm s1) hz, a, b, hk _ _ (Ne.symm s3) hTO⟩
  · by_cases c : T = S
    · subst c
      obtain ⟨o', e⟩ := hkS
      exact .inr ⟨T, f, o', hk _ _ (Ne.symm s1) hz, e, r1, r2, r3⟩
    · exact .inr ⟨T, f, oT, hk _ _ (Ne.symm s1) hz, hk _ _ c hT, r1, r2, r3⟩
theorem gt {a b c : Nat} (h : a ≤ b) (g : b < c) : c ≠ a := Nat.ne_of_gt (Nat.lt_of_le_of_lt h g)
section
variable {prog : Program} {w : World} {A : Around} {s : Shared} {R : Result → Shared → Prop} {xs ys : Array Value}
theorem zs_loop {S z TI TO i1 i2 l1 l2 lo : Addr} (hh : A.handled = none) (D : ZipApart z TI TO i1 i2 l1 l2) (hl : xs.size = ys.size) (hS5 : S ≠ z ∧ S ≠ TI ∧ S ≠ TO ∧ S ≠ i1 ∧ S ≠ i2) (hS1 : S ≠ l1) (hS2 : S ≠ l2) (hlo : S ≤ lo ∧ z ≤ lo ∧ TO ≤ lo ∧ i1 ≤ lo ∧ i2 ≤ lo) (hn : xs.size ≤ sizeLine) (res : Value) {h₁ : Heap}
    (hR : ∀ h' tk acc c as, (∀ b o, b ≠ S → b ≠ z → b ≠ TO → b ≠ i1 → b ≠ i2 → h₁.get? b = some o → h'.get? b = some o) → h'.get? S = some { cls := .type "list", dict := none, data := .seq acc c, slots := #[] } → as.length = xs.size → PrG xs ys lo h' as →
      acc.toList = as.map Value.ref → R (.ok (.ret res)) { s with heap := h', toks := tk }) :
    ∀ (k i : Nat) (h : Heap) (tk c : Nat) (acc : Array Value) (as : List Addr), xs.size - i = k → i ≤ xs.size → ZsSt z TI TO i1 i2 l1 l2 i h → h.IsList l1 xs → h.IsList l2 ys → (∀ b o, b ≠ S → b ≠ z → b ≠ TO → b ≠ i1 → b ≠ i2 → h₁.get? b = some o → h.get? b = some o) →
      h.get? S = some { cls := .type "list", dict := none, data := .seq acc c, slots := #[] } → acc.toList = as.map Value.ref → as.length = i → PrG xs ys lo h as → lo < h.objs.size →
      codeAny (model prog w) A (.builtin "list.extend.loop" ⟨[.ref S, .ref z, res], []⟩) R { s with heap := h, toks := tk } := by
  intro k
  induction k with
  | zero =>
    intro i h tk c acc as hk hi hst hL1 hL2 hkeep hS hacc hal hG hIs
    have hin : i = xs.size := by omega
    refine codeAny_builtin PySem.F.entry_extend_loop ?_
    rw [Around.under_plainId PySem.F.plain_extend_loop _]
    show wpAny _ A.in1 (pyNext (.ref z) >>= _) _ _ _
    refine wpAny_bind (next_end (s := { s with heap := h, toks := tk }) (A := A.in1) hh D hst hL1 hL2 (Array.getElem?_eq_none (by omega)) (Array.getElem?_eq_none (by omega)) fun h' he => ?_)
    refine wpAny_pure (hR h' tk acc c as (fun b o n1 n2 n3 n4 n5 e => he b o n2 n4 n5 (hkeep b o n1 n2 n3 n4 n5 e)) (he S _ hS5.1 hS5.2.2.2.1 hS5.2.2.2.2 hS) (by omega) ⟨hG.rise, hG.above, fun j a hj => ?_⟩ hacc)
    obtain ⟨x, y, e1, e2, e3⟩ := hG.pairs j a hj
    have hab := hG.above a (List.mem_of_getElem? hj)
    exact ⟨x, y, e1, e2, he a _ (gt hlo.2.1 hab) (gt hlo.2.2.2.1 hab) (gt hlo.2.2.2.2 hab) e3⟩
  | succ k ih =>
    intro i h tk c acc as hk hi hst hL1 hL2 hkeep hS hacc hal hG hIs
    have hlt : i < xs.size := by omega
    have hsz : acc.size = i := by rw [← Array.length_toList, hacc, List.length_map, hal]
    refine codeAny_builtin PySem.F.entry_extend_loop ?_
    rw [Around.under_plainId PySem.F.plain_extend_loop _]
    show wpAny _ A.in1 (pyNext (.ref z) >>= _) _ _ _
    have ex := Array.getElem?_eq_getElem hlt
    have ey := Array.getElem?_eq_getElem (show i < ys.size by omega)
    refine wpAny_bind (next_item (s := { s with heap := h, toks := tk }) (A := A.in1) D hst hL1 hL2 ex ey fun h' hst' ht hz hkp => ?_)
    dsimp only at ht hz hkp ⊢
    have hS' := hkp S _ hS5.1 hS5.2.2.1 hS5.2.2.2.1 hS5.2.2.2.2 hS
    have up : ∀ b o, b ≠ S → h'.get? b = some o → (h'.update S (Obj.mapSeq (·.push (Value.ref h.objs.size)))).get? b = some o := fun b o hb e => (Heap.get?_update_other _ _ (Ne.symm hb)).trans e
    have hSl : S < h.objs.size := Heap.lt_size hS
    show wpAny _ A.in1 (updateSeq S (·.push (Value.ref h.objs.size)) >>= _) _ _ _
    refine wpAny_bind ?_
    refine wpAny_updateSeq hS' rfl (wpAny_pure ⟨plainId_quiet PySem.F.plain_extend_loop _, ih (i + 1) _ tk _ (acc.push (Value.ref h.objs.size)) (as ++ [h.objs.size]) (by omega) hlt (hst'.keep hS5 up ⟨_, Heap.get?_update_self _ hS' rfl⟩)
      (hL1.at fun o e => up l1 o (Ne.symm hS1) (hkp l1 o D.l1z D.l1TO D.l1i1 D.l1i2 e)) (hL2.at fun o e => up l2 o (Ne.symm hS2) (hkp l2 o D.l2z D.l2TO D.l2i1 D.l2i2 e))
      (fun b o n1 n2 n3 n4 n5 e => up b o n1 (hkp b o n2 n3 n4 n5 (hkeep b o n1 n2 n3 n4 n5 e))) (Heap.get?_update_self _ hS' rfl) (by rw [Array.toList_push, hacc, List.map_append]; rfl) (by rw [List.length_append, hal]; rfl) ⟨?_, ?_, ?_⟩ ?_⟩) (by rw [hsz]; omega) (by show (acc.push (Value.ref h.objs.size)).size ≤ sizeLine + 1; rw [Array.size_push, hsz]; omega)
    · refine List.pairwise_append.mpr ⟨hG.rise, List.pairwise_singleton _ _, fun a ha b hb => ?_⟩
      rw [List.mem_singleton.mp hb]
      exact hG.there ha
    · intro a ha
      rcases List.mem_append.mp ha with ha | ha
      · exact hG.above a ha
      · rw [List.mem_singleton.mp ha]; exact hIs
    · intro j b hj
      rcases Nat.lt_trichotomy j as.length with h1 | h1 | h1
      · rw [List.getElem?_append_left h1] at hj
        obtain ⟨x, y, e1, e2, e3⟩ := hG.pairs j b hj
        have hb := hG.above b (List.mem_of_getElem? hj)
        exact ⟨x, y, e1, e2, up b _ (gt hlo.1 hb) (hkp b _ (gt hlo.2.1 hb) (gt hlo.2.2.1 hb) (gt hlo.2.2.2.1 hb) (gt hlo.2.2.2.2 hb) e3)⟩
      · subst h1
        have hb : h.objs.size = b := by simpa using hj
        subst hb
        exact ⟨_, _, by rw [hal]; exact ex, by rw [hal]; exact ey, up _ _ (Nat.ne_of_gt hSl) ht⟩
      · have hnone : (as ++ [h.objs.size])[j]? = none := List.getElem?_eq_none (by rw [List.length_append, List.length_singleton]; omega)
        rw [hnone] at hj; cases hj
    · have e : (h'.update S (Obj.mapSeq (·.push (Value.ref h.objs.size)))).get? h.objs.size = _ := up _ _ (Nat.ne_of_gt hSl) ht
      exact Nat.lt_trans hIs (Heap.lt_size e)
theorem zip_no_len : typeLookup (.type "zip") "__len__" = pure none := by rw [typeLookup_type, builtinLookup_eq_fast]; kernel_rfl
theorem zip_no_hint : typeLookup (.type "zip") "__length_hint__" = pure none := by rw [typeLookup_type, builtinLookup_eq_fast]; kernel_rfl
theorem call_list_zs {E : Value → Shared → Prop} {z TI TO i1 i2 l1 l2 : Addr} {Q : Value → Shared → Prop} (hh : A.handled = none) (D : ZipApart z TI TO i1 i2 l1 l2) (hl : xs.size = ys.size) (hn : xs.size ≤ sizeLine)
    (st : ZsSt z TI TO i1 i2 l1 l2 0 s.heap) (hL1 : s.heap.IsList l1 xs) (hL2 : s.heap.IsList l2 ys) (hlt : z < s.heap.objs.size ∧ TI < s.heap.objs.size ∧ TO < s.heap.objs.size ∧ i1 < s.heap.objs.size ∧ i2 < s.heap.objs.size ∧ l1 < s.heap.objs.size ∧ l2 < s.heap.objs.size)
    (hQ : ∀ h' tk acc c as, (∀ b o, b ≠ z → b ≠ TO → b ≠ i1 → b ≠ i2 → s.heap.get? b = some o → h'.get? b = some o) → h'.get? s.heap.objs.size = some { cls := .type "list", dict := none, data := .seq acc c, slots := #[] } → as.length = xs.size → PrG xs ys s.heap.objs.size h' as →
      acc.toList = as.map Value.ref → Q (.ref s.heap.objs.size) { s with heap := h', toks := tk }) :
    wpAny (model prog w) A (call (.type "list") [.ref z]) Q E s := by
  obtain ⟨lz, lTI, lTO, li1, li2, ll1, ll2⟩ := hlt
  have hSa : s.heap.objs.size ≠ z := Nat.ne_of_gt lz
  refine callType_codes (Q₁ := fun obj s₁ => obj = .ref s.heap.objs.size ∧ s₁ = { s with heap := s.heap.push { cls := .type "list", data := .seq #[] } }) F.called_list (F.typeCall_list_1 _) F.entry_list_init
    (code_list_new _ ⟨rfl, rfl⟩) fun obj s₁ h₁ => ?_
  obtain ⟨rfl, rfl⟩ := h₁
  have hS : (s.heap.push { cls := .type "list", data := .seq #[] }).get? s.heap.objs.size = some { cls := .type "list", data := .seq #[] } := Heap.get?_push_size _ rfl
  refine ⟨⟨_, hS, rfl⟩, F.args_list_init_2 _ _, ?_⟩
  show wpAny _ A.in1.in1 (do let old ← Builtin.List.listItems (.ref s.heap.objs.size); Builtin.List.listUpdate (.ref s.heap.objs.size) (fun _ => #[]); letGo old.toList.reverse; Builtin.List.listExtendWith (.ref s.heap.objs.size) (.ref z) .none) _ _ _
  refine wpAny_bind ?_
  unfold Builtin.List.listItems
  refine wpAny_bind (wpAny_seqItems hS rfl (wpAny_pure ?_))
  show wpAny _ A.in1.in1 (updateSeq s.heap.objs.size (fun _ => #[]) >>= fun _ => letGo (#[] : Array Value).toList.reverse >>= fun _ => Builtin.List.listExtendWith (.ref s.heap.objs.size) (.ref z) .none) _ _ _
  refine wpAny_bind (wpAny_updateSeq hS rfl ?_)
  have hS2 := Heap.get?_update_self (Obj.mapSeq (fun _ => (#[] : Array Value))) hS rfl
  refine wpAny_bind (wpAny_letGo ?_)
  unfold Builtin.List.listExtendWith
  have up : ∀ (h : Heap) (f : Obj → Obj), (∀ b o, s.heap.get? b = some o → h.get? b = some o) → ∀ b o, s.heap.get? b = some o → (h.update s.heap.objs.size f).get? b = some o := fun h f q b o e =>
    (Heap.get?_update_other _ _ (Ne.symm (Nat.ne_of_lt (Heap.lt_size e)))).trans (q b o e)
  have k1 : ∀ b o, s.heap.get? b = some o → (s.heap.push { cls := .type "list", data := .seq #[] }).get? b = some o := fun b o e => Heap.get?_push_of_some _ e
  have k2 := up _ (Obj.mapSeq (fun _ => (#[] : Array Value))) k1
  have S5 : s.heap.objs.size ≠ z ∧ s.heap.objs.size ≠ TI ∧ s.heap.objs.size ≠ TO ∧ s.heap.objs.size ≠ i1 ∧ s.heap.objs.size ≠ i2 := ⟨Nat.ne_of_gt lz, Nat.ne_of_gt lTI, Nat.ne_of_gt lTO, Nat.ne_of_gt li1, Nat.ne_of_gt li2⟩
  have zst : ∀ {h : Heap} {o : Obj}, (∀ b o, s.heap.get? b = some o → h.get? b = some o) → h.get? s.heap.objs.size = some o → ZsSt z TI TO i1 i2 l1 l2 0 h := fun {h o} q e => st.keep S5 (fun b o _ e => q b o e) ⟨o, e⟩
  have gty : ∀ {h : Heap} {o : Obj}, (∀ b o, s.heap.get? b = some o → h.get? b = some o) → h.get? s.heap.objs.size = some o → ({ s with heap := h } : Shared).TypeIs (.ref z) "zip" := fun {h o} q e => ZsSt.typeIs (s := { s with heap := h }) (zst q e)
  refine wpAny_bind (wpAny_typeOf (gty k2 hS2) ?_)
  have h1 : Builtin.List.listSameRef (.ref s.heap.objs.size) (.ref z) = false := by simp [Builtin.List.listSameRef, hSa]
  have h2 : (Value.type "zip" == Value.type "list") = false := by decide
  have h3 : (Value.type "zip" == Value.type "tuple") = false := by decide
  simp only [h1, h2, h3, Bool.or_false, Bool.false_eq_true, if_false]
  refine wpAny_bind (iter_zs (gty k2 hS2) ?_)
  refine wpAny_bind (wpAny_holding ?_)
  unfold Builtin.List.listLengthHint
  refine wpAny_bind (wpAny_specialOf (gty k2 hS2) zip_no_len ?_)
  show wpAny _ A.in1.in1 (specialOf (Value.ref z) (Str.ofString "__length_hint__") >>= _) _ _ _
  refine wpAny_bind (wpAny_specialOf (gty k2 hS2) zip_no_hint ?_)
  refine wpAny_pure ?_
  show wpAny _ A.in1.in1 (rule "list.extend.makes-room" >>= fun _ => Builtin.List.listTouch (.ref s.heap.objs.size) >>= fun _ =>
    again (.builtin "list.extend.loop" ⟨[.ref s.heap.objs.size, .ref z, .none], []⟩)) _ _ _
  refine wpAny_bind (wpAny_rule ?_)
  refine wpAny_bind ?_
  show wpAny _ A.in1.in1 (updateSeq s.heap.objs.size (·.push .none) >>= fun _ => updateSeq s.heap.objs.size (·.pop)) _ _ _
  refine wpAny_bind (wpAny_updateSeq hS2 rfl ?_)
  have hS3 := Heap.get?_update_self (Obj.mapSeq (·.push Value.none)) hS2 rfl
  refine wpAny_updateSeq (hz := by seq_fits) hS3 rfl ?_
  have hS4 := Heap.get?_update_self (Obj.mapSeq (·.pop)) hS3 rfl
  have k4 := up _ (Obj.mapSeq (·.pop)) (up _ (Obj.mapSeq (·.push Value.none)) k2)
  refine wpAny_pure ⟨plainId_quiet F.plain_extend_loop _, ?_⟩
  exact zs_loop (A := A.in1) (S := s.heap.objs.size) (lo := s.heap.objs.size) (h₁ := s.heap) (s := s) hh D hl S5 (Nat.ne_of_gt ll1) (Nat.ne_of_gt ll2) ⟨Nat.le_refl _, Nat.le_of_lt lz, Nat.le_of_lt lTO, Nat.le_of_lt li1, Nat.le_of_lt li2⟩ hn .none
    (fun h' tk acc c as hk hS' hla hG hacc => ⟨rfl, hQ h' tk acc c as (fun b o n2 n3 n4 n5 e => hk b o (Nat.ne_of_lt (Heap.lt_size e)) n2 n3 n4 n5 e) hS' hla hG hacc⟩)
    xs.size 0 _ s.toks _ #[] [] rfl (Nat.zero_le _) (zst k4 hS4) (hL1.at fun o e => k4 _ o e) (hL2.at fun o e => k4 _ o e) (fun b o _ _ _ _ _ e => k4 b o e) hS4 rfl rfl ⟨List.Pairwise.nil, (fun _ ha => nomatch ha), (fun j a hj => by simp at hj)⟩ (Heap.lt_size hS4)
end
end K22

set_option Elab.async false
set_option linter.all false
set_option maxRecDepth 100000
set_option maxHeartbeats 6400000
/-! Z4: zip(.., strict=True) as an iterable and as list(..), by values and by data. -/
namespace K22
open PySem PySem.Spec PyProof.Rows L2
open PySem.Sem (wp)
def Itzs (K : PySem.W.Frag) (a b : Addr) : It :=
  ⟨(Itz K a b).go, (Itz K a b).yld, fun i H => ∃ xs ys : List V, SqL K H a xs ∧ SqL K H b ys ∧ xs.length ≤ i ∧ ys.length ≤ i⟩
theorem turn_zs {P : Program} {w : World} {K : PySem.W.Frag} {elts : List Expr} {kk : Nat} {tpos : Pos} {a b z TI TO i1 i2 : Addr} (D : ZipApart z TI TO i1 i2 a b) :
    Turn P w K (.Tuple elts kk tpos) (Itzs K a b) [z, TI, TO, i1, i2] z (fun i h => IsZs h z TI TO .none false ∧ IsPair h TI (.ref i1) (.ref i2) ∧ (∃ x y, IsPair h TO x y) ∧ h.IsListIter i1 a i ∧ h.IsListIter i2 b i) where
  mem := by simp
  obj := fun i h st c hc => by
    obtain ⟨hz, hTI, ⟨x, y, hTO⟩, ⟨o1, e1, _, d1⟩, ⟨o2, e2, _, d2⟩⟩ := st
    have e' : c = z ∨ c = TI ∨ c = TO ∨ c = i1 ∨ c = i2 := by simpa using hc
    rcases e' with q | q | q | q | q
    · rw [q]; exact ⟨_, hz, fun v q => nomatch q⟩
    · rw [q]; exact ⟨_, hTI, fun v q => nomatch q⟩
    · rw [q]; exact ⟨_, hTO, fun v q => nomatch q⟩
    · rw [q]; exact ⟨o1, e1, fun v q => by rw [d1] at q; cases q⟩
    · rw [q]; exact ⟨o2, e2, fun v q => by rw [d2] at q; cases q⟩
  keep := fun i h h' st k => by
    obtain ⟨hz, hTI, ⟨x, y, hTO⟩, h1, h2⟩ := st
    exact ⟨k z (by simp) _ hz, k TI (by simp) _ hTI, ⟨x, y, k TO (by simp) _ hTO⟩, h1.at fun o q => k i1 (by simp) o q, h2.at fun o q => k i2 (by simp) o q⟩
  item := by
    intro X hP hw hK hc i pins s σ H E I hf st hg
    subst hP hw hK
    obtain ⟨hz, hTI, ⟨x0, y0, hTO⟩, h1, h2⟩ := st
    obtain ⟨xs, ys, x, y, hqx, hqy, hx, hy⟩ := hg
    obtain ⟨its, rv, p, _⟩ := I.list hqx
    obtain ⟨its2, rv2, p2, _⟩ := I.list hqy
    obtain ⟨u, hu, ru⟩ := rv.get hx
    obtain ⟨u2, hu2, ru2⟩ := rv2.get hy
    have hzl : z < s.heap.objs.size := Heap.lt_size hz
    refine next_of_zip ⟨_, hz, rfl⟩ (zs_item D hz hTI hTO h1 h2 p.isList p2.isList (x := u) (y := u2) (by simpa using hu) (by simpa using hu2) fun h' z' TO' h1' h2' hT hsz hk => ?_)
    refine ⟨_, rfl, letgo_zs (s := { s with heap := h' }) z' fun h'' z'' sb => ?_⟩
    have hT2 : h''.get? s.heap.objs.size = some { cls := .type "tuple", data := .seq #[u, u2] } := (sb.2 _ (Nat.ne_of_gt hzl)).trans hT
    have new : ObjOk X.prog X.w (upd H s.heap.objs.size (.tup [x, y])) h'' s.heap.objs.size (.tup [x, y]) :=
      ⟨by show 2 ≤ sizeLine; decide, [u, u2], .cons ru (.cons ru2 .nil), ⟨_, hT2, rfl, _, rfl⟩⟩
    have I1 : Inv X pins σ (upd H s.heap.objs.size (.tup [x, y])) { s with heap := h'' } :=
      I.turnedNew (t' := s.toks) (ch := [z, TI, TO, i1, i2]) (fun c o hb q => (sb.2 c (fun q' => hb (by simp [q']))).trans (hk c o (fun q' => hb (by simp [q'])) (fun q' => hb (by simp [q'])) (fun q' => hb (by simp [q'])) (fun q' => hb (by simp [q'])) q)) hf (Nat.le_refl _) new
    refine ⟨.ref s.heap.objs.size, _, I1, rfl, ⟨_, x, y, rfl, I.hok.fresh (Nat.le_refl _), rfl, fun l hl => by rw [I.list_inj hl hqx]; exact hx, fun l hl => by rw [I.list_inj hl hqy]; exact hy⟩, ⟨z'', ?_, ⟨u, u2, ?_⟩, ?_, ?_⟩, fun c hcm => ?_⟩
    · exact (sb.2 _ D.TIz).trans (hk _ _ D.TIz D.TITO D.TIi1 D.TIi2 hTI)
    · exact (sb.2 _ D.TOz).trans TO'
    · exact h1'.at fun o q => (sb.2 _ D.i1z).trans q
    · exact h2'.at fun o q => (sb.2 _ D.i2z).trans q
    · have hlt : c < s.heap.objs.size := by
        have e' : c = z ∨ c = TI ∨ c = TO ∨ c = i1 ∨ c = i2 := by simpa using hcm
        rcases e' with q | q | q | q | q
        · rw [q]; exact hzl
        · rw [q]; exact Heap.lt_size hTI
        · rw [q]; exact Heap.lt_size hTO
        · rw [q]; obtain ⟨_, e1, _⟩ := h1; exact Heap.lt_size e1
        · rw [q]; obtain ⟨_, e2, _⟩ := h2; exact Heap.lt_size e2
      rw [upd_ne (Nat.ne_of_lt hlt)]
      exact (hf c hcm).1
  done := by
    intro X hP hw hK hc i pins s σ H E I hf st hg
    subst hP hw hK
    obtain ⟨hz, hTI, ⟨x0, y0, hTO⟩, h1, h2⟩ := st
    obtain ⟨xs, ys, hqx, hqy, hend⟩ := hg
    obtain ⟨its, rv, p, _⟩ := I.list hqx
    obtain ⟨its2, rv2, p2, _⟩ := I.list hqy
    have l1 := rv.length
    have l2 := rv2.length
    refine next_of_zip ⟨_, hz, rfl⟩ (zs_end (I.ok.hd hc) D hz hTI hTO h1 h2 p.isList p2.isList (by simp; omega) (by simp; omega) fun h' e hk ⟨o, ho, hc⟩ => ⟨⟨e, o, rfl, ho, hc⟩, rfl, I.turnedL (t' := s.toks) (ch := [z, TI, TO, i1, i2]) (fun c o hb q =>
      hk c o (fun q' => hb (by simp [q'])) (fun q' => hb (by simp [q'])) (fun q' => hb (by simp [q'])) q) hf⟩)
  self := fun A i s Q E st h => iter_zs ⟨_, st.1, rfl⟩ h
/-- the iterable zip(a, b, strict=True), made -/
structure ZsMade (X : Cx) (pins : List (Addr × Obj)) (σ : L2.St) (a b : Addr) (H1 : Hp) (n : Nat) (s : Shared) : Prop where
  inv : Inv X pins σ H1 s
  hz : IsZs s.heap (n + 4) (n + 2) (n + 3) .none false
  hTI : IsPair s.heap (n + 2) (.ref n) (.ref (n + 1))
  hTO : IsPair s.heap (n + 3) .none .none
  h1 : s.heap.IsListIter n a 0
  h2 : s.heap.IsListIter (n + 1) b 0
  la : a < n
  lb : b < n
  sz : s.heap.objs.size = n + 5
  fp : ∀ c, n ≤ c → FpOk X pins H1 c
theorem callWith_kwT {M : Model} {A : Around} {E : Value → Shared → Prop} {s : Shared} {env : Env} {pos : Pos} {T : String} {e : Expr} {rest : List Expr} {kws : List Keyword} {Q : Value → Shared → Prop}
    (h : wpAny M A (spliced (backTo pos (starEach (e :: rest) env))) (fun vs s₁ => wpAny M A (evalAll ((backToKw pos (keywordEach kws env)).map (·.2)))
      (fun kvs s₂ => wpAny M A (call (.type T) vs (((backToKw pos (keywordEach kws env)).filterMap (·.1)).zip kvs)) Q E s₂) E s₁) E s)
    (he : backTo pos (starEach (e :: rest) env) = (false, eval e env) :: backTo pos (starEach rest env))
    (hplain : (backTo pos (starEach (e :: rest) env)).any (·.1) = false)
    (hall : (backToKw pos (keywordEach kws env)).all (·.1.isSome) = true)
    (hkw : (backToKw pos (keywordEach kws env)).any (·.1.isNone) = false) :
    wpAny M A (callWith pos (.type T) [] (backTo pos (starEach (e :: rest) env)) (backToKw pos (keywordEach kws env))) Q E s := by
  have h2 : wpAny M A (evalArgs (.type T) true (backTo pos (starEach (e :: rest) env)) (backToKw pos (keywordEach kws env))) (fun a s₁ => wpAny M A (call (.type T) ([] ++ a.pos) a.kw) Q E s₁) E s := by
    rw [he] at h ⊢
    exact evalArgs_kwB hall h
  unfold callWith
  refine wpAny_bind (wpAny_holding (wpAny_mono h2 (fun a s₁ h₁ => wpAny_bind (wpAny_standAt ?_)) fun _ _ x => x))
  simp only [hplain, hkw, Bool.or_false]
  refine wpAny_bind (wpAny_pure ?_)
  exact wpAny_bind (wpAny_mono h₁ (fun r s₂ hr => wpAny_bind (wpAny_holding (wpAny_point (wpAny_pure hr)))) fun _ _ x => x)
section
variable {X : Cx} {e e2 : Expr} {ta : TA} {p pos tpos kpos : Pos} {j : Nat} {cp : Pos}
theorem made_zs {pins : List (Addr × Obj)} {s : Shared} {σ : L2.St} {H : Hp} {Q : Value → Shared → Prop} (hg : Gl X "zip") (hm : X.mg "zip" = none) (ha : PA X [e, e2] ta) (I : Inv X pins σ H s)
    (hs : starEach [e, e2] X.env = (false, eval e X.env) :: starEach [e2] X.env) (hpl : (backTo pos (starEach [e, e2] X.env)).any (·.1) = false)
    {P : List V → Hp → Prop} (h : ta σ H P) (hP : ∀ vs H1, P vs H1 → ∃ a b xs ys, vs = [.ref a, .ref b] ∧ SqL X.K H1 a xs ∧ SqL X.K H1 b ys ∧ ∀ n s1, ZsMade X pins σ a b H1 n s1 → Q (.ref (n + 4)) s1) :
    wpAny (model X.prog X.w) X.A (eval (.Call (.Name "zip" p) [e, e2] [⟨some "strict", .Constant (.bool true) j cp, kpos⟩] pos) X.env) Q X.xe s := by
  show wpAny _ _ (eval (.Name "zip" p) X.env >>= fun f => callWith pos f [] (backTo pos (starEach [e, e2] X.env)) (backToKw pos (keywordEach [⟨some "strict", .Constant (.bool true) j cp, kpos⟩] X.env))) _ _ _
  refine wpAny_bind (ld_blt I hg hm PyProof.Rows.boot_zip (callWith_kwT (thn (ha.run pos pins s σ H _ I h) fun us s1 ⟨vs, H1, I1, r1, q1⟩ => ?_) ?_ hpl rfl rfl))
  · refine thn ((pk_cons pe_bl pk_nil).run pos pins s1 σ H1 (fun ws H2 => ws = [.bl true] ∧ H2 = H1) I1 ⟨rfl, rfl⟩) fun kvs s2 ⟨ws, H2, I2, r2, ew, eh⟩ => ?_
    subst ew eh
    obtain ⟨kv, rfl, rk⟩ := r2.one
    cases rk
    obtain ⟨a, b, xs, ys, ex, hqx, hqy, q⟩ := hP _ _ q1
    subst ex
    cases r1 with
    | cons r rr =>
      cases rr with
      | cons r' rr =>
        cases rr
        cases r
        cases r'
        obtain ⟨its, rv, p1, _⟩ := I2.list hqx
        obtain ⟨its2, rv2, p2, _⟩ := I2.list hqy
        have la : a < s2.heap.objs.size := p1.lt
        have lb : b < s2.heap.objs.size := p2.lt
        refine call_zs p1.isList p2.isList fun h' hz hTI hTO h1 h2 hsz hk => ?_
        have I3 : Inv X pins σ H2 { s2 with heap := h' } := I2.kept (t' := s2.toks) hk
        exact q s2.heap.objs.size _ ⟨I3, hz, hTI, hTO, h1, h2, la, lb, hsz, fun c hc => I2.fpOk hc (I2.hok.fresh hc)⟩
  · rw [hs]; rfl
def iZipS (K : PySem.W.Frag) (ta : TA) : TI := fun σ H R => ta σ H fun vs H1 => ∃ a b xs ys, vs = [.ref a, .ref b] ∧ SqL K H1 a xs ∧ SqL K H1 b ys ∧ R (Itzs K a b) H1
theorem pi_zipS {elts : List Expr} {kk : Nat} (hg : Gl X "zip") (hm : X.mg "zip" = none) (ha : PA X [e, e2] ta)
    (hs : starEach [e, e2] X.env = (false, eval e X.env) :: starEach [e2] X.env) (hpl : (backTo pos (starEach [e, e2] X.env)).any (·.1) = false) :
    PI X (.Tuple elts kk tpos) (.Call (.Name "zip" p) [e, e2] [⟨some "strict", .Constant (.bool true) j cp, kpos⟩] pos) (iZipS X.K ta) := by
  refine ⟨fun pins s σ H R I h => ?_⟩
  refine made_zs hg hm ha I hs hpl h fun vs H1 ⟨a, b, xs, ys, ev, hx, hy, q⟩ => ⟨a, b, xs, ys, ev, hx, hy, fun n s1 Z => ?_⟩
  refine iter_zs ⟨_, Z.hz, rfl⟩ ?_
  refine ⟨n + 4, [n + 4, n + 2, n + 3, n, n + 1], _, _, H1, rfl, Z.inv, turn_zs (PySem.W.ktu_apart n a b Z.la Z.lb), ⟨Z.hz, Z.hTI, ⟨_, _, Z.hTO⟩, Z.h1, Z.h2⟩, fun c hcm => ?_, q⟩
  have e' : c = n + 4 ∨ c = n + 2 ∨ c = n + 3 ∨ c = n ∨ c = n + 1 := by simpa using hcm
  have hle : n ≤ c := by
    rcases e' with z | z | z | z | z
    · rw [z]; exact Nat.le_add_right _ _
    · rw [z]; exact Nat.le_add_right _ _
    · rw [z]; exact Nat.le_add_right _ _
    · rw [z]; exact Nat.le_refl _
    · rw [z]; exact Nat.le_add_right _ _
  exact Z.fp c hle
/-- new objects tracked, records of ours turned -/
theorem turnedMany {X : Cx} {pins : List (Addr × Obj)} {σ : L2.St} {H H' : Hp} {s : Shared} {h' : Heap} {t' : Nat} {ch : List Addr} (I : Inv X pins σ H s) (k : ∀ b o, b ∉ ch → s.heap.get? b = some o → h'.get? b = some o) (hf : ∀ b ∈ ch, FpOk X pins H b)
    (same : Same H H') (new : ∀ b u, H' b = some u → H b = some u ∨ (s.heap.objs.size ≤ b ∧ ObjOk X.prog X.w H' h' b u)) : Inv X pins σ H' { s with heap := h', toks := t' } := by
  have nit : ∀ b u, H b = some u → b ∉ ch := fun b u e z => by
    have q := (hf b z).1
    rw [q] at e; cases e
  refine I.step (g' := s.gens) (d' := s.drawn) (ch := ch) (fun b hb => ⟨(hf b hb).2.2.2.1, (hf b hb).2.1, (hf b hb).2.2.2.2.1, (hf b hb).2.2.2.2.2⟩) (fun b o _ _ hc e _ => k b o hc e) (fun b o _ _ hc e _ => ⟨o.slots, k b o hc e⟩)
    (fun b o _ e n => ?_) (fun b o hc e => ⟨o, k b o hc e⟩) (fun b xs e => same _ _ e) (fun b o u e => same _ _ e) (fun b ps e => ⟨#[], ?_⟩) (fun m hm => ?_) (fun b u e => ?_) I.bare
  · cases q : H' b with
    | none => rfl
    | some u =>
      rcases new b u q with z | z
      · rw [n] at z; cases z
      · exact absurd (Nat.lt_of_lt_of_le (Heap.lt_size e) z.1) (Nat.lt_irrefl _)
  · rw [same _ _ e]; simp
  · obtain ⟨o, es, ep, ho, r⟩ := hm
    exact ⟨o, es, ep, k _ o (fun z => (hf _ z).2.1 rfl) ho, r⟩
  · rcases new b u e with z | z
    · refine (I.hok b u z).stay (fun c v hc q => k c v ?_ q) (fun c q => same _ _ q) fun c xs q => same _ _ q
      rcases hc with y | y
      · rw [y]; exact nit b u z
      · exact nit c _ y
    · exact z.2
/-- a new list p of new pairs as -/
def zipHp (H : Hp) (p : Addr) (as : List Addr) (ps : List (V × V)) : Hp := fun b => if b = p then some (.lst (as.map .ref)) else match ps[as.idxOf b]? with
  | some q => some (.tup [q.1, q.2])
  | none => H b
theorem zipHp_same {H : Hp} {p : Addr} {as : List Addr} {ps : List (V × V)} (hl : as.length = ps.length) (hp : H p = none) (ha : ∀ a ∈ as, H a = none) : Same H (zipHp H p as ps) := fun b o e => by
  have n1 : b ≠ p := fun z => by rw [z, hp] at e; cases e
  have n2 : b ∉ as := fun z => by rw [ha b z] at e; cases e
  unfold zipHp
  rw [if_neg n1, List.idxOf_eq_length n2, List.getElem?_eq_none (by omega)]
  exact e
theorem zipHp_at {H : Hp} {p : Addr} {as : List Addr} {ps : List (V × V)} (nd : as.Nodup) (hp : p ∉ as) {j : Nat} {a : Addr} {q : V × V} (h1 : as[j]? = some a) (h2 : ps[j]? = some q) : zipHp H p as ps a = some (.tup [q.1, q.2]) := by
  have n1 : a ≠ p := fun z => hp (by rw [← z]; exact List.mem_of_getElem? h1)
  obtain ⟨hj, e⟩ := List.getElem?_eq_some_iff.mp h1
  unfold zipHp
  rw [if_neg n1]
  have : as.idxOf a = j := by rw [← e]; exact List.Nodup.idxOf_getElem nd j hj
  rw [this, h2]
def tListZip (K : PySem.W.Frag) (ta : TA) : TE := fun σ H Q => ta σ H fun vs H1 => ∃ a b xs ys, vs = [.ref a, .ref b] ∧ SqL K H1 a xs ∧ SqL K H1 b ys ∧ xs.length = ys.length ∧
  ∀ p as, H1 p = none → as.Nodup → p ∉ as → (∀ a ∈ as, H1 a = none) → as.length = xs.length → Q (.ref p) (zipHp H1 p as (xs.zip ys))
theorem vals_of {vs : List V} {us : List Value} (hl : vs.length = us.length) (h : ∀ (j : Nat) (v : V) (u : Value), vs[j]? = some v → us[j]? = some u → RelV v u) : Vals vs us := vals_of_at hl h
theorem pe_listZip {p2 pos2 : Pos} (hc : X.calm = true) (hg : Gl X "zip") (hm : X.mg "zip" = none) (hgl : Gl X "list") (hml : X.mg "list" = none) (ha : PA X [e, e2] ta)
    (hs : starEach [e, e2] X.env = (false, eval e X.env) :: starEach [e2] X.env) (hpl : (backTo pos (starEach [e, e2] X.env)).any (·.1) = false)
    (hs1 : starEach [.Call (.Name "zip" p) [e, e2] [⟨some "strict", .Constant (.bool true) j cp, kpos⟩] pos] X.env = (false, eval (.Call (.Name "zip" p) [e, e2] [⟨some "strict", .Constant (.bool true) j cp, kpos⟩] pos) X.env) :: starEach [] X.env) :
    PE X (.Call (.Name "list" p2) [.Call (.Name "zip" p) [e, e2] [⟨some "strict", .Constant (.bool true) j cp, kpos⟩] pos] [] pos2) (tListZip X.K ta) := by
  refine ⟨fun pins s σ H Q I h => ?_⟩
  refine Call_ (ld_blt I hgl hml (u := .type "list") (by decide +kernel) (PyProof.Rows.callWith_type1 (args_cons (made_zs hg hm ha I hs hpl h fun vs H1 ⟨a, b, xs, ys, ev, hx, hy, hl, q⟩ => ⟨a, b, xs, ys, ev, hx, hy, fun n s1 Z => ?_⟩) hs1) hs1 rfl))
  refine args_nil ?_
  obtain ⟨its, rv, p1, z1⟩ := Z.inv.list hx
  obtain ⟨its2, rv2, p3, z2⟩ := Z.inv.list hy
  have l1 := rv.length
  have l2 := rv2.length
  have D := PySem.W.ktu_apart n a b Z.la Z.lb
  have sz := Z.sz
  have lt : ∀ k : Nat, k < 5 → n + k < s1.heap.objs.size := fun k h => by rw [sz]; exact Nat.add_lt_add_left h n
  refine call_list_zs (xs := its.toArray) (ys := its2.toArray) (Z.inv.ok.hd hc) D (by simp; omega) (by simp; omega) ⟨Z.hTI, Z.h1, Z.h2, .inl ⟨Z.hz, _, _, Z.hTO⟩⟩ p1.isList p3.isList ⟨lt 4 (by decide), lt 2 (by decide), lt 3 (by decide), lt 0 (by decide), lt 1 (by decide), Nat.lt_trans Z.la (lt 0 (by decide)), Nat.lt_trans Z.lb (lt 0 (by decide))⟩ fun h' tk acc c as hk hS hla hG hacc => ?_
  have nd : as.Nodup := hG.rise.imp fun h => Nat.ne_of_lt h
  have pna : s1.heap.objs.size ∉ as := fun z => absurd (hG.above _ z) (Nat.lt_irrefl _)
  have ps : (xs.zip ys).length = as.length := by simp; simp at hla; omega
  have fr : ∀ c, s1.heap.objs.size ≤ c → H1 c = none := fun c hc => Z.inv.hok.fresh hc
  have fra : ∀ a ∈ as, H1 a = none := fun a ha => fr a (Nat.le_of_lt (hG.above a ha))
  have atj : ∀ (j : Nat) (a : Addr), as[j]? = some a → ∃ x y, xs[j]? = some x ∧ ys[j]? = some y ∧ zipHp H1 s1.heap.objs.size as (xs.zip ys) a = some (.tup [x, y]) := fun j a hj => by
    have hlt := (List.getElem?_eq_some_iff.mp hj).1
    have hz : (xs.zip ys)[j]? = some ((xs.zip ys)[j]'(by omega)) := List.getElem?_eq_getElem _
    obtain ⟨e1, e2⟩ := List.getElem?_zip_eq_some.mp hz
    exact ⟨_, _, e1, e2, zipHp_at nd pna hj hz⟩
  refine ⟨.ref s1.heap.objs.size, zipHp H1 s1.heap.objs.size as (xs.zip ys), turnedMany Z.inv (ch := [n + 4, n + 3, n, n + 1]) (fun b o hb e => hk b o (fun q' => hb (by simp [q'])) (fun q' => hb (by simp [q'])) (fun q' => hb (by simp [q'])) (fun q' => hb (by simp [q'])) e) (fun b hb => Z.fp b (by
    have e' : b = n + 4 ∨ b = n + 3 ∨ b = n ∨ b = n + 1 := by simpa using hb
    rcases e' with q | q | q | q <;> (rw [q]) <;> first | exact Nat.le_refl _ | exact Nat.le_add_right _ _)) (zipHp_same (by omega) (fr _ (Nat.le_refl _)) fra) (fun b u e => ?_), rfl, q _ as (fr _ (Nat.le_refl _)) nd pna fra (by simp at hla; omega)⟩
  by_cases c1 : b = s1.heap.objs.size
  · subst c1
    have e' : some (HO.lst (as.map V.ref)) = some u := by
      have : zipHp H1 s1.heap.objs.size as (xs.zip ys) s1.heap.objs.size = some (.lst (as.map .ref)) := by unfold zipHp; rw [if_pos rfl]
      rw [this] at e; exact e
    cases e'
    refine .inr ⟨Nat.le_refl _, ?_, acc.toList, c, ?_, ?_⟩
    · rw [List.length_map]; simp at hla; omega
    · rw [hacc]; exact vals_refs as
    · rw [Array.toArray_toList]; exact hS
  · by_cases c2 : b ∈ as
    · obtain ⟨j, hj⟩ := List.mem_iff_getElem?.mp c2
      obtain ⟨x, y, e1, e2, e3⟩ := atj j b hj
      rw [e3] at e
      cases e
      obtain ⟨x', y', g1, g2, g3⟩ := hG.pairs j b hj
      obtain ⟨u1, hu1, ru1⟩ := rv.get e1
      obtain ⟨u2, hu2, ru2⟩ := rv2.get e2
      have w1 : x' = u1 := by
        have : its[j]? = some x' := by simpa using g1
        rw [hu1] at this; exact (Option.some.inj this).symm
      have w2 : y' = u2 := by
        have : its2[j]? = some y' := by simpa using g2
        rw [hu2] at this; exact (Option.some.inj this).symm
      subst w1 w2
      exact .inr ⟨Nat.le_of_lt (hG.above b c2), by show 2 ≤ sizeLine; decide, [x', y'], .cons ru1 (.cons ru2 .nil), ⟨_, g3, rfl, _, rfl⟩⟩
    · left
      unfold zipHp at e
      rw [if_neg c1, List.idxOf_eq_length c2, List.getElem?_eq_none (by omega)] at e
      exact e
end
end K22

set_option Elab.async false
set_option linter.all false
set_option maxRecDepth 100000
set_option maxHeartbeats 6400000
/-! Z5: zip(.., strict=True) by data. -/
namespace K22
open PySem PySem.Spec PyProof.Rows L2
section
variable {X : Cx} {a b : Expr} {ta tb : TDE} {p pos tpos kpos : Pos} {j : Nat} {cp : Pos}
def dZipS (ta tb : TDE) : TDI := fun E Q => ta E fun x E1 => tb E1 fun y E2 => match x, y with
  | .list xs, .list ys => xs.length = ys.length ∧ Q (pairD xs ys) E2
  | _, _ => False
theorem dZipS_mono (h : MonoE ta) (h2 : MonoE tb) : MonoA (dZipS ta tb) := fun E Q Q' w q => h _ _ _ (fun x E1 k => h2 _ _ _ (fun y E2 k2 => by
  cases x with
  | list xs =>
    cases y with
    | list ys => exact ⟨k2.1, w _ _ k2.2⟩
    | _ => exact k2.elim
  | _ => exact k2.elim) k) q
theorem di_zipS {elts : List Expr} {kk : Nat} (ha : DE X a ta) (hb : DE X b tb) (hm : X.mg "zip" = none) (hg : Gl X "zip" := by rfl) (hs : starEach [a, b] X.env = (false, eval a X.env) :: starEach [b] X.env := by rfl) (hs2 : starEach [b] X.env = (false, eval b X.env) :: starEach [] X.env := by rfl)
    (hpl : (backTo pos (starEach [a, b] X.env)).any (·.1) = false := by rfl) : DI X (.Tuple elts kk tpos) (.Call (.Name "zip" p) [a, b] [⟨some "strict", .Constant (.bool true) j cp, kpos⟩] pos) (dZipS ta tb) := by
  refine ⟨dZipS_mono ha.mono hb.mono, (pi_zipS hg hm (pa_cons ha.run (pa_cons hb.run pa_nil hs2) hs) hs hpl).imp fun σ H R l ⟨F, M, E, Rp, q⟩ => ?_⟩
  refine two_run ha hb Rp q fun dx dy E2 x y H2 s2 R2 d1 d2 k => ?_
  cases dx with
  | list xs =>
    cases dy with
    | list ys =>
      cases d1 with
      | lst e n r =>
        cases d2 with
        | lst e2 n2 r2 =>
          have z := zip_ok R2.m R2.len e n r e2 n2 r2
          have hl : (pairD xs ys).length = xs.length := by simp [pairD, k.1]
          exact ⟨_, _, _, _, rfl, .of e, .of e2, fun l => k.2 _ H2 s2 R2 ⟨z.go, z.yld, fun M' H' st => ⟨_, _, .of (st.keep _ _ (fun q => n (.inr q)) e), .of (st.keep _ _ (fun q => n2 (.inr q)) e2), by rw [hl, r.length]; exact Nat.le_refl _, by rw [hl, r2.length, k.1]; exact Nat.le_refl _⟩, z.len⟩⟩
    | _ => exact k.elim
  | _ => exact k.elim
theorem DatA.of_get {K : PySem.W.Frag} {N : Addr → Prop} {H : Hp} : ∀ {vs : List V} {ds : List PyData}, vs.length = ds.length → (∀ (i : Nat) v d, vs[i]? = some v → ds[i]? = some d → Dat K N H v d) → DatA K N H vs ds
  | [], [], _, _ => .nil
  | v :: vs, d :: ds, hl, h => .cons (h 0 v d rfl rfl) (DatA.of_get (Nat.succ.inj hl) fun i v d a b => h (i + 1) v d (by simpa using a) (by simpa using b))
  | [], d :: ds, hl, _ => by simp at hl
  | v :: vs, [], hl, _ => by simp at hl
def dListZip (ta tb : TDE) : TDE := fun E Q => dZipS ta tb E fun ds E1 => Q (.list ds) E1
theorem de_listZip {p2 pos2 : Pos} (hc : X.calm = true) (ha : DE X a ta) (hb : DE X b tb) (hm : X.mg "zip" = none) (hml : X.mg "list" = none) (hg : Gl X "zip" := by rfl) (hgl : Gl X "list" := by rfl) (hs : starEach [a, b] X.env = (false, eval a X.env) :: starEach [b] X.env := by rfl) (hs2 : starEach [b] X.env = (false, eval b X.env) :: starEach [] X.env := by rfl)
    (hpl : (backTo pos (starEach [a, b] X.env)).any (·.1) = false := by rfl)
    (hs1 : starEach [.Call (.Name "zip" p) [a, b] [⟨some "strict", .Constant (.bool true) j cp, kpos⟩] pos] X.env = (false, eval (.Call (.Name "zip" p) [a, b] [⟨some "strict", .Constant (.bool true) j cp, kpos⟩] pos) X.env) :: starEach [] X.env := by rfl) :
    DE X (.Call (.Name "list" p2) [.Call (.Name "zip" p) [a, b] [⟨some "strict", .Constant (.bool true) j cp, kpos⟩] pos] [] pos2) (dListZip ta tb) := by
  refine ⟨fun E Q Q' w q => dZipS_mono ha.mono hb.mono _ _ _ (fun ds E1 k => w _ _ k) q, (pe_listZip hc hg hm hgl hml (pa_cons ha.run (pa_cons hb.run pa_nil hs2) hs) hs hpl hs1).imp fun σ H R l ⟨F, M, E, Rp, q⟩ => ?_⟩
  refine two_run ha hb Rp q fun dx dy E2 x y H2 s2 R2 d1 d2 k => ?_
  cases dx with
  | list xs =>
    cases dy with
    | list ys =>
      cases d1 with
      | @lst a1 vs _ e n r =>
        cases d2 with
        | @lst a2 ws _ e2 n2 r2 =>
          have hl2 : vs.length = ws.length := by rw [r.length, r2.length, k.1]
          refine ⟨_, _, _, _, rfl, .of e, .of e2, hl2, fun p as hp nd hpa fa hla l' => ?_⟩
          have hlz : as.length = (vs.zip ws).length := by simp; omega
          have sm := zipHp_same (ps := vs.zip ws) hlz hp fa
          have npN : ¬ (F.N0 p ∨ _) := not_new R2.nl hp
          refine k.2 _ _ (s2.trans (.same sm)) (R2.same sm l') (.lst (xs := as.map .ref) (by unfold zipHp; rw [if_pos rfl]) npN ?_)
          refine DatA.of_get (by simp [pairD]; rw [← r.length, ← r2.length]; omega) fun i v d hv hd => ?_
          obtain ⟨x, y, h1, h2, rfl⟩ := pairD_get hd
          obtain ⟨v1, g1, g2⟩ := r.get_of h1
          obtain ⟨v2, g3, g4⟩ := r2.get_of h2
          rw [List.getElem?_map] at hv
          cases c : as[i]? with
          | none => rw [c] at hv; cases hv
          | some ad =>
            rw [c] at hv
            cases hv
            have hz : (vs.zip ws)[i]? = some (v1, v2) := List.getElem?_zip_eq_some.mpr ⟨g1, g3⟩
            exact .tup (.inl (.inl (zipHp_at nd hpa c hz))) (.cons (g2.same sm) (.cons (g4.same sm) .nil))
    | _ => exact k.elim
  | _ => exact k.elim
end
end K22

set_option Elab.async false
set_option linter.all false
set_option maxRecDepth 100000
set_option maxHeartbeats 6400000
/-! Z6: enumerate(tuple). -/
namespace K22
open PySem PySem.Spec PyProof.Rows L2
open PySem.Sem (wp)
section
variable {prog : Program} {w : World} {A : Around} {E : Value → Shared → Prop} {s : Shared}
theorem enumT_next_item {e it l : Addr} {i : Nat} {items : Array Value} {x old : Value} {Q : Value → Shared → Prop}
    (he : IsEnum s.heap e it i old) (hit : s.heap.IsTupleIter it l i) (hl : s.heap.IsTuple l items) (hx : items[i]? = some x) (hne : e ≠ it)
    (hQ : ∀ h', IsEnumOut h' e it ((i : Int) + 1) x s.heap.objs.size → h'.IsTupleIter it l (i + 1) →
      h'.get? s.heap.objs.size = some { cls := .type "tuple", data := .seq #[.int i s.toks, x] } → h'.objs.size = s.heap.objs.size + 1 →
      (∀ b o, b ≠ e → b ≠ it → s.heap.get? b = some o → h'.get? b = some o) → Q (.ref s.heap.objs.size) { s with heap := h', toks := s.toks + 1 }) :
    wpAny (model prog w) A (Builtin.«enumerate.__next__» ⟨[.ref e], []⟩) (fun fin s' => ∃ v, fin = .done (.ret v) ∧ Q v s') E s := by
  obtain ⟨hp, g, d, tk, os⟩ := s
  show wpAny _ _ (field (.ref e) 2 >>= _) _ _ _
  refine wpAny_bind (wpAny_field he rfl (x := .ref it) rfl ?_)
  refine wpAny_bind (RZ.nextOf_tuple_item hit hl hx fun h₁ hit₁ hs₁ => ?_)
  replace hs₁ : Heap.SameBut it hp h₁ := hs₁
  have he₁ : IsEnum h₁ e it i old := (hs₁.2 e hne).trans he
  show wpAny _ _ (field (.ref e) 3 >>= _) _ _ ⟨h₁, g, d, tk, os⟩
  refine wpAny_bind (wpAny_field he₁ rfl (x := rawInt i) rfl ?_)
  show wpAny _ _ (field (.ref e) 4 >>= _) _ _ ⟨h₁, g, d, tk, os⟩
  refine wpAny_bind (wpAny_field he₁ rfl (x := .none) rfl ?_)
  show wpAny _ _ (mkInt i >>= _) _ _ ⟨h₁, g, d, tk, os⟩
  refine wpAny_bind (wpAny_mkInt ?_)
  show wpAny _ _ (setField (.ref e) 3 (rawInt ((i : Int) + 1)) >>= _) _ _ ⟨h₁, g, d, tk + 1, os⟩
  refine wpAny_bind (wpAny_setField_rec he₁ (by simp) fun h₂ he₂ hs₂ => ?_)
  replace hs₂ : Heap.SameBut e h₁ h₂ := hs₂
  replace he₂ : IsEnum h₂ e it ((i : Int) + 1) old := he₂
  show wpAny _ _ (setField (.ref e) 4 .none >>= _) _ _ ⟨h₂, g, d, tk + 1, os⟩
  refine wpAny_bind (wpAny_setField_rec he₂ (by simp) fun h₃ he₃ hs₃ => ?_)
  replace hs₃ : Heap.SameBut e h₂ h₃ := hs₃
  replace he₃ : IsEnum h₃ e it ((i : Int) + 1) old := he₃
  show wpAny _ _ (newTuple [.int i tk, x] >>= _) _ _ ⟨h₃, g, d, tk + 1, os⟩
  refine wpAny_bind (wpAny_newTuple ?_)
  have he₄ : IsEnum (h₃.push { cls := .type "tuple", data := .seq #[.int i tk, x] }) e it ((i : Int) + 1) old := Heap.get?_push_of_some _ he₃
  generalize hh₄ : h₃.push { cls := .type "tuple", data := .seq #[.int i tk, x] } = h₄ at he₄
  have hsz : h₃.objs.size = hp.objs.size := by rw [hs₃.1, hs₂.1, hs₁.1]
  have hel : e < hp.objs.size := Heap.lt_size he
  have ht₄ : h₄.get? hp.objs.size = some { cls := .type "tuple", data := .seq #[.int i tk, x] } := by rw [← hh₄, ← hsz]; exact Heap.get?_push_size _ rfl
  have hz₄ : h₄.objs.size = hp.objs.size + 1 := by rw [← hh₄, Heap.size_push, hsz]
  have hk₄ : ∀ b o, b ≠ e → b ≠ it → hp.get? b = some o → h₄.get? b = some o := fun b o hbe hbi hb => by
    rw [← hh₄]; exact Heap.get?_push_of_some _ (hs₃.extBut b o hbe (hs₂.extBut b o hbe (hs₁.extBut b o hbi hb)))
  have hit₄ : h₄.IsTupleIter it l (i + 1) := by
    rw [← hh₄]; obtain ⟨o, ho, r⟩ := (hit₁.extBut hs₂.extBut (Ne.symm hne)).extBut hs₃.extBut (Ne.symm hne); exact ⟨o, Heap.get?_push_of_some _ ho, r⟩
  show wpAny _ _ (Builtin.SmallTypes.ownedTupleIsFree (.ref e) >>= _) _ _ ⟨h₄, g, d, tk + 1, os⟩
  rw [hsz]
  clear hh₄ he₃ hs₃ he₂ hs₂ he₁ hs₁ hit₁ hsz h₃ h₂ h₁
  refine wpAny_bind ?_
  · unfold Builtin.SmallTypes.ownedTupleIsFree
    refine wpAny_bind (wpAny_field he₄ rfl (x := .none) rfl (wpAny_pure ?_))
    simp only [if_true]
    refine wpAny_bind (wpAny_rule ?_)
    refine wpAny_bind (wpAny_field he₄ rfl (x := old) rfl ?_)
    refine wpAny_bind (wpAny_setField_rec he₄ (by simp) fun h₅ he₅ hs₅ => ?_)
    replace hs₅ : Heap.SameBut e h₄ h₅ := hs₅
    replace he₅ : IsEnum h₅ e it ((i : Int) + 1) x := he₅
    show wpAny _ _ (Builtin.SmallTypes.ownedTupleHandOut (.ref e) (.ref hp.objs.size) >>= _) _ _ ⟨h₅, g, d, tk + 1, os⟩
    refine wpAny_bind ?_
    · unfold Builtin.SmallTypes.ownedTupleHandOut
      refine wpAny_bind (wpAny_setField_rec he₅ (by simp) fun h₆ he₆ hs₆ => ?_)
      replace hs₆ : Heap.SameBut e h₅ h₆ := hs₆
      replace he₆ : IsEnumOut h₆ e it ((i : Int) + 1) x hp.objs.size := he₆
      refine wpAny_setField_rec he₆ (by simp) fun h₇ he₇ hs₇ => ?_
      replace hs₇ : Heap.SameBut e h₆ h₇ := hs₇
      replace he₇ : IsEnumOut h₇ e it ((i : Int) + 1) x hp.objs.size := he₇
      refine wpAny_bind (wpAny_letGo (wpAny_pure ⟨_, rfl, hQ h₇ he₇ ?_ ?_ ?_ ?_⟩))
      · exact ((hit₄.extBut hs₅.extBut (Ne.symm hne)).extBut hs₆.extBut (Ne.symm hne)).extBut hs₇.extBut (Ne.symm hne)
      · exact hs₇.extBut _ _ (Nat.ne_of_gt hel) (hs₆.extBut _ _ (Nat.ne_of_gt hel) (hs₅.extBut _ _ (Nat.ne_of_gt hel) ht₄))
      · rw [hs₇.1, hs₆.1, hs₅.1, hz₄]
      · exact fun b o hbe hbi hb => hs₇.extBut b o hbe (hs₆.extBut b o hbe (hs₅.extBut b o hbe (hk₄ b o hbe hbi hb)))

theorem pyNext_enumT_item {e it l : Addr} {i : Nat} {items : Array Value} {x old : Value} {Q : Option Value → Shared → Prop}
    (he : IsEnum s.heap e it i old) (hit : s.heap.IsTupleIter it l i) (hl : s.heap.IsTuple l items) (hx : items[i]? = some x) (hne : e ≠ it)
    (hQ : ∀ h', IsEnumOut h' e it ((i : Int) + 1) x s.heap.objs.size → h'.IsTupleIter it l (i + 1) →
      h'.get? s.heap.objs.size = some { cls := .type "tuple", data := .seq #[.int i s.toks, x] } → h'.objs.size = s.heap.objs.size + 1 →
      (∀ b o, b ≠ e → b ≠ it → s.heap.get? b = some o → h'.get? b = some o) → Q (some (.ref s.heap.objs.size)) { s with heap := h', toks := s.toks + 1 }) :
    wpAny (model prog w) A (pyNext (.ref e)) Q E s := by
  have hT : s.TypeIs (.ref e) "enumerate" := ⟨_, he, rfl⟩
  unfold pyNext
  exact wpAny_bind (wpAny_attempt (wpAny_callSpecial?_slot (name := Str.ofString "__next__") hT F.slot_enumerate_next
    (wpAny_call_entry F.slot_enumerate_next hT F.entry_enumerate_next
      (enumT_next_item he hit hl hx hne fun h' a b c d k => wpAny_pure (hQ h' a b c d k)) (F.args_enumerate_next_1 _))))

theorem pyNext_enumT_end {e it l : Addr} {i : Nat} {items : Array Value} {old : Value} {Q : Option Value → Shared → Prop} (hh : A.handled = none)
    (he : IsEnum s.heap e it i old) (hit : s.heap.IsTupleIter it l i) (hl : s.heap.IsTuple l items) (hx : items[i]? = none)
    (hQ : ∀ h', Heap.ExtBut it s.heap h' → Q none { s with heap := h' }) : wpAny (model prog w) A (pyNext (.ref e)) Q E s := by
  have hT : s.TypeIs (.ref e) "enumerate" := ⟨_, he, rfl⟩
  unfold pyNext
  refine wpAny_bind (wpAny_attempt (wpAny_callSpecial?_slot (name := Str.ofString "__next__") hT F.slot_enumerate_next
    (wpAny_call_entry F.slot_enumerate_next hT F.entry_enumerate_next ?_ (F.args_enumerate_next_1 _))))
  show wpAny _ _ (field (.ref e) 2 >>= _) _ _ _
  refine wpAny_bind (wpAny_field he rfl (x := .ref it) rfl ?_)
  refine wpAny_bind (RZ.nextOf_tuple_end hh hit hl hx fun h' x he' hx' => ?_)
  obtain ⟨o, ho, hc⟩ := hx'
  refine wpAny_bind (wpAny_isInstance (T := "StopIteration") (b := true) ⟨o, ho, hc⟩ isSubtype_stop ?_)
  exact wpAny_pure (hQ _ he')

theorem meets_enumT (l : Addr) (items : Array Value) :
    Meets (Builtin.«enumerate.__new__» ⟨[.type "enumerate", .ref l], []⟩) (fun _ R s => s.heap.IsTuple l items ∧
      R (.ok (.ret (.ref (s.heap.push { cls := .type "tuple_iterator", data := .fields #[.ref l, .int 0 0] }).objs.size)))
        { s with heap := (s.heap.push { cls := .type "tuple_iterator", data := .fields #[.ref l, .int 0 0] }).push { cls := .type "enumerate", data := .fields #[.none, .bool false, .ref s.heap.objs.size, rawInt 0, .none, .none] } }) :=
  .of_wp fun prog w A R s h => by
    obtain ⟨hp, g, d, tk, os⟩ := s; obtain ⟨hL, h⟩ := h
    have hL2 : Heap.IsTuple (Shared.heap ⟨hp, g, d, tk, os⟩) l items := hL
    have hsub := sub_enumerate
    obtain ⟨o, hl, _⟩ := id hL
    wp_walk using AutoSeq1.wpAny_loadPart' hl
    refine wpAny_stack_any fun st => wpAny_pure ?_
    split
    · rename_i c _ _ _ _ _
      cases (c == Value.type "enumerate")
      · wp_walk using AutoSeq1.wpAny_loadPart' hl, wpAny_pyIter_tuple hL2
        exact ⟨_, rfl, h⟩
      · wp_walk using AutoSeq1.wpAny_loadPart' hl, wpAny_pyIter_tuple hL2
        exact ⟨_, rfl, h⟩
    · wp_walk using AutoSeq1.wpAny_loadPart' hl, wpAny_pyIter_tuple hL2
      exact ⟨_, rfl, h⟩
theorem call_enumT {l : Addr} {items : Array Value} {Q : Value → Shared → Prop} (hL : s.heap.IsTuple l items)
    (h : ∀ h', IsEnum h' (s.heap.objs.size + 1) s.heap.objs.size 0 .none → h'.IsTupleIter s.heap.objs.size l 0 → h'.objs.size = s.heap.objs.size + 2 →
      (∀ b o, s.heap.get? b = some o → h'.get? b = some o) → Q (.ref (s.heap.objs.size + 1)) { s with heap := h' }) :
    wpAny (model prog w) A (call (.type "enumerate") [.ref l]) Q E s := by
  refine callType_new F.called_enumerate (by decide) (F.typeCall_enumerate_1 _) (F.newCall_enumerate_1 _) (fun obj => F.args_object_init_2 obj _) F.entry_enumerate_new
    (meets_enumT l items) ⟨hL, ?_⟩
  have hz : (s.heap.push { cls := .type "tuple_iterator", data := .fields #[.ref l, .int 0 0] }).objs.size = s.heap.objs.size + 1 := Heap.size_push ..
  show _ ∧ _
  rw [hz]
  have he : IsEnum ((s.heap.push { cls := .type "tuple_iterator", data := .fields #[.ref l, .int 0 0] }).push
      { cls := .type "enumerate", data := .fields #[.none, .bool false, .ref s.heap.objs.size, rawInt 0, .none, .none] }) (s.heap.objs.size + 1) s.heap.objs.size 0 .none := by
    have := Heap.get?_push_size (s.heap.push { cls := .type "tuple_iterator", data := .fields #[.ref l, .int 0 0] })
      (o := { cls := .type "enumerate", data := .fields #[.none, .bool false, .ref s.heap.objs.size, rawInt 0, .none, .none] }) rfl
    rw [hz] at this; exact this
  refine ⟨⟨_, he, rfl⟩, h _ he ⟨_, Heap.get?_push_of_some _ (Heap.get?_push_size _ rfl), rfl, rfl⟩ (by rw [Heap.size_push, hz]) fun b o x => Heap.get?_push_of_some _ (Heap.get?_push_of_some _ x)⟩

end
/-- the tuple at a as it stands at each turn, each item in a new pair -/
def IteT (K : PySem.W.Frag) (a : Addr) : It :=
  ⟨fun i H => ∃ (xs : List V) (x : V), SqT K H a xs ∧ xs[i]? = some x, fun i H v H' => ∃ T x, v = .ref T ∧ H T = none ∧ H' = upd H T (.tup [.int (i : Nat), x]) ∧ ∀ xs, SqT K H a xs → xs[i]? = some x, fun i H => ∃ xs : List V, SqT K H a xs ∧ xs.length ≤ i⟩
theorem turn_enumT {P : Program} {w : World} {K : PySem.W.Frag} {elts : List Expr} {kk : Nat} {tpos : Pos} (a e it : Addr) :
    Turn P w K (.Tuple elts kk tpos) (IteT K a) [e, it] e (fun i h => (∃ old, IsEnum h e it ((i : Nat) : Int) old) ∧ h.IsTupleIter it a i ∧ e ≠ it) where
  mem := by simp
  obj := fun i h st b hb => by
    obtain ⟨⟨old, he⟩, ⟨o, ho, hc, hd⟩, _⟩ := st
    have e' : b = e ∨ b = it := by simpa using hb
    rcases e' with z | z
    · rw [z]; exact ⟨_, he, fun v q => nomatch q⟩
    · rw [z]; exact ⟨o, ho, fun v q => by rw [hd] at q; cases q⟩
  keep := fun i h h' st k => let ⟨⟨old, he⟩, hi, hne⟩ := st; ⟨⟨old, k e (by simp) _ he⟩, hi.at fun o q => k it (by simp) o q, hne⟩
  item := by
    intro X hP hw hK hc i pins s σ H E I hf st hg
    subst hP hw hK
    obtain ⟨⟨old, he⟩, hit, hne⟩ := st
    obtain ⟨xs, x, hq, hx⟩ := hg
    obtain ⟨its, rv, p, hz⟩ := I.tuple hq
    obtain ⟨u, hu, ru⟩ := rv.get hx
    have hel : e < s.heap.objs.size := Heap.lt_size he
    have hil : it < s.heap.objs.size := by obtain ⟨_, q, _⟩ := hit; exact Heap.lt_size q
    refine pyNext_enumT_item he hit p (x := u) (by simpa using hu) hne fun h' ho hit' hT hsz hk => ?_
    refine ⟨_, rfl, wpAny_letOwnedTupleGo_enum (s := { s with heap := h', toks := s.toks + 1 }) ho fun h'' he' sb => ?_⟩
    have hT2 : h''.get? s.heap.objs.size = some { cls := .type "tuple", data := .seq #[.int i s.toks, u] } := (sb.2 _ (Nat.ne_of_gt hel)).trans hT
    have new : ObjOk X.prog X.w (upd H s.heap.objs.size (.tup [.int (i : Nat), x])) h'' s.heap.objs.size (.tup [.int (i : Nat), x]) :=
      ⟨by show 2 ≤ sizeLine; decide, [.int i s.toks, u], .cons ⟨_, rfl⟩ (.cons ru .nil), ⟨_, hT2, rfl, _, rfl⟩⟩
    have I1 : Inv X pins σ (upd H s.heap.objs.size (.tup [.int (i : Nat), x])) { s with heap := h'', toks := s.toks + 1 } :=
      I.turnedNew (ch := [e, it]) (fun b ob hb q => (sb.2 b (fun z => hb (by simp [z]))).trans (hk b ob (fun z => hb (by simp [z])) (fun z => hb (by simp [z])) q)) hf (Nat.le_refl _) new
    refine ⟨.ref s.heap.objs.size, _, I1, rfl, ⟨_, x, rfl, I.hok.fresh (Nat.le_refl _), rfl, fun ys hy => by rw [I.tuple_inj hy hq]; exact hx⟩, ⟨⟨u, ?_⟩, hit'.at fun o q => (sb.2 it (Ne.symm hne)).trans q, hne⟩, fun b hb => ?_⟩
    · have e1 : ((i + 1 : Nat) : Int) = (i : Int) + 1 := by omega
      rw [e1]; exact he'
    · have hb' : b < s.heap.objs.size := by
        have e' : b = e ∨ b = it := by simpa using hb
        rcases e' with z | z
        · rw [z]; exact hel
        · rw [z]; exact hil
      rw [upd_ne (Nat.ne_of_lt hb')]
      exact (hf b hb).1
  done := by
    intro X hP hw hK hc i pins s σ H E I hf st hg
    subst hP hw hK
    obtain ⟨⟨old, he⟩, hit, hne⟩ := st
    obtain ⟨xs, hq, hx⟩ := hg
    obtain ⟨its, rv, p, hz⟩ := I.tuple hq
    obtain ⟨f0, f1, f2, f3, f4, f5⟩ := hf it (by simp)
    have hl := rv.length
    exact pyNext_enumT_end (I.ok.hd hc) he hit p (by simp; omega) fun h' eb => ⟨rfl, I.turned (t' := s.toks) (fun b o hb q => eb b o hb q) f0 f1 f3 f4 f5⟩
  self := fun A i s Q E st h => let ⟨⟨_, he⟩, _⟩ := st; wpAny_pyIter_enum he h
def iEnumT (K : PySem.W.Frag) (ta : TA) : TI := fun σ H R => ta σ H fun vs H1 => ∃ a xs, vs = [.ref a] ∧ SqT K H1 a xs ∧ R (IteT K a) H1
theorem pi_enumT {X : Cx} {e : Expr} {ta : TA} {p pos tpos : Pos} {elts : List Expr} {kk : Nat} (hg : Gl X "enumerate") (hm : X.mg "enumerate" = none) (ha : PA X [e] ta) (hs : starEach [e] X.env = [(false, eval e X.env)] := by rfl) :
    PI X (.Tuple elts kk tpos) (.Call (.Name "enumerate" p) [e] [] pos) (iEnumT X.K ta) := by
  refine ⟨fun pins s σ H R I h => ?_⟩
  refine Call_ (ld_blt I hg hm boot_enumerate (PyProof.Rows.callWith_type1 (thn (ha.run pos pins s σ H _ I h) fun us s1 ⟨vs, H1, I1, r1, q1⟩ => ?_) hs rfl))
  obtain ⟨a, xs, ex, hq, q⟩ := q1
  subst ex
  cases r1 with
  | cons r rr =>
    cases rr
    cases r
    obtain ⟨its, rv, p', hz⟩ := I1.tuple hq
    refine call_enumT p' fun h' he hit hsz hk => wpAny_pyIter_enum he ?_
    have I2 : Inv X pins σ H1 { s1 with heap := h' } := I1.kept (t' := s1.toks) hk
    refine ⟨s1.heap.objs.size + 1, [s1.heap.objs.size + 1, s1.heap.objs.size], _, _, H1, rfl, I2, turn_enumT a (s1.heap.objs.size + 1) s1.heap.objs.size, ⟨⟨.none, he⟩, hit, Nat.succ_ne_self _⟩, fun b hb => ?_, q⟩
    have e' : b = s1.heap.objs.size + 1 ∨ b = s1.heap.objs.size := by simpa using hb
    have hle : s1.heap.objs.size ≤ b := by
      rcases e' with z | z
      · rw [z]; exact Nat.le_add_right _ _
      · rw [z]; exact Nat.le_refl _
    exact I1.fpOk hle (I1.hok.fresh hle)

end K22

set_option Elab.async false
set_option linter.all false
set_option maxRecDepth 100000
set_option maxHeartbeats 6400000
/-! Z7: enumerate(tuple) by data; join; -1; comprehensions of two fors. -/
namespace K22
open PySem PySem.Spec PyProof.Rows L2
section
variable {X : Cx} {e a b : Expr} {t ta tb : TDE} {pos : Pos}
theorem di_enumT {p tpos : Pos} {elts : List Expr} {kk : Nat} (he : DE X e t) (hm : X.mg "enumerate" = none) (hg : Gl X "enumerate" := by rfl) (hs : starEach [e] X.env = [(false, eval e X.env)] := by rfl) (na : starEach [e] X.env = (false, eval e X.env) :: starEach [] X.env := by rfl) :
    DI X (.Tuple elts kk tpos) (.Call (.Name "enumerate" p) [e] [] pos) (fun E Q => dIterT t E fun ds E1 => ds.length ≤ 1000000 ∧ Q (numD ds) E1) := by
  refine ⟨fun E Q Q' w q => dIterT_mono he.mono _ _ _ (fun ds E1 k => ⟨k.1, w _ _ k.2⟩) q, (pi_enumT hg hm (pa_cons he.run pa_nil na) hs).imp fun σ H R l ⟨F, M, E, Rp, q⟩ => ?_⟩
  refine ⟨F, M, E, Rp, he.mono _ _ _ (fun d E1 k v H1 s1 R1 d1 => ?_) q⟩
  cases d with
  | tuple ds =>
    cases d1 with
    | tup e r =>
      refine ⟨_, _, rfl, e, fun l => k.2 _ H1 s1 R1 ⟨fun M' H' i st hi => ?_, fun M' H' N' i x H'' d st nl hd y => ?_, fun M' H' st => ⟨_, st.seqT R1.m e, by rw [r.length]; simp [numD]⟩, ?_⟩⟩
      · have hi' : i < ds.length := by simpa [numD] using hi
        exact ⟨_, _, st.seqT R1.m e, List.getElem?_eq_getElem (by rw [r.length]; exact hi')⟩
      · obtain ⟨T, x, rfl, hT, rfl, y⟩ := y
        obtain ⟨z, hz, rfl⟩ := numD_get hd
        exact ⟨same_new hT, len_tup, new_tup hT (.cons (.int _) (.cons ((r.far st R1.m nl).get (y _ (st.seqT R1.m e)) hz) .nil))⟩
      · have h1 : (numD ds).length = ds.length := by simp [numD]
        rw [h1]
        exact Nat.le_trans k.1 sizeLine_big
  | _ => exact k.elim
end
end K22

set_option Elab.async false
set_option linter.all false
set_option maxRecDepth 100000
set_option maxHeartbeats 6400000
/-! Z8: [x for l in ls for x in l]. -/
namespace K22
open PySem PySem.Spec PyProof.Rows L2
section
variable {X : Cx}
/-- y = [number for lot in thing for number in lot] -/
def dFlat (a0 i j y : Nat) (vs : List Nat) : TDS := fun D E => match E.sl[a0]? with
  | some (.dat (.list ds)) => a0 ∉ vs ∧ i ∈ vs ∧ j ∈ vs ∧ i < E.sl.length ∧ j < E.sl.length ∧ ∃ lls : List (List PyData), ds = lls.map .list ∧ lls.flatten.length ≤ 1000000 ∧ D.nx (E.set y (.dat (.list lls.flatten)))
  | _ => False
theorem wipe_set {σ : L2.St} {vs : List Nat} {i : Nat} {x : Option V} (h : i ∈ vs) : L2.wipe (σ.set i x) vs = L2.wipe σ vs :=
  wipe_eq (by simp) fun k hk => List.getElem?_set_ne (fun z => hk (by rw [← z]; exact h))
theorem take_succ' {α : Type} {l : List α} {i : Nat} {x : α} (h : l[i]? = some x) : l.take (i + 1) = l.take i ++ [x] := by
  rw [List.take_succ, h]; rfl
theorem ds_flat {a0 i j y : Nat} {xa xi xj yn : Str} {pa pi pj pi2 pj2 py : Pos} {scope : Scope} {own : List (Str × Nat)} {pos spos : Pos} (hc : X.calm = true) (hN : X.N.Nodup) (hy : X.N[y]? = some yn) (hyl : X.env.scope.names.lookup yn = some .local)
    (hsw : swapsWith (.ListComp (.Name xj pj2) [⟨.Name xi pi, .Name xa pa, [], 0⟩, ⟨.Name xj pj, .Name xi pi2, [], 0⟩] scope pos) (some (.Name yn py)) spos.line X.env = pure true) (ok : BlkOk X.N X.env.scope scope own) (hv : j ∈ own.map (·.2))
    (ha : PE X (.Name xa pa) (tVar a0))
    (hg : ∀ (s : Shared) (H : Hp) (C : Addr) (cl : List (Str × Addr)) (fp : List Addr), PG (X.blk s H scope (compEnvC scope cl C X.env) fp) (.Name xi pi) (gName i))
    (hi1 : ∀ (s : Shared) (H : Hp) (C : Addr) (cl : List (Str × Addr)) (fp : List Addr), PE (X.blk s H scope (compEnvC scope cl C X.env) fp) (.Name xi pi2) (tVar i))
    (hg1 : ∀ (s : Shared) (H : Hp) (C : Addr) (cl : List (Str × Addr)) (fp : List Addr), PG (X.blk s H scope (compEnvC scope cl C X.env) fp) (.Name xj pj) (gName j))
    (he : ∀ (s : Shared) (H : Hp) (C : Addr) (cl : List (Str × Addr)) (fp : List Addr), PE (X.blk s H scope (compEnvC scope cl C X.env) fp) (.Name xj pj2) (tVar j)) :
    DS X (.Assign [.Name yn py] (.ListComp (.Name xj pj2) [⟨.Name xi pi, .Name xa pa, [], 0⟩, ⟨.Name xj pj, .Name xi pi2, [], 0⟩] scope pos) spos) (dFlat a0 i j y (own.map (·.2))) := by
  refine ⟨fun D D' E w q => ?_, PS_imp (ps_setLc2 (vs1 := [j]) (wi1 := iList X.K (tVar i)) (tt := tYes) (tt1 := tYes) (g := gName i) (g1 := gName j) (te := tVar j) hc hN hy hyl hsw (pi_list ha) ok (fun k hk => by rw [List.mem_singleton.mp hk]; exact hv) hg (fun s H C cl fp => pts_nil) (fun s H C cl fp => pi_list (hi1 s H C cl fp)) hg1 (fun s H C cl fp => pts_nil) he) fun D σ H l ⟨F, M, E, R, q⟩ => ?_⟩
  · unfold dFlat at q ⊢
    split at q
    · obtain ⟨q0, q1, q2, q3, q4, lls, q5, q6, q7⟩ := q
      exact ⟨q0, q1, q2, q3, q4, lls, q5, q6, w.nx _ q7⟩
    · exact q.elim
  · unfold dFlat at q
    split at q
    · rename_i ds hs0
      obtain ⟨q0, q1, q2, q3, q4, lls, rfl, q6, q7⟩ := q
      obtain ⟨v, h1, h2⟩ := R.dat hs0
      have hln := R.ln
      cases h2 with
      | @lst a xs _ e n r =>
        refine ⟨_, h1, a, rfl, ⟨xs, .of e⟩, fun L hL => ?_⟩
        have nea : ∀ {b : Addr} {o : HO}, H b = some o → b ≠ L := fun h z => by rw [z, hL] at h; cases h
        have wl : (L2.wipe σ (own.map (·.2))).length = σ.length := wipe_length _ _
        refine ⟨fun k m H' => m = lls.length - k ∧ k ≤ lls.length ∧ ∃ va, H' = upd H L (.lst va) ∧ DatA X.K (fun a => F.N0 a ∨ M a) H va (lls.take k).flatten, ⟨_, rfl, Nat.zero_le _, [], rfl, by simp only [List.take_zero, List.flatten_nil]; exact .nil⟩, ?_⟩
        rintro k m H' ⟨rfl, hk, va, rfl, da⟩
        have hxl : xs.length = lls.length := by rw [r.length, List.length_map]
        have hzz : (lls.take k).flatten.length ≤ 1000000 := by
          refine Nat.le_trans ?_ q6
          conv => rhs; rw [← List.take_append_drop k lls, List.flatten_append, List.length_append]
          exact Nat.le_add_right _ _
        by_cases hlt : k < lls.length
        · refine .inr ⟨⟨xs, xs[k], .of (by rw [upd_ne (nea e)]; exact e), List.getElem?_eq_getElem (by omega)⟩, fun H' => ∃ va, H' = upd H L (.lst va) ∧ DatA X.K (fun a => F.N0 a ∨ M a) H va (lls.take (k + 1)).flatten, fun H' ⟨va, z⟩ => ⟨_, by omega, rfl, hlt, va, z⟩, fun x H' hyx => ?_⟩
          obtain ⟨rfl, hx⟩ := hyx
          have hx' := hx xs (.of (by rw [upd_ne (nea e)]; exact e))
          have hll : lls[k]? = some lls[k] := List.getElem?_eq_getElem hlt
          have dx := r.get hx' (by rw [List.getElem?_map, hll]; rfl)
          cases dx with
          | @lst b ws _ e2 n2 r2 =>
            refine ⟨(wipe_set q1).trans (wipe_eq wl fun k hk => wipe_out hk), ?_⟩
            unfold tYes
            refine iteT ⟨.ref b, ?_, b, rfl, ⟨ws, .of (by rw [upd_ne (nea e2)]; exact e2)⟩, ?_⟩
            · exact List.getElem?_set_self (by rw [wl, hln]; exact q3)
            · have tk : (lls.take (k + 1)).flatten = (lls.take k).flatten ++ lls[k] := by rw [take_succ' hll, List.flatten_append]; simp
              have hzz2 : (lls.take k).flatten.length + lls[k].length ≤ 1000000 := by
                have : (lls.take (k + 1)).flatten.length ≤ 1000000 := by
                  refine Nat.le_trans ?_ q6
                  conv => rhs; rw [← List.take_append_drop (k + 1) lls, List.flatten_append, List.length_append]
                  exact Nat.le_add_right _ _
                rw [tk, List.length_append] at this
                exact this
              refine ⟨fun t m H' => m = ws.length - t ∧ t ≤ ws.length ∧ H' = upd H L (.lst (va ++ ws.take t)), ⟨_, rfl, Nat.zero_le _, by simp⟩, ?_⟩
              rintro t m H' ⟨rfl, ht, rfl⟩
              by_cases hlt2 : t < ws.length
              · refine .inr ⟨⟨ws, ws[t], .of (by rw [upd_ne (nea e2)]; exact e2), List.getElem?_eq_getElem hlt2⟩, fun H' => H' = upd H L (.lst (va ++ ws.take (t + 1))), fun H' z => ⟨_, by omega, rfl, hlt2, z⟩, fun x1 H' hyx1 => ?_⟩
                obtain ⟨rfl, hx1⟩ := hyx1
                have hx1' := hx1 ws (.of (by rw [upd_ne (nea e2)]; exact e2))
                refine ⟨(wipe_set (List.mem_singleton_self j)).trans (wipe_eq (wipe_length _ _) fun k hk => wipe_out hk), ?_⟩
                refine iteT ⟨x1, List.getElem?_set_self ?_, va ++ ws.take t, upd_same, ?_, ?_⟩
                · rw [wipe_length, List.length_set, wl, hln]; exact q4
                · rw [List.length_append, da.length, List.length_take]
                  refine Nat.lt_of_lt_of_le ?_ sizeLine_big
                  have := r2.length
                  omega
                · have : va ++ List.take t ws ++ [x1] = va ++ List.take (t + 1) ws := by rw [take_succ' hx1', List.append_assoc]
                  rw [this]
                  funext z
                  unfold upd
                  split <;> rfl
              · have et : t = ws.length := by omega
                subst et
                refine .inl ⟨⟨ws, .of (by rw [upd_ne (nea e2)]; exact e2), Nat.le_refl _⟩, va ++ ws.take ws.length, rfl, ?_⟩
                rw [tk, List.take_length]
                exact da.app r2
        · have ek : k = lls.length := by omega
          subst ek
          refine .inl ⟨⟨xs, .of (by rw [upd_ne (nea e)]; exact e), by omega⟩, ?_⟩
          rw [List.take_length] at da hzz
          have lk : LenOk (upd H L (.lst va)) := fun b ys eb => by
            by_cases c : b = L
            · rw [c, upd_same] at eb
              cases eb
              rw [da.length]; exact Nat.le_trans hzz sizeLine_big
            · rw [upd_ne c] at eb
              exact R.len b ys eb
          exact q7 M _ _ (.same (same_new hL)) ((R.same (same_new hL) lk).putD y (new_lst R.nl hL da))
    · exact q.elim
end
end K22

set_option Elab.async false
set_option linter.all false
set_option maxRecDepth 100000
set_option maxHeartbeats 6400000
/-! Z9: repr; defs that call it (no guard stands); join; -x. -/
namespace K22
open PySem PySem.Spec PyProof.Rows L2
section
variable {X : Cx}
def cRepr : CD := fun xs P => match xs with
  | [.list l] => PyData.showable (.list l) = true ∧ PyData.hasDict (.list l) = false ∧ PyData.depth (.list l) ≤ 40 ∧ (PyData.shown (.list l)).length ≤ sizeLine ∧ P (.str (PyData.shown (.list l)))
  | [.tuple l] => PyData.showable (.tuple l) = true ∧ PyData.hasDict (.tuple l) = false ∧ PyData.depth (.tuple l) ≤ 40 ∧ (PyData.shown (.tuple l)).length ≤ sizeLine ∧ P (.str (PyData.shown (.tuple l)))
  | _ => False
def rRepr (K : PySem.W.Frag) : List V → Hp → VK → Prop := fun xs H Q => ∃ a d, xs = [.ref a] ∧ Dp K H (.ref a) d ∧ d.showable = true ∧ d.hasDict = false ∧ d.depth ≤ 40 ∧ d.shown.length ≤ sizeLine ∧ Q (.str d.shown) H
theorem call_reprD (hg : X.A.guards = some []) (hu : X.A.units + 64 < cLine) : CallR X (.builtin "repr") (rRepr X.K) := by
  intro pins s σ H xs us Q I r h
  obtain ⟨a, d, rfl, dd, h1, h2, h3, h4, q⟩ := h
  obtain ⟨u, rfl, rx⟩ := r.one
  obtain ⟨as, rd⟩ := Dp.reads I d _ u dd rx
  cases rx
  refine repr_of_reads' rd h1 (PyData.noDict_hsm h2) hg (by omega) (fun _ _ e => e) (fun h' u tk hk => ⟨.str d.shown, H, I.kept (t' := tk) hk, ⟨u, rfl⟩, q⟩) h4
theorem ca_repr (hg : X.A.guards = some []) (hu : X.A.units + 64 < cLine) : CaS X (.builtin "repr") cRepr := by
  refine ⟨fun xs P P' w h => ?_, _, call_reprD hg hu, fun N H xs ds Q l n d h => ?_⟩
  · unfold cRepr at h ⊢
    split at h
    · exact ⟨h.1, h.2.1, h.2.2.1, h.2.2.2.1, w _ h.2.2.2.2⟩
    · exact ⟨h.1, h.2.1, h.2.2.1, h.2.2.2.1, w _ h.2.2.2.2⟩
    · exact h.elim
  · unfold cRepr at h
    split at h
    · cases d with
      | cons d r =>
        cases r
        have dp := Dat.dp _ _ d
        cases d with
        | lst e n r => exact ⟨_, _, rfl, dp, h.1, h.2.1, h.2.2.1, h.2.2.2.1, h.2.2.2.2 _ _ (.refl H) (.str _)⟩
    · cases d with
      | cons d r =>
        cases r
        have dp := Dat.dp _ _ d
        cases d with
        | tup e r => exact ⟨_, _, rfl, dp, h.1, h.2.1, h.2.2.1, h.2.2.2.1, h.2.2.2.2 _ _ (.refl H) (.str _)⟩
    · exact h.elim
end
/-- a def that wants that no repr is on its way -/
structure FnG (P : Program) (w : World) (K : PySem.W.Frag) (mg : Str → Option Value) (base : Heap) (CX : CXT) (k : Nat) (f : Addr) (fd : FuncData) (ps : List Str) (sp : Sp) : Prop where
  len : ∀ vs H Q E, sp vs H Q E → vs.length = ps.length
  run : ∀ (A : Around) (outer : List Env) (s : Shared) (H : Hp) (args : Args) (us : List Value) (vs : List V) (Q : VK) (E : XK), A.guards = some [] → Room k A → Env0 P w K mg base A outer s H → BindsTo s fd args (ps.zip us) → Vals vs us → sp vs H Q E →
    codeAny (model P w) A (.call (.ref f) args) (CR CX outer P w H s Q E) s
theorem fn_ofG {CX : CXT} {P : Program} {w : World} {K : PySem.W.Frag} {mg : Str → Option Value} {base : Heap} {k : Nat} {f : Addr} {name qual : Str} {params : Arguments} {body : List Stmt} {scope : Scope} {dV kV doc pm cdv ct oc : Value} {an od : Option Addr}
    {osl : Array (Option Value)} {N ps : List Str} {sp : Sp} (lk : K.lookup f = some ⟨oc, od, .func (PySem.W.fnOf name qual params body scope dV kV doc pm an cdv ct), osl⟩) (hcd : PySem.W.codeIn K cdv qual = true) (S : FnScope N ps scope)
    (len : ∀ vs H Q E, sp vs H Q E → vs.length = ps.length)
    (hbody : ∀ (A : Around) (outer : List Env) (s : Shared) (H : Hp) (vs : List V) (Q : VK) (E : XK), A.guards = some [] → Room k (A.deeper (envOfC qual scope s.heap.objs.size f cdv)) → sp vs H Q E →
      ∃ t, PSs (cxOf CX P w K mg base N qual scope f cdv A outer s H E) body t ∧ t { nx := fun _ H' => Q .non H', rt := Q } (start N vs) H) :
    FnG P w K mg base CX (k + 1) f (PySem.W.fnOf name qual params body scope dV kV doc pm an cdv ct) ps sp := by
  refine ⟨len, fun A outer s H args us vs Q E hgd hr e0 hb r hsp => ?_⟩
  have hl := len _ _ _ _ hsp
  have KX : K.In s.heap := e0.mod.kin.keeps fun b o e => (e0.bs b o e).1
  have lim : s.heap.NoLimit := e0.mod.nolimit.keeps fun b o e => (e0.bs b o e).1
  have hkind : ∀ y ∈ ps.zip us, scope.names.lookup y.1 = some .local ∨ (scope.names.lookup y.1 = some .cell ∧ ((cellsFrom (s.heap.objs.size + 1) scope.names []).lookup y.1).isSome = true) := fun ⟨n, v⟩ hy => by
    rcases S.par n (List.of_mem_zip hy).1 with q | q
    · exact .inl q
    · exact .inr ⟨q, PySem.W.cellsFrom_some _ _ _ (.inl q)⟩
  refine codeAny_call_function hr.depth (KX _ _ lk) rfl S.co S.gen rfl (PySem.W.codeRec_of KX hcd) (hb _ _ _ _ ?_)
  refine wpAny_newFunctionEnv_cells S.kind hkind fun env he s1 x => ?_
  subst he
  refine ⟨lim.keeps x.toInCall.keep, codeAny_func ?_⟩
  obtain ⟨t, ht, hq⟩ := hbody A outer s H vs Q E hgd (hr.deeper _) hsp
  have I : Inv (cxOf CX P w K mg base N qual scope f cdv A outer s H E) [] (start N vs) H s1 := inv_start S hr.hd e0 hl r x
  refine wpAny_mono (ht.run [] s1 (start N vs) H _ I hq) (fun fl s' hs => ?_) fun e s' hs => hs
  have fin : ∀ {σ' : L2.St} {H' : Hp} {v : V} {u : Value}, Inv (cxOf CX P w K mg base N qual scope f cdv A outer s H E) [] σ' H' s' → RelV v u → Q v H' → CE outer P w H s Q u s' :=
    fun {σ' H' v u} J rv q => ⟨v, H', J.os, J.bare, J.base, J.hok, rv, q⟩
  cases fl with
  | ret u =>
    obtain ⟨v, σ', H', J, rv, q⟩ := hs
    exact fin J rv q
  | next =>
    obtain ⟨σ', H', J, q⟩ := hs
    exact fin (v := V.non) (u := Value.none) J rfl q
  | brk =>
    obtain ⟨_, _, _, q⟩ := hs
    exact False.elim q
  | cont =>
    obtain ⟨_, _, _, q⟩ := hs
    exact False.elim q

section
variable {P : Program} {w : World} {K : PySem.W.Frag} {mg : Str → Option Value} {base : Heap} {x qual : Str} {params : Arguments} {body : List Stmt} {scope : Scope} {dvs : List V} {kws : List (Str × V)} {f : Addr} {fd : FuncData} {N ps : List Str} {k n : Nat} {t : TDS}
theorem FunD.okG {CX : CXT} {sp : Sp} (F : FunD K x qual params body scope dvs kws f fd) (S : FnScope N ps scope) (len : ∀ vs H Q E, sp vs H Q E → vs.length = ps.length)
    (hbody : ∀ (cdv : Value) (A : Around) (outer : List Env) (s : Shared) (H : Hp) (vs : List V) (Q : VK) (E : XK), A.guards = some [] → Room k (A.deeper (envOfC qual scope s.heap.objs.size f cdv)) → sp vs H Q E →
      ∃ t, PSs (cxOf CX P w K mg base N qual scope f cdv A outer s H E) body t ∧ t { nx := fun _ H' => Q .non H', rt := Q } (start N vs) H) : FnG P w K mg base CX (k + 1) f fd ps sp := by
  obtain ⟨oc, od, dV, kV, doc, pm, an, cdv, ct, osl, rfl, lk, hcd, _, _⟩ := F.ex
  exact fn_ofG lk hcd S len fun A outer s H vs Q E hg hr hsp => hbody cdv A outer s H vs Q E hg hr hsp
/-- a def that draws: its first argument is the purse -/
theorem ok_ZG {R : RZ} (F : FunD K x qual params body scope [] kws f fd) (S : FnScope N ps scope) (hn : ps.length = n + 1)
    (hb : ∀ (cdv : Value) (A : Around) (outer : List Env) (s : Shared) (H : Hp) (E : XK), A.guards = some [] → Room k (A.deeper (envOfC qual scope s.heap.objs.size f cdv)) → DSs (cxOf CX0 P w K mg base N qual scope f cdv A outer s H E).nox body t)
    (hr : ∀ ds fu Q, ds.length = n → R ds fu Q → t (endZ Q) (enZ N.length ds fu)) : FnG P w K mg base CX0 (k + 1) f fd ps (spZ K n R) := by
  have hN : 1 ≤ N.length := by
    have := congrArg List.length S.pre
    rw [List.length_take] at this
    omega
  refine FunD.okG F S (fun vs H Q E h => ?_) (fun cdv A outer s H vs Q E hgd hroom h => ?_)
  · obtain ⟨_, p, c, vs', ds, fu, _, e, h1, _⟩ := h
    rw [e, List.length_cons, h1, hn]
  · obtain ⟨Fr, p, c, vs', ds, fu, hp, e, h1, h2, h2', h3, hz, h4, h5⟩ := h
    subst e
    have b := hb cdv A outer s H E hgd hroom
    have hz' : PzOk ⟨Fr.N0, Fr.pz, fun _ => False⟩ H fu := hz
    refine ⟨embS K t, PSs.nox b.run, ⟨Fr.N0, Fr.pz, fun _ => False⟩, _, _, rep_startZ (F := ⟨Fr.N0, Fr.pz, fun _ => False⟩) hp h2 h2' (fun a q => q.elim) h3 hz' h4 hN, ?_⟩
    refine b.mono _ _ _ ⟨fun E' q M' σ' H' s' R' => ?_, fun d m q v H' s' dv z l => ?_, fun d m q v H' s' dv z l => ?_, fun _ q => (show False from q).elim, fun _ q => (show False from q).elim⟩ (hr ds fu _ (by rw [← h4.length]; exact h1) h5)
    · exact q .non H' ⟨fun a o n e => s'.keep a o n e, fun a h => .inl h⟩ R'.len .non R'.pok
    · exact q v H' s' l dv z
    · exact q v H' s' l (dv.weak fun a z => .inl z) z
end
section
variable {X : Cx} {k : Nat} {f : Addr} {fd : FuncData} {ps : List Str} {sp : Sp} {dvs : List V} {ds : List Value} {x : Str} {p pos : Pos} {e : Expr} {es : List Expr} {t : TA} {E : XK}
theorem pe_callG (F : FnG X.prog X.w X.K X.mg X.base CX0 k f fd ps sp) (hgd : X.A.guards = some []) (hr : Room k X.A) (hg : Gl X x) (hm : X.mg x = some (.ref f)) (hk : PySem.W.keepIn X.K (.ref f) = true) (hb : Binds X.K fd ps [])
    (ha : PA X (e :: es) t) (hdb : (x == ("__debug__" : Str)) = false := by decide) (he : starEach (e :: es) X.env = (false, eval e X.env) :: starEach es X.env := by rfl) (hpl : (backTo pos (starEach es X.env)).any (·.1) = false := by rfl) :
    PE X (.Call (.Name x p) (e :: es) [] pos) (tCall sp [] E0 t) := by
  refine ⟨fun pins s σ H Q I h => ?_⟩
  refine wpAny_Call_Name_kw (ld_glob I hg hm ?_ hdb)
  refine PySem.W.callWith_K (h₀ := X.base) I.ok.mod.kin hk (thn (ha.run pos pins s σ H _ I h) fun us s1 ⟨vs, H1, I1, r, q⟩ => ⟨I1.kIn, ?_⟩) he hpl
  have r2 : Vals (vs ++ []) (us ++ []) := r.append .nil
  have hl : (us ++ []).length = ps.length := by rw [← r2.length]; exact F.len _ _ _ _ q
  refine wpAny_call (codeAny_mono (F.run X.A X.stack s1 H1 ⟨us, []⟩ (us ++ []) (vs ++ []) Q E0 hgd hr I1.env0 (hb s1 us I1.kIn hl) r2 q) fun r s' hq => ?_)
  cases r with
  | error e => exact pass0 pins σ H1 s1 e s' I1 hq
  | ok fl =>
    cases fl with
    | ret u => exact I1.after hq
    | next => exact False.elim hq
    | brk => exact False.elim hq
    | cont => exact False.elim hq
end
/-! ### the head's end -/
theorem law_callG {P : Program} {w : World} {K : PySem.W.Frag} {mg mb : Str → Option Value} {CX : CXT} {k : Nat} {fa a : Addr} {fd : FuncData} {x : Str} {sp : Sp} {s₁ : Shared} {vs : List Value} {ns : List Int}
    (KX : K.In s₁.heap) (hns : s₁.heap.Ns mainGlobals mg) (hb : s₁.heap.Ns builtinsNs mb) (hbb : ∀ x : Str, x ≠ "__name__" → mb x = bootBuiltins x) (hlim : s₁.heap.NoLimit) (hg : s₁.gens = #[])
    (ha : s₁.heap.get? a = some { cls := .type "list", data := .seq vs.toArray }) (hi : IntsAre vs ns) (hl : ns.length ≤ sizeLine) (hr : Room k callerA)
    (F : ∀ base : Heap, K.In base → base.Ns mainGlobals mg → FnG P w K mg base CX k fa fd [x] sp) (hbind : ∀ (s : Shared) (u : Value), BindsTo s fd ⟨[u], []⟩ [(x, u)])
    (hsp : ∀ H : Hp, Only H → SqL K H a (ns.map V.int) → sp [.ref a] H (fun v _ => v = .bl true) fun _ _ _ => False)
    (hCX : ∀ H e s', CX [] H s₁ (fun _ _ _ => False) e s' → False) :
    codeAny (model P w) callerA (.call (.ref fa) ⟨[.ref a], []⟩) (fun r s' => r = .ok (.ret (.bool true)) ∧ OldK s₁.heap s'.heap ∧ s'.os = s₁.os ∧ AllBare s'.gens) s₁ := by
  have rv := vals_ints hi
  have lenV := hi.length
  -- from an abstract heap in which nothing but the script may be tracked
  have core : ∀ H : Hp, Only H → SqL K H a (ns.map V.int) → HOk P w H s₁.heap → (∀ b, H b ≠ none → b = a) → (H a ≠ none → K.lookup a = none) →
      codeAny (model P w) callerA (.call (.ref fa) ⟨[.ref a], []⟩) (fun r s' => r = .ok (.ret (.bool true)) ∧ OldK s₁.heap s'.heap ∧ s'.os = s₁.os ∧ AllBare s'.gens) s₁ := by
    intro H hO hS hok hA hK
    have base_of : ∀ {b : Addr} {o : Obj}, s₁.heap.get? b = some o → H b = none → (hidT s₁.heap H).get? b = some o := fun e n => hidT_get e n
    have noA : ∀ {b : Addr} {o : Obj} {es : Array DictEntry} {ep : Nat}, s₁.heap.get? b = some o → o.data = .dict es ep → H b = none := fun {b o es ep} e d => by
      cases q : H b with
      | none => rfl
      | some u =>
        have e' : b = a := hA b (by rw [q]; simp)
        subst e'
        rw [ha] at e; cases e
        have d' : Data.seq vs.toArray _ = Data.dict es ep := d
        cases d'
    have nsK : ∀ {b : Addr} {m : Str → Option Value}, s₁.heap.Ns b m → (hidT s₁.heap H).Ns b m := fun {b m} ⟨o, es, ep, e, d, r⟩ => ⟨o, es, ep, base_of e (noA e d), d, r⟩
    have hKb : K.In (hidT s₁.heap H) := fun b o e => base_of (KX b o e) (by
      cases q : H b with
      | none => rfl
      | some u =>
        have e' : b = a := hA b (by rw [q]; simp)
        subst e'
        rw [hK (by rw [q]; simp)] at e; cases e)
    have hM : Mod K mg (hidT s₁.heap H) := ⟨hKb, nsK hns, ⟨mb, nsK hb, hbb⟩, let ⟨mc, h1, h2⟩ := hlim; ⟨mc, nsK h1, h2⟩⟩
    have e0 : Env0 P w K mg (hidT s₁.heap H) callerA [] s₁ H := ⟨rfl, hM, fun b o e => of_hidT e, Nat.le_of_eq (hidT_size _ _), trivial, fun b hb => absurd (show b ∈ ([] : List Addr) from hb) (by simp), hok, .of_eq hg⟩
    refine codeAny_mono ((F _ hKb (nsK hns)).run callerA [] s₁ H ⟨[.ref a], []⟩ [.ref a] [.ref a] _ _ rfl hr e0 (hbind s₁ (.ref a)) (.cons rfl .nil) (hsp H hO hS)) fun r s' h => ?_
    cases r with
    | error e => exact (hCX H e s' h).elim
    | ok fl =>
      cases fl with
      | next => exact False.elim h
      | brk => exact False.elim h
      | cont => exact False.elim h
      | ret u =>
        obtain ⟨v, H', os, bare, un, hok', r', q⟩ := h
        have q' : v = .bl true := q
        subst q'
        obtain rfl : u = Value.bool true := r'
        refine ⟨rfl, OldK.of_keep fun b o e => ?_, os, bare⟩
        cases q : H b with
        | none => exact un.keep b o e q (by intro z; exact absurd (show b ∈ ([] : List Addr) from z) (by simp)) (by simp)
        | some u =>
          rcases hO b with z | ⟨ob, xs, z⟩
          · rw [q] at z; cases z
          · have z2 := un.frzs b ob _ z
            obtain ⟨e1, _⟩ := hok b _ z
            obtain ⟨e2, _⟩ := hok' b _ z2
            rw [e] at e1; cases e1
            exact e2
  cases hk : K.lookup a with
  | some o =>
    -- the script is one of the module's own objects
    have e := KX a o hk
    rw [ha] at e
    cases e
    refine core (fun _ => none) (fun _ => .inl rfl) (.inr ⟨_, vs.toArray, _, hk, rfl, rfl, rfl, by rw [List.size_toArray, lenV]; exact hl, by simpa using rv⟩) (fun b u z => by have z' : (none : Option HO) = some u := z; cases z') (fun b z => absurd rfl z) fun z => absurd rfl z
  | none =>
    refine core (fun b => if b = a then some (.frz { cls := .type "list", data := .seq vs.toArray } (.lst (ns.map V.int))) else none) (fun b => ?_) (.inl (.inr ⟨{ cls := .type "list", data := .seq vs.toArray }, if_pos rfl⟩)) (fun b u z => ?_) (fun b z => ?_) fun _ => hk
    · by_cases hb : b = a
      · exact .inr ⟨_, _, if_pos hb⟩
      · exact .inl (if_neg hb)
    · by_cases hb : b = a
      · have z' := (if_pos hb).symm.trans z
        cases z'
        subst hb
        exact ⟨ha, by rw [List.length_map]; exact hl, vs, _, rv, ha⟩
      · have z' := (if_neg hb).symm.trans z
        cases z'
    · by_cases hb : b = a
      · exact hb
      · exact absurd (if_neg hb) z
theorem walk_ofG {l : PySem.W.OpenLaw} {n k : Nat} {q : Program} {loose : List Str} {XP : (Str → Option Value) → Heap → Prop} {YP : World → Heap → Prop} {d : DefRec} {CX : CXT} {x : Str}
    (hn : l.most = some n) (hn2 : n ≤ sizeLine) (hdf : d.params.defaults = []) (hr : Room k callerA)
    (F : ∀ (w : World) (mg : Str → Option Value) (fa : Addr) (h : Heap), YP w h → h.Ns mainGlobals mg → mg d.name = some (.ref fa) →
      ∃ (K : PySem.W.Frag) (fd : FuncData) (sp : Sp), K.In h ∧ (∀ (s : Shared) (u : Value), BindsTo s fd ⟨[u], []⟩ [(x, u)]) ∧
        (∀ (H : Hp) (a : Addr) (ns : List Int), ns.length ≤ n → Only H → SqL K H a (ns.map V.int) → sp [.ref a] H (fun v _ => v = .bl true) fun _ _ _ => False) ∧
        ∀ base : Heap, K.In base → base.Ns mainGlobals mg → FnG l.prog w K mg base CX k fa fd [x] sp)
    (hCX : ∀ (H : Hp) (s : Shared) (e : Value) (s' : Shared), CX [] H s (fun _ _ _ => False) e s' → False) :
    PySem.W.WalkO q loose XP YP l.row.toRowW d [] (fun f vs => PySem.call f vs) := by
  refine Att.attach_call hn hdf fun w s₀ s₁ mg mb fa o pm cd doc a vs ns G Y ho hd hcd hmg hobj hints hlen hg => ?_
  obtain ⟨K, fd, sp, KX, hb, hsp, hF⟩ := F w mg fa _ Y G.T.g hmg
  exact law_callG KX G.T.g G.T.b G.T.builtins G.T.nolimit hg hobj hints (Nat.le_trans hlen hn2) hr hF hb (fun H hO hS => hsp H a ns hlen hO hS) fun H e s' => hCX H s₁ e s'

section
variable {X : Cx} {e : Expr} {es : List Expr} {x : Str} {p pos : Pos} {f : Addr} {fd : FuncData} {ps : List Str} {j k n : Nat} {u : TDA} {t ta tb : TDE}
theorem FnG.mono {P : Program} {w : World} {K : PySem.W.Frag} {mg : Str → Option Value} {base : Heap} {CX : CXT} {sp : Sp} (F : FnG P w K mg base CX j f fd ps sp) (h : j ≤ k) :
    FnG P w K mg base CX k f fd ps sp := ⟨F.len, fun A outer s H args us vs Q E hg hr => F.run A outer s H args us vs Q E hg (hr.mono h)⟩
theorem de_callZG {z : Str} {pz : Pos} {R : RZ} (i : Nat) (G : FnG X.prog X.w X.K X.mg X.base CX0 j f fd ps (spZ X.K n R)) (hgd : X.A.guards = some []) (hR : MonoZ R) (hr : Room k X.A) (hk : PySem.W.keepIn X.K (.ref f) = true) (hb : Binds X.K fd ps []) (hm : X.mg x = some (.ref f)) (ha : DA X es u) (hj : j ≤ k := by decide) (hg : Gl X x := by rfl)
    (hN : X.N[i]? = some z := by rfl) (hv : Vis X.env.scope z := by first | exact Or.inl rfl | exact Or.inr (Or.inl rfl) | exact Or.inr (Or.inr rfl)) (hd : (z == ("__debug__" : Str)) = false := by decide) (hcd : (z == ("__classdict__" : Str)) = false := by decide)
    (hdb : (x == ("__debug__" : Str)) = false := by decide) (he : starEach (.Name z pz :: es) X.env = (false, eval (.Name z pz) X.env) :: starEach es X.env := by rfl) (hpl : (backTo pos (starEach es X.env)).any (·.1) = false := by rfl) : DE X (.Call (.Name x p) (.Name z pz :: es) [] pos) (dDraw i n R u) := by
  refine ⟨fun E Q Q' w q => ?_, (pe_callG (G.mono hj) hgd hr hg hm hk hb (pa_cons (pe_var hN hv hd hcd) ha.run he) hdb he hpl).imp fun σ H Q l ⟨F, M, E, Rp, q⟩ => ?_⟩
  · unfold dDraw at q ⊢
    split at q
    · exact ha.mono _ _ _ (fun ds E1 k => ⟨k.1, hR _ _ _ _ (fun d m y => w _ _ y) k.2⟩) q
    · exact q.elim
  · unfold dDraw at q
    split at q
    · rename_i hs
      obtain ⟨W, RW⟩ := id Rp
      obtain ⟨v, h1, p, c, hp, h2⟩ := RW.sl i _ hs
      subst h2
      refine ⟨_, h1, F, M, E, Rp, ha.mono _ _ _ (fun ds E1 k vs H1 s1 R1 d1 => ?_) q⟩
      show spZ X.K n R ((.ref p :: vs) ++ []) H1 _ E0
      rw [List.append_nil]
      refine ⟨⟨fun a => F.N0 a ∨ M a, F.pz, fun _ => False⟩, p, c, vs, ds, E1.fu, hp, rfl, d1.length.trans k.1, R1.nl, fun a y => .inl (R1.m0n a y).2, R1.len, R1.pok, d1, hR _ _ _ _ (fun d m y v H' st l' dd pz' _ => ?_) k.2⟩
      have st' : Step F.M0 H1 F.M0 H' := st
      exact y v H' (s1.trans (R1.stepM0 st')) (R1.after st' pz' l') dd
    · exact q.elim
/-- s.join(xs) -/
def oJoin (a : Str) (P : PyData → Prop) : PyData → Prop
  | .list ds => ∃ ys : List Str, ds = ys.map .str ∧ (ys.map (·.length)).sum + ys.length * a.length ≤ 16777216 ∧ P (.str (Txt.join a ys))
  | _ => False
def dJoinS (ta tb : TDE) : TDE := fun E Q => ta E fun x E1 => match x with
  | .str a => tb E1 fun y E2 => oJoin a (fun z => Q z E2) y
  | _ => False
theorem oJoin_mono {a : Str} {P P' : PyData → Prop} (w : ∀ d, P d → P' d) (y : PyData) (h : oJoin a P y) : oJoin a P' y := by
  cases y with
  | list ds => obtain ⟨ys, h1, h2, h3⟩ := h; exact ⟨ys, h1, h2, w _ h3⟩
  | _ => exact h.elim
theorem de_join {o e : Expr} {apos : Pos} (ho : DE X o ta) (he : DE X e tb) (hs : starEach [e] X.env = [(false, eval e X.env)] := by rfl) (hbase : attributeBase o "join" X.env (eval o X.env) = eval o X.env := by rfl) (hline : (apos.endLine == pos.line) = true := by rfl) :
    DE X (.Call (.Attribute o "join" apos) [e] [] pos) (dJoinS ta tb) := by
  refine ⟨fun E Q Q' w h => ho.mono _ _ _ (fun x E1 k => ?_) h, (pe_join ho.run he.run hs hbase hline).imp fun σ H Q l ⟨F, M, E, R, q⟩ => ?_⟩
  · cases x with
    | str a => exact he.mono _ _ _ (fun y E2 k2 => oJoin_mono (fun d z => w _ _ z) y k2) k
    | _ => exact k.elim
  · refine ⟨F, M, E, R, ho.mono _ _ _ (fun x E1 k v H1 s1 R1 d1 => ?_) q⟩
    cases x with
    | str a =>
      cases d1
      refine ⟨⟨a, rfl⟩, F, M, E1, R1, he.mono _ _ _ (fun y E2 k2 v2 H2 s2 R2 d2 => ?_) k⟩
      cases y with
      | list ds =>
        obtain ⟨ys, e1, h2, h3⟩ := k2
        subst e1
        cases d2 with
        | lst eq n r =>
          have hv := r.strs
          subst hv
          exact ⟨a, _, ys, rfl, rfl, .inl (.of eq), h2, fun l' => h3 _ H2 (s1.trans s2) R2 (.str _)⟩
      | _ => exact k2.elim
    | _ => exact k.elim
/-- -e -/
def oNeg (P : PyData → Prop) : PyData → Prop
  | .int i => P (.int (-i))
  | _ => False
theorem de_neg (ha : DE X e t) : DE X (.UnaryOp .USub e pos) (fun E Q => t E fun d E1 => oNeg (fun z => Q z E1) d) := by
  refine ⟨fun E Q Q' w h => ha.mono _ _ _ (fun d E1 k => ?_) h, (pe_un un_neg ha.run).imp fun σ H Q l ⟨F, M, E, R, q⟩ => ?_⟩
  · cases d with
    | int i => exact w _ _ k
    | _ => exact k.elim
  · refine ⟨F, M, E, R, ha.mono _ _ _ (fun d E1 k v H1 s1 R1 d1 => ?_) q⟩
    cases d with
    | int i =>
      cases d1
      exact ⟨i, rfl, fun l' => k _ H1 s1 R1 (.int _)⟩
    | _ => exact k.elim
end
end K22

set_option Elab.async false
set_option linter.all false
set_option maxRecDepth 100000
set_option maxHeartbeats 6400000
/-! Z10: slots of new data; the two appends that spoil them. -/
namespace K22
open PySem PySem.Spec PyProof.Rows L2
section
variable {K : PySem.W.Frag} {N : Addr → Prop} {H : Hp}
mutual
theorem Dat.foot : ∀ (d : PyData) (v : V), Dat K N H v d → ∃ As : List Addr, (∀ a ∈ As, IsL H a ∧ ¬ N a) ∧ Dat K (fun a => a ∉ As) H v d
  | .none, _, h => by cases h; exact ⟨[], by simp, .non⟩
  | .bool b, _, h => by cases h; exact ⟨[], by simp, .bl b⟩
  | .int i, _, h => by cases h; exact ⟨[], by simp, .int i⟩
  | .str x, _, h => by cases h; exact ⟨[], by simp, .str x⟩
  | .list ds, _, h => by
    cases h with
    | @lst a xs _ h n r =>
      obtain ⟨As, h1, h2⟩ := DatA.foot ds _ r
      refine ⟨a :: As, fun b hb => ?_, .lst h (fun z => z (List.mem_cons_self ..)) (h2.weak fun b z y => z (List.mem_cons_of_mem _ y))⟩
      rcases List.mem_cons.mp hb with rfl | hb
      · exact ⟨⟨_, h⟩, n⟩
      · exact h1 b hb
  | .tuple ds, _, h => by
    cases h with
    | tup h r =>
      obtain ⟨As, h1, h2⟩ := DatA.foot ds _ r
      exact ⟨As, h1, .tup h h2⟩
  | .dict _, _, h => by cases h
theorem DatA.foot : ∀ (ds : List PyData) (vs : List V), DatA K N H vs ds → ∃ As : List Addr, (∀ a ∈ As, IsL H a ∧ ¬ N a) ∧ DatA K (fun a => a ∉ As) H vs ds
  | [], _, h => by cases h; exact ⟨[], by simp, .nil⟩
  | d :: ds, _, h => by
    cases h with
    | cons h r =>
      obtain ⟨As, h1, h2⟩ := Dat.foot d _ h
      obtain ⟨Bs, h3, h4⟩ := DatA.foot ds _ r
      refine ⟨As ++ Bs, fun b hb => ?_, .cons (h2.weak fun b z y => z (List.mem_append_left _ y)) (h4.weak fun b z y => z (List.mem_append_right _ y))⟩
      rcases List.mem_append.mp hb with hb | hb
      · exact h1 b hb
      · exact h3 b hb
end
end
def dd : List Addr → List Addr
  | [] => []
  | a :: r => if a ∈ dd r then dd r else a :: dd r
theorem mem_dd {b : Addr} : ∀ {l : List Addr}, b ∈ dd l ↔ b ∈ l
  | [] => Iff.rfl
  | a :: r => by
    unfold dd
    split
    · rename_i h
      rw [mem_dd, List.mem_cons]
      refine ⟨.inr, fun z => ?_⟩
      rcases z with z | z
      · rw [z]; exact mem_dd.mp h
      · exact z
    · rw [List.mem_cons, List.mem_cons, mem_dd]
theorem dd_nodup : ∀ l : List Addr, (dd l).Nodup
  | [] => List.nodup_nil
  | a :: r => by
    unfold dd
    split
    · exact dd_nodup r
    · rename_i h
      exact List.nodup_cons.mpr ⟨h, dd_nodup r⟩
section
variable {X : Cx} {e : Expr} {es : List Expr} {x : Str} {p pos : Pos} {f : Addr} {fd : FuncData} {ps : List Str} {j k n : Nat} {R : RP} {u : TDA} {t : TDE}
/-- y = f(e, ..): new data in a slot, that may be spoiled -/
def dSetF (i n : Nat) (R : RP) (u : TDA) : TDS := fun D E => u E fun ds E1 => ds.length = n ∧ R ds fun d => D.nx (E1.set i (.frs d))
theorem ds_setF {y : Str} {pos' spos : Pos} (i : Nat) (hNd : X.N.Nodup) (G : FnOk X.prog X.w X.K X.mg X.base CX0 j f fd ps (spF X.K n R)) (hR : MonoP R) (hr : Room k X.A) (hk : PySem.W.keepIn X.K (.ref f) = true) (hb : Binds X.K fd ps []) (hm : X.mg x = some (.ref f)) (ha : DA X (e :: es) u) (hj : j ≤ k := by decide) (hg : Gl X x := by rfl)
    (hdb : (x == ("__debug__" : Str)) = false := by decide) (he : starEach (e :: es) X.env = (false, eval e X.env) :: starEach es X.env := by rfl) (hpl : (backTo pos (starEach es X.env)).any (·.1) = false := by rfl)
    (hi : X.N[i]? = some y := by rfl) (hx : Loc X.env.scope y := by first | exact Or.inl rfl | exact Or.inr rfl) (hs : swapsWith (.Call (.Name x p) (e :: es) [] pos) (some (.Name y pos')) spos.line X.env = pure false := by rfl)
    (hf : X.fn y = true ∨ X.env.scope.names.lookup y = some .local := by first | exact .inl rfl | exact .inr rfl | assumption) : DS X (.Assign [.Name y pos'] (.Call (.Name x p) (e :: es) [] pos) spos) (dSetF i n R u) := by
  refine ⟨fun D D' E w h => ha.mono _ _ _ (fun ds E1 k => ⟨k.1, hR _ _ _ (fun d z => w.nx _ z) k.2⟩) h, PS_imp (ps_set hNd hi hx (pe_call (E := E0) (dvs := []) (G.mono hj) hr hg hm hk hb .nil pass0 ha.run hdb he hpl) hs hf) fun D σ H l ⟨F, M, E, Rp, q⟩ => ?_⟩
  refine ⟨F, M, E, Rp, ha.mono _ _ _ (fun ds E1 k vs H1 s1 R1 d1 => ?_) q⟩
  show spF X.K n R (vs ++ []) H1 _ E0
  rw [List.append_nil]
  refine ⟨_, ds, d1.length.trans k.1, R1.nl, R1.len, d1, hR _ _ _ (fun d z v H' sm l' dv => ?_) k.2⟩
  obtain ⟨As, h1, h2⟩ := Dat.foot _ _ dv
  have fr : ∀ a ∈ dd As, H1 a = none := fun a ha => by
    have ⟨⟨xs, e1⟩, e2⟩ := h1 a (mem_dd.mp ha)
    cases c : H1 a with
    | none => rfl
    | some o =>
      have e3 := sm _ _ c
      rw [e1] at e3
      cases e3
      exact absurd (.inr ⟨xs, c⟩) e2
  obtain ⟨W, RW⟩ := R1
  obtain ⟨W', R2⟩ := RW.newOwn l' i v (.frs d) (dd As) sm fr (fun a ha => (h1 a (mem_dd.mp ha)).1) (dd_nodup As) ⟨v, rfl, h2.weak fun a z y => z (mem_dd.mpr y)⟩
  exact z _ _ _ ⟨fun a o n e => sm a o (s1.keep a o n e), fun a q => by
    rcases q with q | q
    · exact s1.new a q
    · exact s1.was (fr a q)⟩ ⟨W', R2⟩
/-- x[0].append(7); x[2][0].append(7) -/
def dSpoil (i : Nat) : TDS := fun D E => match E.sl[i]? with
  | some (.frs (.tuple [.list l0, _, .list (.list l3 :: _)])) => l0.length < 1000000 ∧ l3.length < 500000 ∧ D.nx (E.set i .no)
  | _ => False
theorem RepW.spoil {K : PySem.W.Frag} {F : Fm} {M : Addr → Prop} {W : Nat → List Addr} {H H' : Hp} {σ : L2.St} {E : En} {i : Nat} {d : PyData} (R : RepW K F M W H σ E) (hs : E.sl[i]? = some (.frs d)) (k : ∀ a o, a ∉ W i → H a = some o → H' a = some o) (isl : ∀ a ∈ W i, IsL H' a) (l : LenOk H') : Rep K F M H' σ (E.set i .no) := by
  obtain ⟨v, h1, _⟩ := R.sl i _ hs
  obtain ⟨W', R'⟩ := R.change l i .no (W i) [] (by simp) k (fun b hb => nomatch hb) isl (R.nd i) h1 trivial
  rw [m_nil] at R'
  exact ⟨W', R'⟩
theorem dss_spoil {e1 e2 : Expr} {p1 p2 : Pos} (i : Nat) 
    (h1 : PE X e1 (tBM X.K "list" rAppend (tOp (rIx X.K) (tVar i) (tC (.int 0))) (tCons (tC (.int 7)) tNil))) (h2 : PE X e2 (tBM X.K "list" rAppend (tOp (rIx X.K) (tOp (rIx X.K) (tVar i) (tC (.int 2))) (tC (.int 0))) (tCons (tC (.int 7)) tNil)))
    (hs1 : swapsWith e1 none p1.line X.env = pure false := by rfl) (hs2 : swapsWith e2 none p2.line X.env = pure false := by rfl) : DSs X [.Expr e1 p1, .Expr e2 p2] (dSpoil i) := by
  refine ⟨fun D D' E w h => ?_, ⟨fun pins s σ H D I q => (pss_cons (ps_expr h1 hs1) (pss_one (ps_expr h2 hs2))).run pins s σ H D I ?_⟩⟩
  · unfold dSpoil at h ⊢
    split at h
    · exact ⟨h.1, h.2.1, w.nx _ h.2.2⟩
    · exact h.elim
  · obtain ⟨F, M, E, ⟨W, R⟩, q⟩ := q
    unfold dSpoil at q
    split at q
    · rename_i l0 dm l3 r hs
      obtain ⟨v, g1, x, g2, g3⟩ := R.sl i _ hs
      subst g2
      cases g3 with
      | @tup T xs _ hT r3 =>
        cases r3 with
        | cons q0 r3 =>
          cases r3 with
          | cons q1 r3 =>
            cases r3 with
            | cons q2 r3 =>
              cases r3
              cases q0 with
              | @lst a0 xs0 _ e0 n0 r0 =>
                cases q2 with
                | @lst a2 xs2 _ e2 n2 r2 =>
                  cases r2 with
                  | @cons x3 xs3 _ _ q3 r4 =>
                    cases q3 with
                    | @lst a3 xs3' _ e3 n3 r5 =>
                      have m0 : a0 ∈ W i := Classical.not_not.mp n0
                      have m2 : a2 ∈ W i := Classical.not_not.mp n2
                      have m3 : a3 ∈ W i := Classical.not_not.mp n3
                      have big : 1000000 ≤ sizeLine := sizeLine_big
                      have z0 : xs0.length < 1000000 := by rw [r0.length]; exact q.1
                      have z3 : xs3'.length < 500000 := by rw [r5.length]; exact q.2.1
                      -- the heap behind the first
                      have keep1 : ∀ a o, a ∉ W i → H a = some o → upd H a0 (.lst (xs0 ++ [.int 7])) a = some o := fun a o n e => by rw [upd_ne (fun c => n (by rw [c]; exact m0))]; exact e
                      have tk : ∀ {Tt : Addr} {ys : List V}, SqT X.K H Tt ys → SqT X.K (upd H a0 (.lst (xs0 ++ [.int 7]))) Tt ys := fun {Tt ys} h => by
                        rcases h with (h | ⟨o, h⟩) | h
                        · exact .inl (.inl (by rw [upd_ne (ne_of h e0 (by intro z; cases z))]; exact h))
                        · exact .inl (.inr ⟨o, by rw [upd_ne (ne_of h e0 (by intro z; cases z))]; exact h⟩)
                        · exact .inr h
                      -- the matrix and its first row
                      have e2' : ∃ ys, upd H a0 (.lst (xs0 ++ [.int 7])) a2 = some (.lst ys) ∧ ys[0]? = some (.ref a3) := by
                        by_cases c : a2 = a0
                        · subst c
                          rw [e2] at e0
                          cases e0
                          exact ⟨_, upd_same, rfl⟩
                        · exact ⟨_, by rw [upd_ne c]; exact e2, rfl⟩
                      have e3' : ∃ zs : List V, upd H a0 (.lst (xs0 ++ [.int 7])) a3 = some (.lst zs) ∧ zs.length ≤ 1000000 := by
                        by_cases c : a3 = a0
                        · subst c
                          rw [e3] at e0
                          cases e0
                          exact ⟨_, upd_same, by simp; omega⟩
                        · exact ⟨_, by rw [upd_ne c]; exact e3, by omega⟩
                      obtain ⟨ys, f2, f2'⟩ := e2'
                      obtain ⟨zs, f3, f3'⟩ := e3'
                      have at0 : ∀ {α : Type} {l : List α} {y : α}, l[0]? = some y → atI l 0 = some y := fun h => atI_nat h
                      have hz3 : zs.length < sizeLine := by
                        by_cases c : zs.length < 1000000
                        · exact Nat.lt_of_lt_of_le c big
                        · have : zs.length = 1000000 := by omega
                          rw [this, sizeLine_eq]; decide
                      refine ⟨_, g1, .inr (.inl ⟨T, _, 0, .ref a0, rfl, rfl, hT, rfl, ⟨.inl ⟨rfl, xs0, SqL.of e0⟩, a0, xs0, .int 7, rfl, rfl, e0, Nat.lt_of_lt_of_le z0 big, ?_⟩⟩)⟩
                      refine ⟨_, g1, .inr (.inl ⟨T, _, 2, .ref a2, rfl, rfl, tk hT, rfl, .inl ⟨a2, ys, 0, .ref a3, rfl, rfl, .of f2, at0 f2', ⟨.inl ⟨rfl, zs, SqL.of f3⟩, a3, zs, .int 7, rfl, rfl, f3, hz3, ?_⟩⟩⟩)⟩
                      refine q.2.2 M σ _ ⟨fun a o n e => ?_, fun a h => .inl h⟩ (R.spoil hs (fun a o n e => ?_) (fun a ha => ?_) fun a xs e => ?_)
                      · rw [upd_ne (fun c => n (by rw [c]; exact (R.mine i a3 m3).1)), upd_ne (fun c => n (by rw [c]; exact (R.mine i a0 m0).1))]; exact e
                      · rw [upd_ne (fun c => n (by rw [c]; exact m3))]; exact keep1 a o n e
                      · by_cases c : a = a3
                        · rw [c]; exact ⟨_, upd_same⟩
                        · by_cases c2 : a = a0
                          · rw [c2] at c ⊢
                            exact ⟨_, by rw [upd_ne c, upd_same]⟩
                          · obtain ⟨ws, ew⟩ := R.m a (R.mine i a ha).1
                            exact ⟨ws, by rw [upd_ne c, upd_ne c2]; exact ew⟩
                      · by_cases c : a = a3
                        · rw [c, upd_same] at e
                          cases e
                          rw [List.length_append]
                          exact hz3
                        · rw [upd_ne c] at e
                          by_cases c2 : a = a0
                          · rw [c2, upd_same] at e
                            cases e
                            rw [List.length_append]
                            exact Nat.lt_of_lt_of_le z0 big
                          · rw [upd_ne c2] at e
                            exact R.len a xs e
    · exact q.elim
end
end K22

set_option Elab.async false
set_option linter.all false
set_option maxRecDepth 100000
set_option maxHeartbeats 6400000
/-! Z11: own lists of own lists. -/
namespace K22
open PySem PySem.Spec PyProof.Rows L2
theorem atI_last {α : Type} (xs : List α) (x : α) : atI (xs ++ [x]) (-1) = some x := by
  have h : ixN (xs ++ [x]).length (-1) = some xs.length := by
    unfold ixN
    rw [if_neg (by omega), if_pos (by simp; omega)]
    simp
    omega
  unfold atI
  rw [h]
  simp
section
variable {K : PySem.W.Frag} {N : Addr → Prop} {H : Hp}
theorem Rows.app : ∀ {bs : List Addr} {ll : List (List PyData)} {cs : List Addr} {mm : List (List PyData)}, Rows K N H bs ll → Rows K N H cs mm → Rows K N H (bs ++ cs) (ll ++ mm)
  | [], _, _, _, h, g => by cases h; exact g
  | b :: bs, _, _, _, h, g => by
    cases h with
    | cons h r t => exact .cons h r (Rows.app t g)
theorem Rows.last : ∀ {bs : List Addr} {ll : List (List PyData)} {l : List PyData}, Rows K N H bs (ll ++ [l]) → ∃ (bs0 : List Addr) (b : Addr) (xs : List V), bs = bs0 ++ [b] ∧ Rows K N H bs0 ll ∧ H b = some (.lst xs) ∧ DatA K N H xs l
  | bs, [], l, h => by
    cases h with
    | cons h r t =>
      cases t
      exact ⟨[], _, _, rfl, .nil, h, r⟩
  | bs, m :: ll, l, h => by
    cases h with
    | cons h r t =>
      obtain ⟨bs0, b, xs, rfl, q1, q2, q3⟩ := Rows.last t
      exact ⟨_ :: bs0, b, xs, rfl, .cons h r q1, q2, q3⟩
end
theorem seq_keep {K : PySem.W.Frag} {H : Hp} {a : Addr} {xs : List V} {o : HO} (e : H a = some (.lst xs)) {Tt : Addr} {ys : List V} (h : SqT K H Tt ys) : SqT K (upd H a o) Tt ys := by
  rcases h with (h | ⟨o, h⟩) | h
  · exact .inl (.inl (by rw [upd_ne (ne_of h e (by intro z; cases z))]; exact h))
  · exact .inl (.inr ⟨o, by rw [upd_ne (ne_of h e (by intro z; cases z))]; exact h⟩)
  · exact .inr h
theorem len_upd {H : Hp} {a : Addr} {xs : List V} (l : LenOk H) (h : xs.length ≤ sizeLine) : LenOk (upd H a (.lst xs)) := fun b ys e => by
  by_cases c : b = a
  · rw [c, upd_same] at e
    cases e
    exact h
  · rw [upd_ne c] at e
    exact l b ys e
section
variable {X : Cx} {pos : Pos}
/-- an own list, empty so far: rows will lie in it -/
def dConv (i : Nat) (t : TDS) : TDS := fun D E => E.sl[i]? = some (.own []) ∧ t D (E.set i (.own2 []))
theorem dss_conv {rest : List Stmt} {t : TDS} (i : Nat) (h : DSs X rest t) : DSs X rest (dConv i t) := by
  refine ⟨fun D D' E w q => ⟨q.1, h.mono _ _ _ w q.2⟩, ⟨fun pins s σ H D I q => h.run.run pins s σ H D I ?_⟩⟩
  obtain ⟨F, M, E, ⟨W, R⟩, q1, q2⟩ := q
  obtain ⟨v, h1, a, xs, h2, h3, h4, h5⟩ := R.sl i _ q1
  subst h2
  cases h5
  obtain ⟨W', R'⟩ := R.change R.len i (.own2 []) (W i) [] (by simp) (fun _ _ _ e => e) (fun b hb => nomatch hb) (fun b hb => R.m b (R.mine i b hb).1) (R.nd i) h1 ⟨a, [], rfl, h3, h4, by rw [m_nil]; exact .nil⟩
  rw [m_nil] at R'
  exact ⟨F, M, _, ⟨W', R'⟩, q2⟩
/-- x = [[]] -/
def dNew2 (i : Nat) : TDS := fun D E => D.nx (E.set i (.own2 [[]]))
theorem ds_new2 {x : Str} {pos' p1 p2 : Pos} (i : Nat) (hN : X.N.Nodup) (hi : X.N[i]? = some x := by rfl) (hx : Loc X.env.scope x := by first | exact Or.inl rfl | exact Or.inr rfl) (hs : swapsWith (.List [.List [] p1] p2) (some (.Name x pos')) pos.line X.env = pure false := by rfl)
    (hf : X.fn x = true ∨ X.env.scope.names.lookup x = some .local := by first | exact .inl rfl | exact .inr rfl | assumption) (he : starEach [.List [] p1] X.env = (false, eval (.List [] p1) X.env) :: starEach [] X.env := by rfl) : DS X (.Assign [.Name x pos'] (.List [.List [] p1] p2) pos) (dNew2 i) := by
  refine ⟨fun D D' E w q => w.nx _ q, PS_imp (ps_set hN hi hx (pe_lst (pa_cons (pe_lst pa_nil) pa_nil he)) hs hf) fun D σ H l ⟨F, M, E, R, q⟩ => ?_⟩
  refine ⟨Nat.zero_le _, fun p0 hp0 => ⟨by show 1 ≤ sizeLine; decide, fun p hp => ?_⟩⟩
  have ne : p ≠ p0 := fun z => by rw [z, upd_same] at hp; cases hp
  have hpH : H p = none := by rw [upd_ne ne] at hp; exact hp
  obtain ⟨W, RW⟩ := R
  have sm : Same H (upd (upd H p0 (.lst [])) p (.lst [.ref p0])) := fun a o e => same_new hp _ _ (same_new hp0 _ _ e)
  have lk : LenOk (upd (upd H p0 (.lst [])) p (.lst [.ref p0])) := len_upd (len_upd RW.len (Nat.zero_le _)) (by show 1 ≤ sizeLine; decide)
  have e0 : upd (upd H p0 (.lst [])) p (.lst [.ref p0]) p0 = some (.lst []) := by rw [upd_ne (Ne.symm ne), upd_same]
  obtain ⟨W', R2⟩ := RW.newOwn lk i (.ref p) (.own2 [[]]) [p, p0] sm (fun a ha => by
    rcases List.mem_cons.mp ha with rfl | ha
    · exact hpH
    · rw [List.mem_singleton.mp ha]; exact hp0) (fun a ha => by
    rcases List.mem_cons.mp ha with rfl | ha
    · exact ⟨_, upd_same⟩
    · rw [List.mem_singleton.mp ha]; exact ⟨_, e0⟩) (by simp [ne])
    ⟨p, [p0], rfl, rfl, upd_same, .cons e0 .nil .nil⟩
  exact q _ _ _ ⟨fun a o n e => sm a o e, fun a q => by
    rcases q with q | q
    · exact .inl q
    · rcases List.mem_cons.mp q with rfl | q
      · exact .inr hpH
      · rw [List.mem_singleton.mp q]; exact .inr hp0⟩ ⟨W', R2⟩
/-- x.append([]) -/
def dApp2 (i : Nat) : TDS := fun D E => match E.sl[i]? with
  | some (.own2 ll) => ll.length < 1000000 ∧ D.nx (E.set i (.own2 (ll ++ [[]])))
  | _ => False
theorem ds_app2 {e : Expr} (i : Nat) (hp : PE X e (tBM X.K "list" rAppend (tVar i) (tCons (tLst tNil) tNil))) (hs : swapsWith e none pos.line X.env = pure false := by rfl) : DS X (.Expr e pos) (dApp2 i) := by
  refine ⟨fun D D' E w q => ?_, PS_imp (ps_expr hp hs) fun D σ H l ⟨F, M, E, ⟨W, R⟩, q⟩ => ?_⟩
  · unfold dApp2 at q ⊢
    split at q
    · exact ⟨q.1, w.nx _ q.2⟩
    · exact q.elim
  · unfold dApp2 at q
    split at q
    · rename_i ll hs0
      obtain ⟨v, h1, a, bs, h2, h3, h4, h5⟩ := R.sl i _ hs0
      subst h2
      refine ⟨_, h1, .inl ⟨rfl, _, SqL.of h4⟩, Nat.zero_le _, fun p hp => ?_⟩
      have nd := R.nd i
      rw [h3] at nd
      have mA : ∀ b ∈ a :: bs, M b := fun b hb => (R.mine i b (by rw [h3]; exact hb)).1
      have nep : ∀ {b : Addr} {o : HO}, H b = some o → b ≠ p := fun e z => by rw [z, hp] at e; cases e
      have ea : upd H p (.lst []) a = some (.lst (bs.map V.ref)) := by rw [upd_ne (nep h4)]; exact h4
      have hlen : bs.length < 1000000 := by rw [h5.length]; exact q.1
      have big := sizeLine_big
      refine ⟨a, bs.map V.ref, .ref p, rfl, rfl, ea, by rw [List.length_map]; omega, ?_⟩
      have keepH : ∀ c o, c ∉ W i → H c = some o → upd (upd H p (.lst [])) a (.lst (bs.map V.ref ++ [.ref p])) c = some o := fun c o n e => by
        rw [upd_ne (fun z => n (by rw [z, h3]; exact List.mem_cons_self ..)), upd_ne (nep e)]; exact e
      have hpl : upd (upd H p (.lst [])) a (.lst (bs.map V.ref ++ [.ref p])) p = some (.lst []) := by rw [upd_ne (fun z => by rw [← z, hp] at h4; cases h4), upd_same]
      have hb : ∀ b ∈ bs, ∀ xs, H b = some (.lst xs) → upd (upd H p (.lst [])) a (.lst (bs.map V.ref ++ [.ref p])) b = some (.lst xs) := fun b hb xs e => by
        rw [upd_ne (fun z => (List.nodup_cons.mp nd).1 (by rw [← z]; exact hb)), upd_ne (nep e)]; exact e
      obtain ⟨W', R'⟩ := R.change (H' := upd (upd H p (.lst [])) a (.lst (bs.map V.ref ++ [.ref p]))) (len_upd (len_upd R.len (Nat.zero_le _)) (by simp; omega)) i (.own2 (ll ++ [[]])) (W i ++ [p]) [p] rfl keepH (fun b hb => by rw [List.mem_singleton.mp hb]; exact hp)
        (fun b hb' => by
          rcases List.mem_append.mp hb' with z | z
          · rw [h3] at z
            rcases List.mem_cons.mp z with rfl | z
            · exact ⟨_, upd_same⟩
            · obtain ⟨ys, e⟩ := R.m b (mA b (List.mem_cons_of_mem _ z))
              exact ⟨ys, hb b z ys e⟩
          · rw [List.mem_singleton.mp z]; exact ⟨_, hpl⟩)
        (by
          rw [List.nodup_append]
          refine ⟨R.nd i, by simp, fun b hb1 c hc => ?_⟩
          rw [List.mem_singleton.mp hc]
          obtain ⟨ys, e⟩ := R.m b (R.mine i b hb1).1
          exact nep e) h1
        ⟨a, bs ++ [p], rfl, by rw [h3]; rfl, by rw [upd_same, List.map_append]; rfl, Rows.app (h5.move (fun c xs e n => ⟨by rw [upd_ne (fun z => n (.inr (by rw [z]; exact mA a (List.mem_cons_self ..)))), upd_ne (nep e)]; exact e, fun z => by
            rcases z with z | z | z
            · exact n (.inl z)
            · exact n (.inr z)
            · exact nep e (List.mem_singleton.mp z)⟩) (fun c xs h => seq_keep ea (sqT_same (same_new hp) h)) hb) (.cons hpl .nil .nil)⟩
      exact q.2 _ _ _ ⟨fun c o n e => by rw [upd_ne (fun z => n (by rw [z]; exact mA a (List.mem_cons_self ..))), upd_ne (nep e)]; exact e, fun c z => by
        rcases z with z | z
        · exact .inl z
        · rw [List.mem_singleton.mp z]; exact .inr hp⟩ ⟨W', R'⟩
    · exact q.elim
/-- x[-1].append(y) -/
def dAppL (i k : Nat) : TDS := fun D E => match E.sl[i]?, E.sl[k]? with
  | some (.own2 ll), some (.dat d) => ∃ ll0 l, ll = ll0 ++ [l] ∧ l.length < 1000000 ∧ D.nx (E.set i (.own2 (ll0 ++ [l ++ [d]])))
  | _, _ => False
theorem ds_appL {e : Expr} (i k : Nat) (hp : PE X e (tBM X.K "list" rAppend (tOp (rIx X.K) (tVar i) (tUn (rU fun i => .int (-i)) (tC (.int 1)))) (tCons (tVar k) tNil))) (hs : swapsWith e none pos.line X.env = pure false := by rfl) : DS X (.Expr e pos) (dAppL i k) := by
  refine ⟨fun D D' E w q => ?_, PS_imp (ps_expr hp hs) fun D σ H l ⟨F, M, E, ⟨W, R⟩, q⟩ => ?_⟩
  · unfold dAppL at q ⊢
    split at q
    · obtain ⟨ll0, l, q1, q2, q3⟩ := q
      exact ⟨ll0, l, q1, q2, w.nx _ q3⟩
    · exact q.elim
  · unfold dAppL at q
    split at q
    · rename_i ll d hs0 hk0
      obtain ⟨ll0, l, rfl, q2, q3⟩ := q
      obtain ⟨v, h1, a, bs, h2, h3, h4, h5⟩ := R.sl i _ hs0
      subst h2
      obtain ⟨vk, g1, y, g2, g3⟩ := R.sl k _ hk0
      subst g2
      obtain ⟨bs0, b, xs, rfl, r1, r2, r3⟩ := Rows.last h5
      have nd := R.nd i
      rw [h3] at nd
      have mA : ∀ c ∈ a :: (bs0 ++ [b]), M c := fun c hc => (R.mine i c (by rw [h3]; exact hc)).1
      have mb : b ∈ a :: (bs0 ++ [b]) := by simp
      have nab : b ≠ a := fun z => (List.nodup_cons.mp nd).1 (by rw [← z]; simp)
      have big := sizeLine_big
      have hxl : xs.length < 1000000 := by rw [r3.length]; exact q2
      have hat : atI ((bs0 ++ [b]).map V.ref) (-1) = some (.ref b) := by rw [List.map_append]; exact atI_last _ _
      refine ⟨_, h1, 1, rfl, .inl ⟨a, _, -1, .ref b, rfl, rfl, .of h4, hat, .inl ⟨rfl, xs, SqL.of r2⟩, _, g1, b, xs, y, rfl, rfl, r2, by omega, ?_⟩⟩
      have nb0 : ∀ c ∈ bs0, c ≠ b := fun c hc z => by
        have := (List.nodup_cons.mp nd).2
        rw [List.nodup_append] at this
        exact this.2.2 c hc b (by simp) z
      have kl : ∀ (c : Addr) (zs : List V), H c = some (.lst zs) → ¬ (F.N0 c ∨ M c) → upd H b (.lst (xs ++ [y])) c = some (.lst zs) ∧ ¬ (F.N0 c ∨ M c) := fun c zs e n => ⟨by rw [upd_ne (fun z => n (.inr (by rw [z]; exact mA b mb)))]; exact e, n⟩
      have kt : ∀ c zs, SqT X.K H c zs → SqT X.K (upd H b (.lst (xs ++ [y]))) c zs := fun c zs h => seq_keep r2 h
      obtain ⟨W', R'⟩ := R.change (H' := upd H b (.lst (xs ++ [y]))) (len_upd R.len (by simp; omega)) i (.own2 (ll0 ++ [l ++ [d]])) (W i) [] (by simp) (fun c o n e => by rw [upd_ne (fun z => n (by rw [z, h3]; exact mb))]; exact e) (fun c hc => nomatch hc)
        (fun c hc => by
          by_cases z : c = b
          · rw [z]; exact ⟨_, upd_same⟩
          · obtain ⟨ys, e⟩ := R.m c (R.mine i c hc).1
            exact ⟨ys, by rw [upd_ne z]; exact e⟩) (R.nd i) h1
        ⟨a, bs0 ++ [b], rfl, h3, by rw [upd_ne (Ne.symm nab)]; exact h4, by
          rw [m_nil]
          exact Rows.app (r1.move kl kt (fun c hc zs e => by rw [upd_ne (nb0 c hc)]; exact e)) (.cons upd_same ((DatA.move kl kt _ _ r3).app (.one (Dat.move kl kt _ _ g3))) .nil)⟩
      rw [m_nil] at R'
      exact q3 _ _ _ (step_own (mA b mb)) ⟨W', R'⟩
    · exact q.elim
end
end K22

set_option Elab.async false
set_option linter.all false
set_option maxRecDepth 100000
set_option maxHeartbeats 0
namespace K22
open PySem PySem.Spec PyProof.Rows L2
/-! ### the text: the defs of the top -/
def top (i : Nat) : Stmt := PySem.Challenge.pw_countveil_k22_whole_tables_put_together.main.body.getD i (.Pass ⟨0, 0, 0, 0⟩)
abbrev s_shared : Stmt := top 13
abbrev s_is_whole : Stmt := top 14
abbrev s_is_fraction : Stmt := top 15
abbrev s_lowest : Stmt := top 16
abbrev s_plus : Stmt := top 17
abbrev s_is_word : Stmt := top 25
abbrev s_is_code : Stmt := top 26
abbrev s_are_unlike_codes : Stmt := top 27
abbrev s_is_sort : Stmt := top 28
abbrev s_plan_wrong : Stmt := top 29
abbrev s_must_be_plan : Stmt := top 30
abbrev s_is_sort_number : Stmt := top 31
abbrev s_are_labels : Stmt := top 36
abbrev s_is_cell : Stmt := top 37
abbrev s_table_wrong : Stmt := top 38
abbrev s_must_be_table : Stmt := top 39
abbrev s_turned_cells : Stmt := top 40
abbrev s_totals : Stmt := top 41
abbrev s_turned_table : Stmt := top 42
abbrev s_fitted_cells : Stmt := top 43
abbrev s_added : Stmt := top 44
abbrev s_are_lots : Stmt := top 45
abbrev s_lots_added : Stmt := top 46
abbrev s_put_together : Stmt := top 47
abbrev s_is_answer : Stmt := top 51
abbrev s_record_in : Stmt := top 52
abbrev s_record_wrong : Stmt := top 53
abbrev s_book_in : Stmt := top 54
abbrev s_book_wrong : Stmt := top 55
abbrev s_must_be_record : Stmt := top 56
abbrev s_must_be_book : Stmt := top 57
abbrev s_gaps : Stmt := top 58
abbrev s_must_be_sorts : Stmt := top 61
abbrev s_cells_of : Stmt := top 62
abbrev s_amounts_by : Stmt := top 63
abbrev s_summed : Stmt := top 64
abbrev s_table_of : Stmt := top 65
abbrev s_weighed_cells : Stmt := top 66
abbrev s_layers : Stmt := top 67
abbrev s_law_purse : Stmt := top 69
abbrev s_law_draw : Stmt := top 70
abbrev s_law_pick : Stmt := top 71
abbrev s_law_word : Stmt := top 72
abbrev s_law_codes : Stmt := top 73
abbrev s_law_plan : Stmt := top 74
abbrev s_law_record : Stmt := top 75
abbrev s_law_book : Stmt := top 76
abbrev s_law_labels : Stmt := top 77
abbrev s_law_table : Stmt := top 78
abbrev s_law_order : Stmt := top 79
abbrev s_law_lots : Stmt := top 80
abbrev s_law_summed : Stmt := top 81
abbrev s_law_about : Stmt := top 82
abbrev s_law_put_right : Stmt := top 83
abbrev s_law_added_right : Stmt := top 84
abbrev s_law_books_right : Stmt := top 85
abbrev s_law : Stmt := top 86
abbrev FnP (K : PySem.W.Frag) (x : Str) (st : Stmt) (f : Addr) (fd : FuncData) : Prop := FunD K x x (defArgs st) (defBody st) (defScope st) [] [] f fd
abbrev FnPk (K : PySem.W.Frag) (x : Str) (st : Stmt) (f : Addr) (fd : FuncData) : Prop := FunD K x x (defArgs st) (defBody st) (defScope st) [] [("what", .str "count")] f fd
/-! ### the head: facts by names, the run -/
def d_shared : He.DefD := ⟨("shared", none), "shared", "shared", defArgs s_shared, defBody s_shared, defScope s_shared, [], []⟩
def d_is_whole : He.DefD := ⟨("is_whole", none), "is_whole", "is_whole", defArgs s_is_whole, defBody s_is_whole, defScope s_is_whole, [], []⟩
def d_is_fraction : He.DefD := ⟨("is_fraction", none), "is_fraction", "is_fraction", defArgs s_is_fraction, defBody s_is_fraction, defScope s_is_fraction, [], []⟩
def d_lowest : He.DefD := ⟨("lowest", none), "lowest", "lowest", defArgs s_lowest, defBody s_lowest, defScope s_lowest, [], []⟩
def d_plus : He.DefD := ⟨("plus", none), "plus", "plus", defArgs s_plus, defBody s_plus, defScope s_plus, [], []⟩
def d_is_word : He.DefD := ⟨("is_word", none), "is_word", "is_word", defArgs s_is_word, defBody s_is_word, defScope s_is_word, [], []⟩
def d_is_code : He.DefD := ⟨("is_code", none), "is_code", "is_code", defArgs s_is_code, defBody s_is_code, defScope s_is_code, [], []⟩
def d_are_unlike_codes : He.DefD := ⟨("are_unlike_codes", none), "are_unlike_codes", "are_unlike_codes", defArgs s_are_unlike_codes, defBody s_are_unlike_codes, defScope s_are_unlike_codes, [], []⟩
def d_is_sort : He.DefD := ⟨("is_sort", none), "is_sort", "is_sort", defArgs s_is_sort, defBody s_is_sort, defScope s_is_sort, [], []⟩
def d_plan_wrong : He.DefD := ⟨("plan_wrong", none), "plan_wrong", "plan_wrong", defArgs s_plan_wrong, defBody s_plan_wrong, defScope s_plan_wrong, [], []⟩
def d_must_be_plan : He.DefD := ⟨("must_be_plan", none), "must_be_plan", "must_be_plan", defArgs s_must_be_plan, defBody s_must_be_plan, defScope s_must_be_plan, [], []⟩
def d_is_sort_number : He.DefD := ⟨("is_sort_number", none), "is_sort_number", "is_sort_number", defArgs s_is_sort_number, defBody s_is_sort_number, defScope s_is_sort_number, [], []⟩
def d_are_labels : He.DefD := ⟨("are_labels", none), "are_labels", "are_labels", defArgs s_are_labels, defBody s_are_labels, defScope s_are_labels, [], []⟩
def d_is_cell : He.DefD := ⟨("is_cell", none), "is_cell", "is_cell", defArgs s_is_cell, defBody s_is_cell, defScope s_is_cell, [], []⟩
def d_table_wrong : He.DefD := ⟨("table_wrong", none), "table_wrong", "table_wrong", defArgs s_table_wrong, defBody s_table_wrong, defScope s_table_wrong, [], []⟩
def d_must_be_table : He.DefD := ⟨("must_be_table", none), "must_be_table", "must_be_table", defArgs s_must_be_table, defBody s_must_be_table, defScope s_must_be_table, [], []⟩
def d_turned_cells : He.DefD := ⟨("turned_cells", none), "turned_cells", "turned_cells", defArgs s_turned_cells, defBody s_turned_cells, defScope s_turned_cells, [], []⟩
def d_totals : He.DefD := ⟨("totals", none), "totals", "totals", defArgs s_totals, defBody s_totals, defScope s_totals, [], []⟩
def d_turned_table : He.DefD := ⟨("turned_table", none), "turned_table", "turned_table", defArgs s_turned_table, defBody s_turned_table, defScope s_turned_table, [], []⟩
def d_fitted_cells : He.DefD := ⟨("fitted_cells", none), "fitted_cells", "fitted_cells", defArgs s_fitted_cells, defBody s_fitted_cells, defScope s_fitted_cells, [], []⟩
def d_added : He.DefD := ⟨("added", none), "added", "added", defArgs s_added, defBody s_added, defScope s_added, [], []⟩
def d_are_lots : He.DefD := ⟨("are_lots", none), "are_lots", "are_lots", defArgs s_are_lots, defBody s_are_lots, defScope s_are_lots, [], []⟩
def d_lots_added : He.DefD := ⟨("lots_added", none), "lots_added", "lots_added", defArgs s_lots_added, defBody s_lots_added, defScope s_lots_added, [], []⟩
def d_put_together : He.DefD := ⟨("put_together", none), "put_together", "put_together", defArgs s_put_together, defBody s_put_together, defScope s_put_together, [], []⟩
def d_is_answer : He.DefD := ⟨("is_answer", none), "is_answer", "is_answer", defArgs s_is_answer, defBody s_is_answer, defScope s_is_answer, [], []⟩
def d_record_in : He.DefD := ⟨("record_in", none), "record_in", "record_in", defArgs s_record_in, defBody s_record_in, defScope s_record_in, [], []⟩
def d_record_wrong : He.DefD := ⟨("record_wrong", none), "record_wrong", "record_wrong", defArgs s_record_wrong, defBody s_record_wrong, defScope s_record_wrong, [], []⟩
def d_book_in : He.DefD := ⟨("book_in", none), "book_in", "book_in", defArgs s_book_in, defBody s_book_in, defScope s_book_in, [], []⟩
def d_book_wrong : He.DefD := ⟨("book_wrong", none), "book_wrong", "book_wrong", defArgs s_book_wrong, defBody s_book_wrong, defScope s_book_wrong, [], []⟩
def d_must_be_record : He.DefD := ⟨("must_be_record", none), "must_be_record", "must_be_record", defArgs s_must_be_record, defBody s_must_be_record, defScope s_must_be_record, [], []⟩
def d_must_be_book : He.DefD := ⟨("must_be_book", none), "must_be_book", "must_be_book", defArgs s_must_be_book, defBody s_must_be_book, defScope s_must_be_book, [], []⟩
def d_gaps : He.DefD := ⟨("gaps", none), "gaps", "gaps", defArgs s_gaps, defBody s_gaps, defScope s_gaps, [], []⟩
def d_must_be_sorts : He.DefD := ⟨("must_be_sorts", none), "must_be_sorts", "must_be_sorts", defArgs s_must_be_sorts, defBody s_must_be_sorts, defScope s_must_be_sorts, [], []⟩
def d_cells_of : He.DefD := ⟨("cells_of", none), "cells_of", "cells_of", defArgs s_cells_of, defBody s_cells_of, defScope s_cells_of, [], []⟩
def d_amounts_by : He.DefD := ⟨("amounts_by", none), "amounts_by", "amounts_by", defArgs s_amounts_by, defBody s_amounts_by, defScope s_amounts_by, [], []⟩
def d_summed : He.DefD := ⟨("summed", none), "summed", "summed", defArgs s_summed, defBody s_summed, defScope s_summed, [], []⟩
def d_table_of : He.DefD := ⟨("table_of", none), "table_of", "table_of", defArgs s_table_of, defBody s_table_of, defScope s_table_of, [], [("what", .str "count")]⟩
def d_weighed_cells : He.DefD := ⟨("weighed_cells", none), "weighed_cells", "weighed_cells", defArgs s_weighed_cells, defBody s_weighed_cells, defScope s_weighed_cells, [], []⟩
def d_layers : He.DefD := ⟨("layers", none), "layers", "layers", defArgs s_layers, defBody s_layers, defScope s_layers, [], [("what", .str "count")]⟩
def d_law_purse : He.DefD := ⟨("_law_purse", none), "_law_purse", "_law_purse", defArgs s_law_purse, defBody s_law_purse, defScope s_law_purse, [], []⟩
def d_law_draw : He.DefD := ⟨("_law_draw", none), "_law_draw", "_law_draw", defArgs s_law_draw, defBody s_law_draw, defScope s_law_draw, [], []⟩
def d_law_pick : He.DefD := ⟨("_law_pick", none), "_law_pick", "_law_pick", defArgs s_law_pick, defBody s_law_pick, defScope s_law_pick, [], []⟩
def d_law_word : He.DefD := ⟨("_law_word", none), "_law_word", "_law_word", defArgs s_law_word, defBody s_law_word, defScope s_law_word, [], []⟩
def d_law_codes : He.DefD := ⟨("_law_codes", none), "_law_codes", "_law_codes", defArgs s_law_codes, defBody s_law_codes, defScope s_law_codes, [], []⟩
def d_law_plan : He.DefD := ⟨("_law_plan", none), "_law_plan", "_law_plan", defArgs s_law_plan, defBody s_law_plan, defScope s_law_plan, [], []⟩
def d_law_record : He.DefD := ⟨("_law_record", none), "_law_record", "_law_record", defArgs s_law_record, defBody s_law_record, defScope s_law_record, [], []⟩
def d_law_book : He.DefD := ⟨("_law_book", none), "_law_book", "_law_book", defArgs s_law_book, defBody s_law_book, defScope s_law_book, [], []⟩
def d_law_labels : He.DefD := ⟨("_law_labels", none), "_law_labels", "_law_labels", defArgs s_law_labels, defBody s_law_labels, defScope s_law_labels, [], []⟩
def d_law_table : He.DefD := ⟨("_law_table", none), "_law_table", "_law_table", defArgs s_law_table, defBody s_law_table, defScope s_law_table, [], []⟩
def d_law_order : He.DefD := ⟨("_law_order", none), "_law_order", "_law_order", defArgs s_law_order, defBody s_law_order, defScope s_law_order, [], []⟩
def d_law_lots : He.DefD := ⟨("_law_lots", none), "_law_lots", "_law_lots", defArgs s_law_lots, defBody s_law_lots, defScope s_law_lots, [], []⟩
def d_law_summed : He.DefD := ⟨("_law_summed", none), "_law_summed", "_law_summed", defArgs s_law_summed, defBody s_law_summed, defScope s_law_summed, [], []⟩
def d_law_about : He.DefD := ⟨("_law_about", none), "_law_about", "_law_about", defArgs s_law_about, defBody s_law_about, defScope s_law_about, [], []⟩
def d_law_put_right : He.DefD := ⟨("_law_put_right", none), "_law_put_right", "_law_put_right", defArgs s_law_put_right, defBody s_law_put_right, defScope s_law_put_right, [], []⟩
def d_law_added_right : He.DefD := ⟨("_law_added_right", none), "_law_added_right", "_law_added_right", defArgs s_law_added_right, defBody s_law_added_right, defScope s_law_added_right, [], []⟩
def d_law_books_right : He.DefD := ⟨("_law_books_right", none), "_law_books_right", "_law_books_right", defArgs s_law_books_right, defBody s_law_books_right, defScope s_law_books_right, [], []⟩
def d_law : He.DefD := ⟨("law", none), "law", "law", defArgs s_law, defBody s_law, defScope s_law, [], []⟩
def fn0 : List He.DefD := [d_shared, d_is_whole, d_is_fraction, d_lowest, d_plus, d_is_word, d_is_code, d_are_unlike_codes, d_is_sort, d_plan_wrong, d_must_be_plan, d_is_sort_number, d_are_labels, d_is_cell, d_table_wrong, d_must_be_table, d_turned_cells, d_totals, d_turned_table, d_fitted_cells, d_added, d_are_lots, d_lots_added, d_put_together, d_is_answer, d_record_in, d_record_wrong, d_book_in, d_book_wrong, d_must_be_record]
def fn1 : List He.DefD := [d_must_be_book, d_gaps, d_must_be_sorts, d_cells_of, d_amounts_by, d_summed, d_table_of, d_weighed_cells, d_layers, d_law_purse, d_law_draw, d_law_pick, d_law_word, d_law_codes, d_law_plan, d_law_record, d_law_book, d_law_labels, d_law_table, d_law_order, d_law_lots, d_law_summed, d_law_about, d_law_put_right, d_law_added_right, d_law_books_right, d_law]
def fn : List He.DefD := fn0 ++ fn1
def fa0 : List He.Fa := [.glo "shared", .glo "is_whole", .glo "is_fraction", .glo "lowest", .glo "plus", .glo "is_word", .glo "is_code", .glo "are_unlike_codes", .glo "is_sort", .glo "plan_wrong", .glo "must_be_plan", .glo "is_sort_number", .glo "are_labels", .glo "is_cell", .glo "table_wrong", .glo "must_be_table", .glo "turned_cells", .glo "totals", .glo "turned_table", .glo "fitted_cells", .glo "added", .glo "are_lots", .glo "lots_added", .glo "put_together", .glo "is_answer", .glo "record_in", .glo "record_wrong", .glo "book_in", .glo "book_wrong", .glo "must_be_record"]
def fa1 : List He.Fa := [.glo "must_be_book", .glo "gaps", .glo "must_be_sorts", .glo "cells_of", .glo "amounts_by", .glo "summed", .glo "table_of", .glo "weighed_cells", .glo "layers", .glo "_law_purse", .glo "_law_draw", .glo "_law_pick", .glo "_law_word", .glo "_law_codes", .glo "_law_plan", .glo "_law_record", .glo "_law_book", .glo "_law_labels", .glo "_law_table", .glo "_law_order", .glo "_law_lots", .glo "_law_summed", .glo "_law_about", .glo "_law_put_right", .glo "_law_added_right", .glo "_law_books_right", .glo "law", .free "isinstance", .free "len", .free "all"]
def fa2 : List He.Fa := [.free "set", .free "enumerate", .free "max", .free "list", .free "zip", .free "sum", .free "sorted", .free "range", .free "abs", .free "int", .free "repr", .free "tuple", .free "bool", .free "str", .int "LONGEST_NAME" 8, .int "LONGEST_CODE" 4, .int "MOST_SORTS" 4, .int "LEAST_CODES" 2, .int "MOST_CODES" 6, .int "MOST_CELL" 1000000000, .int "MOST_LABELS" 6, .int "MOST_TABLES" 6, .int "MOST_MEASURE" 1000000, .int "MOST_RECORDS" 60, .str "SMALL" "abcdefghijklmnopqrstuvwxyz", .glo "WHATS"]
def fa : List He.Fa := fa0 ++ fa1 ++ fa2
def loose0 : List PySem.Str := ["CountError", "NoBook", "NoLots", "NoPlan", "NoRecord", "NoSort", "NoTable", "NoTables", "NoWeights", "NoWhat", "TooGreat", "shared", "is_whole", "is_fraction", "lowest", "plus", "SMALL", "LONGEST_NAME", "LONGEST_CODE", "MOST_SORTS", "LEAST_CODES", "MOST_CODES", "is_word", "is_code", "are_unlike_codes", "is_sort", "plan_wrong", "must_be_plan", "is_sort_number", "MOST_CELL"]
def loose1 : List PySem.Str := ["MOST_LABELS", "MOST_TABLES", "are_labels", "is_cell", "table_wrong", "must_be_table", "turned_cells", "totals", "turned_table", "fitted_cells", "added", "are_lots", "lots_added", "put_together", "MOST_MEASURE", "MOST_RECORDS", "is_answer", "record_in", "record_wrong", "book_in", "book_wrong", "must_be_record", "must_be_book", "gaps", "WHATS", "must_be_sorts", "cells_of", "amounts_by", "summed", "table_of"]
def loose2 : List PySem.Str := ["weighed_cells", "layers", "_law_purse", "_law_draw", "_law_pick", "_law_word", "_law_codes", "_law_plan", "_law_record", "_law_book", "_law_labels", "_law_table", "_law_order", "_law_lots", "_law_summed", "_law_about", "_law_put_right", "_law_added_right", "_law_books_right"]
def loose : List PySem.Str := loose0 ++ loose1 ++ loose2
/-- the table WHATS besides -/
def whatsB (K : PySem.W.Frag) : Bool := He.tupB K "WHATS" [.str "count", .str "measure"]
abbrev AlW : Type := He.AlD × Bool
def obsW (g : Addr → Option Obj) : AlW := (He.obsD fa fn (He.frG g (He.asD g 4)), whatsB (He.frG g (He.asD g 4)))
def hkW : PySem.W.Hook where
  α := AlW
  obs := fun s => obsW s.heap.get?
  val := fun _ => (He.valD fn, true)
  says := fun _ h => ∃ K : PySem.W.Frag, K.In h ∧ He.SaysD fa fn K ∧ whatsB K = true
  of := fun _ _ e => ⟨_, He.frG_in, congrArg (fun z : AlW => z.1) e, congrArg (fun z : AlW => z.2) e⟩
  keeps := fun _ _ _ ⟨K, hK, c⟩ k => ⟨K, PySem.W.Frag.In.keeps hK k, c⟩
abbrev RK : PySem.W.OpenRow := PySem.W.OpenLaw.row PySem.Challenge.rw_countveil_k22_whole_tables_put_together
def ob (s : PySem.W.SharedT) : AlW := obsW (HandSHeadRun.getT s)
theorem obs_eq (s : PySem.W.SharedT) : ob s = hkW.obs s.abs := by
  have e : HandSHeadRun.getT s = s.abs.heap.get? := funext (HandSHeadRun.getT_eq s)
  unfold ob
  rw [e] <;> rfl
theorem run (w : World) : HandSHeadRun.RunEq RK (PySem.W.view RK.prog [86]) hkW ob 8000 loose w := by
  intro os
  kernel_rfl
end K22

set_option Elab.async false
set_option linter.all false
set_option maxRecDepth 100000
set_option maxHeartbeats 6400000
/-! D0: the world of the claim's defs: their facts, calls by them. -/
namespace K22
open PySem PySem.Spec PyProof.Rows L2
/-- what is known of the module -/
structure Wd (K : PySem.W.Frag) (mg : Str → Option Value) : Prop where
  ex : ∃ h : Heap, K.In h ∧ h.Ns mainGlobals mg
  says : He.SaysD fa fn K
  whats : whatsB K = true
section
variable {K : PySem.W.Frag} {mg : Str → Option Value}
theorem Wd.free (W : Wd K mg) (i : Nat) {x : Str} (h : fa[i]? = some (.free x) := by rfl) : mg x = none := by
  obtain ⟨g, X, G⟩ := W.ex
  exact He.free_ok X G (W.says.fact i h)
theorem Wd.glo (W : Wd K mg) (i : Nat) {x : Str} (h : fa[i]? = some (.glo x) := by rfl) : mg x = some (.ref (He.ga K x)) := by
  obtain ⟨g, X, G⟩ := W.ex
  exact He.glo_ok X G (W.says.fact i h)
theorem Wd.int (W : Wd K mg) (i : Nat) {x : Str} {n : Int} (h : fa[i]? = some (.int x n) := by rfl) : ∃ t, mg x = some (.int n t) := by
  obtain ⟨g, X, G⟩ := W.ex
  exact He.int_ok X G (W.says.fact i h)
theorem Wd.str (W : Wd K mg) (i : Nat) {x z : Str} (h : fa[i]? = some (.str x z) := by rfl) : ∃ t, mg x = some (.str z t) := by
  obtain ⟨g, X, G⟩ := W.ex
  exact He.str_ok X G (W.says.fact i h)
end
/-- a def keeps its promise; how it is called -/
def Ok (P : Program) (w : World) (K : PySem.W.Frag) (mg : Str → Option Value) (base : Heap) (x : Str) (k : Nat) (ps : List Str) (sp : Sp) : Prop :=
  ∃ fd, FnOk P w K mg base CX0 k (He.ga K x) fd ps sp ∧ PySem.W.keepIn K (.ref (He.ga K x)) = true ∧ Binds K fd ps [] ∧ mg x = some (.ref (He.ga K x))
def OkG (P : Program) (w : World) (K : PySem.W.Frag) (mg : Str → Option Value) (base : Heap) (x : Str) (k : Nat) (ps : List Str) (sp : Sp) : Prop :=
  ∃ fd, FnG P w K mg base CX0 k (He.ga K x) fd ps sp ∧ PySem.W.keepIn K (.ref (He.ga K x)) = true ∧ Binds K fd ps [] ∧ mg x = some (.ref (He.ga K x))
section
variable {X : Cx} {e : Expr} {es : List Expr} {x : Str} {p pos : Pos} {ps : List Str} {j k n : Nat} {R : RP} {u : TDA} {t : TDE}
theorem dc_P (G : Ok X.prog X.w X.K X.mg X.base x j ps (spP X.K n R)) (hR : MonoP R) (hr : Room k X.A) (ha : DA X (e :: es) u) (hj : j ≤ k := by decide) (hg : Gl X x := by rfl)
    (hdb : (x == ("__debug__" : Str)) = false := by decide) (he : starEach (e :: es) X.env = (false, eval e X.env) :: starEach es X.env := by rfl) (hpl : (backTo pos (starEach es X.env)).any (·.1) = false := by rfl) : DE X (.Call (.Name x p) (e :: es) [] pos) (dUse n R u) := by
  obtain ⟨fd, h1, h2, h3, h4⟩ := G
  exact de_call h1 hR hr h2 h3 h4 ha hj hg hdb he hpl
theorem dc_F (G : Ok X.prog X.w X.K X.mg X.base x j ps (spF X.K n R)) (hR : MonoP R) (hr : Room k X.A) (ha : DA X (e :: es) u) (hj : j ≤ k := by decide) (hg : Gl X x := by rfl)
    (hdb : (x == ("__debug__" : Str)) = false := by decide) (he : starEach (e :: es) X.env = (false, eval e X.env) :: starEach es X.env := by rfl) (hpl : (backTo pos (starEach es X.env)).any (·.1) = false := by rfl) : DF X (.Call (.Name x p) (e :: es) [] pos) (dUse n R u) := by
  obtain ⟨fd, h1, h2, h3, h4⟩ := G
  exact df_callF h1 hR hr h2 h3 h4 ha hj hg hdb he hpl
theorem dc_F1 (G : Ok X.prog X.w X.K X.mg X.base x j ps (spP X.K n R)) (hR : MonoP R) (hr : Room k X.A) (ha : DF X e t) (hj : j ≤ k := by decide) (hg : Gl X x := by rfl)
    (hdb : (x == ("__debug__" : Str)) = false := by decide) (he : starEach [e] X.env = (false, eval e X.env) :: starEach [] X.env := by rfl) (hpl : (backTo pos (starEach [] X.env)).any (·.1) = false := by rfl) : DF X (.Call (.Name x p) [e] [] pos) (dUse n R (dCons t dNil)) := by
  obtain ⟨fd, h1, h2, h3, h4⟩ := G
  exact df_call1 h1 hR hr h2 h3 h4 ha hj hg hdb he hpl
theorem dc_Z {z : Str} {pz : Pos} {R : RZ} (i : Nat) (G : Ok X.prog X.w X.K X.mg X.base x j ps (spZ X.K n R)) (hR : MonoZ R) (hr : Room k X.A) (ha : DA X es u) (hj : j ≤ k := by decide) (hg : Gl X x := by rfl)
    (hN : X.N[i]? = some z := by rfl) (hv : Vis X.env.scope z := by first | exact Or.inl rfl | exact Or.inr (Or.inl rfl) | exact Or.inr (Or.inr rfl)) (hd : (z == ("__debug__" : Str)) = false := by decide) (hcd : (z == ("__classdict__" : Str)) = false := by decide)
    (hdb : (x == ("__debug__" : Str)) = false := by decide) (he : starEach (.Name z pz :: es) X.env = (false, eval (.Name z pz) X.env) :: starEach es X.env := by rfl) (hpl : (backTo pos (starEach es X.env)).any (·.1) = false := by rfl) : DE X (.Call (.Name x p) (.Name z pz :: es) [] pos) (dDraw i n R u) := by
  obtain ⟨fd, h1, h2, h3, h4⟩ := G
  exact de_callZ i h1 hR hr h2 h3 h4 ha hj hg hN hv hd hcd hdb he hpl
theorem dc_ZG {z : Str} {pz : Pos} {R : RZ} (i : Nat) (G : OkG X.prog X.w X.K X.mg X.base x j ps (spZ X.K n R)) (hgd : X.A.guards = some []) (hR : MonoZ R) (hr : Room k X.A) (ha : DA X es u) (hj : j ≤ k := by decide) (hg : Gl X x := by rfl)
    (hN : X.N[i]? = some z := by rfl) (hv : Vis X.env.scope z := by first | exact Or.inl rfl | exact Or.inr (Or.inl rfl) | exact Or.inr (Or.inr rfl)) (hd : (z == ("__debug__" : Str)) = false := by decide) (hcd : (z == ("__classdict__" : Str)) = false := by decide)
    (hdb : (x == ("__debug__" : Str)) = false := by decide) (he : starEach (.Name z pz :: es) X.env = (false, eval (.Name z pz) X.env) :: starEach es X.env := by rfl) (hpl : (backTo pos (starEach es X.env)).any (·.1) = false := by rfl) : DE X (.Call (.Name x p) (.Name z pz :: es) [] pos) (dDraw i n R u) := by
  obtain ⟨fd, h1, h2, h3, h4⟩ := G
  exact de_callZG i h1 hgd hR hr h2 h3 h4 ha hj hg hN hv hd hcd hdb he hpl
theorem ds_F {y : Str} {pos' spos : Pos} (i : Nat) (hNd : X.N.Nodup) (G : Ok X.prog X.w X.K X.mg X.base x j ps (spF X.K n R)) (hR : MonoP R) (hr : Room k X.A) (ha : DA X (e :: es) u) (hj : j ≤ k := by decide) (hg : Gl X x := by rfl)
    (hdb : (x == ("__debug__" : Str)) = false := by decide) (he : starEach (e :: es) X.env = (false, eval e X.env) :: starEach es X.env := by rfl) (hpl : (backTo pos (starEach es X.env)).any (·.1) = false := by rfl)
    (hi : X.N[i]? = some y := by rfl) (hx : Loc X.env.scope y := by first | exact Or.inl rfl | exact Or.inr rfl) (hs : swapsWith (.Call (.Name x p) (e :: es) [] pos) (some (.Name y pos')) spos.line X.env = pure false := by rfl)
    (hf : X.fn y = true ∨ X.env.scope.names.lookup y = some .local := by first | exact .inl rfl | exact .inr rfl | assumption) : DS X (.Assign [.Name y pos'] (.Call (.Name x p) (e :: es) [] pos) spos) (dSetF i n R u) := by
  obtain ⟨fd, h1, h2, h3, h4⟩ := G
  exact ds_setF i hNd h1 hR hr h2 h3 h4 ha hj hg hdb he hpl hi hx hs hf
theorem de_gi {i : Int} (h : ∃ t, X.mg x = some (.int i t)) (hg : Gl X x := by rfl) (hdb : (x == ("__debug__" : Str)) = false := by decide) : DE X (.Name x pos) (dC (.int i)) := by
  obtain ⟨t, h⟩ := h
  exact de_glob (v := .int i) h ⟨t, rfl⟩ (fun _ _ => .int i) hg hdb
theorem de_gs {z : Str} (h : ∃ t, X.mg x = some (.str z t)) (hg : Gl X x := by rfl) (hdb : (x == ("__debug__" : Str)) = false := by decide) : DE X (.Name x pos) (dC (.str z)) := by
  obtain ⟨t, h⟩ := h
  exact de_glob (v := .str z) h ⟨t, rfl⟩ (fun _ _ => .str z) hg hdb
theorem de_what (h : X.mg "WHATS" = some (.ref (He.ga X.K "WHATS"))) (hb : whatsB X.K = true) (hg : Gl X "WHATS" := by rfl) : DE X (.Name "WHATS" pos) (dC (.tuple [.str "count", .str "measure"])) :=
  de_glob (v := .ref (He.ga X.K "WHATS")) h rfl (fun N H => .tup (He.tupB_ok hb H) (.cons (.str _) (.cons (.str _) .nil))) hg
/-- x = list(range(n)), x the frame's own list -/
def dNewR (i : Nat) (te : TDE) : TDS := fun D E => te E fun d E1 => match d with
  | .int n => 0 ≤ n ∧ n ≤ 1000000 ∧ D.nx (E1.set i (.own ((List.range n.toNat).map fun (i : Nat) => .int (i : Int))))
  | _ => False
theorem ds_newR {y : Str} {pos' spos p2 pos2 : Pos} (i : Nat) (hc : X.calm = true) (hN : X.N.Nodup) (he : DE X e t) (hm : X.mg "list" = none) (hm2 : X.mg "range" = none) (hi : X.N[i]? = some y := by rfl) (hx : Loc X.env.scope y := by first | exact Or.inl rfl | exact Or.inr rfl)
    (hs : swapsWith (.Call (.Name "list" p) [.Call (.Name "range" p2) [e] [] pos2] [] pos) (some (.Name y pos')) spos.line X.env = pure false := by rfl) (hg : Gl X "list" := by rfl) (hg2 : Gl X "range" := by rfl)
    (na : starEach [.Call (.Name "range" p2) [e] [] pos2] X.env = (false, eval (.Call (.Name "range" p2) [e] [] pos2) X.env) :: starEach [] X.env := by rfl) (na2 : starEach [e] X.env = (false, eval e X.env) :: starEach [] X.env := by rfl)
    (hf : X.fn y = true ∨ X.env.scope.names.lookup y = some .local := by first | exact .inl rfl | exact .inr rfl | assumption) :
    DS X (.Assign [.Name y pos'] (.Call (.Name "list" p) [.Call (.Name "range" p2) [e] [] pos2] [] pos) spos) (dNewR i t) := by
  refine ⟨fun D D' E w q => he.mono _ _ _ (fun d E1 k => ?_) q, PS_imp (ps_set hN hi hx (pe_listRg hc hg hm (prg_1 hg2 hm2 he.run na2) na) hs hf) fun D σ H l ⟨F, M, E, R, q⟩ => ?_⟩
  · cases d with
    | int n => exact ⟨k.1, k.2.1, w.nx _ k.2.2⟩
    | _ => exact k.elim
  · refine ⟨F, M, E, R, he.mono _ _ _ (fun d E1 k v H1 s1 R1 d1 => ?_) q⟩
    cases d with
    | int n =>
      cases d1
      refine ⟨n, rfl, .of_le (by omega) (by have := k.2.1; omega) (by omega) k.1, fun p hp => ?_⟩
      obtain ⟨W, RW⟩ := R1
      have sm := same_new (o := .lst (rgV 0 n)) hp
      have hz : (rgV 0 n).length ≤ sizeLine := by
        rw [rgV_length]
        refine Nat.le_trans ?_ sizeLine_big
        have := k.2.1
        omega
      obtain ⟨W', R2⟩ := RW.newOwn (len_upd RW.len hz) i (.ref p) (.own ((List.range n.toNat).map fun (i : Nat) => .int (i : Int))) [p] sm (fun a ha => by rw [List.mem_singleton.mp ha]; exact hp) (fun a ha => ⟨rgV 0 n, by rw [List.mem_singleton.mp ha, upd_same]⟩) (by simp)
        ⟨p, _, rfl, rfl, upd_same, datA_range n⟩
      exact k.2.2 _ _ _ ⟨fun a o n e => sm a o (s1.keep a o n e), fun a q => by
        rcases q with q | q
        · exact s1.new a q
        · rw [List.mem_singleton.mp q]
          exact s1.was hp⟩ ⟨W', R2⟩
    | _ => exact k.elim
end
end K22

set_option Elab.async false
set_option linter.all false
set_option maxRecDepth 100000
set_option maxHeartbeats 6400000
/-! D1: what the printed derivations use besides. -/
namespace K22
open PySem PySem.Spec PyProof.Rows L2
theorem un64 {k : Nat} {A : Around} (r : Room k A) : A.units + 64 < cLine := by have := r.un; omega
abbrev dNilS : TDS := fun D E => D.nx E
abbrev dNeg (t : TDE) : TDE := fun E Q => t E fun d E1 => oNeg (fun z => Q z E1) d
abbrev dItT (t : TDE) : TDI := fun E Q => dIterT t E fun ds E1 => ds.length ≤ 1000000 ∧ Q ds E1
abbrev dEnL (t : TDE) : TDI := fun E Q => dIter t E fun ds E1 => Q (numD ds) E1
abbrev dEnT (t : TDE) : TDI := fun E Q => dIterT t E fun ds E1 => ds.length ≤ 1000000 ∧ Q (numD ds) E1
abbrev dScal (t : TDE) : TDE := fun E Q => t E fun d E' => scal d = true ∧ Q d E'
abbrev dUseD (n : Nat) (R : RP) (u : TDA) (dd : PyData) : TDE := dUse n R (fun E Q => u E fun ds E1 => Q (ds ++ [dd]) E1)
abbrev dUseK (m : Nat) (R : RP) (u : TDA) (t : TDE) : TDE := dUse (m + 1) R (fun E Q => u E fun ds E1 => dCons t dNil E1 fun zs E2 => ds.length = m ∧ zs.length = 1 ∧ Q (ds ++ zs) E2)
/-! ### over a list or a tuple -/
def iSeq (K : PySem.W.Frag) (tl : TE) : TI := fun σ H R => tl σ H fun x H1 => ∃ a, x = .ref a ∧ (((∃ xs, SqL K H1 a xs) ∧ R (Itl K a) H1) ∨ ((∃ xs, SqT K H1 a xs) ∧ R (Itt K a) H1))
theorem pi_seq {X : Cx} {tg l : Expr} {tl : TE} (hl : PE X l tl) : PI X tg l (iSeq X.K tl) := by
  refine ⟨fun pins s σ H R I h => ?_⟩
  refine thn (hl.run pins s σ H _ I h) fun v s1 ⟨x, H1, I1, r1, q1⟩ => ?_
  obtain ⟨a, e, ⟨⟨xs, hq⟩, q⟩ | ⟨⟨xs, hq⟩, q⟩⟩ := q1
  · subst e
    cases r1
    obtain ⟨its, rv, p, hz⟩ := I1.list hq
    refine wpAny_pyIter_list p.isList ?_
    refine ⟨s1.heap.objs.size, [s1.heap.objs.size], _, _, H1, rfl, I1.kept (t' := s1.toks) fun b o e => Heap.get?_push_of_some _ e, turn_list a _, ⟨_, Heap.get?_push_size _ rfl, rfl, rfl⟩, fun b hb => ?_, q⟩
    have e : b = s1.heap.objs.size := by simpa using hb
    subst e
    exact I1.fpOk (Nat.le_refl _) (I1.hok.fresh (Nat.le_refl _))
  · subst e
    cases r1
    obtain ⟨its, rv, p, hz⟩ := I1.tuple hq
    refine wpAny_pyIter_tuple (show s1.heap.IsTuple a its.toArray from p) ?_
    refine ⟨s1.heap.objs.size, [s1.heap.objs.size], _, _, H1, rfl, I1.kept (t' := s1.toks) fun b o e => Heap.get?_push_of_some _ e, turn_tuple a _, ⟨_, Heap.get?_push_size _ rfl, rfl, rfl⟩, fun b hb => ?_, q⟩
    have e : b = s1.heap.objs.size := by simpa using hb
    subst e
    exact I1.fpOk (Nat.le_refl _) (I1.hok.fresh (Nat.le_refl _))
def dItS (t : TDE) : TDI := fun E Q => t E fun d E1 => match d with
  | .list ds => Q ds E1
  | .tuple ds => ds.length ≤ 1000000 ∧ Q ds E1
  | _ => False
theorem di_seq {X : Cx} {tg e : Expr} {t : TDE} (he : DE X e t) : DI X tg e (dItS t) := by
  refine ⟨fun E Q Q' w q => he.mono _ _ _ (fun d E1 k => ?_) q, (pi_seq he.run).imp fun σ H R l ⟨F, M, E, Rp, q⟩ => ?_⟩
  · cases d with
    | list ds => exact w _ _ k
    | tuple ds => exact ⟨k.1, w _ _ k.2⟩
    | _ => exact k.elim
  · refine ⟨F, M, E, Rp, he.mono _ _ _ (fun d E1 k v H1 s1 R1 d1 => ?_) q⟩
    cases d with
    | list ds =>
      cases d1 with
      | lst e n r => exact ⟨_, rfl, .inl ⟨⟨_, .of e⟩, fun _ => k _ H1 s1 R1 (list_ok R1.m R1.len e n r)⟩⟩
    | tuple ds =>
      cases d1 with
      | tup e r => exact ⟨_, rfl, .inr ⟨⟨_, e⟩, fun _ => k.2 _ H1 s1 R1 (tup_ok R1.m (Nat.le_trans k.1 sizeLine_big) e r)⟩⟩
    | _ => exact k.elim
/-- a def with the keyword-only what = "count" -/
def OkD (P : Program) (w : World) (K : PySem.W.Frag) (mg : Str → Option Value) (base : Heap) (x : Str) (k : Nat) (ps : List Str) (sp : Sp) : Prop :=
  ∃ fd, FnOk P w K mg base CX0 k (He.ga K x) fd ps sp ∧ PySem.W.keepIn K (.ref (He.ga K x)) = true ∧ (∃ du, RelV (.str "count") du ∧ Binds K fd ps [du]) ∧ KBn K fd ps (ps.length - 1) ["what"] (fun us ws => us ++ ws) (fun vs zs => vs ++ zs) ∧ mg x = some (.ref (He.ga K x))
section
variable {X : Cx} {e : Expr} {es : List Expr} {x : Str} {p pos : Pos} {ps : List Str} {j k n : Nat} {R : RP} {u : TDA} {t : TDE}
theorem dc_D (G : OkD X.prog X.w X.K X.mg X.base x j ps (spP X.K n R)) (hR : MonoP R) (hr : Room k X.A) (ha : DA X (e :: es) u) (hj : j ≤ k := by decide) (hg : Gl X x := by rfl)
    (hdb : (x == ("__debug__" : Str)) = false := by decide) (he : starEach (e :: es) X.env = (false, eval e X.env) :: starEach es X.env := by rfl) (hpl : (backTo pos (starEach es X.env)).any (·.1) = false := by rfl) : DE X (.Call (.Name x p) (e :: es) [] pos) (dUseD n R u (.str "count")) := by
  obtain ⟨fd, h1, h2, ⟨du, h3, h3'⟩, _, h4⟩ := G
  exact de_callD (dv := .str "count") h1 hR hr h2 h3' h3 (fun _ _ => .str _) h4 ha hj hg hdb he hpl
theorem dc_K {m : Nat} {kpos : Pos} {ve : Expr} (G : OkD X.prog X.w X.K X.mg X.base x j ps (spP X.K (m + 1) R)) (hR : MonoP R) (hr : Room k X.A) (ha : DA X (e :: es) u) (hv : DE X ve t) (hm : ps.length - 1 = m := by rfl) (hj : j ≤ k := by decide) (hg : Gl X x := by rfl)
    (hall : (backToKw pos (keywordEach [⟨some "what", ve, kpos⟩] X.env)).all (·.1.isSome) = true := by rfl) (hks : (backToKw pos (keywordEach [⟨some "what", ve, kpos⟩] X.env)).filterMap (·.1) = [("what" : Str)] := by rfl)
    (hdb : (x == ("__debug__" : Str)) = false := by decide) (he : starEach (e :: es) X.env = (false, eval e X.env) :: starEach es X.env := by rfl)
    (hpl : ((backTo pos (starEach (e :: es) X.env)).any (·.1) || (backToKw pos (keywordEach [⟨some "what", ve, kpos⟩] X.env)).any (·.1.isNone)) = false := by rfl) :
    DE X (.Call (.Name x p) (e :: es) [⟨some "what", ve, kpos⟩] pos) (dUseK m R u t) := by
  obtain ⟨fd, h1, h2, _, h3, h4⟩ := G
  subst hm
  exact de_callK (ks := [("what" : Str)]) h1 hR hr h2 h3 h4 ha (dk_one hv) hj hg hall hks hdb he hpl
end
/-- two texts -/
def oNeS : OD := fun x y P => match x, y with
  | .str a, .str b => P (.bool (!decide (a = b)))
  | _, _ => False
theorem ob_neS {X : Cx} : OpP X (compareOp .NotEq) oNeS := by
  refine ⟨fun x y P P' w h => ?_, _, op_ne, fun N H x y dx dy Q l n d1 d2 h => ?_⟩
  · cases x with
    | str a =>
      cases y with
      | str b => exact w _ h
      | _ => exact h.elim
    | _ => exact h.elim
  · cases dx with
    | str a =>
      cases dy with
      | str b =>
        cases d1
        cases d2
        have e : decide (V.str a = V.str b) = decide (a = b) := by
          by_cases c : a = b
          · subst c; simp
          · have : V.str a ≠ V.str b := fun z => c (by injection z)
            rw [decide_eq_false c, decide_eq_false this]
        refine ⟨rfl, ?_⟩
        rw [e]
        exact h _ (.bl _)
      | _ => exact h.elim
    | _ => exact h.elim
end K22

set_option Elab.async false
set_option linter.all false
set_option maxRecDepth 100000
set_option maxHeartbeats 6400000
/-! printed by gen_defs.py: readings and derivations of the defs -/
namespace K22
open PySem PySem.Spec PyProof.Rows L2
/-! ### shared -/
abbrev N_shared : List Str := ["one", "other"]
theorem sc_shared : FnScope N_shared ["one", "other"] (defScope s_shared) := ⟨rfl, rfl, rfl, by decide +kernel, rfl, by decide +kernel, by decide +kernel⟩
def t_shared  : TDS := (dSeq (dWhile (dTs (dOp oNe (dVar 1) (dC (.int 0)))) (dPar 0 1 (dCons (dVar 1) (dCons (dOp oMod (dVar 0) (dVar 1)) dNil)))) (dRet (dCall cAbs (dCons (dVar 0) dNil))))
set_option maxHeartbeats 0 in
theorem b_shared {P : Program} {w : World} {K : PySem.W.Frag} {mg : Str → Option Value} {base : Heap} (W : Wd K mg)   (cdv : Value) (A : Around) (outer : List Env) (s : Shared) (H : Hp) (E : XK) (hr : Room 0 (A.deeper (envOfC "shared" (defScope s_shared) s.heap.objs.size (He.ga K "shared") cdv))) :
    DSs (cxOf CX0 P w K mg base N_shared "shared" (defScope s_shared) (He.ga K "shared") cdv A outer s H E).nox (defBody s_shared) (t_shared ) := by
  exact (dss_cons (ds_while PassesOwn.never (dt_cmp (OpP.s (ob_ne (un64 hr))) (de_var 1) de_int) (dss_one (ds_par 0 1 rfl sc_shared.nd (da_cons (de_var 1) (da_cons (de_op os_mod (de_var 0) (de_var 1)) da_nil))))) (dss_one (ds_ret (de_callB ca_abs (W.free 68) (da_cons (de_var 0) da_nil)))))
/-! ### is_whole -/
abbrev N_is_whole : List Str := ["thing"]
theorem sc_is_whole : FnScope N_is_whole ["thing"] (defScope s_is_whole) := ⟨rfl, rfl, rfl, by decide +kernel, rfl, by decide +kernel, by decide +kernel⟩
def t_is_whole  : TDS := (dRet (dAndV (dIsi "int" (dVar 0)) (dNotV (dIsi "bool" (dVar 0)))))
set_option maxHeartbeats 0 in
theorem b_is_whole {P : Program} {w : World} {K : PySem.W.Frag} {mg : Str → Option Value} {base : Heap} (W : Wd K mg)   (cdv : Value) (A : Around) (outer : List Env) (s : Shared) (H : Hp) (E : XK) (hr : Room 0 (A.deeper (envOfC "is_whole" (defScope s_is_whole) s.heap.objs.size (He.ga K "is_whole") cdv))) :
    DSs (cxOf CX0 P w K mg base N_is_whole "is_whole" (defScope s_is_whole) (He.ga K "is_whole") cdv A outer s H E).nox (defBody s_is_whole) (t_is_whole ) := by
  exact (dss_one (ds_ret (de_and (de_isi (T := "int") (de_var 0) kit_int (W.free 57) (W.free 69) (by decide +kernel) rfl (by decide) (by decide)) (de_one (de_not (de_isi (T := "bool") (de_var 0) kit_bool (W.free 57) (W.free 72) (by decide +kernel) rfl (by decide) (by decide)))))))
/-! ### is_fraction -/
abbrev N_is_fraction : List Str := ["thing"]
theorem sc_is_fraction : FnScope N_is_fraction ["thing"] (defScope s_is_fraction) := ⟨rfl, rfl, rfl, by decide +kernel, rfl, by decide +kernel, by decide +kernel⟩
def t_is_fraction (R_shared : RP) (R_is_whole : RP) : TDS := (dSeq (dIfS (dOrT (dNotT (dTs (dIsi "tuple" (dVar 0)))) (dOrT (dTs (dOp oNe (dCall cLen (dCons (dVar 0) dNil)) (dC (.int 2)))) (dOrT (dNotT (dTs (dUse 1 R_is_whole (dCons (dOp oIx (dVar 0) (dC (.int 0))) dNil)))) (dNotT (dTs (dUse 1 R_is_whole (dCons (dOp oIx (dVar 0) (dC (.int 1))) dNil))))))) (dRet (dC (.bool false))) dNilS) (dRet (dAndV (dOp oGe (dOp oIx (dVar 0) (dC (.int 1))) (dC (.int 1))) (dOp oEq (dUse 2 R_shared (dCons (dOp oIx (dVar 0) (dC (.int 0))) (dCons (dOp oIx (dVar 0) (dC (.int 1))) dNil))) (dC (.int 1))))))
set_option maxHeartbeats 0 in
theorem b_is_fraction {P : Program} {w : World} {K : PySem.W.Frag} {mg : Str → Option Value} {base : Heap} (W : Wd K mg) {R_shared : RP} {R_is_whole : RP} (hR_shared : MonoP R_shared) (O_shared : Ok P w K mg base "shared" 1 ["one", "other"] (spP K 2 R_shared)) (hR_is_whole : MonoP R_is_whole) (O_is_whole : Ok P w K mg base "is_whole" 1 ["thing"] (spP K 1 R_is_whole)) (cdv : Value) (A : Around) (outer : List Env) (s : Shared) (H : Hp) (E : XK) (hr : Room 1 (A.deeper (envOfC "is_fraction" (defScope s_is_fraction) s.heap.objs.size (He.ga K "is_fraction") cdv))) :
    DSs (cxOf CX0 P w K mg base N_is_fraction "is_fraction" (defScope s_is_fraction) (He.ga K "is_fraction") cdv A outer s H E).nox (defBody s_is_fraction) (t_is_fraction R_shared R_is_whole) := by
  exact (dss_cons (ds_if (DW.dt (dw_or (dt_not (dt_of (de_isi (T := "tuple") (de_var 0) kit_tuple (W.free 57) (W.free 71) (by decide +kernel) rfl (by decide) (by decide)))) (dw_or (dt_cmp (OpP.s (ob_ne (un64 hr))) (de_callB ca_len (W.free 58) (da_cons (de_var 0) da_nil)) de_int) (dw_or (dt_not (dt_of (dc_P O_is_whole hR_is_whole hr (da_cons (de_ix (de_var 0) de_int) da_nil)))) (dw_or1 (dt_not (dt_of (dc_P O_is_whole hR_is_whole hr (da_cons (de_ix (de_var 0) de_int) da_nil))))))))) (dss_one (ds_ret de_bl)) dss_nil) (dss_one (ds_ret (de_and (de_cmp (OpP.s ob_ge) (de_ix (de_var 0) de_int) de_int) (de_one (de_cmp (OpP.s (ob_eq (un64 hr))) (dc_P O_shared hR_shared hr (da_cons (de_ix (de_var 0) de_int) (da_cons (de_ix (de_var 0) de_int) da_nil))) de_int))))))
/-! ### lowest -/
abbrev N_lowest : List Str := ["top", "bottom", "common"]
theorem sc_lowest : FnScope N_lowest ["top", "bottom"] (defScope s_lowest) := ⟨rfl, rfl, rfl, by decide +kernel, rfl, by decide +kernel, by decide +kernel⟩
def t_lowest (R_shared : RP) : TDS := (dSeq (dSet 2 (dUse 2 R_shared (dCons (dVar 0) (dCons (dVar 1) dNil)))) (dSeq (dIfS (dTs (dOp oLt (dVar 1) (dC (.int 0)))) (dSet 2 (dOp oSub (dC (.int 0)) (dVar 2))) dNilS) (dRet (dTup (dCons (dOp oDiv (dVar 0) (dVar 2)) (dCons (dOp oDiv (dVar 1) (dVar 2)) dNil))))))
set_option maxHeartbeats 0 in
theorem b_lowest {P : Program} {w : World} {K : PySem.W.Frag} {mg : Str → Option Value} {base : Heap} (W : Wd K mg) {R_shared : RP} (hR_shared : MonoP R_shared) (O_shared : Ok P w K mg base "shared" 1 ["one", "other"] (spP K 2 R_shared)) (cdv : Value) (A : Around) (outer : List Env) (s : Shared) (H : Hp) (E : XK) (hr : Room 1 (A.deeper (envOfC "lowest" (defScope s_lowest) s.heap.objs.size (He.ga K "lowest") cdv))) :
    DSs (cxOf CX0 P w K mg base N_lowest "lowest" (defScope s_lowest) (He.ga K "lowest") cdv A outer s H E).nox (defBody s_lowest) (t_lowest R_shared) := by
  exact (dss_cons (ds_set 2 sc_lowest.nd (dc_P O_shared hR_shared hr (da_cons (de_var 0) (da_cons (de_var 1) da_nil)))) (dss_cons (ds_if (dt_cmp (OpP.s ob_lt) (de_var 1) de_int) (dss_one (ds_set 2 sc_lowest.nd (de_op os_sub de_int (de_var 2)))) dss_nil) (dss_one (ds_ret (de_tup (da_cons (de_op os_div (de_var 0) (de_var 2)) (da_cons (de_op os_div (de_var 1) (de_var 2)) da_nil)))))))
/-! ### plus -/
abbrev N_plus : List Str := ["one", "other"]
theorem sc_plus : FnScope N_plus ["one", "other"] (defScope s_plus) := ⟨rfl, rfl, rfl, by decide +kernel, rfl, by decide +kernel, by decide +kernel⟩
def t_plus (R_lowest : RP) : TDS := (dRet (dUse 2 R_lowest (dCons (dOp oAdd (dOp oMul (dOp oIx (dVar 0) (dC (.int 0))) (dOp oIx (dVar 1) (dC (.int 1)))) (dOp oMul (dOp oIx (dVar 1) (dC (.int 0))) (dOp oIx (dVar 0) (dC (.int 1))))) (dCons (dOp oMul (dOp oIx (dVar 0) (dC (.int 1))) (dOp oIx (dVar 1) (dC (.int 1)))) dNil))))
set_option maxHeartbeats 0 in
theorem b_plus {P : Program} {w : World} {K : PySem.W.Frag} {mg : Str → Option Value} {base : Heap} (W : Wd K mg) {R_lowest : RP} (hR_lowest : MonoP R_lowest) (O_lowest : Ok P w K mg base "lowest" 2 ["top", "bottom"] (spP K 2 R_lowest)) (cdv : Value) (A : Around) (outer : List Env) (s : Shared) (H : Hp) (E : XK) (hr : Room 2 (A.deeper (envOfC "plus" (defScope s_plus) s.heap.objs.size (He.ga K "plus") cdv))) :
    DSs (cxOf CX0 P w K mg base N_plus "plus" (defScope s_plus) (He.ga K "plus") cdv A outer s H E).nox (defBody s_plus) (t_plus R_lowest) := by
  exact (dss_one (ds_ret (dc_P O_lowest hR_lowest hr (da_cons (de_op os_add (de_op os_mul (de_ix (de_var 0) de_int) (de_ix (de_var 1) de_int)) (de_op os_mul (de_ix (de_var 1) de_int) (de_ix (de_var 0) de_int))) (da_cons (de_op os_mul (de_ix (de_var 0) de_int) (de_ix (de_var 1) de_int)) da_nil)))))
/-! ### is_word -/
abbrev N_is_word : List Str := ["thing", "longest", "sign"]
theorem sc_is_word : FnScope N_is_word ["thing", "longest"] (defScope s_is_word) := ⟨rfl, rfl, rfl, by decide +kernel, rfl, by decide +kernel, by decide +kernel⟩
def t_is_word  : TDS := (dRet (dAndV (dIsi "str" (dVar 0)) (dAndV (dChain oLe oLe (dC (.int 1)) (dCall cLen (dCons (dVar 0) dNil)) (dVar 1)) (dCall cAll (dCons (dLc (dSigns (dVar 0)) (dgName 2) dYes (dOp oIn (dVar 2) (dC (.str "abcdefghijklmnopqrstuvwxyz"))) [2]) dNil)))))
set_option maxHeartbeats 0 in
theorem b_is_word {P : Program} {w : World} {K : PySem.W.Frag} {mg : Str → Option Value} {base : Heap} (W : Wd K mg)   (cdv : Value) (A : Around) (outer : List Env) (s : Shared) (H : Hp) (E : XK) (hr : Room 0 (A.deeper (envOfC "is_word" (defScope s_is_word) s.heap.objs.size (He.ga K "is_word") cdv))) :
    DSs (cxOf CX0 P w K mg base N_is_word "is_word" (defScope s_is_word) (He.ga K "is_word") cdv A outer s H E).nox (defBody s_is_word) (t_is_word ) := by
  exact (dss_one (ds_ret (de_and (de_isi (T := "str") (de_var 0) kit_str (W.free 57) (W.free 73) (by decide +kernel) rfl (by decide) (by decide)) (de_and (de_chain ob_le ob_le de_int (de_callB ca_len (W.free 58) (da_cons (de_var 0) da_nil)) (de_var 1)) (de_one (de_callB (ca_all rfl) (W.free 59) (da_cons (de_lc rfl sc_is_word.nd (di_str (de_var 0)) (blkOk_by (own := [("sign", 2)]) (by kernel_rfl)) (fun _ _ _ _ _ => (dg_name 2 sc_is_word.nd)) (fun _ _ _ _ _ => dts_nil) (fun _ _ _ _ _ => (de_cmp (OpP.s ob_in) (de_var 2) (de_gs (W.str 84))))) da_nil)))))))
/-! ### is_code -/
abbrev N_is_code : List Str := ["thing"]
theorem sc_is_code : FnScope N_is_code ["thing"] (defScope s_is_code) := ⟨rfl, rfl, rfl, by decide +kernel, rfl, by decide +kernel, by decide +kernel⟩
def t_is_code (R_is_word : RP) : TDS := (dRet (dUse 2 R_is_word (dCons (dVar 0) (dCons (dC (.int 4)) dNil))))
set_option maxHeartbeats 0 in
theorem b_is_code {P : Program} {w : World} {K : PySem.W.Frag} {mg : Str → Option Value} {base : Heap} (W : Wd K mg) {R_is_word : RP} (hR_is_word : MonoP R_is_word) (O_is_word : Ok P w K mg base "is_word" 1 ["thing", "longest"] (spP K 2 R_is_word)) (cdv : Value) (A : Around) (outer : List Env) (s : Shared) (H : Hp) (E : XK) (hr : Room 1 (A.deeper (envOfC "is_code" (defScope s_is_code) s.heap.objs.size (He.ga K "is_code") cdv))) :
    DSs (cxOf CX0 P w K mg base N_is_code "is_code" (defScope s_is_code) (He.ga K "is_code") cdv A outer s H E).nox (defBody s_is_code) (t_is_code R_is_word) := by
  exact (dss_one (ds_ret (dc_P O_is_word hR_is_word hr (da_cons (de_var 0) (da_cons (de_gi (W.int 75)) da_nil)))))
/-! ### are_unlike_codes -/
abbrev N_are_unlike_codes : List Str := ["things", "least", "most", "one"]
theorem sc_are_unlike_codes : FnScope N_are_unlike_codes ["things", "least", "most"] (defScope s_are_unlike_codes) := ⟨rfl, rfl, rfl, by decide +kernel, rfl, by decide +kernel, by decide +kernel⟩
def t_are_unlike_codes (R_is_code : RP) : TDS := (dSeq (dIfS (dOrT (dNotT (dTs (dChain oLe oLe (dVar 1) (dCall cLen (dCons (dVar 0) dNil)) (dVar 2)))) (dNotT (dTs (dCall cAll (dCons (dLc (dItS (dVar 0)) (dgName 3) dYes (dUse 1 R_is_code (dCons (dVar 3) dNil)) [3]) dNil))))) (dRet (dC (.bool false))) dNilS) (dRet (dOp oEq (dLenSet (dVar 0)) (dCall cLen (dCons (dVar 0) dNil)))))
set_option maxHeartbeats 0 in
theorem b_are_unlike_codes {P : Program} {w : World} {K : PySem.W.Frag} {mg : Str → Option Value} {base : Heap} (W : Wd K mg) {R_is_code : RP} (hR_is_code : MonoP R_is_code) (O_is_code : Ok P w K mg base "is_code" 2 ["thing"] (spP K 1 R_is_code)) (cdv : Value) (A : Around) (outer : List Env) (s : Shared) (H : Hp) (E : XK) (hr : Room 2 (A.deeper (envOfC "are_unlike_codes" (defScope s_are_unlike_codes) s.heap.objs.size (He.ga K "are_unlike_codes") cdv))) :
    DSs (cxOf CX0 P w K mg base N_are_unlike_codes "are_unlike_codes" (defScope s_are_unlike_codes) (He.ga K "are_unlike_codes") cdv A outer s H E).nox (defBody s_are_unlike_codes) (t_are_unlike_codes R_is_code) := by
  exact (dss_cons (ds_if (DW.dt (dw_or (dt_not (dt_chain ob_le ob_le (de_var 1) (de_callB ca_len (W.free 58) (da_cons (de_var 0) da_nil)) (de_var 2))) (dw_or1 (dt_not (dt_of (de_callB (ca_all rfl) (W.free 59) (da_cons (de_lc rfl sc_are_unlike_codes.nd (di_seq (de_var 0)) (blkOk_by (own := [("one", 3)]) (by kernel_rfl)) (fun _ _ _ _ _ => (dg_name 3 sc_are_unlike_codes.nd)) (fun _ _ _ _ _ => dts_nil) (fun _ _ _ _ _ => (dc_P O_is_code hR_is_code hr (da_cons (de_var 3) da_nil)))) da_nil))))))) (dss_one (ds_ret de_bl)) dss_nil) (dss_one (ds_ret (de_cmp (OpP.s (ob_eq (un64 hr))) (de_lenSet rfl (de_var 0) (W.free 58) (W.free 60)) (de_callB ca_len (W.free 58) (da_cons (de_var 0) da_nil))))))
/-! ### is_sort -/
abbrev N_is_sort : List Str := ["thing"]
theorem sc_is_sort : FnScope N_is_sort ["thing"] (defScope s_is_sort) := ⟨rfl, rfl, rfl, by decide +kernel, rfl, by decide +kernel, by decide +kernel⟩
def t_is_sort (R_is_word : RP) (R_are_unlike_codes : RP) : TDS := (dSeq (dIfS (dOrT (dNotT (dTs (dIsi "tuple" (dVar 0)))) (dOrT (dTs (dOp oNe (dCall cLen (dCons (dVar 0) dNil)) (dC (.int 2)))) (dNotT (dTs (dUse 2 R_is_word (dCons (dOp oIx (dVar 0) (dC (.int 0))) (dCons (dC (.int 8)) dNil))))))) (dRet (dC (.bool false))) dNilS) (dRet (dAndV (dIsi "tuple" (dOp oIx (dVar 0) (dC (.int 1)))) (dUse 3 R_are_unlike_codes (dCons (dOp oIx (dVar 0) (dC (.int 1))) (dCons (dC (.int 2)) (dCons (dC (.int 6)) dNil)))))))
set_option maxHeartbeats 0 in
theorem b_is_sort {P : Program} {w : World} {K : PySem.W.Frag} {mg : Str → Option Value} {base : Heap} (W : Wd K mg) {R_is_word : RP} {R_are_unlike_codes : RP} (hR_is_word : MonoP R_is_word) (O_is_word : Ok P w K mg base "is_word" 1 ["thing", "longest"] (spP K 2 R_is_word)) (hR_are_unlike_codes : MonoP R_are_unlike_codes) (O_are_unlike_codes : Ok P w K mg base "are_unlike_codes" 3 ["things", "least", "most"] (spP K 3 R_are_unlike_codes)) (cdv : Value) (A : Around) (outer : List Env) (s : Shared) (H : Hp) (E : XK) (hr : Room 3 (A.deeper (envOfC "is_sort" (defScope s_is_sort) s.heap.objs.size (He.ga K "is_sort") cdv))) :
    DSs (cxOf CX0 P w K mg base N_is_sort "is_sort" (defScope s_is_sort) (He.ga K "is_sort") cdv A outer s H E).nox (defBody s_is_sort) (t_is_sort R_is_word R_are_unlike_codes) := by
  exact (dss_cons (ds_if (DW.dt (dw_or (dt_not (dt_of (de_isi (T := "tuple") (de_var 0) kit_tuple (W.free 57) (W.free 71) (by decide +kernel) rfl (by decide) (by decide)))) (dw_or (dt_cmp (OpP.s (ob_ne (un64 hr))) (de_callB ca_len (W.free 58) (da_cons (de_var 0) da_nil)) de_int) (dw_or1 (dt_not (dt_of (dc_P O_is_word hR_is_word hr (da_cons (de_ix (de_var 0) de_int) (da_cons (de_gi (W.int 74)) da_nil))))))))) (dss_one (ds_ret de_bl)) dss_nil) (dss_one (ds_ret (de_and (de_isi (T := "tuple") (de_ix (de_var 0) de_int) kit_tuple (W.free 57) (W.free 71) (by decide +kernel) rfl (by decide) (by decide)) (de_one (dc_P O_are_unlike_codes hR_are_unlike_codes hr (da_cons (de_ix (de_var 0) de_int) (da_cons (de_gi (W.int 77)) (da_cons (de_gi (W.int 78)) da_nil)))))))))
/-! ### plan_wrong -/
abbrev N_plan_wrong : List Str := ["thing", "k", "sort", "other"]
theorem sc_plan_wrong : FnScope N_plan_wrong ["thing"] (defScope s_plan_wrong) := ⟨rfl, rfl, rfl, by decide +kernel, rfl, by decide +kernel, by decide +kernel⟩
def t_plan_wrong (R_is_sort : RP) : TDS := (dSeq (dIfS (dOrT (dNotT (dTs (dIsi "tuple" (dVar 0)))) (dNotT (dTs (dChain oLe oLe (dC (.int 1)) (dCall cLen (dCons (dVar 0) dNil)) (dC (.int 4)))))) (dRet (dTup (dCons (dC (.str "plan")) dNil))) dNilS) (dSeq (dFor (dEnT (dVar 0)) (dgTup 2 (dgCons (dgName 1) (dgCons (dgName 2) dgNil))) (dIfS (dNotT (dTs (dUse 1 R_is_sort (dCons (dVar 2) dNil)))) (dRet (dTup (dCons (dC (.str "sort")) (dCons (dVar 1) dNil)))) dNilS)) (dSeq (dFor (dEnT (dVar 0)) (dgTup 2 (dgCons (dgName 1) (dgCons (dgName 2) dgNil))) (dIfS (dTs (dOp oIn (dOp oIx (dVar 2) (dC (.int 0))) (dLc (dItT (dOp oCut (dVar 0) (dVar 1))) (dgName 3) dYes (dOp oIx (dVar 3) (dC (.int 0))) [3]))) (dRet (dTup (dCons (dC (.str "twice")) (dCons (dVar 1) dNil)))) dNilS)) (dRet (dC .none)))))
set_option maxHeartbeats 0 in
theorem b_plan_wrong {P : Program} {w : World} {K : PySem.W.Frag} {mg : Str → Option Value} {base : Heap} (W : Wd K mg) {R_is_sort : RP} (hR_is_sort : MonoP R_is_sort) (O_is_sort : Ok P w K mg base "is_sort" 4 ["thing"] (spP K 1 R_is_sort)) (cdv : Value) (A : Around) (outer : List Env) (s : Shared) (H : Hp) (E : XK) (hr : Room 4 (A.deeper (envOfC "plan_wrong" (defScope s_plan_wrong) s.heap.objs.size (He.ga K "plan_wrong") cdv))) :
    DSs (cxOf CX0 P w K mg base N_plan_wrong "plan_wrong" (defScope s_plan_wrong) (He.ga K "plan_wrong") cdv A outer s H E).nox (defBody s_plan_wrong) (t_plan_wrong R_is_sort) := by
  exact (dss_cons (ds_if (DW.dt (dw_or (dt_not (dt_of (de_isi (T := "tuple") (de_var 0) kit_tuple (W.free 57) (W.free 71) (by decide +kernel) rfl (by decide) (by decide)))) (dw_or1 (dt_not (dt_chain ob_le ob_le de_int (de_callB ca_len (W.free 58) (da_cons (de_var 0) da_nil)) (de_gi (W.int 76))))))) (dss_one (ds_ret (de_tup (da_cons de_str da_nil)))) dss_nil) (dss_cons (ds_for PassesOwn.never rfl (di_enumT (de_var 0) (W.free 61)) (dg_tup rfl (dgs_cons (dg_name 1 sc_plan_wrong.nd) (dgs_cons (dg_name 2 sc_plan_wrong.nd) dgs_nil))) (dss_one (ds_if (dt_not (dt_of (dc_P O_is_sort hR_is_sort hr (da_cons (de_var 2) da_nil)))) (dss_one (ds_ret (de_tup (da_cons de_str (da_cons (de_var 1) da_nil))))) dss_nil))) (dss_cons (ds_for PassesOwn.never rfl (di_enumT (de_var 0) (W.free 61)) (dg_tup rfl (dgs_cons (dg_name 1 sc_plan_wrong.nd) (dgs_cons (dg_name 2 sc_plan_wrong.nd) dgs_nil))) (dss_one (ds_if (dt_cmp (OpP.s ob_in) (de_ix (de_var 2) de_int) (de_lc rfl sc_plan_wrong.nd (di_tup (de_cut (de_var 0) (de_var 1))) (blkOk_by (own := [("other", 3)]) (by kernel_rfl)) (fun _ _ _ _ _ => (dg_name 3 sc_plan_wrong.nd)) (fun _ _ _ _ _ => dts_nil) (fun _ _ _ _ _ => (de_ix (de_var 3) de_int)))) (dss_one (ds_ret (de_tup (da_cons de_str (da_cons (de_var 1) da_nil))))) dss_nil))) (dss_one (ds_ret de_non)))))
/-! ### must_be_plan -/
abbrev N_must_be_plan : List Str := ["plan"]
theorem sc_must_be_plan : FnScope N_must_be_plan ["plan"] (defScope s_must_be_plan) := ⟨rfl, rfl, rfl, by decide +kernel, rfl, by decide +kernel, by decide +kernel⟩
def t_must_be_plan (R_plan_wrong : RP) : TDS := (dIfS (dTs (dOp oNot (dUse 1 R_plan_wrong (dCons (dVar 0) dNil)) (dC .none))) dNever dNilS)
set_option maxHeartbeats 0 in
theorem b_must_be_plan {P : Program} {w : World} {K : PySem.W.Frag} {mg : Str → Option Value} {base : Heap} (W : Wd K mg) {R_plan_wrong : RP} (hR_plan_wrong : MonoP R_plan_wrong) (O_plan_wrong : Ok P w K mg base "plan_wrong" 5 ["thing"] (spP K 1 R_plan_wrong)) (cdv : Value) (A : Around) (outer : List Env) (s : Shared) (H : Hp) (E : XK) (hr : Room 5 (A.deeper (envOfC "must_be_plan" (defScope s_must_be_plan) s.heap.objs.size (He.ga K "must_be_plan") cdv))) :
    DSs (cxOf CX0 P w K mg base N_must_be_plan "must_be_plan" (defScope s_must_be_plan) (He.ga K "must_be_plan") cdv A outer s H E).nox (defBody s_must_be_plan) (t_must_be_plan R_plan_wrong) := by
  exact (dss_one (ds_if (dt_cmp (OpP.s ob_not) (dc_P O_plan_wrong hR_plan_wrong hr (da_cons (de_var 0) da_nil)) de_non) dss_never dss_nil))
/-! ### is_sort_number -/
abbrev N_is_sort_number : List Str := ["plan", "thing"]
theorem sc_is_sort_number : FnScope N_is_sort_number ["plan", "thing"] (defScope s_is_sort_number) := ⟨rfl, rfl, rfl, by decide +kernel, rfl, by decide +kernel, by decide +kernel⟩
def t_is_sort_number (R_is_whole : RP) : TDS := (dRet (dAndV (dUse 1 R_is_whole (dCons (dVar 1) dNil)) (dChain oLe oLt (dC (.int 0)) (dVar 1) (dCall cLen (dCons (dVar 0) dNil)))))
set_option maxHeartbeats 0 in
theorem b_is_sort_number {P : Program} {w : World} {K : PySem.W.Frag} {mg : Str → Option Value} {base : Heap} (W : Wd K mg) {R_is_whole : RP} (hR_is_whole : MonoP R_is_whole) (O_is_whole : Ok P w K mg base "is_whole" 1 ["thing"] (spP K 1 R_is_whole)) (cdv : Value) (A : Around) (outer : List Env) (s : Shared) (H : Hp) (E : XK) (hr : Room 1 (A.deeper (envOfC "is_sort_number" (defScope s_is_sort_number) s.heap.objs.size (He.ga K "is_sort_number") cdv))) :
    DSs (cxOf CX0 P w K mg base N_is_sort_number "is_sort_number" (defScope s_is_sort_number) (He.ga K "is_sort_number") cdv A outer s H E).nox (defBody s_is_sort_number) (t_is_sort_number R_is_whole) := by
  exact (dss_one (ds_ret (de_and (dc_P O_is_whole hR_is_whole hr (da_cons (de_var 1) da_nil)) (de_one (de_chain ob_le ob_lt de_int (de_var 1) (de_callB ca_len (W.free 58) (da_cons (de_var 0) da_nil)))))))
/-! ### are_labels -/
abbrev N_are_labels : List Str := ["thing"]
theorem sc_are_labels : FnScope N_are_labels ["thing"] (defScope s_are_labels) := ⟨rfl, rfl, rfl, by decide +kernel, rfl, by decide +kernel, by decide +kernel⟩
def t_are_labels (R_are_unlike_codes : RP) : TDS := (dRet (dAndV (dIsi "list" (dVar 0)) (dUse 3 R_are_unlike_codes (dCons (dVar 0) (dCons (dC (.int 1)) (dCons (dC (.int 6)) dNil))))))
set_option maxHeartbeats 0 in
theorem b_are_labels {P : Program} {w : World} {K : PySem.W.Frag} {mg : Str → Option Value} {base : Heap} (W : Wd K mg) {R_are_unlike_codes : RP} (hR_are_unlike_codes : MonoP R_are_unlike_codes) (O_are_unlike_codes : Ok P w K mg base "are_unlike_codes" 3 ["things", "least", "most"] (spP K 3 R_are_unlike_codes)) (cdv : Value) (A : Around) (outer : List Env) (s : Shared) (H : Hp) (E : XK) (hr : Room 3 (A.deeper (envOfC "are_labels" (defScope s_are_labels) s.heap.objs.size (He.ga K "are_labels") cdv))) :
    DSs (cxOf CX0 P w K mg base N_are_labels "are_labels" (defScope s_are_labels) (He.ga K "are_labels") cdv A outer s H E).nox (defBody s_are_labels) (t_are_labels R_are_unlike_codes) := by
  exact (dss_one (ds_ret (de_and (de_isi (T := "list") (de_var 0) kit_list (W.free 57) (W.free 63) (by decide +kernel) rfl (by decide) (by decide)) (de_one (dc_P O_are_unlike_codes hR_are_unlike_codes hr (da_cons (de_var 0) (da_cons de_int (da_cons (de_gi (W.int 80)) da_nil))))))))
/-! ### is_cell -/
abbrev N_is_cell : List Str := ["thing"]
theorem sc_is_cell : FnScope N_is_cell ["thing"] (defScope s_is_cell) := ⟨rfl, rfl, rfl, by decide +kernel, rfl, by decide +kernel, by decide +kernel⟩
def t_is_cell (R_is_whole : RP) : TDS := (dRet (dAndV (dUse 1 R_is_whole (dCons (dVar 0) dNil)) (dChain oLe oLe (dC (.int 0)) (dVar 0) (dC (.int 1000000000)))))
set_option maxHeartbeats 0 in
theorem b_is_cell {P : Program} {w : World} {K : PySem.W.Frag} {mg : Str → Option Value} {base : Heap} (W : Wd K mg) {R_is_whole : RP} (hR_is_whole : MonoP R_is_whole) (O_is_whole : Ok P w K mg base "is_whole" 1 ["thing"] (spP K 1 R_is_whole)) (cdv : Value) (A : Around) (outer : List Env) (s : Shared) (H : Hp) (E : XK) (hr : Room 1 (A.deeper (envOfC "is_cell" (defScope s_is_cell) s.heap.objs.size (He.ga K "is_cell") cdv))) :
    DSs (cxOf CX0 P w K mg base N_is_cell "is_cell" (defScope s_is_cell) (He.ga K "is_cell") cdv A outer s H E).nox (defBody s_is_cell) (t_is_cell R_is_whole) := by
  exact (dss_one (ds_ret (de_and (dc_P O_is_whole hR_is_whole hr (da_cons (de_var 0) da_nil)) (de_one (de_chain ob_le ob_le de_int (de_var 0) (de_gi (W.int 79)))))))
/-! ### table_wrong -/
abbrev N_table_wrong : List Str := ["thing", "rows", "columns", "cells", "i", "row", "k", "cell"]
theorem sc_table_wrong : FnScope N_table_wrong ["thing"] (defScope s_table_wrong) := ⟨rfl, rfl, rfl, by decide +kernel, rfl, by decide +kernel, by decide +kernel⟩
def t_table_wrong (R_are_labels : RP) (R_is_cell : RP) : TDS := (dSeq (dIfS (dOrT (dNotT (dTs (dIsi "tuple" (dVar 0)))) (dTs (dOp oNe (dCall cLen (dCons (dVar 0) dNil)) (dC (.int 3))))) (dRet (dTup (dCons (dC (.str "table")) dNil))) dNilS) (dSeq (dAsg (dVar 0) (dgTup 3 (dgCons (dgName 1) (dgCons (dgName 2) (dgCons (dgName 3) dgNil))))) (dSeq (dIfS (dNotT (dTs (dUse 1 R_are_labels (dCons (dVar 1) dNil)))) (dRet (dTup (dCons (dC (.str "rows")) dNil))) dNilS) (dSeq (dIfS (dNotT (dTs (dUse 1 R_are_labels (dCons (dVar 2) dNil)))) (dRet (dTup (dCons (dC (.str "columns")) dNil))) dNilS) (dSeq (dIfS (dOrT (dNotT (dTs (dIsi "list" (dVar 3)))) (dTs (dOp oNe (dCall cLen (dCons (dVar 3) dNil)) (dCall cLen (dCons (dVar 1) dNil))))) (dRet (dTup (dCons (dC (.str "cells")) dNil))) dNilS) (dSeq (dFor (dEnL (dVar 3)) (dgTup 2 (dgCons (dgName 4) (dgCons (dgName 5) dgNil))) (dIfS (dOrT (dNotT (dTs (dIsi "list" (dVar 5)))) (dTs (dOp oNe (dCall cLen (dCons (dVar 5) dNil)) (dCall cLen (dCons (dVar 2) dNil))))) (dRet (dTup (dCons (dC (.str "row")) (dCons (dVar 4) dNil)))) dNilS)) (dSeq (dFor (dEnL (dVar 3)) (dgTup 2 (dgCons (dgName 4) (dgCons (dgName 5) dgNil))) (dFor (dEnL (dVar 5)) (dgTup 2 (dgCons (dgName 6) (dgCons (dgName 7) dgNil))) (dIfS (dNotT (dTs (dUse 1 R_is_cell (dCons (dVar 7) dNil)))) (dRet (dTup (dCons (dC (.str "cell")) (dCons (dVar 4) (dCons (dVar 6) dNil))))) dNilS))) (dRet (dC .none)))))))))
set_option maxHeartbeats 0 in
theorem b_table_wrong {P : Program} {w : World} {K : PySem.W.Frag} {mg : Str → Option Value} {base : Heap} (W : Wd K mg) {R_are_labels : RP} {R_is_cell : RP} (hR_are_labels : MonoP R_are_labels) (O_are_labels : Ok P w K mg base "are_labels" 4 ["thing"] (spP K 1 R_are_labels)) (hR_is_cell : MonoP R_is_cell) (O_is_cell : Ok P w K mg base "is_cell" 2 ["thing"] (spP K 1 R_is_cell)) (cdv : Value) (A : Around) (outer : List Env) (s : Shared) (H : Hp) (E : XK) (hr : Room 4 (A.deeper (envOfC "table_wrong" (defScope s_table_wrong) s.heap.objs.size (He.ga K "table_wrong") cdv))) :
    DSs (cxOf CX0 P w K mg base N_table_wrong "table_wrong" (defScope s_table_wrong) (He.ga K "table_wrong") cdv A outer s H E).nox (defBody s_table_wrong) (t_table_wrong R_are_labels R_is_cell) := by
  exact (dss_cons (ds_if (DW.dt (dw_or (dt_not (dt_of (de_isi (T := "tuple") (de_var 0) kit_tuple (W.free 57) (W.free 71) (by decide +kernel) rfl (by decide) (by decide)))) (dw_or1 (dt_cmp (OpP.s (ob_ne (un64 hr))) (de_callB ca_len (W.free 58) (da_cons (de_var 0) da_nil)) de_int)))) (dss_one (ds_ret (de_tup (da_cons de_str da_nil)))) dss_nil) (dss_cons (ds_asg (de_var 0) (dg_tup rfl (dgs_cons (dg_name 1 sc_table_wrong.nd) (dgs_cons (dg_name 2 sc_table_wrong.nd) (dgs_cons (dg_name 3 sc_table_wrong.nd) dgs_nil))))) (dss_cons (ds_if (dt_not (dt_of (dc_P O_are_labels hR_are_labels hr (da_cons (de_var 1) da_nil)))) (dss_one (ds_ret (de_tup (da_cons de_str da_nil)))) dss_nil) (dss_cons (ds_if (dt_not (dt_of (dc_P O_are_labels hR_are_labels hr (da_cons (de_var 2) da_nil)))) (dss_one (ds_ret (de_tup (da_cons de_str da_nil)))) dss_nil) (dss_cons (ds_if (DW.dt (dw_or (dt_not (dt_of (de_isi (T := "list") (de_var 3) kit_list (W.free 57) (W.free 63) (by decide +kernel) rfl (by decide) (by decide)))) (dw_or1 (dt_cmp (OpP.s (ob_ne (un64 hr))) (de_callB ca_len (W.free 58) (da_cons (de_var 3) da_nil)) (de_callB ca_len (W.free 58) (da_cons (de_var 1) da_nil)))))) (dss_one (ds_ret (de_tup (da_cons de_str da_nil)))) dss_nil) (dss_cons (ds_for PassesOwn.never rfl (di_enum (de_var 3) (W.free 61)) (dg_tup rfl (dgs_cons (dg_name 4 sc_table_wrong.nd) (dgs_cons (dg_name 5 sc_table_wrong.nd) dgs_nil))) (dss_one (ds_if (DW.dt (dw_or (dt_not (dt_of (de_isi (T := "list") (de_var 5) kit_list (W.free 57) (W.free 63) (by decide +kernel) rfl (by decide) (by decide)))) (dw_or1 (dt_cmp (OpP.s (ob_ne (un64 hr))) (de_callB ca_len (W.free 58) (da_cons (de_var 5) da_nil)) (de_callB ca_len (W.free 58) (da_cons (de_var 2) da_nil)))))) (dss_one (ds_ret (de_tup (da_cons de_str (da_cons (de_var 4) da_nil))))) dss_nil))) (dss_cons (ds_for PassesOwn.never rfl (di_enum (de_var 3) (W.free 61)) (dg_tup rfl (dgs_cons (dg_name 4 sc_table_wrong.nd) (dgs_cons (dg_name 5 sc_table_wrong.nd) dgs_nil))) (dss_one (ds_for PassesOwn.never rfl (di_enum (de_var 5) (W.free 61)) (dg_tup rfl (dgs_cons (dg_name 6 sc_table_wrong.nd) (dgs_cons (dg_name 7 sc_table_wrong.nd) dgs_nil))) (dss_one (ds_if (dt_not (dt_of (dc_P O_is_cell hR_is_cell hr (da_cons (de_var 7) da_nil)))) (dss_one (ds_ret (de_tup (da_cons de_str (da_cons (de_var 4) (da_cons (de_var 6) da_nil)))))) dss_nil))))) (dss_one (ds_ret de_non)))))))))
/-! ### must_be_table -/
abbrev N_must_be_table : List Str := ["table"]
theorem sc_must_be_table : FnScope N_must_be_table ["table"] (defScope s_must_be_table) := ⟨rfl, rfl, rfl, by decide +kernel, rfl, by decide +kernel, by decide +kernel⟩
def t_must_be_table (R_table_wrong : RP) : TDS := (dIfS (dTs (dOp oNot (dUse 1 R_table_wrong (dCons (dVar 0) dNil)) (dC .none))) dNever dNilS)
set_option maxHeartbeats 0 in
theorem b_must_be_table {P : Program} {w : World} {K : PySem.W.Frag} {mg : Str → Option Value} {base : Heap} (W : Wd K mg) {R_table_wrong : RP} (hR_table_wrong : MonoP R_table_wrong) (O_table_wrong : Ok P w K mg base "table_wrong" 5 ["thing"] (spP K 1 R_table_wrong)) (cdv : Value) (A : Around) (outer : List Env) (s : Shared) (H : Hp) (E : XK) (hr : Room 5 (A.deeper (envOfC "must_be_table" (defScope s_must_be_table) s.heap.objs.size (He.ga K "must_be_table") cdv))) :
    DSs (cxOf CX0 P w K mg base N_must_be_table "must_be_table" (defScope s_must_be_table) (He.ga K "must_be_table") cdv A outer s H E).nox (defBody s_must_be_table) (t_must_be_table R_table_wrong) := by
  exact (dss_one (ds_if (dt_cmp (OpP.s ob_not) (dc_P O_table_wrong hR_table_wrong hr (da_cons (de_var 0) da_nil)) de_non) dss_never dss_nil))
/-! ### turned_cells -/
abbrev N_turned_cells : List Str := ["cells", "k", "row"]
theorem sc_turned_cells : FnScope N_turned_cells ["cells"] (defScope s_turned_cells) := ⟨rfl, rfl, rfl, by decide +kernel, rfl, by decide +kernel, by decide +kernel⟩
def t_turned_cells  : TDS := (dRetF (dLc (dRng (dCall cLen (dCons (dOp oIx (dVar 0) (dC (.int 0))) dNil))) (dgName 1) dYes (dLc (dIter (dVar 0)) (dgName 2) dYes (dScal (dOp oIx (dVar 2) (dVar 1))) [2]) [1]))
set_option maxHeartbeats 0 in
theorem b_turned_cells {P : Program} {w : World} {K : PySem.W.Frag} {mg : Str → Option Value} {base : Heap} (W : Wd K mg)   (cdv : Value) (A : Around) (outer : List Env) (s : Shared) (H : Hp) (E : XK) (hr : Room 0 (A.deeper (envOfC "turned_cells" (defScope s_turned_cells) s.heap.objs.size (He.ga K "turned_cells") cdv))) :
    DSs (cxOf CX0 P w K mg base N_turned_cells "turned_cells" (defScope s_turned_cells) (He.ga K "turned_cells") cdv A outer s H E).nox (defBody s_turned_cells) (t_turned_cells ) := by
  exact (dss_one (ds_retF (df_lc rfl sc_turned_cells.nd (di_range (de_callB ca_len (W.free 58) (da_cons (de_ix (de_var 0) de_int) da_nil)) (W.free 67)) (blkOk_by (own := [("k", 1)]) (by kernel_rfl)) (fun _ _ _ _ _ => (dg_name 1 sc_turned_cells.nd)) (fun _ _ _ _ _ => dts_nil) (fun _ _ _ _ _ => (df_lc rfl sc_turned_cells.nd (di_list (de_var 0)) (blkOk_by (own := [("row", 2)]) (by kernel_rfl)) (fun _ _ _ _ _ => (dg_name 2 sc_turned_cells.nd)) (fun _ _ _ _ _ => dts_nil) (fun _ _ _ _ _ => (df_scal (de_ix (de_var 2) (de_var 1)))))))))
/-! ### totals -/
abbrev N_totals : List Str := ["table", "rows", "row", "column"]
theorem sc_totals : FnScope N_totals ["table"] (defScope s_totals) := ⟨rfl, rfl, rfl, by decide +kernel, rfl, by decide +kernel, by decide +kernel⟩
def t_totals (R_must_be_table : RP) (R_turned_cells : RP) : TDS := (dSeq (dExpr (dUse 1 R_must_be_table (dCons (dVar 0) dNil))) (dSeq (dSet 1 (dLc (dIter (dOp oIx (dVar 0) (dC (.int 2)))) (dgName 2) dYes (dCall cSum (dCons (dVar 2) dNil)) [2])) (dRet (dTup (dCons (dVar 1) (dCons (dLc (dIter (dUse 1 R_turned_cells (dCons (dOp oIx (dVar 0) (dC (.int 2))) dNil))) (dgName 3) dYes (dCall cSum (dCons (dVar 3) dNil)) [3]) (dCons (dCall cSum (dCons (dVar 1) dNil)) dNil)))))))
set_option maxHeartbeats 0 in
theorem b_totals {P : Program} {w : World} {K : PySem.W.Frag} {mg : Str → Option Value} {base : Heap} (W : Wd K mg) {R_must_be_table : RP} {R_turned_cells : RP} (hR_must_be_table : MonoP R_must_be_table) (O_must_be_table : Ok P w K mg base "must_be_table" 6 ["table"] (spP K 1 R_must_be_table)) (hR_turned_cells : MonoP R_turned_cells) (O_turned_cells : Ok P w K mg base "turned_cells" 1 ["cells"] (spF K 1 R_turned_cells)) (cdv : Value) (A : Around) (outer : List Env) (s : Shared) (H : Hp) (E : XK) (hr : Room 6 (A.deeper (envOfC "totals" (defScope s_totals) s.heap.objs.size (He.ga K "totals") cdv))) :
    DSs (cxOf CX0 P w K mg base N_totals "totals" (defScope s_totals) (He.ga K "totals") cdv A outer s H E).nox (defBody s_totals) (t_totals R_must_be_table R_turned_cells) := by
  exact (dss_cons (ds_expr (dc_P O_must_be_table hR_must_be_table hr (da_cons (de_var 0) da_nil))) (dss_cons (ds_setLc 1 rfl sc_totals.nd (by rfl) (di_list (de_ix (de_var 0) de_int)) (blkOk_by (own := [("row", 2)]) (by kernel_rfl)) (fun _ _ _ _ _ => (dg_name 2 sc_totals.nd)) (fun _ _ _ _ _ => dts_nil) (fun _ _ _ _ _ => (de_callB (ca_sum rfl) (W.free 65) (da_cons (de_var 2) da_nil)))) (dss_one (ds_ret (de_tup (da_cons (de_var 1) (da_cons (de_lc rfl sc_totals.nd (di_list (DF.de (dc_F O_turned_cells hR_turned_cells hr (da_cons (de_ix (de_var 0) de_int) da_nil)))) (blkOk_by (own := [("column", 3)]) (by kernel_rfl)) (fun _ _ _ _ _ => (dg_name 3 sc_totals.nd)) (fun _ _ _ _ _ => dts_nil) (fun _ _ _ _ _ => (de_callB (ca_sum rfl) (W.free 65) (da_cons (de_var 3) da_nil)))) (da_cons (de_callB (ca_sum rfl) (W.free 65) (da_cons (de_var 1) da_nil)) da_nil))))))))
/-! ### turned_table -/
abbrev N_turned_table : List Str := ["table"]
theorem sc_turned_table : FnScope N_turned_table ["table"] (defScope s_turned_table) := ⟨rfl, rfl, rfl, by decide +kernel, rfl, by decide +kernel, by decide +kernel⟩
def t_turned_table (R_must_be_table : RP) (R_turned_cells : RP) : TDS := (dSeq (dExpr (dUse 1 R_must_be_table (dCons (dVar 0) dNil))) (dRet (dTup (dCons (dCall cList (dCons (dOp oIx (dVar 0) (dC (.int 1))) dNil)) (dCons (dCall cList (dCons (dOp oIx (dVar 0) (dC (.int 0))) dNil)) (dCons (dUse 1 R_turned_cells (dCons (dOp oIx (dVar 0) (dC (.int 2))) dNil)) dNil))))))
set_option maxHeartbeats 0 in
theorem b_turned_table {P : Program} {w : World} {K : PySem.W.Frag} {mg : Str → Option Value} {base : Heap} (W : Wd K mg) {R_must_be_table : RP} {R_turned_cells : RP} (hR_must_be_table : MonoP R_must_be_table) (O_must_be_table : Ok P w K mg base "must_be_table" 6 ["table"] (spP K 1 R_must_be_table)) (hR_turned_cells : MonoP R_turned_cells) (O_turned_cells : Ok P w K mg base "turned_cells" 1 ["cells"] (spF K 1 R_turned_cells)) (cdv : Value) (A : Around) (outer : List Env) (s : Shared) (H : Hp) (E : XK) (hr : Room 6 (A.deeper (envOfC "turned_table" (defScope s_turned_table) s.heap.objs.size (He.ga K "turned_table") cdv))) :
    DSs (cxOf CX0 P w K mg base N_turned_table "turned_table" (defScope s_turned_table) (He.ga K "turned_table") cdv A outer s H E).nox (defBody s_turned_table) (t_turned_table R_must_be_table R_turned_cells) := by
  exact (dss_cons (ds_expr (dc_P O_must_be_table hR_must_be_table hr (da_cons (de_var 0) da_nil))) (dss_one (ds_ret (de_tup (da_cons (de_callTy ca_list (W.free 63) (da_cons (de_ix (de_var 0) de_int) da_nil)) (da_cons (de_callTy ca_list (W.free 63) (da_cons (de_ix (de_var 0) de_int) da_nil)) (da_cons (DF.de (dc_F O_turned_cells hR_turned_cells hr (da_cons (de_ix (de_var 0) de_int) da_nil))) da_nil)))))))
/-! ### fitted_cells -/
abbrev N_fitted_cells : List Str := ["cells", "row"]
theorem sc_fitted_cells : FnScope N_fitted_cells ["cells"] (defScope s_fitted_cells) := ⟨rfl, rfl, rfl, by decide +kernel, rfl, by decide +kernel, by decide +kernel⟩
def t_fitted_cells  : TDS := (dSeq (dIfS (dTs (dOp oGt (dCall cMaxL (dCons (dLc (dIter (dVar 0)) (dgName 1) dYes (dCall cMaxL (dCons (dVar 1) dNil)) [1]) dNil)) (dC (.int 1000000000)))) dNever dNilS) (dRet (dVar 0)))
set_option maxHeartbeats 0 in
theorem b_fitted_cells {P : Program} {w : World} {K : PySem.W.Frag} {mg : Str → Option Value} {base : Heap} (W : Wd K mg)   (cdv : Value) (A : Around) (outer : List Env) (s : Shared) (H : Hp) (E : XK) (hr : Room 0 (A.deeper (envOfC "fitted_cells" (defScope s_fitted_cells) s.heap.objs.size (He.ga K "fitted_cells") cdv))) :
    DSs (cxOf CX0 P w K mg base N_fitted_cells "fitted_cells" (defScope s_fitted_cells) (He.ga K "fitted_cells") cdv A outer s H E).nox (defBody s_fitted_cells) (t_fitted_cells ) := by
  exact (dss_cons (ds_if (dt_cmp (OpP.s ob_gt) (de_callB (ca_maxL rfl) (W.free 62) (da_cons (de_lc rfl sc_fitted_cells.nd (di_list (de_var 0)) (blkOk_by (own := [("row", 1)]) (by kernel_rfl)) (fun _ _ _ _ _ => (dg_name 1 sc_fitted_cells.nd)) (fun _ _ _ _ _ => dts_nil) (fun _ _ _ _ _ => (de_callB (ca_maxL rfl) (W.free 62) (da_cons (de_var 1) da_nil)))) da_nil)) (de_gi (W.int 79))) dss_never dss_nil) (dss_one (ds_ret (de_var 0))))
/-! ### added -/
abbrev N_added : List Str := ["tables", "found", "table", "rows", "columns", "cells", "row", "cell", "first", "one", "more"]
theorem sc_added : FnScope N_added ["tables"] (defScope s_added) := ⟨rfl, rfl, rfl, by decide +kernel, rfl, by decide +kernel, by decide +kernel⟩
def t_added (R_table_wrong : RP) (R_fitted_cells : RP) : TDS := (dSeq (dIfS (dOrT (dNotT (dTs (dIsi "list" (dVar 0)))) (dNotT (dTs (dChain oLe oLe (dC (.int 1)) (dCall cLen (dCons (dVar 0) dNil)) (dC (.int 6)))))) dNever dNilS) (dSeq (dIfS (dNotT (dTs (dCall cAll (dCons (dLc (dIter (dVar 0)) (dgName 2) dYes (dOp oIs (dUse 1 R_table_wrong (dCons (dVar 2) dNil)) (dC .none)) [2]) dNil)))) dNever dNilS) (dSeq (dAsg (dOp oIx (dVar 0) (dC (.int 0))) (dgTup 3 (dgCons (dgName 3) (dgCons (dgName 4) (dgCons (dgName 5) dgNil))))) (dSeq (dIfS (dNotT (dTs (dCall cAll (dCons (dLc (dIter (dVar 0)) (dgName 2) dYes (dOp oEq (dOp oCut (dVar 2) (dC (.int 2))) (dTup (dCons (dVar 3) (dCons (dVar 4) dNil)))) [2]) dNil)))) dNever dNilS) (dSeq (dSetG 1 (dLc (dIter (dVar 5)) (dgName 6) dYes (dLc (dIter (dVar 6)) (dgName 7) dYes (dScal (dC (.int 0))) [7]) [6])) (dSeq (dFor (dIter (dVar 0)) (dgName 2) (dSetG 1 (dLc (dZip (dVarG 1) (dOp oIx (dVar 2) (dC (.int 2)))) (dgTup 2 (dgCons (dgName 8) (dgCons (dgName 6) dgNil))) dYes (dLc (dZipS (dVar 8) (dVar 6)) (dgTup 2 (dgCons (dgName 9) (dgCons (dgName 10) dgNil))) dYes (dScal (dOp oAdd (dVar 9) (dVar 10))) [9, 10]) [8, 6]))) (dRetF (dTup (dCons (dList (dVar 3)) (dCons (dList (dVar 4)) (dCons (dUse 1 R_fitted_cells (dCons (dVarG 1) dNil)) dNil)))))))))))
set_option maxHeartbeats 0 in
theorem b_added {P : Program} {w : World} {K : PySem.W.Frag} {mg : Str → Option Value} {base : Heap} (W : Wd K mg) {R_table_wrong : RP} {R_fitted_cells : RP} (hR_table_wrong : MonoP R_table_wrong) (O_table_wrong : Ok P w K mg base "table_wrong" 5 ["thing"] (spP K 1 R_table_wrong)) (hR_fitted_cells : MonoP R_fitted_cells) (O_fitted_cells : Ok P w K mg base "fitted_cells" 1 ["cells"] (spP K 1 R_fitted_cells)) (cdv : Value) (A : Around) (outer : List Env) (s : Shared) (H : Hp) (E : XK) (hr : Room 5 (A.deeper (envOfC "added" (defScope s_added) s.heap.objs.size (He.ga K "added") cdv))) :
    DSs (cxOf CX0 P w K mg base N_added "added" (defScope s_added) (He.ga K "added") cdv A outer s H E).nox (defBody s_added) (t_added R_table_wrong R_fitted_cells) := by
  exact (dss_cons (ds_if (DW.dt (dw_or (dt_not (dt_of (de_isi (T := "list") (de_var 0) kit_list (W.free 57) (W.free 63) (by decide +kernel) rfl (by decide) (by decide)))) (dw_or1 (dt_not (dt_chain ob_le ob_le de_int (de_callB ca_len (W.free 58) (da_cons (de_var 0) da_nil)) (de_gi (W.int 81))))))) dss_never dss_nil) (dss_cons (ds_if (dt_not (dt_of (de_callB (ca_all rfl) (W.free 59) (da_cons (de_lc rfl sc_added.nd (di_list (de_var 0)) (blkOk_by (own := [("table", 2)]) (by kernel_rfl)) (fun _ _ _ _ _ => (dg_name 2 sc_added.nd)) (fun _ _ _ _ _ => dts_nil) (fun _ _ _ _ _ => (de_cmp (OpP.s ob_is) (dc_P O_table_wrong hR_table_wrong hr (da_cons (de_var 2) da_nil)) de_non))) da_nil)))) dss_never dss_nil) (dss_cons (ds_asg (de_ix (de_var 0) de_int) (dg_tup rfl (dgs_cons (dg_name 3 sc_added.nd) (dgs_cons (dg_name 4 sc_added.nd) (dgs_cons (dg_name 5 sc_added.nd) dgs_nil))))) (dss_cons (ds_if (dt_not (dt_of (de_callB (ca_all rfl) (W.free 59) (da_cons (de_lc rfl sc_added.nd (di_list (de_var 0)) (blkOk_by (own := [("table", 2)]) (by kernel_rfl)) (fun _ _ _ _ _ => (dg_name 2 sc_added.nd)) (fun _ _ _ _ _ => dts_nil) (fun _ _ _ _ _ => (de_cmp (OpP.s (ob_eq (un64 hr))) (de_cut (de_var 2) de_int) (de_tup (da_cons (de_var 3) (da_cons (de_var 4) da_nil)))))) da_nil)))) dss_never dss_nil) (dss_cons (ds_setLcG 1 rfl sc_added.nd (by rfl) (di_list (de_var 5)) (blkOk_by (own := [("row", 6)]) (by kernel_rfl)) (fun _ _ _ _ _ => (dg_name 6 sc_added.nd)) (fun _ _ _ _ _ => dts_nil) (fun _ _ _ _ _ => (df_lc rfl sc_added.nd (di_list (de_var 6)) (blkOk_by (own := [("cell", 7)]) (by kernel_rfl)) (fun _ _ _ _ _ => (dg_name 7 sc_added.nd)) (fun _ _ _ _ _ => dts_nil) (fun _ _ _ _ _ => (df_scal de_int))))) (dss_cons (ds_for PassesOwn.never rfl (di_list (de_var 0)) (dg_name 2 sc_added.nd) (dss_one (ds_setLcG 1 rfl sc_added.nd (by rfl) (di_zip (DF.de (df_var 1)) (de_ix (de_var 2) de_int) (W.free 64)) (blkOk_by (own := [("first", 8), ("row", 6)]) (by kernel_rfl)) (fun _ _ _ _ _ => (dg_tup rfl (dgs_cons (dg_name 8 sc_added.nd) (dgs_cons (dg_name 6 sc_added.nd) dgs_nil)))) (fun _ _ _ _ _ => dts_nil) (fun _ _ _ _ _ => (df_lc rfl sc_added.nd (di_zipS (de_var 8) (de_var 6) (W.free 64)) (blkOk_by (own := [("one", 9), ("more", 10)]) (by kernel_rfl)) (fun _ _ _ _ _ => (dg_tup rfl (dgs_cons (dg_name 9 sc_added.nd) (dgs_cons (dg_name 10 sc_added.nd) dgs_nil)))) (fun _ _ _ _ _ => dts_nil) (fun _ _ _ _ _ => (df_scal (de_op os_add (de_var 9) (de_var 10))))))))) (dss_one (ds_retF (df_tup (dfa_cons (df_list (de_var 3) (W.free 63)) (dfa_cons (df_list (de_var 4) (W.free 63)) (dfa_cons (dc_F1 O_fitted_cells hR_fitted_cells hr (df_var 1)) dfa_nil))))))))))))
/-! ### are_lots -/
abbrev N_are_lots : List Str := ["thing", "many", "numbers", "lot", "number"]
theorem sc_are_lots : FnScope N_are_lots ["thing", "many"] (defScope s_are_lots) := ⟨rfl, rfl, rfl, by decide +kernel, rfl, by decide +kernel, by decide +kernel⟩
def t_are_lots (R_is_whole : RP) : TDS := (dSeq (dIfS (dOrT (dNotT (dTs (dIsi "list" (dVar 0)))) (dNotT (dTs (dCall cAll (dCons (dLc (dIter (dVar 0)) (dgName 3) dYes (dAndV (dIsi "list" (dVar 3)) (dOp oNe (dVar 3) (dLst dNil))) [3]) dNil))))) (dRet (dC (.bool false))) dNilS) (dSeq (dFlat 0 3 4 2 [3, 4]) (dRet (dAndV (dCall cAll (dCons (dLc (dIter (dVar 2)) (dgName 4) dYes (dUse 1 R_is_whole (dCons (dVar 4) dNil)) [4]) dNil)) (dOp oEq (dCall cSorted (dCons (dVar 2) dNil)) (dRange (dVar 1)))))))
set_option maxHeartbeats 0 in
theorem b_are_lots {P : Program} {w : World} {K : PySem.W.Frag} {mg : Str → Option Value} {base : Heap} (W : Wd K mg) {R_is_whole : RP} (hR_is_whole : MonoP R_is_whole) (O_is_whole : Ok P w K mg base "is_whole" 1 ["thing"] (spP K 1 R_is_whole)) (cdv : Value) (A : Around) (outer : List Env) (s : Shared) (H : Hp) (E : XK) (hr : Room 1 (A.deeper (envOfC "are_lots" (defScope s_are_lots) s.heap.objs.size (He.ga K "are_lots") cdv))) :
    DSs (cxOf CX0 P w K mg base N_are_lots "are_lots" (defScope s_are_lots) (He.ga K "are_lots") cdv A outer s H E).nox (defBody s_are_lots) (t_are_lots R_is_whole) := by
  exact (dss_cons (ds_if (DW.dt (dw_or (dt_not (dt_of (de_isi (T := "list") (de_var 0) kit_list (W.free 57) (W.free 63) (by decide +kernel) rfl (by decide) (by decide)))) (dw_or1 (dt_not (dt_of (de_callB (ca_all rfl) (W.free 59) (da_cons (de_lc rfl sc_are_lots.nd (di_list (de_var 0)) (blkOk_by (own := [("lot", 3)]) (by kernel_rfl)) (fun _ _ _ _ _ => (dg_name 3 sc_are_lots.nd)) (fun _ _ _ _ _ => dts_nil) (fun _ _ _ _ _ => (de_and (de_isi (T := "list") (de_var 3) kit_list (W.free 57) (W.free 63) (by decide +kernel) rfl (by decide) (by decide)) (de_one (de_cmp (OpP.s (ob_ne (un64 hr))) (de_var 3) (de_lst da_nil)))))) da_nil))))))) (dss_one (ds_ret de_bl)) dss_nil) (dss_cons (ds_flat (a0 := 0) (i := 3) (j := 4) (y := 2) (own := [("lot", 3), ("number", 4)]) rfl sc_are_lots.nd rfl rfl (by rfl) (blkOk_by (by kernel_rfl)) (by simp) (pe_var rfl (.inl rfl)) (fun _ _ _ _ _ => pg_name sc_are_lots.nd rfl (.inl rfl)) (fun _ _ _ _ _ => pe_var rfl (.inl rfl)) (fun _ _ _ _ _ => pg_name sc_are_lots.nd rfl (.inl rfl)) (fun _ _ _ _ _ => pe_var rfl (.inl rfl))) (dss_one (ds_ret (de_and (de_callB (ca_all rfl) (W.free 59) (da_cons (de_lc rfl sc_are_lots.nd (di_list (de_var 2)) (blkOk_by (own := [("number", 4)]) (by kernel_rfl)) (fun _ _ _ _ _ => (dg_name 4 sc_are_lots.nd)) (fun _ _ _ _ _ => dts_nil) (fun _ _ _ _ _ => (dc_P O_is_whole hR_is_whole hr (da_cons (de_var 4) da_nil)))) da_nil)) (de_one (de_cmp (OpP.s (ob_eq (un64 hr))) (de_callB ca_sorted (W.free 66) (da_cons (de_var 2) da_nil)) (de_range rfl (de_var 1) (W.free 63) (W.free 67)))))))))
/-! ### lots_added -/
abbrev N_lots_added : List Str := ["cells", "lots", "lot", "k", "i"]
theorem sc_lots_added : FnScope N_lots_added ["cells", "lots"] (defScope s_lots_added) := ⟨rfl, rfl, rfl, by decide +kernel, rfl, by decide +kernel, by decide +kernel⟩
def t_lots_added  : TDS := (dRet (dLc (dIter (dVar 1)) (dgName 2) dYes (dLc (dRng (dCall cLen (dCons (dOp oIx (dVar 0) (dC (.int 0))) dNil))) (dgName 3) dYes (dCall cSum (dCons (dLc (dIter (dVar 2)) (dgName 4) dYes (dOp oIx (dOp oIx (dVar 0) (dVar 4)) (dVar 3)) [4]) dNil)) [3]) [2]))
set_option maxHeartbeats 0 in
theorem b_lots_added {P : Program} {w : World} {K : PySem.W.Frag} {mg : Str → Option Value} {base : Heap} (W : Wd K mg)   (cdv : Value) (A : Around) (outer : List Env) (s : Shared) (H : Hp) (E : XK) (hr : Room 0 (A.deeper (envOfC "lots_added" (defScope s_lots_added) s.heap.objs.size (He.ga K "lots_added") cdv))) :
    DSs (cxOf CX0 P w K mg base N_lots_added "lots_added" (defScope s_lots_added) (He.ga K "lots_added") cdv A outer s H E).nox (defBody s_lots_added) (t_lots_added ) := by
  exact (dss_one (ds_ret (de_lc rfl sc_lots_added.nd (di_list (de_var 1)) (blkOk_by (own := [("lot", 2)]) (by kernel_rfl)) (fun _ _ _ _ _ => (dg_name 2 sc_lots_added.nd)) (fun _ _ _ _ _ => dts_nil) (fun _ _ _ _ _ => (de_lc rfl sc_lots_added.nd (di_range (de_callB ca_len (W.free 58) (da_cons (de_ix (de_var 0) de_int) da_nil)) (W.free 67)) (blkOk_by (own := [("k", 3)]) (by kernel_rfl)) (fun _ _ _ _ _ => (dg_name 3 sc_lots_added.nd)) (fun _ _ _ _ _ => dts_nil) (fun _ _ _ _ _ => (de_callB (ca_sum rfl) (W.free 65) (da_cons (de_lc rfl sc_lots_added.nd (di_list (de_var 2)) (blkOk_by (own := [("i", 4)]) (by kernel_rfl)) (fun _ _ _ _ _ => (dg_name 4 sc_lots_added.nd)) (fun _ _ _ _ _ => dts_nil) (fun _ _ _ _ _ => (de_ix (de_ix (de_var 0) (de_var 4)) (de_var 3)))) da_nil))))))))
/-! ### put_together -/
abbrev N_put_together : List Str := ["table", "row_lots", "column_lots", "found", "rows", "columns", "cells", "lot"]
theorem sc_put_together : FnScope N_put_together ["table", "row_lots", "column_lots"] (defScope s_put_together) := ⟨rfl, rfl, rfl, by decide +kernel, rfl, by decide +kernel, by decide +kernel⟩
def t_put_together (R_must_be_table : RP) (R_turned_cells : RP) (R_fitted_cells : RP) (R_are_lots : RP) (R_lots_added : RP) : TDS := (dSeq (dExpr (dUse 1 R_must_be_table (dCons (dVar 0) dNil))) (dSeq (dAsg (dVar 0) (dgTup 3 (dgCons (dgName 4) (dgCons (dgName 5) (dgCons (dgName 6) dgNil))))) (dSeq (dIfS (dOrT (dNotT (dTs (dUse 2 R_are_lots (dCons (dVar 1) (dCons (dCall cLen (dCons (dVar 4) dNil)) dNil))))) (dNotT (dTs (dUse 2 R_are_lots (dCons (dVar 2) (dCons (dCall cLen (dCons (dVar 5) dNil)) dNil)))))) dNever dNilS) (dSeq (dSetG 3 (dUse 1 R_turned_cells (dCons (dUse 2 R_lots_added (dCons (dUse 1 R_turned_cells (dCons (dUse 2 R_lots_added (dCons (dVar 6) (dCons (dVar 1) dNil))) dNil)) (dCons (dVar 2) dNil))) dNil))) (dRetF (dTup (dCons (dLc (dIter (dVar 1)) (dgName 7) dYes (dScal (dOp oIx (dVar 4) (dOp oIx (dVar 7) (dC (.int 0))))) [7]) (dCons (dLc (dIter (dVar 2)) (dgName 7) dYes (dScal (dOp oIx (dVar 5) (dOp oIx (dVar 7) (dC (.int 0))))) [7]) (dCons (dUse 1 R_fitted_cells (dCons (dVarG 3) dNil)) dNil)))))))))
set_option maxHeartbeats 0 in
theorem b_put_together {P : Program} {w : World} {K : PySem.W.Frag} {mg : Str → Option Value} {base : Heap} (W : Wd K mg) {R_must_be_table : RP} {R_turned_cells : RP} {R_fitted_cells : RP} {R_are_lots : RP} {R_lots_added : RP} (hR_must_be_table : MonoP R_must_be_table) (O_must_be_table : Ok P w K mg base "must_be_table" 6 ["table"] (spP K 1 R_must_be_table)) (hR_turned_cells : MonoP R_turned_cells) (O_turned_cells : Ok P w K mg base "turned_cells" 1 ["cells"] (spF K 1 R_turned_cells)) (hR_fitted_cells : MonoP R_fitted_cells) (O_fitted_cells : Ok P w K mg base "fitted_cells" 1 ["cells"] (spP K 1 R_fitted_cells)) (hR_are_lots : MonoP R_are_lots) (O_are_lots : Ok P w K mg base "are_lots" 2 ["thing", "many"] (spP K 2 R_are_lots)) (hR_lots_added : MonoP R_lots_added) (O_lots_added : Ok P w K mg base "lots_added" 1 ["cells", "lots"] (spP K 2 R_lots_added)) (cdv : Value) (A : Around) (outer : List Env) (s : Shared) (H : Hp) (E : XK) (hr : Room 6 (A.deeper (envOfC "put_together" (defScope s_put_together) s.heap.objs.size (He.ga K "put_together") cdv))) :
    DSs (cxOf CX0 P w K mg base N_put_together "put_together" (defScope s_put_together) (He.ga K "put_together") cdv A outer s H E).nox (defBody s_put_together) (t_put_together R_must_be_table R_turned_cells R_fitted_cells R_are_lots R_lots_added) := by
  exact (dss_cons (ds_expr (dc_P O_must_be_table hR_must_be_table hr (da_cons (de_var 0) da_nil))) (dss_cons (ds_asg (de_var 0) (dg_tup rfl (dgs_cons (dg_name 4 sc_put_together.nd) (dgs_cons (dg_name 5 sc_put_together.nd) (dgs_cons (dg_name 6 sc_put_together.nd) dgs_nil))))) (dss_cons (ds_if (DW.dt (dw_or (dt_not (dt_of (dc_P O_are_lots hR_are_lots hr (da_cons (de_var 1) (da_cons (de_callB ca_len (W.free 58) (da_cons (de_var 4) da_nil)) da_nil))))) (dw_or1 (dt_not (dt_of (dc_P O_are_lots hR_are_lots hr (da_cons (de_var 2) (da_cons (de_callB ca_len (W.free 58) (da_cons (de_var 5) da_nil)) da_nil)))))))) dss_never dss_nil) (dss_cons (ds_setG 3 sc_put_together.nd (dc_F O_turned_cells hR_turned_cells hr (da_cons (dc_P O_lots_added hR_lots_added hr (da_cons (DF.de (dc_F O_turned_cells hR_turned_cells hr (da_cons (dc_P O_lots_added hR_lots_added hr (da_cons (de_var 6) (da_cons (de_var 1) da_nil))) da_nil))) (da_cons (de_var 2) da_nil))) da_nil))) (dss_one (ds_retF (df_tup (dfa_cons (df_lc rfl sc_put_together.nd (di_list (de_var 1)) (blkOk_by (own := [("lot", 7)]) (by kernel_rfl)) (fun _ _ _ _ _ => (dg_name 7 sc_put_together.nd)) (fun _ _ _ _ _ => dts_nil) (fun _ _ _ _ _ => (df_scal (de_ix (de_var 4) (de_ix (de_var 7) de_int))))) (dfa_cons (df_lc rfl sc_put_together.nd (di_list (de_var 2)) (blkOk_by (own := [("lot", 7)]) (by kernel_rfl)) (fun _ _ _ _ _ => (dg_name 7 sc_put_together.nd)) (fun _ _ _ _ _ => dts_nil) (fun _ _ _ _ _ => (df_scal (de_ix (de_var 5) (de_ix (de_var 7) de_int))))) (dfa_cons (dc_F1 O_fitted_cells hR_fitted_cells hr (df_var 3)) dfa_nil))))))))))
/-! ### is_answer -/
abbrev N_is_answer : List Str := ["sort", "thing"]
theorem sc_is_answer : FnScope N_is_answer ["sort", "thing"] (defScope s_is_answer) := ⟨rfl, rfl, rfl, by decide +kernel, rfl, by decide +kernel, by decide +kernel⟩
def t_is_answer  : TDS := (dRet (dOrV (dOp oIs (dVar 1) (dC .none)) (dAndV (dIsi "str" (dVar 1)) (dOp oIn (dVar 1) (dOp oIx (dVar 0) (dC (.int 1)))))))
set_option maxHeartbeats 0 in
theorem b_is_answer {P : Program} {w : World} {K : PySem.W.Frag} {mg : Str → Option Value} {base : Heap} (W : Wd K mg)   (cdv : Value) (A : Around) (outer : List Env) (s : Shared) (H : Hp) (E : XK) (hr : Room 0 (A.deeper (envOfC "is_answer" (defScope s_is_answer) s.heap.objs.size (He.ga K "is_answer") cdv))) :
    DSs (cxOf CX0 P w K mg base N_is_answer "is_answer" (defScope s_is_answer) (He.ga K "is_answer") cdv A outer s H E).nox (defBody s_is_answer) (t_is_answer ) := by
  exact (dss_one (ds_ret (de_or (de_cmp (OpP.s ob_is) (de_var 1) de_non) (de_one (de_and (de_isi (T := "str") (de_var 1) kit_str (W.free 57) (W.free 73) (by decide +kernel) rfl (by decide) (by decide)) (de_one (de_cmp (OpP.s ob_in) (de_var 1) (de_ix (de_var 0) de_int))))))))
/-! ### record_in -/
abbrev N_record_in : List Str := ["plan", "thing", "k", "sort"]
theorem sc_record_in : FnScope N_record_in ["plan", "thing"] (defScope s_record_in) := ⟨rfl, rfl, rfl, by decide +kernel, rfl, by decide +kernel, by decide +kernel⟩
def t_record_in (R_is_whole : RP) (R_is_answer : RP) : TDS := (dSeq (dIfS (dOrT (dNotT (dTs (dIsi "tuple" (dVar 1)))) (dTs (dOp oNe (dCall cLen (dCons (dVar 1) dNil)) (dOp oAdd (dCall cLen (dCons (dVar 0) dNil)) (dC (.int 1)))))) (dRet (dTup (dCons (dC (.str "record")) dNil))) dNilS) (dSeq (dFor (dEnT (dVar 0)) (dgTup 2 (dgCons (dgName 2) (dgCons (dgName 3) dgNil))) (dIfS (dNotT (dTs (dUse 2 R_is_answer (dCons (dVar 3) (dCons (dOp oIx (dVar 1) (dVar 2)) dNil))))) (dRet (dTup (dCons (dC (.str "code")) (dCons (dVar 2) dNil)))) dNilS)) (dSeq (dIfS (dOrT (dNotT (dTs (dUse 1 R_is_whole (dCons (dOp oIx (dVar 1) (dNeg (dC (.int 1)))) dNil)))) (dNotT (dTs (dChain oLe oLe (dC (.int 0)) (dOp oIx (dVar 1) (dNeg (dC (.int 1)))) (dC (.int 1000000)))))) (dRet (dTup (dCons (dC (.str "measure")) dNil))) dNilS) (dRet (dC .none)))))
set_option maxHeartbeats 0 in
theorem b_record_in {P : Program} {w : World} {K : PySem.W.Frag} {mg : Str → Option Value} {base : Heap} (W : Wd K mg) {R_is_whole : RP} {R_is_answer : RP} (hR_is_whole : MonoP R_is_whole) (O_is_whole : Ok P w K mg base "is_whole" 1 ["thing"] (spP K 1 R_is_whole)) (hR_is_answer : MonoP R_is_answer) (O_is_answer : Ok P w K mg base "is_answer" 1 ["sort", "thing"] (spP K 2 R_is_answer)) (cdv : Value) (A : Around) (outer : List Env) (s : Shared) (H : Hp) (E : XK) (hr : Room 1 (A.deeper (envOfC "record_in" (defScope s_record_in) s.heap.objs.size (He.ga K "record_in") cdv))) :
    DSs (cxOf CX0 P w K mg base N_record_in "record_in" (defScope s_record_in) (He.ga K "record_in") cdv A outer s H E).nox (defBody s_record_in) (t_record_in R_is_whole R_is_answer) := by
  exact (dss_cons (ds_if (DW.dt (dw_or (dt_not (dt_of (de_isi (T := "tuple") (de_var 1) kit_tuple (W.free 57) (W.free 71) (by decide +kernel) rfl (by decide) (by decide)))) (dw_or1 (dt_cmp (OpP.s (ob_ne (un64 hr))) (de_callB ca_len (W.free 58) (da_cons (de_var 1) da_nil)) (de_op os_add (de_callB ca_len (W.free 58) (da_cons (de_var 0) da_nil)) de_int))))) (dss_one (ds_ret (de_tup (da_cons de_str da_nil)))) dss_nil) (dss_cons (ds_for PassesOwn.never rfl (di_enumT (de_var 0) (W.free 61)) (dg_tup rfl (dgs_cons (dg_name 2 sc_record_in.nd) (dgs_cons (dg_name 3 sc_record_in.nd) dgs_nil))) (dss_one (ds_if (dt_not (dt_of (dc_P O_is_answer hR_is_answer hr (da_cons (de_var 3) (da_cons (de_ix (de_var 1) (de_var 2)) da_nil))))) (dss_one (ds_ret (de_tup (da_cons de_str (da_cons (de_var 2) da_nil))))) dss_nil))) (dss_cons (ds_if (DW.dt (dw_or (dt_not (dt_of (dc_P O_is_whole hR_is_whole hr (da_cons (de_ix (de_var 1) (de_neg de_int)) da_nil)))) (dw_or1 (dt_not (dt_chain ob_le ob_le de_int (de_ix (de_var 1) (de_neg de_int)) (de_gi (W.int 82))))))) (dss_one (ds_ret (de_tup (da_cons de_str da_nil)))) dss_nil) (dss_one (ds_ret de_non)))))
/-! ### record_wrong -/
abbrev N_record_wrong : List Str := ["plan", "thing"]
theorem sc_record_wrong : FnScope N_record_wrong ["plan", "thing"] (defScope s_record_wrong) := ⟨rfl, rfl, rfl, by decide +kernel, rfl, by decide +kernel, by decide +kernel⟩
def t_record_wrong (R_must_be_plan : RP) (R_record_in : RP) : TDS := (dSeq (dExpr (dUse 1 R_must_be_plan (dCons (dVar 0) dNil))) (dRet (dUse 2 R_record_in (dCons (dVar 0) (dCons (dVar 1) dNil)))))
set_option maxHeartbeats 0 in
theorem b_record_wrong {P : Program} {w : World} {K : PySem.W.Frag} {mg : Str → Option Value} {base : Heap} (W : Wd K mg) {R_must_be_plan : RP} {R_record_in : RP} (hR_must_be_plan : MonoP R_must_be_plan) (O_must_be_plan : Ok P w K mg base "must_be_plan" 6 ["plan"] (spP K 1 R_must_be_plan)) (hR_record_in : MonoP R_record_in) (O_record_in : Ok P w K mg base "record_in" 2 ["plan", "thing"] (spP K 2 R_record_in)) (cdv : Value) (A : Around) (outer : List Env) (s : Shared) (H : Hp) (E : XK) (hr : Room 6 (A.deeper (envOfC "record_wrong" (defScope s_record_wrong) s.heap.objs.size (He.ga K "record_wrong") cdv))) :
    DSs (cxOf CX0 P w K mg base N_record_wrong "record_wrong" (defScope s_record_wrong) (He.ga K "record_wrong") cdv A outer s H E).nox (defBody s_record_wrong) (t_record_wrong R_must_be_plan R_record_in) := by
  exact (dss_cons (ds_expr (dc_P O_must_be_plan hR_must_be_plan hr (da_cons (de_var 0) da_nil))) (dss_one (ds_ret (dc_P O_record_in hR_record_in hr (da_cons (de_var 0) (da_cons (de_var 1) da_nil))))))
/-! ### book_in -/
abbrev N_book_in : List Str := ["plan", "thing", "i", "record", "wrong"]
theorem sc_book_in : FnScope N_book_in ["plan", "thing"] (defScope s_book_in) := ⟨rfl, rfl, rfl, by decide +kernel, rfl, by decide +kernel, by decide +kernel⟩
def t_book_in (R_record_in : RP) : TDS := (dSeq (dIfS (dOrT (dNotT (dTs (dIsi "list" (dVar 1)))) (dTs (dOp oGt (dCall cLen (dCons (dVar 1) dNil)) (dC (.int 60))))) (dRet (dTup (dCons (dC (.str "book")) dNil))) dNilS) (dSeq (dFor (dEnL (dVar 1)) (dgTup 2 (dgCons (dgName 2) (dgCons (dgName 3) dgNil))) (dSeq (dSet 4 (dUse 2 R_record_in (dCons (dVar 0) (dCons (dVar 3) dNil)))) (dIfS (dTs (dOp oNot (dVar 4) (dC .none))) (dRet (dTup (dCons (dC (.str "record")) (dCons (dVar 2) (dCons (dVar 4) dNil))))) dNilS))) (dRet (dC .none))))
set_option maxHeartbeats 0 in
theorem b_book_in {P : Program} {w : World} {K : PySem.W.Frag} {mg : Str → Option Value} {base : Heap} (W : Wd K mg) {R_record_in : RP} (hR_record_in : MonoP R_record_in) (O_record_in : Ok P w K mg base "record_in" 2 ["plan", "thing"] (spP K 2 R_record_in)) (cdv : Value) (A : Around) (outer : List Env) (s : Shared) (H : Hp) (E : XK) (hr : Room 2 (A.deeper (envOfC "book_in" (defScope s_book_in) s.heap.objs.size (He.ga K "book_in") cdv))) :
    DSs (cxOf CX0 P w K mg base N_book_in "book_in" (defScope s_book_in) (He.ga K "book_in") cdv A outer s H E).nox (defBody s_book_in) (t_book_in R_record_in) := by
  exact (dss_cons (ds_if (DW.dt (dw_or (dt_not (dt_of (de_isi (T := "list") (de_var 1) kit_list (W.free 57) (W.free 63) (by decide +kernel) rfl (by decide) (by decide)))) (dw_or1 (dt_cmp (OpP.s ob_gt) (de_callB ca_len (W.free 58) (da_cons (de_var 1) da_nil)) (de_gi (W.int 83)))))) (dss_one (ds_ret (de_tup (da_cons de_str da_nil)))) dss_nil) (dss_cons (ds_for PassesOwn.never rfl (di_enum (de_var 1) (W.free 61)) (dg_tup rfl (dgs_cons (dg_name 2 sc_book_in.nd) (dgs_cons (dg_name 3 sc_book_in.nd) dgs_nil))) (dss_cons (ds_set 4 sc_book_in.nd (dc_P O_record_in hR_record_in hr (da_cons (de_var 0) (da_cons (de_var 3) da_nil)))) (dss_one (ds_if (dt_cmp (OpP.s ob_not) (de_var 4) de_non) (dss_one (ds_ret (de_tup (da_cons de_str (da_cons (de_var 2) (da_cons (de_var 4) da_nil)))))) dss_nil)))) (dss_one (ds_ret de_non))))
/-! ### book_wrong -/
abbrev N_book_wrong : List Str := ["plan", "thing"]
theorem sc_book_wrong : FnScope N_book_wrong ["plan", "thing"] (defScope s_book_wrong) := ⟨rfl, rfl, rfl, by decide +kernel, rfl, by decide +kernel, by decide +kernel⟩
def t_book_wrong (R_must_be_plan : RP) (R_book_in : RP) : TDS := (dSeq (dExpr (dUse 1 R_must_be_plan (dCons (dVar 0) dNil))) (dRet (dUse 2 R_book_in (dCons (dVar 0) (dCons (dVar 1) dNil)))))
set_option maxHeartbeats 0 in
theorem b_book_wrong {P : Program} {w : World} {K : PySem.W.Frag} {mg : Str → Option Value} {base : Heap} (W : Wd K mg) {R_must_be_plan : RP} {R_book_in : RP} (hR_must_be_plan : MonoP R_must_be_plan) (O_must_be_plan : Ok P w K mg base "must_be_plan" 6 ["plan"] (spP K 1 R_must_be_plan)) (hR_book_in : MonoP R_book_in) (O_book_in : Ok P w K mg base "book_in" 3 ["plan", "thing"] (spP K 2 R_book_in)) (cdv : Value) (A : Around) (outer : List Env) (s : Shared) (H : Hp) (E : XK) (hr : Room 6 (A.deeper (envOfC "book_wrong" (defScope s_book_wrong) s.heap.objs.size (He.ga K "book_wrong") cdv))) :
    DSs (cxOf CX0 P w K mg base N_book_wrong "book_wrong" (defScope s_book_wrong) (He.ga K "book_wrong") cdv A outer s H E).nox (defBody s_book_wrong) (t_book_wrong R_must_be_plan R_book_in) := by
  exact (dss_cons (ds_expr (dc_P O_must_be_plan hR_must_be_plan hr (da_cons (de_var 0) da_nil))) (dss_one (ds_ret (dc_P O_book_in hR_book_in hr (da_cons (de_var 0) (da_cons (de_var 1) da_nil))))))
/-! ### must_be_record -/
abbrev N_must_be_record : List Str := ["plan", "record"]
theorem sc_must_be_record : FnScope N_must_be_record ["plan", "record"] (defScope s_must_be_record) := ⟨rfl, rfl, rfl, by decide +kernel, rfl, by decide +kernel, by decide +kernel⟩
def t_must_be_record (R_record_wrong : RP) : TDS := (dIfS (dTs (dOp oNot (dUse 2 R_record_wrong (dCons (dVar 0) (dCons (dVar 1) dNil))) (dC .none))) dNever dNilS)
set_option maxHeartbeats 0 in
theorem b_must_be_record {P : Program} {w : World} {K : PySem.W.Frag} {mg : Str → Option Value} {base : Heap} (W : Wd K mg) {R_record_wrong : RP} (hR_record_wrong : MonoP R_record_wrong) (O_record_wrong : Ok P w K mg base "record_wrong" 7 ["plan", "thing"] (spP K 2 R_record_wrong)) (cdv : Value) (A : Around) (outer : List Env) (s : Shared) (H : Hp) (E : XK) (hr : Room 7 (A.deeper (envOfC "must_be_record" (defScope s_must_be_record) s.heap.objs.size (He.ga K "must_be_record") cdv))) :
    DSs (cxOf CX0 P w K mg base N_must_be_record "must_be_record" (defScope s_must_be_record) (He.ga K "must_be_record") cdv A outer s H E).nox (defBody s_must_be_record) (t_must_be_record R_record_wrong) := by
  exact (dss_one (ds_if (dt_cmp (OpP.s ob_not) (dc_P O_record_wrong hR_record_wrong hr (da_cons (de_var 0) (da_cons (de_var 1) da_nil))) de_non) dss_never dss_nil))
/-! ### must_be_book -/
abbrev N_must_be_book : List Str := ["plan", "book"]
theorem sc_must_be_book : FnScope N_must_be_book ["plan", "book"] (defScope s_must_be_book) := ⟨rfl, rfl, rfl, by decide +kernel, rfl, by decide +kernel, by decide +kernel⟩
def t_must_be_book (R_book_wrong : RP) : TDS := (dIfS (dTs (dOp oNot (dUse 2 R_book_wrong (dCons (dVar 0) (dCons (dVar 1) dNil))) (dC .none))) dNever dNilS)
set_option maxHeartbeats 0 in
theorem b_must_be_book {P : Program} {w : World} {K : PySem.W.Frag} {mg : Str → Option Value} {base : Heap} (W : Wd K mg) {R_book_wrong : RP} (hR_book_wrong : MonoP R_book_wrong) (O_book_wrong : Ok P w K mg base "book_wrong" 7 ["plan", "thing"] (spP K 2 R_book_wrong)) (cdv : Value) (A : Around) (outer : List Env) (s : Shared) (H : Hp) (E : XK) (hr : Room 7 (A.deeper (envOfC "must_be_book" (defScope s_must_be_book) s.heap.objs.size (He.ga K "must_be_book") cdv))) :
    DSs (cxOf CX0 P w K mg base N_must_be_book "must_be_book" (defScope s_must_be_book) (He.ga K "must_be_book") cdv A outer s H E).nox (defBody s_must_be_book) (t_must_be_book R_book_wrong) := by
  exact (dss_one (ds_if (dt_cmp (OpP.s ob_not) (dc_P O_book_wrong hR_book_wrong hr (da_cons (de_var 0) (da_cons (de_var 1) da_nil))) de_non) dss_never dss_nil))
/-! ### gaps -/
abbrev N_gaps : List Str := ["plan", "record", "k"]
theorem sc_gaps : FnScope N_gaps ["plan", "record"] (defScope s_gaps) := ⟨rfl, rfl, rfl, by decide +kernel, rfl, by decide +kernel, by decide +kernel⟩
def t_gaps (R_must_be_record : RP) : TDS := (dSeq (dExpr (dUse 2 R_must_be_record (dCons (dVar 0) (dCons (dVar 1) dNil)))) (dRet (dLc (dRng (dCall cLen (dCons (dVar 0) dNil))) (dgName 2) (dTs (dOp oIs (dOp oIx (dVar 1) (dVar 2)) (dC .none))) (dVar 2) [2])))
set_option maxHeartbeats 0 in
theorem b_gaps {P : Program} {w : World} {K : PySem.W.Frag} {mg : Str → Option Value} {base : Heap} (W : Wd K mg) {R_must_be_record : RP} (hR_must_be_record : MonoP R_must_be_record) (O_must_be_record : Ok P w K mg base "must_be_record" 8 ["plan", "record"] (spP K 2 R_must_be_record)) (cdv : Value) (A : Around) (outer : List Env) (s : Shared) (H : Hp) (E : XK) (hr : Room 8 (A.deeper (envOfC "gaps" (defScope s_gaps) s.heap.objs.size (He.ga K "gaps") cdv))) :
    DSs (cxOf CX0 P w K mg base N_gaps "gaps" (defScope s_gaps) (He.ga K "gaps") cdv A outer s H E).nox (defBody s_gaps) (t_gaps R_must_be_record) := by
  exact (dss_cons (ds_expr (dc_P O_must_be_record hR_must_be_record hr (da_cons (de_var 0) (da_cons (de_var 1) da_nil)))) (dss_one (ds_ret (de_lc rfl sc_gaps.nd (di_range (de_callB ca_len (W.free 58) (da_cons (de_var 0) da_nil)) (W.free 67)) (blkOk_by (own := [("k", 2)]) (by kernel_rfl)) (fun _ _ _ _ _ => (dg_name 2 sc_gaps.nd)) (fun _ _ _ _ _ => (dts_one (dt_cmp (OpP.s ob_is) (de_ix (de_var 1) (de_var 2)) de_non))) (fun _ _ _ _ _ => (de_var 2))))))
/-! ### must_be_sorts -/
abbrev N_must_be_sorts : List Str := ["plan", "numbers", "number"]
theorem sc_must_be_sorts : FnScope N_must_be_sorts ["plan", "numbers"] (defScope s_must_be_sorts) := ⟨rfl, rfl, rfl, by decide +kernel, rfl, by decide +kernel, by decide +kernel⟩
def t_must_be_sorts (R_is_sort_number : RP) : TDS := (dIfS (dOrT (dNotT (dTs (dCall cAll (dCons (dLc (dIter (dVar 1)) (dgName 2) dYes (dUse 2 R_is_sort_number (dCons (dVar 0) (dCons (dVar 2) dNil))) [2]) dNil)))) (dTs (dOp oLt (dLenSetI (dVar 1)) (dCall cLen (dCons (dVar 1) dNil))))) dNever dNilS)
set_option maxHeartbeats 0 in
theorem b_must_be_sorts {P : Program} {w : World} {K : PySem.W.Frag} {mg : Str → Option Value} {base : Heap} (W : Wd K mg) {R_is_sort_number : RP} (hR_is_sort_number : MonoP R_is_sort_number) (O_is_sort_number : Ok P w K mg base "is_sort_number" 2 ["plan", "thing"] (spP K 2 R_is_sort_number)) (cdv : Value) (A : Around) (outer : List Env) (s : Shared) (H : Hp) (E : XK) (hr : Room 2 (A.deeper (envOfC "must_be_sorts" (defScope s_must_be_sorts) s.heap.objs.size (He.ga K "must_be_sorts") cdv))) :
    DSs (cxOf CX0 P w K mg base N_must_be_sorts "must_be_sorts" (defScope s_must_be_sorts) (He.ga K "must_be_sorts") cdv A outer s H E).nox (defBody s_must_be_sorts) (t_must_be_sorts R_is_sort_number) := by
  exact (dss_one (ds_if (DW.dt (dw_or (dt_not (dt_of (de_callB (ca_all rfl) (W.free 59) (da_cons (de_lc rfl sc_must_be_sorts.nd (di_list (de_var 1)) (blkOk_by (own := [("number", 2)]) (by kernel_rfl)) (fun _ _ _ _ _ => (dg_name 2 sc_must_be_sorts.nd)) (fun _ _ _ _ _ => dts_nil) (fun _ _ _ _ _ => (dc_P O_is_sort_number hR_is_sort_number hr (da_cons (de_var 0) (da_cons (de_var 2) da_nil))))) da_nil)))) (dw_or1 (dt_cmp (OpP.s ob_lt) (de_lenSetI rfl (de_var 1) (W.free 58) (W.free 60)) (de_callB ca_len (W.free 58) (da_cons (de_var 1) da_nil)))))) dss_never dss_nil))
/-! ### cells_of -/
abbrev N_cells_of : List Str := ["plan", "book", "row", "column", "amounts", "both", "found", "code", "line", "other", "one", "more"]
theorem sc_cells_of : FnScope N_cells_of ["plan", "book", "row", "column", "amounts"] (defScope s_cells_of) := ⟨rfl, rfl, rfl, by decide +kernel, rfl, by decide +kernel, by decide +kernel⟩
def t_cells_of  : TDS := (dSeq (dSet 5 (dListZip (dVar 1) (dVar 4))) (dSeq (dNew 6 dNil) (dSeq (dFor (dItT (dOp oIx (dOp oIx (dVar 0) (dVar 2)) (dC (.int 1)))) (dgName 7) (dSeq (dNew 8 dNil) (dSeq (dFor (dItT (dOp oIx (dOp oIx (dVar 0) (dVar 3)) (dC (.int 1)))) (dgName 9) (dApp 8 (dLc (dIter (dVar 5)) (dgTup 2 (dgCons (dgName 10) (dgCons (dgName 11) dgNil))) (dTs (dOp oEq (dTup (dCons (dOp oIx (dVar 10) (dVar 2)) (dCons (dOp oIx (dVar 10) (dVar 3)) dNil))) (dTup (dCons (dVar 7) (dCons (dVar 9) dNil))))) (dVar 11) [10, 11]))) (dRel 8 (dApp 6 (dVar 8)))))) (dRet (dVar 6)))))
set_option maxHeartbeats 0 in
theorem b_cells_of {P : Program} {w : World} {K : PySem.W.Frag} {mg : Str → Option Value} {base : Heap} (W : Wd K mg)   (cdv : Value) (A : Around) (outer : List Env) (s : Shared) (H : Hp) (E : XK) (hr : Room 0 (A.deeper (envOfC "cells_of" (defScope s_cells_of) s.heap.objs.size (He.ga K "cells_of") cdv))) :
    DSs (cxOf CX0 P w K mg base N_cells_of "cells_of" (defScope s_cells_of) (He.ga K "cells_of") cdv A outer s H E).nox (defBody s_cells_of) (t_cells_of ) := by
  exact (dss_cons (ds_set 5 sc_cells_of.nd (de_listZip rfl (de_var 1) (de_var 4) (W.free 64) (W.free 63))) (dss_cons (ds_new 6 sc_cells_of.nd da_nil) (dss_cons (ds_for PassesOwn.never rfl (di_tup (de_ix (de_ix (de_var 0) (de_var 2)) de_int)) (dg_name 7 sc_cells_of.nd) (dss_cons (ds_new 8 sc_cells_of.nd da_nil) (dss_cons (ds_for PassesOwn.never rfl (di_tup (de_ix (de_ix (de_var 0) (de_var 3)) de_int)) (dg_name 9 sc_cells_of.nd) (dss_one (ds_app 8 (de_lc rfl sc_cells_of.nd (di_list (de_var 5)) (blkOk_by (own := [("one", 10), ("more", 11)]) (by kernel_rfl)) (fun _ _ _ _ _ => (dg_tup rfl (dgs_cons (dg_name 10 sc_cells_of.nd) (dgs_cons (dg_name 11 sc_cells_of.nd) dgs_nil)))) (fun _ _ _ _ _ => (dts_one (dt_cmp (OpP.s (ob_eq (un64 hr))) (de_tup (da_cons (de_ix (de_var 10) (de_var 2)) (da_cons (de_ix (de_var 10) (de_var 3)) da_nil))) (de_tup (da_cons (de_var 7) (da_cons (de_var 9) da_nil)))))) (fun _ _ _ _ _ => (de_var 11))) (hp := pe_bm PySem.F.plainAttrs_list PySem.F.slot_list_append PySem.F.type_list_append mt_append (pe_var (i := 8) rfl (by first | exact Or.inl rfl | exact Or.inr (Or.inl rfl) | exact Or.inr (Or.inr rfl))) (pa_cons (DE.run (de_lc rfl sc_cells_of.nd (di_list (de_var 5)) (blkOk_by (own := [("one", 10), ("more", 11)]) (by kernel_rfl)) (fun _ _ _ _ _ => (dg_tup rfl (dgs_cons (dg_name 10 sc_cells_of.nd) (dgs_cons (dg_name 11 sc_cells_of.nd) dgs_nil)))) (fun _ _ _ _ _ => (dts_one (dt_cmp (OpP.s (ob_eq (un64 hr))) (de_tup (da_cons (de_ix (de_var 10) (de_var 2)) (da_cons (de_ix (de_var 10) (de_var 3)) da_nil))) (de_tup (da_cons (de_var 7) (da_cons (de_var 9) da_nil)))))) (fun _ _ _ _ _ => (de_var 11)))) pa_nil))))) (dss_one (ds_rel 8 (ds_app 6 (de_var 8) (hp := pe_bm PySem.F.plainAttrs_list PySem.F.slot_list_append PySem.F.type_list_append mt_append (pe_var (i := 6) rfl (by first | exact Or.inl rfl | exact Or.inr (Or.inl rfl) | exact Or.inr (Or.inr rfl))) (pa_cons (DE.run (de_var 8)) pa_nil)))))))) (dss_one (ds_ret (de_var 6))))))
/-! ### amounts_by -/
abbrev N_amounts_by : List Str := ["book", "what", "record"]
theorem sc_amounts_by : FnScope N_amounts_by ["book", "what"] (defScope s_amounts_by) := ⟨rfl, rfl, rfl, by decide +kernel, rfl, by decide +kernel, by decide +kernel⟩
def t_amounts_by  : TDS := (dSeq (dIfS (dTs (dOp oNin (dVar 1) (dC (.tuple [.str "count", .str "measure"])))) dNever dNilS) (dRet (dLc (dIter (dVar 0)) (dgName 2) dYes (dIf (dTs (dOp oEq (dVar 1) (dC (.str "count")))) (dC (.int 1)) (dOp oIx (dVar 2) (dNeg (dC (.int 1))))) [2])))
set_option maxHeartbeats 0 in
theorem b_amounts_by {P : Program} {w : World} {K : PySem.W.Frag} {mg : Str → Option Value} {base : Heap} (W : Wd K mg)   (cdv : Value) (A : Around) (outer : List Env) (s : Shared) (H : Hp) (E : XK) (hr : Room 0 (A.deeper (envOfC "amounts_by" (defScope s_amounts_by) s.heap.objs.size (He.ga K "amounts_by") cdv))) :
    DSs (cxOf CX0 P w K mg base N_amounts_by "amounts_by" (defScope s_amounts_by) (He.ga K "amounts_by") cdv A outer s H E).nox (defBody s_amounts_by) (t_amounts_by ) := by
  exact (dss_cons (ds_if (dt_cmp (OpP.s ob_nin) (de_var 1) (de_what (W.glo 85) W.whats)) dss_never dss_nil) (dss_one (ds_ret (de_lc rfl sc_amounts_by.nd (di_list (de_var 0)) (blkOk_by (own := [("record", 2)]) (by kernel_rfl)) (fun _ _ _ _ _ => (dg_name 2 sc_amounts_by.nd)) (fun _ _ _ _ _ => dts_nil) (fun _ _ _ _ _ => (de_if (dt_cmp (OpP.s (ob_eq (un64 hr))) (de_var 1) de_str) de_int (de_ix (de_var 2) (de_neg de_int))))))))
/-! ### summed -/
abbrev N_summed : List Str := ["plan", "book", "row", "column", "what", "cells", "line", "cell"]
theorem sc_summed : FnScope N_summed ["plan", "book", "row", "column", "what"] (defScope s_summed) := ⟨rfl, rfl, rfl, by decide +kernel, rfl, by decide +kernel, by decide +kernel⟩
def t_summed (R_cells_of : RP) (R_amounts_by : RP) : TDS := (dSeq (dSet 5 (dUse 5 R_cells_of (dCons (dVar 0) (dCons (dVar 1) (dCons (dVar 2) (dCons (dVar 3) (dCons (dUse 2 R_amounts_by (dCons (dVar 1) (dCons (dVar 4) dNil))) dNil))))))) (dRet (dTup (dCons (dCall cList (dCons (dOp oIx (dOp oIx (dVar 0) (dVar 2)) (dC (.int 1))) dNil)) (dCons (dCall cList (dCons (dOp oIx (dOp oIx (dVar 0) (dVar 3)) (dC (.int 1))) dNil)) (dCons (dLc (dIter (dVar 5)) (dgName 6) dYes (dLc (dIter (dVar 6)) (dgName 7) dYes (dCall cSum (dCons (dVar 7) dNil)) [7]) [6]) dNil))))))
set_option maxHeartbeats 0 in
theorem b_summed {P : Program} {w : World} {K : PySem.W.Frag} {mg : Str → Option Value} {base : Heap} (W : Wd K mg) {R_cells_of : RP} {R_amounts_by : RP} (hR_cells_of : MonoP R_cells_of) (O_cells_of : Ok P w K mg base "cells_of" 1 ["plan", "book", "row", "column", "amounts"] (spP K 5 R_cells_of)) (hR_amounts_by : MonoP R_amounts_by) (O_amounts_by : Ok P w K mg base "amounts_by" 1 ["book", "what"] (spP K 2 R_amounts_by)) (cdv : Value) (A : Around) (outer : List Env) (s : Shared) (H : Hp) (E : XK) (hr : Room 1 (A.deeper (envOfC "summed" (defScope s_summed) s.heap.objs.size (He.ga K "summed") cdv))) :
    DSs (cxOf CX0 P w K mg base N_summed "summed" (defScope s_summed) (He.ga K "summed") cdv A outer s H E).nox (defBody s_summed) (t_summed R_cells_of R_amounts_by) := by
  exact (dss_cons (ds_set 5 sc_summed.nd (dc_P O_cells_of hR_cells_of hr (da_cons (de_var 0) (da_cons (de_var 1) (da_cons (de_var 2) (da_cons (de_var 3) (da_cons (dc_P O_amounts_by hR_amounts_by hr (da_cons (de_var 1) (da_cons (de_var 4) da_nil))) da_nil))))))) (dss_one (ds_ret (de_tup (da_cons (de_callTy ca_list (W.free 63) (da_cons (de_ix (de_ix (de_var 0) (de_var 2)) de_int) da_nil)) (da_cons (de_callTy ca_list (W.free 63) (da_cons (de_ix (de_ix (de_var 0) (de_var 3)) de_int) da_nil)) (da_cons (de_lc rfl sc_summed.nd (di_list (de_var 5)) (blkOk_by (own := [("line", 6)]) (by kernel_rfl)) (fun _ _ _ _ _ => (dg_name 6 sc_summed.nd)) (fun _ _ _ _ _ => dts_nil) (fun _ _ _ _ _ => (de_lc rfl sc_summed.nd (di_list (de_var 6)) (blkOk_by (own := [("cell", 7)]) (by kernel_rfl)) (fun _ _ _ _ _ => (dg_name 7 sc_summed.nd)) (fun _ _ _ _ _ => dts_nil) (fun _ _ _ _ _ => (de_callB (ca_sum rfl) (W.free 65) (da_cons (de_var 7) da_nil)))))) da_nil)))))))
/-! ### table_of -/
abbrev N_table_of : List Str := ["plan", "book", "row", "column", "what"]
theorem sc_table_of : FnScope N_table_of ["plan", "book", "row", "column", "what"] (defScope s_table_of) := ⟨rfl, rfl, rfl, by decide +kernel, rfl, by decide +kernel, by decide +kernel⟩
def t_table_of (R_must_be_book : RP) (R_must_be_sorts : RP) (R_summed : RP) : TDS := (dSeq (dExpr (dUse 2 R_must_be_book (dCons (dVar 0) (dCons (dVar 1) dNil)))) (dSeq (dExpr (dUse 2 R_must_be_sorts (dCons (dVar 0) (dCons (dLst (dCons (dVar 2) (dCons (dVar 3) dNil))) dNil)))) (dRet (dUse 5 R_summed (dCons (dVar 0) (dCons (dVar 1) (dCons (dVar 2) (dCons (dVar 3) (dCons (dVar 4) dNil)))))))))
set_option maxHeartbeats 0 in
theorem b_table_of {P : Program} {w : World} {K : PySem.W.Frag} {mg : Str → Option Value} {base : Heap} (W : Wd K mg) {R_must_be_book : RP} {R_must_be_sorts : RP} {R_summed : RP} (hR_must_be_book : MonoP R_must_be_book) (O_must_be_book : Ok P w K mg base "must_be_book" 8 ["plan", "book"] (spP K 2 R_must_be_book)) (hR_must_be_sorts : MonoP R_must_be_sorts) (O_must_be_sorts : Ok P w K mg base "must_be_sorts" 3 ["plan", "numbers"] (spP K 2 R_must_be_sorts)) (hR_summed : MonoP R_summed) (O_summed : Ok P w K mg base "summed" 2 ["plan", "book", "row", "column", "what"] (spP K 5 R_summed)) (cdv : Value) (A : Around) (outer : List Env) (s : Shared) (H : Hp) (E : XK) (hr : Room 8 (A.deeper (envOfC "table_of" (defScope s_table_of) s.heap.objs.size (He.ga K "table_of") cdv))) :
    DSs (cxOf CX0 P w K mg base N_table_of "table_of" (defScope s_table_of) (He.ga K "table_of") cdv A outer s H E).nox (defBody s_table_of) (t_table_of R_must_be_book R_must_be_sorts R_summed) := by
  exact (dss_cons (ds_expr (dc_P O_must_be_book hR_must_be_book hr (da_cons (de_var 0) (da_cons (de_var 1) da_nil)))) (dss_cons (ds_expr (dc_P O_must_be_sorts hR_must_be_sorts hr (da_cons (de_var 0) (da_cons (de_lst (da_cons (de_var 2) (da_cons (de_var 3) da_nil))) da_nil)))) (dss_one (ds_ret (dc_P O_summed hR_summed hr (da_cons (de_var 0) (da_cons (de_var 1) (da_cons (de_var 2) (da_cons (de_var 3) (da_cons (de_var 4) da_nil))))))))))
/-! ### weighed_cells -/
abbrev N_weighed_cells : List Str := ["plan", "book", "row", "column", "weights", "found", "line", "cell", "total", "weight", "one"]
theorem sc_weighed_cells : FnScope N_weighed_cells ["plan", "book", "row", "column", "weights"] (defScope s_weighed_cells) := ⟨rfl, rfl, rfl, by decide +kernel, rfl, by decide +kernel, by decide +kernel⟩
def t_weighed_cells (R_is_fraction : RP) (R_plus : RP) (R_must_be_book : RP) (R_must_be_sorts : RP) (R_cells_of : RP) : TDS := (dSeq (dExpr (dUse 2 R_must_be_book (dCons (dVar 0) (dCons (dVar 1) dNil)))) (dSeq (dExpr (dUse 2 R_must_be_sorts (dCons (dVar 0) (dCons (dLst (dCons (dVar 2) (dCons (dVar 3) dNil))) dNil)))) (dSeq (dIfS (dOrT (dNotT (dTs (dIsi "list" (dVar 4)))) (dOrT (dTs (dOp oNe (dCall cLen (dCons (dVar 4) dNil)) (dCall cLen (dCons (dVar 1) dNil)))) (dNotT (dTs (dCall cAll (dCons (dLc (dIter (dVar 4)) (dgName 10) dYes (dUse 1 R_is_fraction (dCons (dVar 10) dNil)) [10]) dNil)))))) dNever dNilS) (dSeq (dNew 5 dNil) (dConv 5 (dSeq (dFor (dIter (dUse 5 R_cells_of (dCons (dVar 0) (dCons (dVar 1) (dCons (dVar 2) (dCons (dVar 3) (dCons (dVar 4) dNil))))))) (dgName 6) (dSeq (dApp2 5) (dFor (dIter (dVar 6)) (dgName 7) (dSeq (dSet 8 (dTup (dCons (dC (.int 0)) (dCons (dC (.int 1)) dNil)))) (dSeq (dFor (dIter (dVar 7)) (dgName 9) (dSet 8 (dUse 2 R_plus (dCons (dVar 8) (dCons (dVar 9) dNil))))) (dAppL 5 8)))))) (dRet (dVar 5))))))))
set_option maxHeartbeats 0 in
theorem b_weighed_cells {P : Program} {w : World} {K : PySem.W.Frag} {mg : Str → Option Value} {base : Heap} (W : Wd K mg) {R_is_fraction : RP} {R_plus : RP} {R_must_be_book : RP} {R_must_be_sorts : RP} {R_cells_of : RP} (hR_is_fraction : MonoP R_is_fraction) (O_is_fraction : Ok P w K mg base "is_fraction" 2 ["thing"] (spP K 1 R_is_fraction)) (hR_plus : MonoP R_plus) (O_plus : Ok P w K mg base "plus" 3 ["one", "other"] (spP K 2 R_plus)) (hR_must_be_book : MonoP R_must_be_book) (O_must_be_book : Ok P w K mg base "must_be_book" 8 ["plan", "book"] (spP K 2 R_must_be_book)) (hR_must_be_sorts : MonoP R_must_be_sorts) (O_must_be_sorts : Ok P w K mg base "must_be_sorts" 3 ["plan", "numbers"] (spP K 2 R_must_be_sorts)) (hR_cells_of : MonoP R_cells_of) (O_cells_of : Ok P w K mg base "cells_of" 1 ["plan", "book", "row", "column", "amounts"] (spP K 5 R_cells_of)) (cdv : Value) (A : Around) (outer : List Env) (s : Shared) (H : Hp) (E : XK) (hr : Room 8 (A.deeper (envOfC "weighed_cells" (defScope s_weighed_cells) s.heap.objs.size (He.ga K "weighed_cells") cdv))) :
    DSs (cxOf CX0 P w K mg base N_weighed_cells "weighed_cells" (defScope s_weighed_cells) (He.ga K "weighed_cells") cdv A outer s H E).nox (defBody s_weighed_cells) (t_weighed_cells R_is_fraction R_plus R_must_be_book R_must_be_sorts R_cells_of) := by
  exact (dss_cons (ds_expr (dc_P O_must_be_book hR_must_be_book hr (da_cons (de_var 0) (da_cons (de_var 1) da_nil)))) (dss_cons (ds_expr (dc_P O_must_be_sorts hR_must_be_sorts hr (da_cons (de_var 0) (da_cons (de_lst (da_cons (de_var 2) (da_cons (de_var 3) da_nil))) da_nil)))) (dss_cons (ds_if (DW.dt (dw_or (dt_not (dt_of (de_isi (T := "list") (de_var 4) kit_list (W.free 57) (W.free 63) (by decide +kernel) rfl (by decide) (by decide)))) (dw_or (dt_cmp (OpP.s (ob_ne (un64 hr))) (de_callB ca_len (W.free 58) (da_cons (de_var 4) da_nil)) (de_callB ca_len (W.free 58) (da_cons (de_var 1) da_nil))) (dw_or1 (dt_not (dt_of (de_callB (ca_all rfl) (W.free 59) (da_cons (de_lc rfl sc_weighed_cells.nd (di_list (de_var 4)) (blkOk_by (own := [("one", 10)]) (by kernel_rfl)) (fun _ _ _ _ _ => (dg_name 10 sc_weighed_cells.nd)) (fun _ _ _ _ _ => dts_nil) (fun _ _ _ _ _ => (dc_P O_is_fraction hR_is_fraction hr (da_cons (de_var 10) da_nil)))) da_nil)))))))) dss_never dss_nil) (dss_cons (ds_new 5 sc_weighed_cells.nd da_nil) (dss_conv 5 (dss_cons (ds_for PassesOwn.never rfl (di_list (dc_P O_cells_of hR_cells_of hr (da_cons (de_var 0) (da_cons (de_var 1) (da_cons (de_var 2) (da_cons (de_var 3) (da_cons (de_var 4) da_nil))))))) (dg_name 6 sc_weighed_cells.nd) (dss_cons (ds_app2 5 (pe_bm PySem.F.plainAttrs_list PySem.F.slot_list_append PySem.F.type_list_append mt_append (pe_var (i := 5) rfl (by first | exact Or.inl rfl | exact Or.inr (Or.inl rfl) | exact Or.inr (Or.inr rfl))) (pa_cons (pe_lst pa_nil) pa_nil))) (dss_one (ds_for PassesOwn.never rfl (di_list (de_var 6)) (dg_name 7 sc_weighed_cells.nd) (dss_cons (ds_set 8 sc_weighed_cells.nd (de_tup (da_cons de_int (da_cons de_int da_nil)))) (dss_cons (ds_for PassesOwn.never rfl (di_list (de_var 7)) (dg_name 9 sc_weighed_cells.nd) (dss_one (ds_set 8 sc_weighed_cells.nd (dc_P O_plus hR_plus hr (da_cons (de_var 8) (da_cons (de_var 9) da_nil)))))) (dss_one (ds_appL 5 8 (pe_bm PySem.F.plainAttrs_list PySem.F.slot_list_append PySem.F.type_list_append mt_append (pe_ix ix_seq (pe_var (i := 5) rfl (by first | exact Or.inl rfl | exact Or.inr (Or.inl rfl) | exact Or.inr (Or.inr rfl))) (pe_un un_neg pe_int) (by exact fun _ _ => rfl)) (pa_cons (pe_var (i := 8) rfl (by first | exact Or.inl rfl | exact Or.inr (Or.inl rfl) | exact Or.inr (Or.inr rfl))) pa_nil)))))))))) (dss_one (ds_ret (de_var 5)))))))))
/-! ### layers -/
abbrev N_layers : List Str := ["plan", "book", "layer", "row", "column", "what", "found", "code", "record"]
theorem sc_layers : FnScope N_layers ["plan", "book", "layer", "row", "column", "what"] (defScope s_layers) := ⟨rfl, rfl, rfl, by decide +kernel, rfl, by decide +kernel, by decide +kernel⟩
def t_layers (R_must_be_book : RP) (R_must_be_sorts : RP) (R_amounts_by : RP) (R_summed : RP) : TDS := (dSeq (dExpr (dUse 2 R_must_be_book (dCons (dVar 0) (dCons (dVar 1) dNil)))) (dSeq (dExpr (dUse 2 R_must_be_sorts (dCons (dVar 0) (dCons (dLst (dCons (dVar 2) (dCons (dVar 3) (dCons (dVar 4) dNil)))) dNil)))) (dSeq (dExpr (dUse 2 R_amounts_by (dCons (dVar 1) (dCons (dVar 5) dNil)))) (dSeq (dNew 6 dNil) (dSeq (dFor (dItT (dOp oIx (dOp oIx (dVar 0) (dVar 2)) (dC (.int 1)))) (dgName 7) (dApp 6 (dUse 5 R_summed (dCons (dVar 0) (dCons (dLc (dIter (dVar 1)) (dgName 8) (dTs (dOp oEq (dOp oIx (dVar 8) (dVar 2)) (dVar 7))) (dVar 8) [8]) (dCons (dVar 3) (dCons (dVar 4) (dCons (dVar 5) dNil)))))))) (dRet (dVar 6)))))))
set_option maxHeartbeats 0 in
theorem b_layers {P : Program} {w : World} {K : PySem.W.Frag} {mg : Str → Option Value} {base : Heap} (W : Wd K mg) {R_must_be_book : RP} {R_must_be_sorts : RP} {R_amounts_by : RP} {R_summed : RP} (hR_must_be_book : MonoP R_must_be_book) (O_must_be_book : Ok P w K mg base "must_be_book" 8 ["plan", "book"] (spP K 2 R_must_be_book)) (hR_must_be_sorts : MonoP R_must_be_sorts) (O_must_be_sorts : Ok P w K mg base "must_be_sorts" 3 ["plan", "numbers"] (spP K 2 R_must_be_sorts)) (hR_amounts_by : MonoP R_amounts_by) (O_amounts_by : Ok P w K mg base "amounts_by" 1 ["book", "what"] (spP K 2 R_amounts_by)) (hR_summed : MonoP R_summed) (O_summed : Ok P w K mg base "summed" 2 ["plan", "book", "row", "column", "what"] (spP K 5 R_summed)) (cdv : Value) (A : Around) (outer : List Env) (s : Shared) (H : Hp) (E : XK) (hr : Room 8 (A.deeper (envOfC "layers" (defScope s_layers) s.heap.objs.size (He.ga K "layers") cdv))) :
    DSs (cxOf CX0 P w K mg base N_layers "layers" (defScope s_layers) (He.ga K "layers") cdv A outer s H E).nox (defBody s_layers) (t_layers R_must_be_book R_must_be_sorts R_amounts_by R_summed) := by
  exact (dss_cons (ds_expr (dc_P O_must_be_book hR_must_be_book hr (da_cons (de_var 0) (da_cons (de_var 1) da_nil)))) (dss_cons (ds_expr (dc_P O_must_be_sorts hR_must_be_sorts hr (da_cons (de_var 0) (da_cons (de_lst (da_cons (de_var 2) (da_cons (de_var 3) (da_cons (de_var 4) da_nil)))) da_nil)))) (dss_cons (ds_expr (dc_P O_amounts_by hR_amounts_by hr (da_cons (de_var 1) (da_cons (de_var 5) da_nil)))) (dss_cons (ds_new 6 sc_layers.nd da_nil) (dss_cons (ds_for PassesOwn.never rfl (di_tup (de_ix (de_ix (de_var 0) (de_var 2)) de_int)) (dg_name 7 sc_layers.nd) (dss_one (ds_app 6 (dc_P O_summed hR_summed hr (da_cons (de_var 0) (da_cons (de_lc rfl sc_layers.nd (di_list (de_var 1)) (blkOk_by (own := [("record", 8)]) (by kernel_rfl)) (fun _ _ _ _ _ => (dg_name 8 sc_layers.nd)) (fun _ _ _ _ _ => (dts_one (dt_cmp (OpP.s (ob_eq (un64 hr))) (de_ix (de_var 8) (de_var 2)) (de_var 7)))) (fun _ _ _ _ _ => (de_var 8))) (da_cons (de_var 3) (da_cons (de_var 4) (da_cons (de_var 5) da_nil)))))) (hp := pe_bm PySem.F.plainAttrs_list PySem.F.slot_list_append PySem.F.type_list_append mt_append (pe_var (i := 6) rfl (by first | exact Or.inl rfl | exact Or.inr (Or.inl rfl) | exact Or.inr (Or.inr rfl))) (pa_cons (DE.run (dc_P O_summed hR_summed hr (da_cons (de_var 0) (da_cons (de_lc rfl sc_layers.nd (di_list (de_var 1)) (blkOk_by (own := [("record", 8)]) (by kernel_rfl)) (fun _ _ _ _ _ => (dg_name 8 sc_layers.nd)) (fun _ _ _ _ _ => (dts_one (dt_cmp (OpP.s (ob_eq (un64 hr))) (de_ix (de_var 8) (de_var 2)) (de_var 7)))) (fun _ _ _ _ _ => (de_var 8))) (da_cons (de_var 3) (da_cons (de_var 4) (da_cons (de_var 5) da_nil))))))) pa_nil))))) (dss_one (ds_ret (de_var 6))))))))
/-! ### _law_pick -/
abbrev N_law_pick : List Str := ["_law_purse_here", "_law_some"]
theorem sc_law_pick : FnScope N_law_pick ["_law_purse_here", "_law_some"] (defScope s_law_pick) := ⟨rfl, rfl, rfl, by decide +kernel, rfl, by decide +kernel, by decide +kernel⟩
def t_law_pick (R_law_draw : RZ) : TDS := (dRet (dOp oIx (dVar 1) (dDraw 0 1 R_law_draw (dCons (dCall cLen (dCons (dVar 1) dNil)) dNil))))
set_option maxHeartbeats 0 in
theorem b_law_pick {P : Program} {w : World} {K : PySem.W.Frag} {mg : Str → Option Value} {base : Heap} (W : Wd K mg) {R_law_draw : RZ} (hR_law_draw : MonoZ R_law_draw) (O_law_draw : Ok P w K mg base "_law_draw" 1 ["_law_purse_here", "_law_out_of"] (spZ K 1 R_law_draw)) (cdv : Value) (A : Around) (outer : List Env) (s : Shared) (H : Hp) (E : XK) (hr : Room 1 (A.deeper (envOfC "_law_pick" (defScope s_law_pick) s.heap.objs.size (He.ga K "_law_pick") cdv))) :
    DSs (cxOf CX0 P w K mg base N_law_pick "_law_pick" (defScope s_law_pick) (He.ga K "_law_pick") cdv A outer s H E).nox (defBody s_law_pick) (t_law_pick R_law_draw) := by
  exact (dss_one (ds_ret (de_ix (de_var 1) (dc_Z 0 O_law_draw hR_law_draw hr (da_cons (de_callB ca_len (W.free 58) (da_cons (de_var 1) da_nil)) da_nil)))))
/-! ### _law_word -/
abbrev N_law_word : List Str := ["_law_purse_here", "_law_most", "_law_size", "_law_sign"]
theorem sc_law_word : FnScope N_law_word ["_law_purse_here", "_law_most"] (defScope s_law_word) := ⟨rfl, rfl, rfl, by decide +kernel, rfl, by decide +kernel, by decide +kernel⟩
def t_law_word (R_law_draw : RZ) (R_law_pick : RZ) : TDS := (dSeq (dSet 2 (dOp oAdd (dC (.int 1)) (dDraw 0 1 R_law_draw (dCons (dOp oIx (dLst (dCons (dC (.int 2)) (dCons (dVar 1) dNil))) (dDraw 0 1 R_law_draw (dCons (dC (.int 2)) dNil))) dNil)))) (dRet (dJoinS (dC (.str "")) (dLc (dRng (dVar 2)) (dgName 3) dYes (dDraw 0 1 R_law_pick (dCons (dC (.str "aabeknorst")) dNil)) [3]))))
set_option maxHeartbeats 0 in
theorem b_law_word {P : Program} {w : World} {K : PySem.W.Frag} {mg : Str → Option Value} {base : Heap} (W : Wd K mg) {R_law_draw : RZ} {R_law_pick : RZ} (hR_law_draw : MonoZ R_law_draw) (O_law_draw : Ok P w K mg base "_law_draw" 1 ["_law_purse_here", "_law_out_of"] (spZ K 1 R_law_draw)) (hR_law_pick : MonoZ R_law_pick) (O_law_pick : Ok P w K mg base "_law_pick" 2 ["_law_purse_here", "_law_some"] (spZ K 1 R_law_pick)) (cdv : Value) (A : Around) (outer : List Env) (s : Shared) (H : Hp) (E : XK) (hr : Room 2 (A.deeper (envOfC "_law_word" (defScope s_law_word) s.heap.objs.size (He.ga K "_law_word") cdv))) :
    DSs (cxOf CX0 P w K mg base N_law_word "_law_word" (defScope s_law_word) (He.ga K "_law_word") cdv A outer s H E).nox (defBody s_law_word) (t_law_word R_law_draw R_law_pick) := by
  exact (dss_cons (ds_set 2 sc_law_word.nd (de_op os_add de_int (dc_Z 0 O_law_draw hR_law_draw hr (da_cons (de_ix (de_lst (da_cons de_int (da_cons (de_var 1) da_nil))) (dc_Z 0 O_law_draw hR_law_draw hr (da_cons de_int da_nil))) da_nil)))) (dss_one (ds_ret (de_join de_str (de_lc rfl sc_law_word.nd (di_range (de_var 2) (W.free 67)) (blkOk_by (own := [("_law_sign", 3)]) (by kernel_rfl)) (fun _ _ _ _ _ => (dg_name 3 sc_law_word.nd)) (fun _ _ _ _ _ => dts_nil) (fun _ _ _ _ _ => (dc_Z 0 O_law_pick hR_law_pick hr (da_cons de_str da_nil))))))))
/-! ### _law_codes -/
abbrev N_law_codes : List Str := ["_law_purse_here", "_law_found", "_law_k", "_law_word_here"]
theorem sc_law_codes : FnScope N_law_codes ["_law_purse_here"] (defScope s_law_codes) := ⟨rfl, rfl, rfl, by decide +kernel, rfl, by decide +kernel, by decide +kernel⟩
def t_law_codes (R_law_draw : RZ) (R_law_word : RZ) : TDS := (dSeq (dNew 1 dNil) (dSeq (dFor (dRng (dOp oAdd (dC (.int 2)) (dDraw 0 1 R_law_draw (dCons (dC (.int 5)) dNil)))) (dgName 2) (dSeq (dSet 3 (dDraw 0 1 R_law_word (dCons (dC (.int 4)) dNil))) (dIfS (dBorT (dTs (dOp oNin (dVar 3) (dVar 1)))) (dApp 1 (dVar 3)) dNilS))) (dRet (dCall cTuple (dCons (dOp oAdd (dVar 1) (dOp oCut (dLst (dCons (dC (.str "zz")) (dCons (dC (.str "z")) dNil))) (dCall cMax2 (dCons (dC (.int 0)) (dCons (dOp oSub (dC (.int 2)) (dBor (dCall cLen (dCons (dVar 1) dNil)))) dNil))))) dNil)))))
set_option maxHeartbeats 0 in
theorem b_law_codes {P : Program} {w : World} {K : PySem.W.Frag} {mg : Str → Option Value} {base : Heap} (W : Wd K mg) {R_law_draw : RZ} {R_law_word : RZ} (hR_law_draw : MonoZ R_law_draw) (O_law_draw : Ok P w K mg base "_law_draw" 1 ["_law_purse_here", "_law_out_of"] (spZ K 1 R_law_draw)) (hR_law_word : MonoZ R_law_word) (O_law_word : Ok P w K mg base "_law_word" 3 ["_law_purse_here", "_law_most"] (spZ K 1 R_law_word)) (cdv : Value) (A : Around) (outer : List Env) (s : Shared) (H : Hp) (E : XK) (hr : Room 3 (A.deeper (envOfC "_law_codes" (defScope s_law_codes) s.heap.objs.size (He.ga K "_law_codes") cdv))) :
    DSs (cxOf CX0 P w K mg base N_law_codes "_law_codes" (defScope s_law_codes) (He.ga K "_law_codes") cdv A outer s H E).nox (defBody s_law_codes) (t_law_codes R_law_draw R_law_word) := by
  exact (dss_cons (ds_new 1 sc_law_codes.nd da_nil) (dss_cons (ds_for PassesOwn.never rfl (di_range (de_op os_add de_int (dc_Z 0 O_law_draw hR_law_draw hr (da_cons de_int da_nil))) (W.free 67)) (dg_name 2 sc_law_codes.nd) (dss_cons (ds_set 3 sc_law_codes.nd (dc_Z 0 O_law_word hR_law_word hr (da_cons de_int da_nil))) (dss_one (ds_if (dt_bor (dt_cmp (OpP.s ob_nin) (de_var 3) (de_var 1))) (dss_one (ds_app 1 (de_var 3) (hp := pe_bm PySem.F.plainAttrs_list PySem.F.slot_list_append PySem.F.type_list_append mt_append (pe_var (i := 1) rfl (by first | exact Or.inl rfl | exact Or.inr (Or.inl rfl) | exact Or.inr (Or.inr rfl))) (pa_cons (DE.run (de_var 3)) pa_nil)))) dss_nil)))) (dss_one (ds_ret (de_callTy ca_tuple (W.free 71) (da_cons (de_op os_add (de_var 1) (de_cut (de_lst (da_cons de_str (da_cons de_str da_nil))) (de_callB (ca_max2 rfl) (W.free 62) (da_cons de_int (da_cons (de_op os_sub de_int (de_bor (de_callB ca_len (W.free 58) (da_cons (de_var 1) da_nil)))) da_nil))))) da_nil))))))
/-! ### _law_plan -/
abbrev N_law_plan : List Str := ["_law_purse_here", "_law_least", "_law_found", "_law_k", "_law_name", "_law_other", "_law_codes_here"]
theorem sc_law_plan : FnScope N_law_plan ["_law_purse_here", "_law_least"] (defScope s_law_plan) := ⟨rfl, rfl, rfl, by decide +kernel, rfl, by decide +kernel, by decide +kernel⟩
def t_law_plan (R_law_draw : RZ) (R_law_word : RZ) (R_law_codes : RZ) : TDS := (dSeq (dNew 2 dNil) (dSeq (dFor (dRng (dOp oAdd (dVar 1) (dDraw 0 1 R_law_draw (dCons (dOp oSub (dC (.int 5)) (dVar 1)) dNil)))) (dgName 3) (dSeq (dSet 4 (dDraw 0 1 R_law_word (dCons (dC (.int 8)) dNil))) (dSeq (dIfS (dBorT (dTs (dOp oIn (dVar 4) (dLc (dIter (dVar 2)) (dgTup 2 (dgCons (dgName 5) (dgCons (dgName 6) dgNil))) dYes (dVar 5) [5, 6])))) (dSet 4 (dOp oIx (dLst (dCons (dC (.str "za")) (dCons (dC (.str "zb")) (dCons (dC (.str "zc")) (dCons (dC (.str "zd")) dNil))))) (dVar 3))) dNilS) (dApp 2 (dTup (dCons (dVar 4) (dCons (dDraw 0 0 R_law_codes dNil) dNil))))))) (dRet (dCall cTuple (dCons (dVar 2) dNil)))))
set_option maxHeartbeats 0 in
theorem b_law_plan {P : Program} {w : World} {K : PySem.W.Frag} {mg : Str → Option Value} {base : Heap} (W : Wd K mg) {R_law_draw : RZ} {R_law_word : RZ} {R_law_codes : RZ} (hR_law_draw : MonoZ R_law_draw) (O_law_draw : Ok P w K mg base "_law_draw" 1 ["_law_purse_here", "_law_out_of"] (spZ K 1 R_law_draw)) (hR_law_word : MonoZ R_law_word) (O_law_word : Ok P w K mg base "_law_word" 3 ["_law_purse_here", "_law_most"] (spZ K 1 R_law_word)) (hR_law_codes : MonoZ R_law_codes) (O_law_codes : Ok P w K mg base "_law_codes" 4 ["_law_purse_here"] (spZ K 0 R_law_codes)) (cdv : Value) (A : Around) (outer : List Env) (s : Shared) (H : Hp) (E : XK) (hr : Room 4 (A.deeper (envOfC "_law_plan" (defScope s_law_plan) s.heap.objs.size (He.ga K "_law_plan") cdv))) :
    DSs (cxOf CX0 P w K mg base N_law_plan "_law_plan" (defScope s_law_plan) (He.ga K "_law_plan") cdv A outer s H E).nox (defBody s_law_plan) (t_law_plan R_law_draw R_law_word R_law_codes) := by
  exact (dss_cons (ds_new 2 sc_law_plan.nd da_nil) (dss_cons (ds_for PassesOwn.never rfl (di_range (de_op os_add (de_var 1) (dc_Z 0 O_law_draw hR_law_draw hr (da_cons (de_op os_sub de_int (de_var 1)) da_nil))) (W.free 67)) (dg_name 3 sc_law_plan.nd) (dss_cons (ds_set 4 sc_law_plan.nd (dc_Z 0 O_law_word hR_law_word hr (da_cons de_int da_nil))) (dss_cons (ds_if (dt_bor (dt_cmp (OpP.s ob_in) (de_var 4) (de_lc rfl sc_law_plan.nd (di_list (de_var 2)) (blkOk_by (own := [("_law_other", 5), ("_law_codes_here", 6)]) (by kernel_rfl)) (fun _ _ _ _ _ => (dg_tup rfl (dgs_cons (dg_name 5 sc_law_plan.nd) (dgs_cons (dg_name 6 sc_law_plan.nd) dgs_nil)))) (fun _ _ _ _ _ => dts_nil) (fun _ _ _ _ _ => (de_var 5))))) (dss_one (ds_set 4 sc_law_plan.nd (de_ix (de_lst (da_cons de_str (da_cons de_str (da_cons de_str (da_cons de_str da_nil))))) (de_var 3)))) dss_nil) (dss_one (ds_app 2 (de_tup (da_cons (de_var 4) (da_cons (dc_Z 0 O_law_codes hR_law_codes hr da_nil) da_nil))) (hp := pe_bm PySem.F.plainAttrs_list PySem.F.slot_list_append PySem.F.type_list_append mt_append (pe_var (i := 2) rfl (by first | exact Or.inl rfl | exact Or.inr (Or.inl rfl) | exact Or.inr (Or.inr rfl))) (pa_cons (DE.run (de_tup (da_cons (de_var 4) (da_cons (dc_Z 0 O_law_codes hR_law_codes hr da_nil) da_nil)))) pa_nil))))))) (dss_one (ds_ret (de_callTy ca_tuple (W.free 71) (da_cons (de_var 2) da_nil))))))
/-! ### _law_record -/
abbrev N_law_record : List Str := ["_law_purse_here", "_law_plan_here", "_law_answers", "_law_name", "_law_codes_here"]
theorem sc_law_record : FnScope N_law_record ["_law_purse_here", "_law_plan_here"] (defScope s_law_record) := ⟨rfl, rfl, rfl, by decide +kernel, rfl, by decide +kernel, by decide +kernel⟩
def t_law_record (R_law_draw : RZ) (R_law_pick : RZ) : TDS := (dSeq (dNew 2 dNil) (dSeq (dFor (dItT (dVar 1)) (dgTup 2 (dgCons (dgName 3) (dgCons (dgName 4) dgNil))) (dApp 2 (dOp oIx (dLst (dCons (dDraw 0 1 R_law_pick (dCons (dVar 4) dNil)) (dCons (dC .none) dNil))) (dCall cInt (dCons (dOp oEq (dDraw 0 1 R_law_draw (dCons (dC (.int 6)) dNil)) (dC (.int 0))) dNil))))) (dRet (dOp oAdd (dCall cTuple (dCons (dVar 2) dNil)) (dTup (dCons (dDraw 0 1 R_law_draw (dCons (dOp oIx (dLst (dCons (dC (.int 10)) (dCons (dOp oAdd (dOp oPow (dC (.int 10)) (dC (.int 6))) (dC (.int 1))) dNil))) (dDraw 0 1 R_law_draw (dCons (dC (.int 2)) dNil))) dNil)) dNil))))))
set_option maxHeartbeats 0 in
theorem b_law_record {P : Program} {w : World} {K : PySem.W.Frag} {mg : Str → Option Value} {base : Heap} (W : Wd K mg) {R_law_draw : RZ} {R_law_pick : RZ} (hR_law_draw : MonoZ R_law_draw) (O_law_draw : Ok P w K mg base "_law_draw" 1 ["_law_purse_here", "_law_out_of"] (spZ K 1 R_law_draw)) (hR_law_pick : MonoZ R_law_pick) (O_law_pick : Ok P w K mg base "_law_pick" 2 ["_law_purse_here", "_law_some"] (spZ K 1 R_law_pick)) (cdv : Value) (A : Around) (outer : List Env) (s : Shared) (H : Hp) (E : XK) (hr : Room 2 (A.deeper (envOfC "_law_record" (defScope s_law_record) s.heap.objs.size (He.ga K "_law_record") cdv))) :
    DSs (cxOf CX0 P w K mg base N_law_record "_law_record" (defScope s_law_record) (He.ga K "_law_record") cdv A outer s H E).nox (defBody s_law_record) (t_law_record R_law_draw R_law_pick) := by
  exact (dss_cons (ds_new 2 sc_law_record.nd da_nil) (dss_cons (ds_for PassesOwn.never rfl (di_tup (de_var 1)) (dg_tup rfl (dgs_cons (dg_name 3 sc_law_record.nd) (dgs_cons (dg_name 4 sc_law_record.nd) dgs_nil))) (dss_one (ds_app 2 (de_ix (de_lst (da_cons (dc_Z 0 O_law_pick hR_law_pick hr (da_cons (de_var 4) da_nil)) (da_cons de_non da_nil))) (de_callTy ca_int (W.free 69) (da_cons (de_cmp (OpP.s (ob_eq (un64 hr))) (dc_Z 0 O_law_draw hR_law_draw hr (da_cons de_int da_nil)) de_int) da_nil))) (hp := pe_bm PySem.F.plainAttrs_list PySem.F.slot_list_append PySem.F.type_list_append mt_append (pe_var (i := 2) rfl (by first | exact Or.inl rfl | exact Or.inr (Or.inl rfl) | exact Or.inr (Or.inr rfl))) (pa_cons (DE.run (de_ix (de_lst (da_cons (dc_Z 0 O_law_pick hR_law_pick hr (da_cons (de_var 4) da_nil)) (da_cons de_non da_nil))) (de_callTy ca_int (W.free 69) (da_cons (de_cmp (OpP.s (ob_eq (un64 hr))) (dc_Z 0 O_law_draw hR_law_draw hr (da_cons de_int da_nil)) de_int) da_nil)))) pa_nil))))) (dss_one (ds_ret (de_op os_add (de_callTy ca_tuple (W.free 71) (da_cons (de_var 2) da_nil)) (de_tup (da_cons (dc_Z 0 O_law_draw hR_law_draw hr (da_cons (de_ix (de_lst (da_cons de_int (da_cons (de_op os_add (de_op os_pow de_int de_int) de_int) da_nil))) (dc_Z 0 O_law_draw hR_law_draw hr (da_cons de_int da_nil))) da_nil)) da_nil)))))))
/-! ### _law_book -/
abbrev N_law_book : List Str := ["_law_purse_here", "_law_plan_here", "_law_k"]
theorem sc_law_book : FnScope N_law_book ["_law_purse_here", "_law_plan_here"] (defScope s_law_book) := ⟨rfl, rfl, rfl, by decide +kernel, rfl, by decide +kernel, by decide +kernel⟩
def t_law_book (R_law_draw : RZ) (R_law_record : RZ) : TDS := (dRet (dLc (dRng (dDraw 0 1 R_law_draw (dCons (dOp oIx (dLst (dCons (dC (.int 4)) (dCons (dC (.int 12)) (dCons (dC (.int 61)) dNil)))) (dDraw 0 1 R_law_draw (dCons (dC (.int 3)) dNil))) dNil))) (dgName 2) dYes (dDraw 0 1 R_law_record (dCons (dVar 1) dNil)) [2]))
set_option maxHeartbeats 0 in
theorem b_law_book {P : Program} {w : World} {K : PySem.W.Frag} {mg : Str → Option Value} {base : Heap} (W : Wd K mg) {R_law_draw : RZ} {R_law_record : RZ} (hR_law_draw : MonoZ R_law_draw) (O_law_draw : Ok P w K mg base "_law_draw" 1 ["_law_purse_here", "_law_out_of"] (spZ K 1 R_law_draw)) (hR_law_record : MonoZ R_law_record) (O_law_record : Ok P w K mg base "_law_record" 3 ["_law_purse_here", "_law_plan_here"] (spZ K 1 R_law_record)) (cdv : Value) (A : Around) (outer : List Env) (s : Shared) (H : Hp) (E : XK) (hr : Room 3 (A.deeper (envOfC "_law_book" (defScope s_law_book) s.heap.objs.size (He.ga K "_law_book") cdv))) :
    DSs (cxOf CX0 P w K mg base N_law_book "_law_book" (defScope s_law_book) (He.ga K "_law_book") cdv A outer s H E).nox (defBody s_law_book) (t_law_book R_law_draw R_law_record) := by
  exact (dss_one (ds_ret (de_lc rfl sc_law_book.nd (di_range (dc_Z 0 O_law_draw hR_law_draw hr (da_cons (de_ix (de_lst (da_cons de_int (da_cons de_int (da_cons de_int da_nil)))) (dc_Z 0 O_law_draw hR_law_draw hr (da_cons de_int da_nil))) da_nil)) (W.free 67)) (blkOk_by (own := [("_law_k", 2)]) (by kernel_rfl)) (fun _ _ _ _ _ => (dg_name 2 sc_law_book.nd)) (fun _ _ _ _ _ => dts_nil) (fun _ _ _ _ _ => (dc_Z 0 O_law_record hR_law_record hr (da_cons (de_var 1) da_nil))))))
/-! ### _law_labels -/
abbrev N_law_labels : List Str := ["_law_purse_here", "_law_found", "_law_k", "_law_word_here", "_law_sign"]
theorem sc_law_labels : FnScope N_law_labels ["_law_purse_here"] (defScope s_law_labels) := ⟨rfl, rfl, rfl, by decide +kernel, rfl, by decide +kernel, by decide +kernel⟩
def t_law_labels (R_law_draw : RZ) (R_law_pick : RZ) : TDS := (dSeq (dNew 1 dNil) (dSeq (dFor (dRng (dOp oAdd (dC (.int 1)) (dDraw 0 1 R_law_draw (dCons (dC (.int 6)) dNil)))) (dgName 2) (dSeq (dSet 3 (dJoinS (dC (.str "")) (dLc (dRng (dOp oAdd (dC (.int 1)) (dDraw 0 1 R_law_draw (dCons (dC (.int 4)) dNil)))) (dgName 4) dYes (dDraw 0 1 R_law_pick (dCons (dC (.str "aabeknorst")) dNil)) [4]))) (dIfS (dBorT (dTs (dOp oNin (dVar 3) (dVar 1)))) (dApp 1 (dVar 3)) dNilS))) (dRet (dVar 1))))
set_option maxHeartbeats 0 in
theorem b_law_labels {P : Program} {w : World} {K : PySem.W.Frag} {mg : Str → Option Value} {base : Heap} (W : Wd K mg) {R_law_draw : RZ} {R_law_pick : RZ} (hR_law_draw : MonoZ R_law_draw) (O_law_draw : Ok P w K mg base "_law_draw" 1 ["_law_purse_here", "_law_out_of"] (spZ K 1 R_law_draw)) (hR_law_pick : MonoZ R_law_pick) (O_law_pick : Ok P w K mg base "_law_pick" 2 ["_law_purse_here", "_law_some"] (spZ K 1 R_law_pick)) (cdv : Value) (A : Around) (outer : List Env) (s : Shared) (H : Hp) (E : XK) (hr : Room 2 (A.deeper (envOfC "_law_labels" (defScope s_law_labels) s.heap.objs.size (He.ga K "_law_labels") cdv))) :
    DSs (cxOf CX0 P w K mg base N_law_labels "_law_labels" (defScope s_law_labels) (He.ga K "_law_labels") cdv A outer s H E).nox (defBody s_law_labels) (t_law_labels R_law_draw R_law_pick) := by
  exact (dss_cons (ds_new 1 sc_law_labels.nd da_nil) (dss_cons (ds_for PassesOwn.never rfl (di_range (de_op os_add de_int (dc_Z 0 O_law_draw hR_law_draw hr (da_cons de_int da_nil))) (W.free 67)) (dg_name 2 sc_law_labels.nd) (dss_cons (ds_set 3 sc_law_labels.nd (de_join de_str (de_lc rfl sc_law_labels.nd (di_range (de_op os_add de_int (dc_Z 0 O_law_draw hR_law_draw hr (da_cons de_int da_nil))) (W.free 67)) (blkOk_by (own := [("_law_sign", 4)]) (by kernel_rfl)) (fun _ _ _ _ _ => (dg_name 4 sc_law_labels.nd)) (fun _ _ _ _ _ => dts_nil) (fun _ _ _ _ _ => (dc_Z 0 O_law_pick hR_law_pick hr (da_cons de_str da_nil)))))) (dss_one (ds_if (dt_bor (dt_cmp (OpP.s ob_nin) (de_var 3) (de_var 1))) (dss_one (ds_app 1 (de_var 3) (hp := pe_bm PySem.F.plainAttrs_list PySem.F.slot_list_append PySem.F.type_list_append mt_append (pe_var (i := 1) rfl (by first | exact Or.inl rfl | exact Or.inr (Or.inl rfl) | exact Or.inr (Or.inr rfl))) (pa_cons (DE.run (de_var 3)) pa_nil)))) dss_nil)))) (dss_one (ds_ret (de_var 1)))))
/-! ### _law_table -/
abbrev N_law_table : List Str := ["_law_purse_here", "_law_most", "_law_cells", "_law_i", "_law_rows", "_law_columns", "_law_k"]
theorem sc_law_table : FnScope N_law_table ["_law_purse_here"] (defScope s_law_table) := ⟨rfl, rfl, rfl, by decide +kernel, rfl, by decide +kernel, by decide +kernel⟩
def t_law_table (R_law_draw : RZ) (R_law_labels : RZ) : TDS := (dSeq (dPar 4 5 (dCons (dDraw 0 0 R_law_labels dNil) (dCons (dDraw 0 0 R_law_labels dNil) dNil))) (dSeq (dSet 1 (dOp oIx (dLst (dCons (dC (.int 3)) (dCons (dC (.int 100)) (dCons (dOp oAdd (dOp oPow (dC (.int 10)) (dC (.int 9))) (dC (.int 1))) dNil)))) (dDraw 0 1 R_law_draw (dCons (dC (.int 3)) dNil)))) (dSeq (dNew 2 dNil) (dSeq (dFor (dRng (dCall cLen (dCons (dVar 4) dNil))) (dgName 3) (dApp 2 (dLc (dRng (dCall cLen (dCons (dVar 5) dNil))) (dgName 6) dYes (dDraw 0 1 R_law_draw (dCons (dVar 1) dNil)) [6]))) (dRet (dTup (dCons (dVar 4) (dCons (dVar 5) (dCons (dVar 2) dNil)))))))))
set_option maxHeartbeats 0 in
theorem b_law_table {P : Program} {w : World} {K : PySem.W.Frag} {mg : Str → Option Value} {base : Heap} (W : Wd K mg) {R_law_draw : RZ} {R_law_labels : RZ} (hR_law_draw : MonoZ R_law_draw) (O_law_draw : Ok P w K mg base "_law_draw" 1 ["_law_purse_here", "_law_out_of"] (spZ K 1 R_law_draw)) (hR_law_labels : MonoZ R_law_labels) (O_law_labels : Ok P w K mg base "_law_labels" 3 ["_law_purse_here"] (spZ K 0 R_law_labels)) (cdv : Value) (A : Around) (outer : List Env) (s : Shared) (H : Hp) (E : XK) (hr : Room 3 (A.deeper (envOfC "_law_table" (defScope s_law_table) s.heap.objs.size (He.ga K "_law_table") cdv))) :
    DSs (cxOf CX0 P w K mg base N_law_table "_law_table" (defScope s_law_table) (He.ga K "_law_table") cdv A outer s H E).nox (defBody s_law_table) (t_law_table R_law_draw R_law_labels) := by
  exact (dss_cons (ds_par 4 5 rfl sc_law_table.nd (da_cons (dc_Z 0 O_law_labels hR_law_labels hr da_nil) (da_cons (dc_Z 0 O_law_labels hR_law_labels hr da_nil) da_nil))) (dss_cons (ds_set 1 sc_law_table.nd (de_ix (de_lst (da_cons de_int (da_cons de_int (da_cons (de_op os_add (de_op os_pow de_int de_int) de_int) da_nil)))) (dc_Z 0 O_law_draw hR_law_draw hr (da_cons de_int da_nil)))) (dss_cons (ds_new 2 sc_law_table.nd da_nil) (dss_cons (ds_for PassesOwn.never rfl (di_range (de_callB ca_len (W.free 58) (da_cons (de_var 4) da_nil)) (W.free 67)) (dg_name 3 sc_law_table.nd) (dss_one (ds_app 2 (de_lc rfl sc_law_table.nd (di_range (de_callB ca_len (W.free 58) (da_cons (de_var 5) da_nil)) (W.free 67)) (blkOk_by (own := [("_law_k", 6)]) (by kernel_rfl)) (fun _ _ _ _ _ => (dg_name 6 sc_law_table.nd)) (fun _ _ _ _ _ => dts_nil) (fun _ _ _ _ _ => (dc_Z 0 O_law_draw hR_law_draw hr (da_cons (de_var 1) da_nil)))) (hp := pe_bm PySem.F.plainAttrs_list PySem.F.slot_list_append PySem.F.type_list_append mt_append (pe_var (i := 2) rfl (by first | exact Or.inl rfl | exact Or.inr (Or.inl rfl) | exact Or.inr (Or.inr rfl))) (pa_cons (DE.run (de_lc rfl sc_law_table.nd (di_range (de_callB ca_len (W.free 58) (da_cons (de_var 5) da_nil)) (W.free 67)) (blkOk_by (own := [("_law_k", 6)]) (by kernel_rfl)) (fun _ _ _ _ _ => (dg_name 6 sc_law_table.nd)) (fun _ _ _ _ _ => dts_nil) (fun _ _ _ _ _ => (dc_Z 0 O_law_draw hR_law_draw hr (da_cons (de_var 1) da_nil))))) pa_nil))))) (dss_one (ds_ret (de_tup (da_cons (de_var 4) (da_cons (de_var 5) (da_cons (de_var 2) da_nil))))))))))
/-! ### _law_order -/
abbrev N_law_order : List Str := ["_law_purse_here", "_law_many", "_law_left", "_law_found"]
theorem sc_law_order : FnScope N_law_order ["_law_purse_here", "_law_many"] (defScope s_law_order) := ⟨rfl, rfl, rfl, by decide +kernel, rfl, by decide +kernel, by decide +kernel⟩
def t_law_order (R_law_draw : RZ) : TDS := (dSeq (dNewR 2 (dVar 1)) (dSeq (dNew 3 dNil) (dSeq (dWhile (dBorT (dTs (dOp oNe (dVar 2) (dLst dNil)))) (dApp 3 (dPop 2 (dDraw 0 1 R_law_draw (dCons (dBor (dCall cLen (dCons (dVar 2) dNil))) dNil))))) (dRet (dVar 3)))))
set_option maxHeartbeats 0 in
theorem b_law_order {P : Program} {w : World} {K : PySem.W.Frag} {mg : Str → Option Value} {base : Heap} (W : Wd K mg) {R_law_draw : RZ} (hR_law_draw : MonoZ R_law_draw) (O_law_draw : Ok P w K mg base "_law_draw" 1 ["_law_purse_here", "_law_out_of"] (spZ K 1 R_law_draw)) (cdv : Value) (A : Around) (outer : List Env) (s : Shared) (H : Hp) (E : XK) (hr : Room 1 (A.deeper (envOfC "_law_order" (defScope s_law_order) s.heap.objs.size (He.ga K "_law_order") cdv))) :
    DSs (cxOf CX0 P w K mg base N_law_order "_law_order" (defScope s_law_order) (He.ga K "_law_order") cdv A outer s H E).nox (defBody s_law_order) (t_law_order R_law_draw) := by
  exact (dss_cons (ds_newR 2 rfl sc_law_order.nd (de_var 1) (W.free 63) (W.free 67)) (dss_cons (ds_new 3 sc_law_order.nd da_nil) (dss_cons (ds_while PassesOwn.never (dt_bor (dt_cmp (OpP.s (ob_ne (un64 hr))) (de_var 2) (de_lst da_nil))) (dss_one (ds_app 3 (de_pop 2 (dc_Z 0 O_law_draw hR_law_draw hr (da_cons (de_bor (de_callB ca_len (W.free 58) (da_cons (de_var 2) da_nil))) da_nil)) (hp := pe_bm PySem.F.plainAttrs_list PySem.F.slot_list_pop PySem.F.type_list_pop mt_popAt (pe_var (i := 2) rfl (by first | exact Or.inl rfl | exact Or.inr (Or.inl rfl) | exact Or.inr (Or.inr rfl))) (pa_cons (DE.run (dc_Z 0 O_law_draw hR_law_draw hr (da_cons (de_bor (de_callB ca_len (W.free 58) (da_cons (de_var 2) da_nil))) da_nil))) pa_nil))) (hp := pe_bm PySem.F.plainAttrs_list PySem.F.slot_list_append PySem.F.type_list_append mt_append (pe_var (i := 3) rfl (by first | exact Or.inl rfl | exact Or.inr (Or.inl rfl) | exact Or.inr (Or.inr rfl))) (pa_cons (DE.run (de_pop 2 (dc_Z 0 O_law_draw hR_law_draw hr (da_cons (de_bor (de_callB ca_len (W.free 58) (da_cons (de_var 2) da_nil))) da_nil)) (hp := pe_bm PySem.F.plainAttrs_list PySem.F.slot_list_pop PySem.F.type_list_pop mt_popAt (pe_var (i := 2) rfl (by first | exact Or.inl rfl | exact Or.inr (Or.inl rfl) | exact Or.inr (Or.inr rfl))) (pa_cons (DE.run (dc_Z 0 O_law_draw hR_law_draw hr (da_cons (de_bor (de_callB ca_len (W.free 58) (da_cons (de_var 2) da_nil))) da_nil))) pa_nil)))) pa_nil))))) (dss_one (ds_ret (de_var 3))))))
/-! ### _law_lots -/
abbrev N_law_lots : List Str := ["_law_purse_here", "_law_many", "_law_lots_here", "_law_num"]
theorem sc_law_lots : FnScope N_law_lots ["_law_purse_here", "_law_many"] (defScope s_law_lots) := ⟨rfl, rfl, rfl, by decide +kernel, rfl, by decide +kernel, by decide +kernel⟩
def t_law_lots (R_law_draw : RZ) (R_law_order : RZ) : TDS := (dSeq (dNew2 2) (dSeq (dFor (dIter (dDraw 0 1 R_law_order (dCons (dVar 1) dNil))) (dgName 3) (dSeq (dIfS (dBorT (dAndT (dTs (dOp oNe (dOp oIx (dVar 2) (dNeg (dC (.int 1)))) (dLst dNil))) (dTs (dOp oEq (dDraw 0 1 R_law_draw (dCons (dC (.int 2)) dNil)) (dC (.int 0)))))) (dApp2 2) dNilS) (dAppL 2 3))) (dRet (dVar 2))))
set_option maxHeartbeats 0 in
theorem b_law_lots {P : Program} {w : World} {K : PySem.W.Frag} {mg : Str → Option Value} {base : Heap} (W : Wd K mg) {R_law_draw : RZ} {R_law_order : RZ} (hR_law_draw : MonoZ R_law_draw) (O_law_draw : Ok P w K mg base "_law_draw" 1 ["_law_purse_here", "_law_out_of"] (spZ K 1 R_law_draw)) (hR_law_order : MonoZ R_law_order) (O_law_order : Ok P w K mg base "_law_order" 2 ["_law_purse_here", "_law_many"] (spZ K 1 R_law_order)) (cdv : Value) (A : Around) (outer : List Env) (s : Shared) (H : Hp) (E : XK) (hr : Room 2 (A.deeper (envOfC "_law_lots" (defScope s_law_lots) s.heap.objs.size (He.ga K "_law_lots") cdv))) :
    DSs (cxOf CX0 P w K mg base N_law_lots "_law_lots" (defScope s_law_lots) (He.ga K "_law_lots") cdv A outer s H E).nox (defBody s_law_lots) (t_law_lots R_law_draw R_law_order) := by
  exact (dss_cons (ds_new2 2 sc_law_lots.nd) (dss_cons (ds_for PassesOwn.never rfl (di_list (dc_Z 0 O_law_order hR_law_order hr (da_cons (de_var 1) da_nil))) (dg_name 3 sc_law_lots.nd) (dss_cons (ds_if (dt_bor (DW.dt (dw_and (dt_cmp (OpP.s (ob_ne (un64 hr))) (de_ix (de_var 2) (de_neg de_int)) (de_lst da_nil)) (dw_and1 (dt_cmp (OpP.s (ob_eq (un64 hr))) (dc_Z 0 O_law_draw hR_law_draw hr (da_cons de_int da_nil)) de_int))))) (dss_one (ds_app2 2 (pe_bm PySem.F.plainAttrs_list PySem.F.slot_list_append PySem.F.type_list_append mt_append (pe_var (i := 2) rfl (by first | exact Or.inl rfl | exact Or.inr (Or.inl rfl) | exact Or.inr (Or.inr rfl))) (pa_cons (pe_lst pa_nil) pa_nil)))) dss_nil) (dss_one (ds_appL 2 3 (pe_bm PySem.F.plainAttrs_list PySem.F.slot_list_append PySem.F.type_list_append mt_append (pe_ix ix_seq (pe_var (i := 2) rfl (by first | exact Or.inl rfl | exact Or.inr (Or.inl rfl) | exact Or.inr (Or.inr rfl))) (pe_un un_neg pe_int) (by exact fun _ _ => rfl)) (pa_cons (pe_var (i := 3) rfl (by first | exact Or.inl rfl | exact Or.inr (Or.inl rfl) | exact Or.inr (Or.inr rfl))) pa_nil)))))) (dss_one (ds_ret (de_var 2)))))
/-! ### _law_summed -/
abbrev N_law_summed : List Str := ["_law_cells", "_law_lots_here", "_law_found", "_law_lot", "_law_k", "_law_i"]
theorem sc_law_summed : FnScope N_law_summed ["_law_cells", "_law_lots_here"] (defScope s_law_summed) := ⟨rfl, rfl, rfl, by decide +kernel, rfl, by decide +kernel, by decide +kernel⟩
def t_law_summed  : TDS := (dSeq (dNew 2 dNil) (dSeq (dFor (dIter (dVar 1)) (dgName 3) (dApp 2 (dLc (dRng (dCall cLen (dCons (dOp oIx (dVar 0) (dC (.int 0))) dNil))) (dgName 4) dYes (dCall cSum (dCons (dLc (dIter (dVar 3)) (dgName 5) dYes (dOp oIx (dOp oIx (dVar 0) (dVar 5)) (dVar 4)) [5]) dNil)) [4]))) (dRet (dVar 2))))
set_option maxHeartbeats 0 in
theorem b_law_summed {P : Program} {w : World} {K : PySem.W.Frag} {mg : Str → Option Value} {base : Heap} (W : Wd K mg)   (cdv : Value) (A : Around) (outer : List Env) (s : Shared) (H : Hp) (E : XK) (hr : Room 0 (A.deeper (envOfC "_law_summed" (defScope s_law_summed) s.heap.objs.size (He.ga K "_law_summed") cdv))) :
    DSs (cxOf CX0 P w K mg base N_law_summed "_law_summed" (defScope s_law_summed) (He.ga K "_law_summed") cdv A outer s H E).nox (defBody s_law_summed) (t_law_summed ) := by
  exact (dss_cons (ds_new 2 sc_law_summed.nd da_nil) (dss_cons (ds_for PassesOwn.never rfl (di_list (de_var 1)) (dg_name 3 sc_law_summed.nd) (dss_one (ds_app 2 (de_lc rfl sc_law_summed.nd (di_range (de_callB ca_len (W.free 58) (da_cons (de_ix (de_var 0) de_int) da_nil)) (W.free 67)) (blkOk_by (own := [("_law_k", 4)]) (by kernel_rfl)) (fun _ _ _ _ _ => (dg_name 4 sc_law_summed.nd)) (fun _ _ _ _ _ => dts_nil) (fun _ _ _ _ _ => (de_callB (ca_sum rfl) (W.free 65) (da_cons (de_lc rfl sc_law_summed.nd (di_list (de_var 3)) (blkOk_by (own := [("_law_i", 5)]) (by kernel_rfl)) (fun _ _ _ _ _ => (dg_name 5 sc_law_summed.nd)) (fun _ _ _ _ _ => dts_nil) (fun _ _ _ _ _ => (de_ix (de_ix (de_var 0) (de_var 5)) (de_var 4)))) da_nil)))) (hp := pe_bm PySem.F.plainAttrs_list PySem.F.slot_list_append PySem.F.type_list_append mt_append (pe_var (i := 2) rfl (by first | exact Or.inl rfl | exact Or.inr (Or.inl rfl) | exact Or.inr (Or.inr rfl))) (pa_cons (DE.run (de_lc rfl sc_law_summed.nd (di_range (de_callB ca_len (W.free 58) (da_cons (de_ix (de_var 0) de_int) da_nil)) (W.free 67)) (blkOk_by (own := [("_law_k", 4)]) (by kernel_rfl)) (fun _ _ _ _ _ => (dg_name 4 sc_law_summed.nd)) (fun _ _ _ _ _ => dts_nil) (fun _ _ _ _ _ => (de_callB (ca_sum rfl) (W.free 65) (da_cons (de_lc rfl sc_law_summed.nd (di_list (de_var 3)) (blkOk_by (own := [("_law_i", 5)]) (by kernel_rfl)) (fun _ _ _ _ _ => (dg_name 5 sc_law_summed.nd)) (fun _ _ _ _ _ => dts_nil) (fun _ _ _ _ _ => (de_ix (de_ix (de_var 0) (de_var 5)) (de_var 4)))) da_nil))))) pa_nil))))) (dss_one (ds_ret (de_var 2)))))
/-! ### _law_about -/
abbrev N_law_about : List Str := ["_law_cells", "_law_k", "_law_row"]
theorem sc_law_about : FnScope N_law_about ["_law_cells"] (defScope s_law_about) := ⟨rfl, rfl, rfl, by decide +kernel, rfl, by decide +kernel, by decide +kernel⟩
def t_law_about  : TDS := (dRet (dLc (dRng (dCall cLen (dCons (dOp oIx (dVar 0) (dC (.int 0))) dNil))) (dgName 1) dYes (dLc (dIter (dVar 0)) (dgName 2) dYes (dOp oIx (dVar 2) (dVar 1)) [2]) [1]))
set_option maxHeartbeats 0 in
theorem b_law_about {P : Program} {w : World} {K : PySem.W.Frag} {mg : Str → Option Value} {base : Heap} (W : Wd K mg)   (cdv : Value) (A : Around) (outer : List Env) (s : Shared) (H : Hp) (E : XK) (hr : Room 0 (A.deeper (envOfC "_law_about" (defScope s_law_about) s.heap.objs.size (He.ga K "_law_about") cdv))) :
    DSs (cxOf CX0 P w K mg base N_law_about "_law_about" (defScope s_law_about) (He.ga K "_law_about") cdv A outer s H E).nox (defBody s_law_about) (t_law_about ) := by
  exact (dss_one (ds_ret (de_lc rfl sc_law_about.nd (di_range (de_callB ca_len (W.free 58) (da_cons (de_ix (de_var 0) de_int) da_nil)) (W.free 67)) (blkOk_by (own := [("_law_k", 1)]) (by kernel_rfl)) (fun _ _ _ _ _ => (dg_name 1 sc_law_about.nd)) (fun _ _ _ _ _ => dts_nil) (fun _ _ _ _ _ => (de_lc rfl sc_law_about.nd (di_list (de_var 0)) (blkOk_by (own := [("_law_row", 2)]) (by kernel_rfl)) (fun _ _ _ _ _ => (dg_name 2 sc_law_about.nd)) (fun _ _ _ _ _ => dts_nil) (fun _ _ _ _ _ => (de_ix (de_var 2) (de_var 1))))))))
/-! ### _law_put_right -/
abbrev N_law_put_right : List Str := ["_law_purse_here", "_law_table_here", "_law_due", "_law_kept", "_law_again", "_law_sums", "_law_rows", "_law_columns", "_law_cells", "_law_row_lots", "_law_column_lots", "_law_told", "_law_lot", "_law_i"]
theorem sc_law_put_right : FnScope N_law_put_right ["_law_purse_here", "_law_table_here"] (defScope s_law_put_right) := ⟨rfl, rfl, rfl, by decide +kernel, rfl, by decide +kernel, by decide +kernel⟩
def t_law_put_right (R_totals : RP) (R_turned_table : RP) (R_put_together : RP) (R_law_lots : RZ) (R_law_summed : RP) (R_law_about : RP) : TDS := (dSeq (dAsg (dVar 1) (dgTup 3 (dgCons (dgName 6) (dgCons (dgName 7) (dgCons (dgName 8) dgNil))))) (dSeq (dPar 9 10 (dCons (dDraw 0 1 R_law_lots (dCons (dCall cLen (dCons (dVar 6) dNil)) dNil)) (dCons (dDraw 0 1 R_law_lots (dCons (dCall cLen (dCons (dVar 7) dNil)) dNil)) dNil))) (dSeq (dSet 2 (dUse 1 R_law_about (dCons (dUse 2 R_law_summed (dCons (dUse 1 R_law_about (dCons (dUse 2 R_law_summed (dCons (dVar 8) (dCons (dVar 9) dNil))) dNil)) (dCons (dVar 10) dNil))) dNil))) (dSeq (dSet 2 (dTup (dCons (dLc (dIter (dVar 9)) (dgName 12) dYes (dOp oIx (dVar 6) (dOp oIx (dVar 12) (dC (.int 0)))) [12]) (dCons (dLc (dIter (dVar 10)) (dgName 12) dYes (dOp oIx (dVar 7) (dOp oIx (dVar 12) (dC (.int 0)))) [12]) (dCons (dVar 2) dNil))))) (dSeq (dSet 3 (dCall cRepr (dCons (dLst (dCons (dVar 1) (dCons (dVar 9) (dCons (dVar 10) dNil)))) dNil))) (dSeq (dFor (dRng (dC (.int 2))) (dgName 4) (dSeq (dSetF 11 3 R_put_together (dCons (dVar 1) (dCons (dVar 9) (dCons (dVar 10) dNil)))) (dSeq (dIfS (dBorT (dOrT (dTs (dOp oNeS (dCall cRepr (dCons (dVar 11) dNil)) (dCall cRepr (dCons (dVar 2) dNil)))) (dTs (dOp oNeS (dCall cRepr (dCons (dLst (dCons (dVar 1) (dCons (dVar 9) (dCons (dVar 10) dNil)))) dNil)) (dVar 3))))) (dRet (dC (.bool false))) dNilS) (dSpoil 11)))) (dSeq (dSet 5 (dUse 1 R_totals (dCons (dVar 1) dNil))) (dSeq (dIfS (dTs (dOp oNe (dOp oIx (dUse 1 R_totals (dCons (dVar 2) dNil)) (dC (.int 2))) (dOp oIx (dVar 5) (dC (.int 2))))) (dRet (dC (.bool false))) dNilS) (dSeq (dIfS (dTs (dOp oNe (dOp oIx (dUse 1 R_totals (dCons (dVar 2) dNil)) (dC (.int 0))) (dLc (dIter (dVar 9)) (dgName 12) dYes (dCall cSum (dCons (dLc (dIter (dVar 12)) (dgName 13) dYes (dOp oIx (dOp oIx (dVar 5) (dC (.int 0))) (dVar 13)) [13]) dNil)) [12]))) (dRet (dC (.bool false))) dNilS) (dRet (dOp oEq (dUse 3 R_put_together (dCons (dUse 1 R_turned_table (dCons (dVar 1) dNil)) (dCons (dVar 10) (dCons (dVar 9) dNil)))) (dUse 1 R_turned_table (dCons (dVar 2) dNil)))))))))))))
set_option maxHeartbeats 0 in
theorem b_law_put_right {P : Program} {w : World} {K : PySem.W.Frag} {mg : Str → Option Value} {base : Heap} (W : Wd K mg) {R_totals : RP} {R_turned_table : RP} {R_put_together : RP} {R_law_lots : RZ} {R_law_summed : RP} {R_law_about : RP} (hR_totals : MonoP R_totals) (O_totals : Ok P w K mg base "totals" 7 ["table"] (spP K 1 R_totals)) (hR_turned_table : MonoP R_turned_table) (O_turned_table : Ok P w K mg base "turned_table" 7 ["table"] (spP K 1 R_turned_table)) (hR_put_together : MonoP R_put_together) (O_put_together : Ok P w K mg base "put_together" 7 ["table", "row_lots", "column_lots"] (spF K 3 R_put_together)) (hR_law_lots : MonoZ R_law_lots) (O_law_lots : Ok P w K mg base "_law_lots" 3 ["_law_purse_here", "_law_many"] (spZ K 1 R_law_lots)) (hR_law_summed : MonoP R_law_summed) (O_law_summed : Ok P w K mg base "_law_summed" 1 ["_law_cells", "_law_lots_here"] (spP K 2 R_law_summed)) (hR_law_about : MonoP R_law_about) (O_law_about : Ok P w K mg base "_law_about" 1 ["_law_cells"] (spP K 1 R_law_about)) (cdv : Value) (A : Around) (outer : List Env) (s : Shared) (H : Hp) (E : XK) (hgd : A.guards = some []) (hr : Room 7 (A.deeper (envOfC "_law_put_right" (defScope s_law_put_right) s.heap.objs.size (He.ga K "_law_put_right") cdv))) :
    DSs (cxOf CX0 P w K mg base N_law_put_right "_law_put_right" (defScope s_law_put_right) (He.ga K "_law_put_right") cdv A outer s H E).nox (defBody s_law_put_right) (t_law_put_right R_totals R_turned_table R_put_together R_law_lots R_law_summed R_law_about) := by
  exact (dss_cons (ds_asg (de_var 1) (dg_tup rfl (dgs_cons (dg_name 6 sc_law_put_right.nd) (dgs_cons (dg_name 7 sc_law_put_right.nd) (dgs_cons (dg_name 8 sc_law_put_right.nd) dgs_nil))))) (dss_cons (ds_par 9 10 rfl sc_law_put_right.nd (da_cons (dc_Z 0 O_law_lots hR_law_lots hr (da_cons (de_callB ca_len (W.free 58) (da_cons (de_var 6) da_nil)) da_nil)) (da_cons (dc_Z 0 O_law_lots hR_law_lots hr (da_cons (de_callB ca_len (W.free 58) (da_cons (de_var 7) da_nil)) da_nil)) da_nil))) (dss_cons (ds_set 2 sc_law_put_right.nd (dc_P O_law_about hR_law_about hr (da_cons (dc_P O_law_summed hR_law_summed hr (da_cons (dc_P O_law_about hR_law_about hr (da_cons (dc_P O_law_summed hR_law_summed hr (da_cons (de_var 8) (da_cons (de_var 9) da_nil))) da_nil)) (da_cons (de_var 10) da_nil))) da_nil))) (dss_cons (ds_set 2 sc_law_put_right.nd (de_tup (da_cons (de_lc rfl sc_law_put_right.nd (di_list (de_var 9)) (blkOk_by (own := [("_law_lot", 12)]) (by kernel_rfl)) (fun _ _ _ _ _ => (dg_name 12 sc_law_put_right.nd)) (fun _ _ _ _ _ => dts_nil) (fun _ _ _ _ _ => (de_ix (de_var 6) (de_ix (de_var 12) de_int)))) (da_cons (de_lc rfl sc_law_put_right.nd (di_list (de_var 10)) (blkOk_by (own := [("_law_lot", 12)]) (by kernel_rfl)) (fun _ _ _ _ _ => (dg_name 12 sc_law_put_right.nd)) (fun _ _ _ _ _ => dts_nil) (fun _ _ _ _ _ => (de_ix (de_var 7) (de_ix (de_var 12) de_int)))) (da_cons (de_var 2) da_nil))))) (dss_cons (ds_set 3 sc_law_put_right.nd (de_callB (ca_repr hgd (un64 hr)) (W.free 70) (da_cons (de_lst (da_cons (de_var 1) (da_cons (de_var 9) (da_cons (de_var 10) da_nil)))) da_nil))) (dss_cons (ds_for PassesOwn.never rfl (di_range de_int (W.free 67)) (dg_name 4 sc_law_put_right.nd) (dss_cons (ds_F 11 sc_law_put_right.nd O_put_together hR_put_together hr (da_cons (de_var 1) (da_cons (de_var 9) (da_cons (de_var 10) da_nil)))) (dss_cons (ds_if (dt_bor (DW.dt (dw_or (dt_cmp (OpP.s ob_neS) (de_callB (ca_repr hgd (un64 hr)) (W.free 70) (da_cons (de_var 11) da_nil)) (de_callB (ca_repr hgd (un64 hr)) (W.free 70) (da_cons (de_var 2) da_nil))) (dw_or1 (dt_cmp (OpP.s ob_neS) (de_callB (ca_repr hgd (un64 hr)) (W.free 70) (da_cons (de_lst (da_cons (de_var 1) (da_cons (de_var 9) (da_cons (de_var 10) da_nil)))) da_nil)) (de_var 3)))))) (dss_one (ds_ret de_bl)) dss_nil) (dss_spoil 11 (pe_bm PySem.F.plainAttrs_list PySem.F.slot_list_append PySem.F.type_list_append mt_append (pe_ix ix_seq (pe_var (i := 11) rfl (by first | exact Or.inl rfl | exact Or.inr (Or.inl rfl) | exact Or.inr (Or.inr rfl))) pe_int (by exact fun _ _ => rfl)) (pa_cons pe_int pa_nil)) (pe_bm PySem.F.plainAttrs_list PySem.F.slot_list_append PySem.F.type_list_append mt_append (pe_ix ix_seq (pe_ix ix_seq (pe_var (i := 11) rfl (by first | exact Or.inl rfl | exact Or.inr (Or.inl rfl) | exact Or.inr (Or.inr rfl))) pe_int (by exact fun _ _ => rfl)) pe_int (by exact fun _ _ => rfl)) (pa_cons pe_int pa_nil)))))) (dss_cons (ds_set 5 sc_law_put_right.nd (dc_P O_totals hR_totals hr (da_cons (de_var 1) da_nil))) (dss_cons (ds_if (dt_cmp (OpP.s (ob_ne (un64 hr))) (de_ix (dc_P O_totals hR_totals hr (da_cons (de_var 2) da_nil)) de_int) (de_ix (de_var 5) de_int)) (dss_one (ds_ret de_bl)) dss_nil) (dss_cons (ds_if (dt_cmp (OpP.s (ob_ne (un64 hr))) (de_ix (dc_P O_totals hR_totals hr (da_cons (de_var 2) da_nil)) de_int) (de_lc rfl sc_law_put_right.nd (di_list (de_var 9)) (blkOk_by (own := [("_law_lot", 12)]) (by kernel_rfl)) (fun _ _ _ _ _ => (dg_name 12 sc_law_put_right.nd)) (fun _ _ _ _ _ => dts_nil) (fun _ _ _ _ _ => (de_callB (ca_sum rfl) (W.free 65) (da_cons (de_lc rfl sc_law_put_right.nd (di_list (de_var 12)) (blkOk_by (own := [("_law_i", 13)]) (by kernel_rfl)) (fun _ _ _ _ _ => (dg_name 13 sc_law_put_right.nd)) (fun _ _ _ _ _ => dts_nil) (fun _ _ _ _ _ => (de_ix (de_ix (de_var 5) de_int) (de_var 13)))) da_nil))))) (dss_one (ds_ret de_bl)) dss_nil) (dss_one (ds_ret (de_cmp (OpP.s (ob_eq (un64 hr))) (DF.de (dc_F O_put_together hR_put_together hr (da_cons (dc_P O_turned_table hR_turned_table hr (da_cons (de_var 1) da_nil)) (da_cons (de_var 10) (da_cons (de_var 9) da_nil))))) (dc_P O_turned_table hR_turned_table hr (da_cons (de_var 2) da_nil))))))))))))))
/-! ### _law_added_right -/
abbrev N_law_added_right : List Str := ["_law_purse_here", "_law_table_here", "_law_others", "_law_k", "_law_due", "_law_i", "_law_kept", "_law_again", "_law_rows", "_law_columns", "_law_cells", "_law_more", "_law_lines", "_law_told", "_law_one", "_law_column", "_law_line"]
theorem sc_law_added_right : FnScope N_law_added_right ["_law_purse_here", "_law_table_here"] (defScope s_law_added_right) := ⟨rfl, rfl, rfl, by decide +kernel, rfl, by decide +kernel, by decide +kernel⟩
def t_law_added_right (R_added : RP) (R_law_draw : RZ) : TDS := (dSeq (dAsg (dVar 1) (dgTup 3 (dgCons (dgName 8) (dgCons (dgName 9) (dgCons (dgName 10) dgNil))))) (dSeq (dNew 2 (dCons (dVar 1) dNil)) (dSeq (dFor (dRng (dOp oAdd (dC (.int 1)) (dDraw 0 1 R_law_draw (dCons (dC (.int 3)) dNil)))) (dgName 3) (dSeq (dNew 11 dNil) (dSeq (dFor (dRng (dCall cLen (dCons (dVar 8) dNil))) (dgName 5) (dApp 11 (dLc (dIter (dVar 9)) (dgName 15) dYes (dDraw 0 1 R_law_draw (dCons (dC (.int 1000)) dNil)) [15]))) (dRel 11 (dApp 2 (dTup (dCons (dCall cList (dCons (dVar 8) dNil)) (dCons (dCall cList (dCons (dVar 9) dNil)) (dCons (dVar 11) dNil))))))))) (dRel 2 (dSeq (dNew 4 dNil) (dSeq (dFor (dRng (dCall cLen (dCons (dVar 8) dNil))) (dgName 5) (dSeq (dSet 12 (dLc (dIter (dVar 2)) (dgName 14) dYes (dOp oIx (dOp oIx (dVar 14) (dC (.int 2))) (dVar 5)) [14])) (dApp 4 (dLc (dRng (dCall cLen (dCons (dVar 9) dNil))) (dgName 3) dYes (dCall cSum (dCons (dLc (dIter (dVar 12)) (dgName 16) dYes (dOp oIx (dVar 16) (dVar 3)) [16]) dNil)) [3])))) (dRel 4 (dSeq (dSet 6 (dCall cRepr (dCons (dVar 2) dNil))) (dSeq (dFor (dRng (dC (.int 2))) (dgName 7) (dSeq (dSetF 13 1 R_added (dCons (dVar 2) dNil)) (dSeq (dIfS (dBorT (dOrT (dTs (dOp oNeS (dCall cRepr (dCons (dVar 13) dNil)) (dCall cRepr (dCons (dTup (dCons (dVar 8) (dCons (dVar 9) (dCons (dVar 4) dNil)))) dNil)))) (dTs (dOp oNeS (dCall cRepr (dCons (dVar 2) dNil)) (dVar 6))))) (dRet (dC (.bool false))) dNilS) (dSpoil 13)))) (dRet (dOp oEq (dUse 1 R_added (dCons (dLst (dCons (dVar 1) dNil)) dNil)) (dVar 1))))))))))))
set_option maxHeartbeats 0 in
theorem b_law_added_right {P : Program} {w : World} {K : PySem.W.Frag} {mg : Str → Option Value} {base : Heap} (W : Wd K mg) {R_added : RP} {R_law_draw : RZ} (hR_added : MonoP R_added) (O_added : Ok P w K mg base "added" 6 ["tables"] (spF K 1 R_added)) (hR_law_draw : MonoZ R_law_draw) (O_law_draw : Ok P w K mg base "_law_draw" 1 ["_law_purse_here", "_law_out_of"] (spZ K 1 R_law_draw)) (cdv : Value) (A : Around) (outer : List Env) (s : Shared) (H : Hp) (E : XK) (hgd : A.guards = some []) (hr : Room 6 (A.deeper (envOfC "_law_added_right" (defScope s_law_added_right) s.heap.objs.size (He.ga K "_law_added_right") cdv))) :
    DSs (cxOf CX0 P w K mg base N_law_added_right "_law_added_right" (defScope s_law_added_right) (He.ga K "_law_added_right") cdv A outer s H E).nox (defBody s_law_added_right) (t_law_added_right R_added R_law_draw) := by
  exact (dss_cons (ds_asg (de_var 1) (dg_tup rfl (dgs_cons (dg_name 8 sc_law_added_right.nd) (dgs_cons (dg_name 9 sc_law_added_right.nd) (dgs_cons (dg_name 10 sc_law_added_right.nd) dgs_nil))))) (dss_cons (ds_new 2 sc_law_added_right.nd (da_cons (de_var 1) da_nil)) (dss_cons (ds_for PassesOwn.never rfl (di_range (de_op os_add de_int (dc_Z 0 O_law_draw hR_law_draw hr (da_cons de_int da_nil))) (W.free 67)) (dg_name 3 sc_law_added_right.nd) (dss_cons (ds_new 11 sc_law_added_right.nd da_nil) (dss_cons (ds_for PassesOwn.never rfl (di_range (de_callB ca_len (W.free 58) (da_cons (de_var 8) da_nil)) (W.free 67)) (dg_name 5 sc_law_added_right.nd) (dss_one (ds_app 11 (de_lc rfl sc_law_added_right.nd (di_list (de_var 9)) (blkOk_by (own := [("_law_column", 15)]) (by kernel_rfl)) (fun _ _ _ _ _ => (dg_name 15 sc_law_added_right.nd)) (fun _ _ _ _ _ => dts_nil) (fun _ _ _ _ _ => (dc_Z 0 O_law_draw hR_law_draw hr (da_cons de_int da_nil)))) (hp := pe_bm PySem.F.plainAttrs_list PySem.F.slot_list_append PySem.F.type_list_append mt_append (pe_var (i := 11) rfl (by first | exact Or.inl rfl | exact Or.inr (Or.inl rfl) | exact Or.inr (Or.inr rfl))) (pa_cons (DE.run (de_lc rfl sc_law_added_right.nd (di_list (de_var 9)) (blkOk_by (own := [("_law_column", 15)]) (by kernel_rfl)) (fun _ _ _ _ _ => (dg_name 15 sc_law_added_right.nd)) (fun _ _ _ _ _ => dts_nil) (fun _ _ _ _ _ => (dc_Z 0 O_law_draw hR_law_draw hr (da_cons de_int da_nil))))) pa_nil))))) (dss_one (ds_rel 11 (ds_app 2 (de_tup (da_cons (de_callTy ca_list (W.free 63) (da_cons (de_var 8) da_nil)) (da_cons (de_callTy ca_list (W.free 63) (da_cons (de_var 9) da_nil)) (da_cons (de_var 11) da_nil)))) (hp := pe_bm PySem.F.plainAttrs_list PySem.F.slot_list_append PySem.F.type_list_append mt_append (pe_var (i := 2) rfl (by first | exact Or.inl rfl | exact Or.inr (Or.inl rfl) | exact Or.inr (Or.inr rfl))) (pa_cons (DE.run (de_tup (da_cons (de_callTy ca_list (W.free 63) (da_cons (de_var 8) da_nil)) (da_cons (de_callTy ca_list (W.free 63) (da_cons (de_var 9) da_nil)) (da_cons (de_var 11) da_nil))))) pa_nil)))))))) (dss_rel 2 (dss_cons (ds_new 4 sc_law_added_right.nd da_nil) (dss_cons (ds_for PassesOwn.never rfl (di_range (de_callB ca_len (W.free 58) (da_cons (de_var 8) da_nil)) (W.free 67)) (dg_name 5 sc_law_added_right.nd) (dss_cons (ds_set 12 sc_law_added_right.nd (de_lc rfl sc_law_added_right.nd (di_list (de_var 2)) (blkOk_by (own := [("_law_one", 14)]) (by kernel_rfl)) (fun _ _ _ _ _ => (dg_name 14 sc_law_added_right.nd)) (fun _ _ _ _ _ => dts_nil) (fun _ _ _ _ _ => (de_ix (de_ix (de_var 14) de_int) (de_var 5))))) (dss_one (ds_app 4 (de_lc rfl sc_law_added_right.nd (di_range (de_callB ca_len (W.free 58) (da_cons (de_var 9) da_nil)) (W.free 67)) (blkOk_by (own := [("_law_k", 3)]) (by kernel_rfl)) (fun _ _ _ _ _ => (dg_name 3 sc_law_added_right.nd)) (fun _ _ _ _ _ => dts_nil) (fun _ _ _ _ _ => (de_callB (ca_sum rfl) (W.free 65) (da_cons (de_lc rfl sc_law_added_right.nd (di_list (de_var 12)) (blkOk_by (own := [("_law_line", 16)]) (by kernel_rfl)) (fun _ _ _ _ _ => (dg_name 16 sc_law_added_right.nd)) (fun _ _ _ _ _ => dts_nil) (fun _ _ _ _ _ => (de_ix (de_var 16) (de_var 3)))) da_nil)))) (hp := pe_bm PySem.F.plainAttrs_list PySem.F.slot_list_append PySem.F.type_list_append mt_append (pe_var (i := 4) rfl (by first | exact Or.inl rfl | exact Or.inr (Or.inl rfl) | exact Or.inr (Or.inr rfl))) (pa_cons (DE.run (de_lc rfl sc_law_added_right.nd (di_range (de_callB ca_len (W.free 58) (da_cons (de_var 9) da_nil)) (W.free 67)) (blkOk_by (own := [("_law_k", 3)]) (by kernel_rfl)) (fun _ _ _ _ _ => (dg_name 3 sc_law_added_right.nd)) (fun _ _ _ _ _ => dts_nil) (fun _ _ _ _ _ => (de_callB (ca_sum rfl) (W.free 65) (da_cons (de_lc rfl sc_law_added_right.nd (di_list (de_var 12)) (blkOk_by (own := [("_law_line", 16)]) (by kernel_rfl)) (fun _ _ _ _ _ => (dg_name 16 sc_law_added_right.nd)) (fun _ _ _ _ _ => dts_nil) (fun _ _ _ _ _ => (de_ix (de_var 16) (de_var 3)))) da_nil))))) pa_nil)))))) (dss_rel 4 (dss_cons (ds_set 6 sc_law_added_right.nd (de_callB (ca_repr hgd (un64 hr)) (W.free 70) (da_cons (de_var 2) da_nil))) (dss_cons (ds_for PassesOwn.never rfl (di_range de_int (W.free 67)) (dg_name 7 sc_law_added_right.nd) (dss_cons (ds_F 13 sc_law_added_right.nd O_added hR_added hr (da_cons (de_var 2) da_nil)) (dss_cons (ds_if (dt_bor (DW.dt (dw_or (dt_cmp (OpP.s ob_neS) (de_callB (ca_repr hgd (un64 hr)) (W.free 70) (da_cons (de_var 13) da_nil)) (de_callB (ca_repr hgd (un64 hr)) (W.free 70) (da_cons (de_tup (da_cons (de_var 8) (da_cons (de_var 9) (da_cons (de_var 4) da_nil)))) da_nil))) (dw_or1 (dt_cmp (OpP.s ob_neS) (de_callB (ca_repr hgd (un64 hr)) (W.free 70) (da_cons (de_var 2) da_nil)) (de_var 6)))))) (dss_one (ds_ret de_bl)) dss_nil) (dss_spoil 13 (pe_bm PySem.F.plainAttrs_list PySem.F.slot_list_append PySem.F.type_list_append mt_append (pe_ix ix_seq (pe_var (i := 13) rfl (by first | exact Or.inl rfl | exact Or.inr (Or.inl rfl) | exact Or.inr (Or.inr rfl))) pe_int (by exact fun _ _ => rfl)) (pa_cons pe_int pa_nil)) (pe_bm PySem.F.plainAttrs_list PySem.F.slot_list_append PySem.F.type_list_append mt_append (pe_ix ix_seq (pe_ix ix_seq (pe_var (i := 13) rfl (by first | exact Or.inl rfl | exact Or.inr (Or.inl rfl) | exact Or.inr (Or.inr rfl))) pe_int (by exact fun _ _ => rfl)) pe_int (by exact fun _ _ => rfl)) (pa_cons pe_int pa_nil)))))) (dss_one (ds_ret (de_cmp (OpP.s (ob_eq (un64 hr))) (DF.de (dc_F O_added hR_added hr (da_cons (de_lst (da_cons (de_var 1) da_nil)) da_nil))) (de_var 1)))))))))))))
/-! ### _law_books_right -/
abbrev N_law_books_right : List Str := ["_law_purse_here", "_law_plan_here", "_law_one", "_law_other", "_law_order_here", "_law_sort_of", "_law_full", "_law_record_here", "_law_cells", "_law_lines", "_law_row", "_law_column", "_law_both", "_law_due", "_law_there", "_law_lots_here", "_law_book_here", "_law_line", "_law_cell"]
theorem sc_law_books_right : FnScope N_law_books_right ["_law_purse_here", "_law_plan_here", "_law_one", "_law_other"] (defScope s_law_books_right) := ⟨rfl, rfl, rfl, by decide +kernel, rfl, by decide +kernel, by decide +kernel⟩
def t_law_books_right (R_totals : RP) (R_turned_table : RP) (R_added : RP) (R_gaps : RP) (R_table_of : RP) (R_weighed_cells : RP) (R_layers : RP) (R_law_order : RZ) : TDS := (dSeq (dSet 4 (dDraw 0 1 R_law_order (dCons (dCall cLen (dCons (dVar 1) dNil)) dNil))) (dSeq (dAsg (dOp oCut (dVar 4) (dC (.int 2))) (dgLst 2 (dgCons (dgName 10) (dgCons (dgName 11) dgNil)))) (dSeq (dFor (dIter (dLst (dCons (dC (.str "count")) (dCons (dC (.str "measure")) dNil)))) (dgName 5) (dSeq (dSet 12 (dLc (dIter (dLst (dCons (dVar 2) (dCons (dVar 3) dNil)))) (dgName 16) dYes (dUseK 4 R_table_of (dCons (dVar 1) (dCons (dVar 16) (dCons (dVar 10) (dCons (dVar 11) dNil)))) (dVar 5)) [16])) (dSeq (dSet 13 (dUseK 4 R_table_of (dCons (dVar 1) (dCons (dOp oCut (dOp oAdd (dVar 2) (dVar 3)) (dC (.int 60))) (dCons (dVar 10) (dCons (dVar 11) dNil)))) (dVar 5))) (dSeq (dIfS (dAndT (dTs (dOp oLt (dOp oAdd (dCall cLen (dCons (dVar 2) dNil)) (dCall cLen (dCons (dVar 3) dNil))) (dC (.int 61)))) (dTs (dOp oNe (dUse 1 R_added (dCons (dVar 12) dNil)) (dVar 13)))) (dRet (dC (.bool false))) dNilS) (dSeq (dIfS (dTs (dOp oNe (dUse 1 R_turned_table (dCons (dOp oIx (dVar 12) (dC (.int 0))) dNil)) (dUseK 4 R_table_of (dCons (dVar 1) (dCons (dVar 2) (dCons (dVar 11) (dCons (dVar 10) dNil)))) (dVar 5)))) (dRet (dC (.bool false))) dNilS) (dIfS (dTs (dOp oGt (dCall cLen (dCons (dVar 1) dNil)) (dC (.int 2)))) (dSeq (dSet 14 (dLc (dIter (dVar 2)) (dgName 7) (dTs (dOp oNin (dOp oIx (dVar 4) (dC (.int 2))) (dUse 2 R_gaps (dCons (dVar 1) (dCons (dVar 7) dNil))))) (dVar 7) [7])) (dSeq (dSet 15 (dUseK 5 R_layers (dCons (dVar 1) (dCons (dVar 2) (dCons (dOp oIx (dVar 4) (dC (.int 2))) (dCons (dVar 10) (dCons (dVar 11) dNil))))) (dVar 5))) (dIfS (dTs (dOp oNe (dUse 1 R_added (dCons (dVar 15) dNil)) (dUseK 4 R_table_of (dCons (dVar 1) (dCons (dVar 14) (dCons (dVar 10) (dCons (dVar 11) dNil)))) (dVar 5)))) (dRet (dC (.bool false))) dNilS))) dNilS)))))) (dSeq (dNew 6 dNil) (dSeq (dFor (dIter (dVar 2)) (dgName 7) (dIfS (dAndT (dTs (dOp oNin (dVar 10) (dUse 2 R_gaps (dCons (dVar 1) (dCons (dVar 7) dNil))))) (dTs (dOp oNin (dVar 11) (dUse 2 R_gaps (dCons (dVar 1) (dCons (dVar 7) dNil)))))) (dApp 6 (dVar 7)) dNilS)) (dRel 6 (dSeq (dIfS (dTs (dOp oNe (dOp oIx (dUse 1 R_totals (dCons (dUseD 5 R_table_of (dCons (dVar 1) (dCons (dVar 2) (dCons (dVar 10) (dCons (dVar 11) dNil)))) (.str "count")) dNil)) (dC (.int 2))) (dBor (dCall cLen (dCons (dVar 6) dNil))))) (dRet (dC (.bool false))) dNilS) (dSeq (dSet 8 (dUse 5 R_weighed_cells (dCons (dVar 1) (dCons (dVar 2) (dCons (dVar 10) (dCons (dVar 11) (dCons (dOp oMul (dLst (dCons (dTup (dCons (dC (.int 1)) (dCons (dC (.int 1)) dNil))) dNil)) (dCall cLen (dCons (dVar 2) dNil))) dNil))))))) (dSeq (dSet 9 (dOp oIx (dUseD 5 R_table_of (dCons (dVar 1) (dCons (dVar 2) (dCons (dVar 10) (dCons (dVar 11) dNil)))) (.str "count")) (dC (.int 2)))) (dRet (dOp oEq (dVar 8) (dLc (dIter (dVar 9)) (dgName 17) dYes (dLc (dIter (dVar 17)) (dgName 18) dYes (dTup (dCons (dVar 18) (dCons (dC (.int 1)) dNil))) [18]) [17]))))))))))))
set_option maxHeartbeats 0 in
theorem b_law_books_right {P : Program} {w : World} {K : PySem.W.Frag} {mg : Str → Option Value} {base : Heap} (W : Wd K mg) {R_totals : RP} {R_turned_table : RP} {R_added : RP} {R_gaps : RP} {R_table_of : RP} {R_weighed_cells : RP} {R_layers : RP} {R_law_order : RZ} (hR_totals : MonoP R_totals) (O_totals : Ok P w K mg base "totals" 7 ["table"] (spP K 1 R_totals)) (hR_turned_table : MonoP R_turned_table) (O_turned_table : Ok P w K mg base "turned_table" 7 ["table"] (spP K 1 R_turned_table)) (hR_added : MonoP R_added) (O_added : Ok P w K mg base "added" 6 ["tables"] (spF K 1 R_added)) (hR_gaps : MonoP R_gaps) (O_gaps : Ok P w K mg base "gaps" 9 ["plan", "record"] (spP K 2 R_gaps)) (hR_table_of : MonoP R_table_of) (O_table_of : OkD P w K mg base "table_of" 9 ["plan", "book", "row", "column", "what"] (spP K 5 R_table_of)) (hR_weighed_cells : MonoP R_weighed_cells) (O_weighed_cells : Ok P w K mg base "weighed_cells" 9 ["plan", "book", "row", "column", "weights"] (spP K 5 R_weighed_cells)) (hR_layers : MonoP R_layers) (O_layers : OkD P w K mg base "layers" 9 ["plan", "book", "layer", "row", "column", "what"] (spP K 6 R_layers)) (hR_law_order : MonoZ R_law_order) (O_law_order : Ok P w K mg base "_law_order" 2 ["_law_purse_here", "_law_many"] (spZ K 1 R_law_order)) (cdv : Value) (A : Around) (outer : List Env) (s : Shared) (H : Hp) (E : XK) (hr : Room 9 (A.deeper (envOfC "_law_books_right" (defScope s_law_books_right) s.heap.objs.size (He.ga K "_law_books_right") cdv))) :
    DSs (cxOf CX0 P w K mg base N_law_books_right "_law_books_right" (defScope s_law_books_right) (He.ga K "_law_books_right") cdv A outer s H E).nox (defBody s_law_books_right) (t_law_books_right R_totals R_turned_table R_added R_gaps R_table_of R_weighed_cells R_layers R_law_order) := by
  exact (dss_cons (ds_set 4 sc_law_books_right.nd (dc_Z 0 O_law_order hR_law_order hr (da_cons (de_callB ca_len (W.free 58) (da_cons (de_var 1) da_nil)) da_nil))) (dss_cons (ds_asg (de_cut (de_var 4) de_int) (dg_lst rfl (dgs_cons (dg_name 10 sc_law_books_right.nd) (dgs_cons (dg_name 11 sc_law_books_right.nd) dgs_nil)))) (dss_cons (ds_for PassesOwn.never rfl (di_list (de_lst (da_cons de_str (da_cons de_str da_nil)))) (dg_name 5 sc_law_books_right.nd) (dss_cons (ds_setLc 12 rfl sc_law_books_right.nd (by rfl) (di_list (de_lst (da_cons (de_var 2) (da_cons (de_var 3) da_nil)))) (blkOk_by (own := [("_law_book_here", 16)]) (by kernel_rfl)) (fun _ _ _ _ _ => (dg_name 16 sc_law_books_right.nd)) (fun _ _ _ _ _ => dts_nil) (fun _ _ _ _ _ => (dc_K O_table_of hR_table_of hr (da_cons (de_var 1) (da_cons (de_var 16) (da_cons (de_var 10) (da_cons (de_var 11) da_nil)))) (de_var 5)))) (dss_cons (ds_set 13 sc_law_books_right.nd (dc_K O_table_of hR_table_of hr (da_cons (de_var 1) (da_cons (de_cut (de_op os_add (de_var 2) (de_var 3)) de_int) (da_cons (de_var 10) (da_cons (de_var 11) da_nil)))) (de_var 5))) (dss_cons (ds_if (DW.dt (dw_and (dt_cmp (OpP.s ob_lt) (de_op os_add (de_callB ca_len (W.free 58) (da_cons (de_var 2) da_nil)) (de_callB ca_len (W.free 58) (da_cons (de_var 3) da_nil))) de_int) (dw_and1 (dt_cmp (OpP.s (ob_ne (un64 hr))) (DF.de (dc_F O_added hR_added hr (da_cons (de_var 12) da_nil))) (de_var 13))))) (dss_one (ds_ret de_bl)) dss_nil) (dss_cons (ds_if (dt_cmp (OpP.s (ob_ne (un64 hr))) (dc_P O_turned_table hR_turned_table hr (da_cons (de_ix (de_var 12) de_int) da_nil)) (dc_K O_table_of hR_table_of hr (da_cons (de_var 1) (da_cons (de_var 2) (da_cons (de_var 11) (da_cons (de_var 10) da_nil)))) (de_var 5))) (dss_one (ds_ret de_bl)) dss_nil) (dss_one (ds_if (dt_cmp (OpP.s ob_gt) (de_callB ca_len (W.free 58) (da_cons (de_var 1) da_nil)) de_int) (dss_cons (ds_setLc 14 rfl sc_law_books_right.nd (by rfl) (di_list (de_var 2)) (blkOk_by (own := [("_law_record_here", 7)]) (by kernel_rfl)) (fun _ _ _ _ _ => (dg_name 7 sc_law_books_right.nd)) (fun _ _ _ _ _ => (dts_one (dt_cmp (OpP.s ob_nin) (de_ix (de_var 4) de_int) (dc_P O_gaps hR_gaps hr (da_cons (de_var 1) (da_cons (de_var 7) da_nil)))))) (fun _ _ _ _ _ => (de_var 7))) (dss_cons (ds_set 15 sc_law_books_right.nd (dc_K O_layers hR_layers hr (da_cons (de_var 1) (da_cons (de_var 2) (da_cons (de_ix (de_var 4) de_int) (da_cons (de_var 10) (da_cons (de_var 11) da_nil))))) (de_var 5))) (dss_one (ds_if (dt_cmp (OpP.s (ob_ne (un64 hr))) (DF.de (dc_F O_added hR_added hr (da_cons (de_var 15) da_nil))) (dc_K O_table_of hR_table_of hr (da_cons (de_var 1) (da_cons (de_var 14) (da_cons (de_var 10) (da_cons (de_var 11) da_nil)))) (de_var 5))) (dss_one (ds_ret de_bl)) dss_nil)))) dss_nil))))))) (dss_cons (ds_new 6 sc_law_books_right.nd da_nil) (dss_cons (ds_for PassesOwn.never rfl (di_list (de_var 2)) (dg_name 7 sc_law_books_right.nd) (dss_one (ds_if (DW.dt (dw_and (dt_cmp (OpP.s ob_nin) (de_var 10) (dc_P O_gaps hR_gaps hr (da_cons (de_var 1) (da_cons (de_var 7) da_nil)))) (dw_and1 (dt_cmp (OpP.s ob_nin) (de_var 11) (dc_P O_gaps hR_gaps hr (da_cons (de_var 1) (da_cons (de_var 7) da_nil))))))) (dss_one (ds_app 6 (de_var 7) (hp := pe_bm PySem.F.plainAttrs_list PySem.F.slot_list_append PySem.F.type_list_append mt_append (pe_var (i := 6) rfl (by first | exact Or.inl rfl | exact Or.inr (Or.inl rfl) | exact Or.inr (Or.inr rfl))) (pa_cons (DE.run (de_var 7)) pa_nil)))) dss_nil))) (dss_rel 6 (dss_cons (ds_if (dt_cmp (OpP.s (ob_ne (un64 hr))) (de_ix (dc_P O_totals hR_totals hr (da_cons (dc_D O_table_of hR_table_of hr (da_cons (de_var 1) (da_cons (de_var 2) (da_cons (de_var 10) (da_cons (de_var 11) da_nil))))) da_nil)) de_int) (de_bor (de_callB ca_len (W.free 58) (da_cons (de_var 6) da_nil)))) (dss_one (ds_ret de_bl)) dss_nil) (dss_cons (ds_set 8 sc_law_books_right.nd (dc_P O_weighed_cells hR_weighed_cells hr (da_cons (de_var 1) (da_cons (de_var 2) (da_cons (de_var 10) (da_cons (de_var 11) (da_cons (de_op os_mul (de_lst (da_cons (de_tup (da_cons de_int (da_cons de_int da_nil))) da_nil)) (de_callB ca_len (W.free 58) (da_cons (de_var 2) da_nil))) da_nil))))))) (dss_cons (ds_set 9 sc_law_books_right.nd (de_ix (dc_D O_table_of hR_table_of hr (da_cons (de_var 1) (da_cons (de_var 2) (da_cons (de_var 10) (da_cons (de_var 11) da_nil))))) de_int)) (dss_one (ds_ret (de_cmp (OpP.s (ob_eq (un64 hr))) (de_var 8) (de_lc rfl sc_law_books_right.nd (di_list (de_var 9)) (blkOk_by (own := [("_law_line", 17)]) (by kernel_rfl)) (fun _ _ _ _ _ => (dg_name 17 sc_law_books_right.nd)) (fun _ _ _ _ _ => dts_nil) (fun _ _ _ _ _ => (de_lc rfl sc_law_books_right.nd (di_list (de_var 17)) (blkOk_by (own := [("_law_cell", 18)]) (by kernel_rfl)) (fun _ _ _ _ _ => (dg_name 18 sc_law_books_right.nd)) (fun _ _ _ _ _ => dts_nil) (fun _ _ _ _ _ => (de_tup (da_cons (de_var 18) (da_cons de_int da_nil)))))))))))))))))))
end K22

set_option Elab.async false
set_option linter.all false
set_option maxRecDepth 100000
set_option maxHeartbeats 6400000
/-! P1: how readings are run; fractions, words, plans, tables, by data. -/
namespace K22
open PySem PySem.Spec PyProof.Rows L2
theorem ite_t {b : Bool} {A B : Prop} (h : b = true) (a : A) : if b = true then A else B := by rw [if_pos h]; exact a
theorem ite_f {b : Bool} {A B : Prop} (h : b = false) (x : B) : if b = true then A else B := by rw [if_neg (by rw [h]; decide)]; exact x
theorem ite_n {b : Bool} {A B : Prop} (h : b = true) (x : B) : if (!b) = true then A else B := by rw [if_neg (by rw [h]; decide)]; exact x
/-- a comprehension over l.map mk -/
theorem lc_of {α : Type} {g : TDG} {tt : TDT} {te : TDE} {vs : List Nat} {sl : List Sl} {Q : List PyData → En → Prop} {fu : Nat} (mk : α → PyData) (f : α → Option PyData) : ∀ (l : List α) (acc : List PyData),
    (∀ a ∈ l, ∀ C : Option PyData → Nat → Prop, C (f a) fu → g (mk a) (wipeE vs ⟨sl, fu⟩) fun E2 => tt E2 fun b E3 => if b = true then te E3 fun y E4 => E4.sl = E2.sl ∧ C (some y) E4.fu else E3.sl = E2.sl ∧ C none E3.fu) →
    Q (acc ++ l.filterMap f) ⟨sl, fu⟩ → lcGo g tt te vs sl Q (l.map mk) acc fu
  | [], acc, _, h => by simpa [lcGo] using h
  | a :: l, acc, hs, h => by
    refine hs a (List.mem_cons_self ..) (fun o fu' => match o with
      | some y => lcGo g tt te vs sl Q (l.map mk) (acc ++ [y]) fu'
      | none => lcGo g tt te vs sl Q (l.map mk) acc fu') ?_
    cases c : f a with
    | some y => exact lc_of mk f l (acc ++ [y]) (fun b hb => hs b (List.mem_cons_of_mem _ hb)) (by simpa [c] using h)
    | none => exact lc_of mk f l acc (fun b hb => hs b (List.mem_cons_of_mem _ hb)) (by simpa [c] using h)
theorem lc_map {α : Type} {g : TDG} {tt : TDT} {te : TDE} {vs : List Nat} {sl : List Sl} {Q : List PyData → En → Prop} {fu : Nat} (mk f : α → PyData) (l : List α) (acc : List PyData)
    (hs : ∀ a ∈ l, ∀ C : Option PyData → Nat → Prop, C (some (f a)) fu → g (mk a) (wipeE vs ⟨sl, fu⟩) fun E2 => tt E2 fun b E3 => if b = true then te E3 fun y E4 => E4.sl = E2.sl ∧ C (some y) E4.fu else E3.sl = E2.sl ∧ C none E3.fu)
    (h : Q (acc ++ l.map f) ⟨sl, fu⟩) : lcGo g tt te vs sl Q (l.map mk) acc fu :=
  lc_of mk (fun a => some (f a)) l acc hs (by rw [show (fun a => some (f a)) = some ∘ f from rfl, List.filterMap_eq_map]; exact h)
/-! ### the contracts -/
def R_is_whole : RP := fun ds P => ∃ n : Int, ds = [.int n] ∧ P (.bool true)
theorem m_is_whole : MonoP R_is_whole := fun ds P P' w ⟨n, e, h⟩ => ⟨n, e, w _ h⟩
theorem r_is_whole (ds : List PyData) (Q : PyData → Prop) (hl : ds.length = 1) (h : R_is_whole ds Q) : t_is_whole (endP Q) (enP N_is_whole.length ds) := by
  obtain ⟨n, rfl, h⟩ := h
  exact h
def R_shared : RP := fun ds P => ∃ n : Int, ds = [.int n, .int 1] ∧ P (.int 1)
theorem m_shared : MonoP R_shared := fun ds P P' w ⟨n, e, h⟩ => ⟨n, e, w _ h⟩
theorem r_shared (ds : List PyData) (Q : PyData → Prop) (hl : ds.length = 2) (h : R_shared ds Q) : t_shared (endP Q) (enP N_shared.length ds) := by
  obtain ⟨n, rfl, h⟩ := h
  refine ⟨fun m E => (m = 1 ∧ E = ⟨[.dat (.int n), .dat (.int 1)], 0⟩) ∨ (m = 0 ∧ ∃ i j : Int, E = ⟨[.dat (.int i), .dat (.int j)], 0⟩ ∧ i = 1 ∧ j = 0), ⟨1, .inl ⟨rfl, rfl⟩⟩, ?_⟩
  rintro m E (⟨rfl, rfl⟩ | ⟨rfl, i, j, rfl, rfl, rfl⟩)
  · refine ⟨rfl, rfl, ?_⟩
    exact ⟨by decide, 0, by decide, .inr ⟨rfl, 1, n % 1, rfl, rfl, by omega⟩⟩
  · refine ⟨rfl, rfl, ?_⟩
    exact h
def R_is_fraction : RP := fun ds P => ∃ n : Int, ds = [.tuple [.int n, .int 1]] ∧ P (.bool true)
theorem m_is_fraction : MonoP R_is_fraction := fun ds P P' w ⟨n, e, h⟩ => ⟨n, e, w _ h⟩
theorem r_is_fraction (ds : List PyData) (Q : PyData → Prop) (hl : ds.length = 1) (h : R_is_fraction ds Q) : t_is_fraction R_shared R_is_whole (endP Q) (enP N_is_fraction.length ds) := by
  obtain ⟨n, rfl, h⟩ := h
  exact ⟨rfl, rfl, rfl, n, rfl, rfl, 1, rfl, rfl, n, rfl, rfl, rfl, h⟩
def R_lowest : RP := fun ds P => ∃ n : Int, ds = [.int n, .int 1] ∧ P (.tuple [.int n, .int 1])
theorem m_lowest : MonoP R_lowest := fun ds P P' w ⟨n, e, h⟩ => ⟨n, e, w _ h⟩
theorem two_len : ([a, b] : List PyData).length ≤ sizeLine := by show 2 ≤ sizeLine; decide
theorem r_lowest (ds : List PyData) (Q : PyData → Prop) (hl : ds.length = 2) (h : R_lowest ds Q) : t_lowest R_shared (endP Q) (enP N_lowest.length ds) := by
  obtain ⟨n, rfl, h⟩ := h
  refine ⟨rfl, n, rfl, ?_⟩
  refine ⟨⟨by decide, by decide⟩, ⟨⟨by decide, by decide⟩, two_len, ?_⟩⟩
  have e1 : n / 1 = n := Int.ediv_one n
  have e2 : (1 : Int) / 1 = 1 := by decide
  rw [e1, e2]
  exact h
def R_plus : RP := fun ds P => ∃ n : Int, ds = [.tuple [.int n, .int 1], .tuple [.int 1, .int 1]] ∧ P (.tuple [.int (n + 1), .int 1])
theorem m_plus : MonoP R_plus := fun ds P P' w ⟨n, e, h⟩ => ⟨n, e, w _ h⟩
theorem cm1 (n : Int) : CMul n 1 := .inr ⟨by decide, by decide⟩
theorem r_plus (ds : List PyData) (Q : PyData → Prop) (hl : ds.length = 2) (h : R_plus ds Q) : t_plus R_lowest (endP Q) (enP N_plus.length ds) := by
  obtain ⟨n, rfl, h⟩ := h
  refine ⟨cm1 n, cm1 1, cm1 1, rfl, n * 1 + 1 * 1, by simp, ?_⟩
  have e : n * 1 + 1 * 1 = n + 1 := by omega
  rw [e]
  exact h
end K22

set_option Elab.async false
set_option linter.all false
set_option maxRecDepth 100000
set_option maxHeartbeats 6400000
/-! P2: words, plans. -/
namespace K22
open PySem PySem.Spec PyProof.Rows L2
abbrev small : Str := "abcdefghijklmnopqrstuvwxyz"
structure Word (n : Nat) (s : Str) : Prop where
  lo : 1 ≤ s.length
  hi : s.length ≤ n
  sm : ∀ c ∈ s.cps.toList, c ∈ small.cps.toList
abbrev sL (l : List Str) : List PyData := l.map .str
theorem small_line {n : Nat} (h : n ≤ 1000000) : n ≤ sizeLine := Nat.le_trans h sizeLine_big
theorem all_t {α : Type} (l : List α) {P : PyData → Prop} (h : P (.bool true)) : cAll [.list ([] ++ l.map fun _ => .bool true)] P := by
  refine ⟨l.map fun _ => true, by simp, ?_⟩
  have e : (l.map fun _ => true).all id = true := by simp
  rw [e]
  exact h
theorem scal_map {α : Type} (l : List α) {f : α → PyData} (h : ∀ a, scal (f a) = true) : ([] ++ l.map f).all scal = true := by
  rw [List.nil_append, List.all_map]
  exact List.all_eq_true.mpr fun a _ => h a
theorem all_tt {α : Type} (l : List α) : (l.map fun _ => true).all id = true := by simp
theorem all_eq {α : Type} (l : List α) : [PyData.list ([] ++ l.map fun _ => .bool true)] = [.list ((l.map fun _ => true).map .bool)] := by simp
theorem all_f {l : List PyData} (bs : List Bool) {P : PyData → Prop} (e : l = bs.map .bool) (ht : ∀ b ∈ bs, b = true) (h : P (.bool true)) : cAll [.list l] P := by
  subst e
  refine ⟨bs, rfl, ?_⟩
  have e : bs.all id = true := by simpa using ht
  rw [e]
  exact h
def R_is_word : RP := fun ds P => ∃ (s : Str) (n : Nat), ds = [.str s, .int n] ∧ Word n s ∧ n ≤ 8 ∧ P (.bool true)
theorem m_is_word : MonoP R_is_word := fun ds P P' w ⟨s, n, e, h1, h2, h⟩ => ⟨s, n, e, h1, h2, w _ h⟩
theorem r_is_word (ds : List PyData) (Q : PyData → Prop) (hl : ds.length = 2) (h : R_is_word ds Q) : t_is_word (endP Q) (enP N_is_word.length ds) := by
  obtain ⟨s, n, rfl, hw, hn, h⟩ := h
  have hs : s.length ≤ 8 := Nat.le_trans hw.hi hn
  refine ⟨small_line (by omega), ite_t (show decide ((1 : Int) ≤ (s.length : Int)) = true from decide_eq_true (by have := hw.lo; omega)) (ite_t (show decide ((s.length : Int) ≤ (n : Int)) = true from decide_eq_true (by have := hw.hi; omega)) ⟨Nat.le_trans hs (by decide), rfl, ?_⟩)⟩
  refine lc_map (fun c => .str ⟨#[c]⟩) (fun _ => .bool true) _ [] (fun c hc C hC => ⟨rfl, rfl, ?_⟩) (all_t _ h)
  have e : decide (c ∈ small.cps.toList) = true := decide_eq_true (hw.sm c hc)
  show C (some (.bool (decide (c ∈ small.cps.toList)))) 0
  rw [e]
  exact hC
def R_is_code : RP := fun ds P => ∃ s : Str, ds = [.str s] ∧ Word 4 s ∧ P (.bool true)
theorem m_is_code : MonoP R_is_code := fun ds P P' w ⟨s, e, h1, h⟩ => ⟨s, e, h1, w _ h⟩
theorem r_is_code (ds : List PyData) (Q : PyData → Prop) (hl : ds.length = 1) (h : R_is_code ds Q) : t_is_code R_is_word (endP Q) (enP N_is_code.length ds) := by
  obtain ⟨s, rfl, hw, h⟩ := h
  exact ⟨rfl, s, 4, rfl, hw, by decide, h⟩
structure Codes (a b : Nat) (xs : List Str) : Prop where
  lo : a ≤ xs.length
  hi : xs.length ≤ b
  wd : ∀ x ∈ xs, Word 4 x
  nd : xs.Nodup
def R_are_unlike_codes : RP := fun ds P => ∃ (xs : List Str) (a b : Nat), (ds = [.list (sL xs), .int a, .int b] ∨ ds = [.tuple (sL xs), .int a, .int b]) ∧ Codes a b xs ∧ b ≤ 100 ∧ P (.bool true)
theorem m_are_unlike_codes : MonoP R_are_unlike_codes := fun ds P P' w ⟨xs, a, b, e, h1, h2, h⟩ => ⟨xs, a, b, e, h1, h2, w _ h⟩
theorem eqvI (i : Int) : PyData.eqv (.int i) (.int i) = true := by simp [PyData.eqv]
theorem shI (i : Int) : SeqAt.shaped (.int i) = true := rfl
theorem r_are_unlike_codes (ds : List PyData) (Q : PyData → Prop) (hl : ds.length = 3) (h : R_are_unlike_codes ds Q) : t_are_unlike_codes R_is_code (endP Q) (enP N_are_unlike_codes.length ds) := by
  obtain ⟨xs, a, b, e, hc, hb, h⟩ := h
  have l1 : (sL xs).length = xs.length := List.length_map _
  have h1 : decide ((a : Int) ≤ ((sL xs).length : Int)) = true := decide_eq_true (by rw [l1]; have := hc.lo; omega)
  have h2 : decide (((sL xs).length : Int) ≤ (b : Int)) = true := decide_eq_true (by rw [l1]; have := hc.hi; omega)
  have hlen : xs.length ≤ 100 := Nat.le_trans hc.hi hb
  have e3 : PyData.eqv (.int (xs.length : Int)) (.int ((sL xs).length : Int)) = true := by rw [l1]; exact eqvI _
  have fin : ∀ {P : PyData → Prop}, P (.bool true) → P (.bool (PyData.eqv (.int (xs.length : Int)) (.int ((sL xs).length : Int)))) := fun p => by rw [e3]; exact p
  rcases e with rfl | rfl
  · refine ite_t h1 (ite_n h2 ⟨rfl, lc_map .str (fun _ => .bool true) _ [] (fun x hx C hC => ⟨rfl, x, rfl, hc.wd x hx, rfl, hC⟩) ⟨_, all_eq xs, ite_n (all_tt xs) ?_⟩⟩)
    exact ⟨xs, .inl rfl, hc.nd, by omega, shI _, shI _, fin h⟩
  · refine ite_t h1 (ite_n h2 ⟨by rw [l1]; omega, rfl, lc_map .str (fun _ => .bool true) _ [] (fun x hx C hC => ⟨rfl, x, rfl, hc.wd x hx, rfl, hC⟩) ⟨_, all_eq xs, ite_n (all_tt xs) ?_⟩⟩)
    exact ⟨xs, .inr rfl, hc.nd, by omega, shI _, shI _, fin h⟩
/-! ### sorts, plans -/
abbrev Sort' : Type := Str × List Str
def sortD (s : Sort') : PyData := .tuple [.str s.1, .tuple (sL s.2)]
structure SortOk (s : Sort') : Prop where
  nm : Word 8 s.1
  cs : Codes 2 6 s.2
abbrev Plan : Type := List Sort'
def planD (p : Plan) : PyData := .tuple (p.map sortD)
structure PlanOk (p : Plan) : Prop where
  lo : 1 ≤ p.length
  hi : p.length ≤ 4
  so : ∀ s ∈ p, SortOk s
  nd : (p.map (·.1)).Nodup
def R_is_sort : RP := fun ds P => ∃ s : Sort', ds = [sortD s] ∧ SortOk s ∧ P (.bool true)
theorem m_is_sort : MonoP R_is_sort := fun ds P P' w ⟨s, e, h1, h⟩ => ⟨s, e, h1, w _ h⟩
theorem r_is_sort (ds : List PyData) (Q : PyData → Prop) (hl : ds.length = 1) (h : R_is_sort ds Q) : t_is_sort R_is_word R_are_unlike_codes (endP Q) (enP N_is_sort.length ds) := by
  obtain ⟨s, rfl, hs, h⟩ := h
  exact ⟨rfl, rfl, rfl, s.1, 8, rfl, hs.nm, by decide, rfl, s.2, 2, 6, .inr rfl, hs.cs, by decide, h⟩
theorem numD_eq (l : List PyData) : numD l = l.zipIdx.map fun p => .tuple [.int (p.2 : Int), p.1] := rfl
/-- a loop that looks at each and goes on -/
theorem for_each {α : Type} {g : TDG} {tb : TDS} {D : DEnds} (mk : α → PyData) (J : En → Prop) : ∀ (l : List α) (E : En), J E →
    (∀ a ∈ l, ∀ E, J E → ∀ C : En → Prop, (∀ E', J E' → C E') → g (mk a) E fun E2 => tb { D with nx := C, ct := C, bk := D.nx } E2) → (∀ E, J E → D.nx E) → forGo g tb D (l.map mk) E
  | [], E, h0, _, hd => hd E h0
  | a :: l, E, h0, hs, hd => hs a (List.mem_cons_self ..) E h0 _ fun E' h' => for_each mk J l E' h' (fun b hb => hs b (List.mem_cons_of_mem _ hb)) hd
theorem mem_zipIdx {α : Type} {l : List α} {p : α × Nat} (h : p ∈ l.zipIdx) : l[p.2]? = some p.1 := by
  have := List.mem_zipIdx h
  rw [List.getElem?_eq_some_iff]
  have h2 : p.2 < l.length := by simpa using this.2.1
  exact ⟨h2, by simpa using this.2.2.symm⟩
theorem numD_map {α : Type} (mk : α → PyData) (l : List α) : numD (l.map mk) = l.zipIdx.map fun p => .tuple [.int (p.2 : Int), mk p.1] := by
  unfold numD
  rw [List.zipIdx_map, List.map_map]
  rfl
/-- a text in a list of texts -/
theorem toV_strs (l : List Str) : (sL l).map K22.toV = l.map V.str := by rw [List.map_map]; rfl
theorem inD_str (x : Str) (l : List Str) : inD (.str x) (sL l) = decide (x ∈ l) := by
  unfold inD
  rw [toV_strs]
  unfold L2.inV
  rw [List.any_map]
  have e : ((fun y => eqV y (K22.toV (.str x))) ∘ V.str) = fun y => decide (y = x) := by
    funext y
    show (y == x) = decide (y = x)
    by_cases c : y = x
    · rw [c]; simp
    · rw [decide_eq_false c]; exact beq_eq_false_iff_ne.mpr c
  rw [e]
  by_cases c : x ∈ l
  · rw [decide_eq_true c]; exact List.any_eq_true.mpr ⟨x, c, by simp⟩
  · rw [decide_eq_false c]
    exact List.any_eq_false.mpr fun y hy => by simpa using fun z => c (by rw [← z]; exact hy)
def R_plan_wrong : RP := fun ds P => ∃ p : Plan, ds = [planD p] ∧ PlanOk p ∧ P .none
theorem m_plan_wrong : MonoP R_plan_wrong := fun ds P P' w ⟨s, e, h1, h⟩ => ⟨s, e, h1, w _ h⟩
theorem nd_take {p : Plan} {k : Nat} {s : Sort'} (nd : (p.map (·.1)).Nodup) (h : p[k]? = some s) : s.1 ∉ (p.take k).map (·.1) := by
  intro hm
  obtain ⟨t, ht, e⟩ := List.mem_map.mp hm
  obtain ⟨j, hj⟩ := List.mem_iff_getElem?.mp ht
  rw [List.getElem?_take] at hj
  split at hj
  · rename_i hlt
    obtain ⟨hk, ek⟩ := List.getElem?_eq_some_iff.mp h
    obtain ⟨hj', ej⟩ := List.getElem?_eq_some_iff.mp hj
    have := (List.getElem_inj (i := j) (j := k) (h₀ := by simpa using hj') (h₁ := by simpa using hk) nd).mp (by simp [ek, ej, e])
    omega
  · cases hj
theorem r_plan_wrong (ds : List PyData) (Q : PyData → Prop) (hl : ds.length = 1) (h : R_plan_wrong ds Q) : t_plan_wrong R_is_sort (endP Q) (enP N_plan_wrong.length ds) := by
  obtain ⟨p, rfl, hp, h⟩ := h
  have l1 : (p.map sortD).length = p.length := List.length_map _
  have hlo := hp.lo
  have hhi := hp.hi
  refine ite_t (show decide ((1 : Int) ≤ ((p.map sortD).length : Int)) = true from decide_eq_true (by rw [l1]; omega)) (ite_n (show decide (((p.map sortD).length : Int) ≤ (4 : Int)) = true from decide_eq_true (by rw [l1]; omega)) ⟨by rw [l1]; omega, ?_⟩)
  rw [numD_map]
  refine for_each _ (fun E => ∃ s1 s2 : Sl, E = ⟨[.dat (planD p), s1, s2, .no], 0⟩) _ _ ⟨.no, .no, rfl⟩ ?_ ?_
  · rintro ⟨s, i⟩ hm E ⟨s1, s2, rfl⟩ C hC
    have hs := List.mem_of_getElem? (mem_zipIdx hm)
    exact ⟨rfl, rfl, rfl, s, rfl, hp.so s hs, hC _ ⟨_, _, rfl⟩⟩
  · rintro E ⟨s1, s2, rfl⟩
    refine ⟨by rw [l1]; omega, ?_⟩
    rw [numD_map]
    refine for_each _ (fun E => ∃ s1 s2 : Sl, E = ⟨[.dat (planD p), s1, s2, .no], 0⟩) _ _ ⟨s1, s2, rfl⟩ ?_ ?_
    · rintro ⟨s, i⟩ hm E ⟨s1, s2, rfl⟩ C hC
      have hs := mem_zipIdx hm
      have hlen : (List.take i (p.map sortD)).length ≤ 1000000 := by rw [List.length_take, l1]; omega
      refine ⟨rfl, rfl, Int.natCast_nonneg i, hlen, rfl, ?_⟩
      show lcGo _ _ _ _ _ _ ((p.map sortD).take i) _ _
      rw [← List.map_take]
      refine lc_map sortD (fun s => .str s.1) _ [] (fun s hs C hC => ⟨rfl, hC⟩) ?_
      refine ⟨rfl, scal_map _ (fun _ => rfl), ?_⟩
      have e : inD (.str s.1) ([] ++ (p.take i).map fun s => .str s.1) = false := by
        have := inD_str s.1 ((p.take i).map (·.1))
        rw [sL, List.map_map] at this
        rw [List.nil_append]
        exact this.trans (decide_eq_false (nd_take hp.nd hs))
      exact ite_f e (hC _ ⟨_, _, rfl⟩)
    · rintro E ⟨s1, s2, rfl⟩
      exact h
def R_must_be_plan : RP := fun ds P => ∃ p : Plan, ds = [planD p] ∧ PlanOk p ∧ P .none
theorem m_must_be_plan : MonoP R_must_be_plan := fun ds P P' w ⟨s, e, h1, h⟩ => ⟨s, e, h1, w _ h⟩
theorem r_must_be_plan (ds : List PyData) (Q : PyData → Prop) (hl : ds.length = 1) (h : R_must_be_plan ds Q) : t_must_be_plan R_plan_wrong (endP Q) (enP N_must_be_plan.length ds) := by
  obtain ⟨p, rfl, hp, h⟩ := h
  exact ⟨rfl, p, rfl, hp, rfl, h⟩
def R_is_sort_number : RP := fun ds P => ∃ (p : Plan) (k : Nat), ds = [planD p, .int k] ∧ k < p.length ∧ P (.bool true)
theorem m_is_sort_number : MonoP R_is_sort_number := fun ds P P' w ⟨s, k, e, h1, h⟩ => ⟨s, k, e, h1, w _ h⟩
theorem r_is_sort_number (ds : List PyData) (Q : PyData → Prop) (hl : ds.length = 2) (h : R_is_sort_number ds Q) : t_is_sort_number R_is_whole (endP Q) (enP N_is_sort_number.length ds) := by
  obtain ⟨p, k, rfl, hk, h⟩ := h
  have l1 : (p.map sortD).length = p.length := List.length_map _
  have e2 : decide ((k : Int) < ((p.map sortD).length : Int)) = true := decide_eq_true (by rw [l1]; omega)
  refine ⟨rfl, k, rfl, ?_⟩
  show Q (.bool (decide ((k : Int) < ((p.map sortD).length : Int))))
  rw [e2]
  exact h
end K22

set_option Elab.async false
set_option linter.all false
set_option maxRecDepth 100000
set_option maxHeartbeats 6400000
/-! P3: tables. -/
namespace K22
open PySem PySem.Spec PyProof.Rows L2
def rD (b : Nat) (g : Nat → Int) : PyData := .list ((List.range b).map fun k => .int (g k))
def mD (a b : Nat) (f : Nat → Nat → Int) : PyData := .list ((List.range a).map fun i => rD b (f i))
def sm (n : Nat) (g : Nat → Int) : Int := ((List.range n).map g).sum
def tabD (r c : List Str) (f : Nat → Nat → Int) : PyData := .tuple [.list (sL r), .list (sL c), mD r.length c.length f]
structure TabOk (r c : List Str) (f : Nat → Nat → Int) : Prop where
  hr : Codes 1 6 r
  hc : Codes 1 6 c
  lo : ∀ i k, i < r.length → k < c.length → 0 ≤ f i k
  hi : ∀ i k, i < r.length → k < c.length → f i k ≤ 1000000000
theorem rD_len (b : Nat) (g : Nat → Int) : ((List.range b).map fun k => PyData.int (g k)).length = b := by simp
theorem mD_len (a b : Nat) (f : Nat → Nat → Int) : ((List.range a).map fun i => rD b (f i)).length = a := by simp
theorem rD_ints (b : Nat) (g : Nat → Int) : rD b g = .list (((List.range b).map g).map .int) := by unfold rD; rw [List.map_map]; rfl
theorem rD_congr {b : Nat} {g h : Nat → Int} (e : ∀ k, k < b → g k = h k) : rD b g = rD b h := by
  unfold rD
  congr 1
  exact List.map_congr_left fun k hk => by rw [e k (List.mem_range.mp hk)]
theorem mD_congr {a b : Nat} {f h : Nat → Nat → Int} (e : ∀ i k, i < a → k < b → f i k = h i k) : mD a b f = mD a b h := by
  unfold mD
  congr 1
  exact List.map_congr_left fun i hi => rD_congr fun k hk => e i k (List.mem_range.mp hi) hk
theorem atI_range {α : Type} {n : Nat} {g : Nat → α} {k : Nat} (h : k < n) : atI ((List.range n).map g) (k : Int) = some (g k) := by
  refine atI_nat ?_
  rw [List.getElem?_map, List.getElem?_range h]
  rfl
/-- x[k], x a list: what stands there -/
theorem ix_list {l : List PyData} {k : Int} {d : PyData} {P : PyData → Prop} (h : atI l k = some d) (p : P d) : oIx (.list l) (.int k) P := by
  show match atI l k with | some d => P d | none => False
  rw [h]; exact p
theorem ix_tup {l : List PyData} {k : Int} {d : PyData} {P : PyData → Prop} (h : atI l k = some d) (p : P d) : oIx (.tuple l) (.int k) P := by
  show match atI l k with | some d => P d | none => False
  rw [h]; exact p
def R_are_labels : RP := fun ds P => ∃ r : List Str, ds = [.list (sL r)] ∧ Codes 1 6 r ∧ P (.bool true)
theorem m_are_labels : MonoP R_are_labels := fun ds P P' w ⟨r, e, h1, h⟩ => ⟨r, e, h1, w _ h⟩
theorem r_are_labels (ds : List PyData) (Q : PyData → Prop) (hl : ds.length = 1) (h : R_are_labels ds Q) : t_are_labels R_are_unlike_codes (endP Q) (enP N_are_labels.length ds) := by
  obtain ⟨r, rfl, hr, h⟩ := h
  exact ⟨rfl, r, 1, 6, .inl rfl, hr, by decide, h⟩
def R_is_cell : RP := fun ds P => ∃ n : Int, ds = [.int n] ∧ 0 ≤ n ∧ n ≤ 1000000000 ∧ P (.bool true)
theorem m_is_cell : MonoP R_is_cell := fun ds P P' w ⟨r, e, h1, h2, h⟩ => ⟨r, e, h1, h2, w _ h⟩
theorem r_is_cell (ds : List PyData) (Q : PyData → Prop) (hl : ds.length = 1) (h : R_is_cell ds Q) : t_is_cell R_is_whole (endP Q) (enP N_is_cell.length ds) := by
  obtain ⟨n, rfl, h0, h1, h⟩ := h
  have e : decide (n ≤ 1000000000) = true := decide_eq_true h1
  refine ⟨rfl, n, rfl, ?_⟩
  have g : (fun c => if c = true then dChain oLe oLe (dC (.int 0)) (dVar 0) (dC (.int 1000000000)) (enP N_is_cell.length [.int n]).rel (fun d E1 => Q d) else Q (.bool false)) true := by
    show dChain oLe oLe (dC (.int 0)) (dVar 0) (dC (.int 1000000000)) (enP N_is_cell.length [.int n]).rel (fun d E1 => Q d)
    refine ite_t (show decide ((0 : Int) ≤ n) = true from decide_eq_true h0) ?_
    show Q (.bool (decide (n ≤ 1000000000)))
    rw [e]
    exact h
  exact g
/-- of enumerate -/
def R_table_wrong : RP := fun ds P => ∃ r c f, ds = [tabD r c f] ∧ TabOk r c f ∧ P .none
theorem m_table_wrong : MonoP R_table_wrong := fun ds P P' w ⟨r, c, f, e, h1, h⟩ => ⟨r, c, f, e, h1, w _ h⟩
theorem neI {i j : Int} (h : i = j) : (!PyData.eqv (.int i) (.int j)) = false := by rw [h, eqvI]; rfl
theorem r_table_wrong (ds : List PyData) (Q : PyData → Prop) (hl : ds.length = 1) (h : R_table_wrong ds Q) : t_table_wrong R_are_labels R_is_cell (endP Q) (enP N_table_wrong.length ds) := by
  obtain ⟨r, c, f, rfl, hT, h⟩ := h
  refine ⟨rfl, rfl, ?_⟩
  refine ⟨rfl, rfl, rfl, r, rfl, hT.hr, rfl, c, rfl, hT.hc, rfl, rfl, ?_⟩
  refine ite_f (neI (i := (((List.range r.length).map fun i => rD c.length (f i)).length : Int)) (j := ((sL r).length : Int)) (by rw [mD_len]; simp)) ?_
  show forGo _ _ _ (numD ((List.range r.length).map fun i => rD c.length (f i))) _
  rw [numD_map]
  refine for_each _ (fun E => ∃ s4 s5 : Sl, E = ⟨[.dat (tabD r c f), .dat (.list (sL r)), .dat (.list (sL c)), .dat (mD r.length c.length f), s4, s5, .no, .no], 0⟩) _ _ ⟨.no, .no, rfl⟩ ?_ ?_
  · rintro ⟨i, j⟩ hm E ⟨s4, s5, rfl⟩ C hC
    refine ⟨rfl, rfl, rfl, rfl, ite_f (neI (by rw [rD_len]; simp)) (hC _ ⟨_, _, rfl⟩)⟩
  · rintro E ⟨s4, s5, rfl⟩
    show forGo _ _ _ (numD ((List.range r.length).map fun i => rD c.length (f i))) _
    rw [numD_map]
    refine for_each _ (fun E => ∃ s4 s5 s6 s7 : Sl, E = ⟨[.dat (tabD r c f), .dat (.list (sL r)), .dat (.list (sL c)), .dat (mD r.length c.length f), s4, s5, s6, s7], 0⟩) _ _ ⟨s4, s5, .no, .no, rfl⟩ ?_ ?_
    · rintro ⟨i, j⟩ hm E ⟨s4, s5, s6, s7, rfl⟩ C hC
      have hi : i < r.length := by
        have := List.mem_of_getElem? (mem_zipIdx hm)
        exact List.mem_range.mp this
      refine ⟨rfl, rfl, ?_⟩
      show forGo _ _ _ (numD ((List.range c.length).map fun k => .int (f i k))) _
      rw [numD_map]
      refine for_each _ (fun E => ∃ s4 s5 s6 s7 : Sl, E = ⟨[.dat (tabD r c f), .dat (.list (sL r)), .dat (.list (sL c)), .dat (mD r.length c.length f), s4, s5, s6, s7], 0⟩) _ _ ⟨_, _, s6, s7, rfl⟩ ?_ ?_
      · rintro ⟨k, l⟩ hm2 E ⟨s4, s5, s6, s7, rfl⟩ C2 hC2
        have hk : k < c.length := by
          have := List.mem_of_getElem? (mem_zipIdx hm2)
          exact List.mem_range.mp this
        exact ⟨rfl, rfl, rfl, f i k, rfl, hT.lo i k hi hk, hT.hi i k hi hk, hC2 _ ⟨_, _, _, _, rfl⟩⟩
      · rintro E ⟨s4, s5, s6, s7, rfl⟩
        exact hC _ ⟨_, _, _, _, rfl⟩
    · rintro E ⟨s4, s5, s6, s7, rfl⟩
      exact h
def R_must_be_table : RP := fun ds P => ∃ r c f, ds = [tabD r c f] ∧ TabOk r c f ∧ P .none
theorem m_must_be_table : MonoP R_must_be_table := fun ds P P' w ⟨r, c, f, e, h1, h⟩ => ⟨r, c, f, e, h1, w _ h⟩
theorem r_must_be_table (ds : List PyData) (Q : PyData → Prop) (hl : ds.length = 1) (h : R_must_be_table ds Q) : t_must_be_table R_table_wrong (endP Q) (enP N_must_be_table.length ds) := by
  obtain ⟨r, c, f, rfl, hp, h⟩ := h
  exact ⟨rfl, r, c, f, rfl, hp, rfl, h⟩
def R_turned_cells : RP := fun ds P => ∃ a b f, ds = [mD a b f] ∧ 1 ≤ a ∧ b ≤ 1000 ∧ P (mD b a fun k i => f i k)
theorem m_turned_cells : MonoP R_turned_cells := fun ds P P' w ⟨a, b, f, e, h1, h2, h⟩ => ⟨a, b, f, e, h1, h2, w _ h⟩
theorem r_turned_cells (ds : List PyData) (Q : PyData → Prop) (hl : ds.length = 1) (h : R_turned_cells ds Q) : t_turned_cells (endF Q) (enP N_turned_cells.length ds) := by
  obtain ⟨a, b, f, rfl, ha, hb, h⟩ := h
  refine ix_list (k := 0) (atI_range (k := 0) ha) ?_
  refine ⟨by rw [rD_len]; omega, by rw [rD_len]; omega, rfl, ?_⟩
  have e : ((((List.range b).map fun k => PyData.int (f 0 k)).length : Int)).toNat = b := by rw [rD_len]; simp
  rw [e]
  refine lc_map (fun k : Nat => .int (k : Int)) (fun k => rD a (fun i => f i k)) _ [] (fun k hk C hC => ⟨rfl, ?_⟩) h
  refine lc_map (fun i => rD b (f i)) (fun i => .int (f i k)) _ [] (fun i hi C2 hC2 => ?_) ⟨rfl, hC⟩
  exact ix_list (atI_range (List.mem_range.mp hk)) ⟨rfl, rfl, hC2⟩
def R_law_about : RP := R_turned_cells
theorem m_law_about : MonoP R_law_about := m_turned_cells
theorem r_law_about (ds : List PyData) (Q : PyData → Prop) (hl : ds.length = 1) (h : R_law_about ds Q) : t_law_about (endP Q) (enP N_law_about.length ds) := by
  obtain ⟨a, b, f, rfl, ha, hb, h⟩ := h
  refine ix_list (k := 0) (atI_range (k := 0) ha) ?_
  refine ⟨by rw [rD_len]; omega, by rw [rD_len]; omega, rfl, ?_⟩
  have e : ((((List.range b).map fun k => PyData.int (f 0 k)).length : Int)).toNat = b := by rw [rD_len]; simp
  rw [e]
  refine lc_map (fun k : Nat => .int (k : Int)) (fun k => rD a (fun i => f i k)) _ [] (fun k hk C hC => ⟨rfl, ?_⟩) h
  refine lc_map (fun i => rD b (f i)) (fun i => .int (f i k)) _ [] (fun i hi C2 hC2 => ?_) ⟨rfl, hC⟩
  exact ix_list (atI_range (List.mem_range.mp hk)) ⟨rfl, hC2⟩
theorem sum_rD {b : Nat} {g : Nat → Int} {P : PyData → Prop} (h : P (.int (sm b g))) : cSum [rD b g] P := ⟨(List.range b).map g, by rw [rD_ints], h⟩
theorem one_eq {a b : PyData} (h : a = b) : [a] = [b] := by rw [h]
def R_totals : RP := fun ds P => ∃ r c f, ds = [tabD r c f] ∧ TabOk r c f ∧ P (.tuple [rD r.length fun i => sm c.length (f i), rD c.length fun k => sm r.length fun i => f i k, .int (sm r.length fun i => sm c.length (f i))])
theorem m_totals : MonoP R_totals := fun ds P P' w ⟨r, c, f, e, h1, h⟩ => ⟨r, c, f, e, h1, w _ h⟩
theorem r_totals (ds : List PyData) (Q : PyData → Prop) (hl : ds.length = 1) (h : R_totals ds Q) : t_totals R_must_be_table R_turned_cells (endP Q) (enP N_totals.length ds) := by
  obtain ⟨r, c, f, rfl, hT, h⟩ := h
  refine ⟨rfl, r, c, f, rfl, hT, rfl, ?_⟩
  refine lc_map (fun i => rD c.length (f i)) (fun i => .int (sm c.length (f i))) _ [] (fun i hi C hC => ⟨_, one_eq (rD_ints _ _), rfl, hC⟩) ?_
  refine ⟨rfl, r.length, c.length, f, rfl, hT.hr.lo, by have := hT.hc.hi; omega, rfl, ?_⟩
  refine lc_map (fun k => rD r.length fun i => f i k) (fun k => .int (sm r.length fun i => f i k)) _ [] (fun i hi C hC => ⟨_, one_eq (rD_ints _ _), rfl, hC⟩) ?_
  exact ⟨_, one_eq (rD_ints r.length fun i => sm c.length (f i)), by show 3 ≤ sizeLine; decide, h⟩
def R_turned_table : RP := fun ds P => ∃ r c f, ds = [tabD r c f] ∧ TabOk r c f ∧ P (tabD c r fun k i => f i k)
theorem m_turned_table : MonoP R_turned_table := fun ds P P' w ⟨r, c, f, e, h1, h⟩ => ⟨r, c, f, e, h1, w _ h⟩
theorem r_turned_table (ds : List PyData) (Q : PyData → Prop) (hl : ds.length = 1) (h : R_turned_table ds Q) : t_turned_table R_must_be_table R_turned_cells (endP Q) (enP N_turned_table.length ds) := by
  obtain ⟨r, c, f, rfl, hT, h⟩ := h
  exact ⟨rfl, r, c, f, rfl, hT, rfl, r.length, c.length, f, rfl, hT.hr.lo, by have := hT.hc.hi; omega, by show 3 ≤ sizeLine; decide, h⟩
end K22

set_option Elab.async false
set_option linter.all false
set_option maxRecDepth 100000
set_option maxHeartbeats 6400000
/-! P4: tables added, put together. -/
namespace K22
open PySem PySem.Spec PyProof.Rows L2
/-! ### what may be compared -/
def Lay (n : Nat) (d : PyData) : Prop := d.canLay0 = true ∧ d.depth ≤ n
theorem lay_all {n : Nat} : ∀ {l : List PyData}, (∀ d ∈ l, Lay n d) → PyData.canLayAll0 l = true ∧ PyData.depthAll l ≤ n
  | [], _ => ⟨by simp [PyData.canLayAll0], by simp [PyData.depthAll]⟩
  | d :: l, h => by
    have h1 := h d (List.mem_cons_self ..)
    have h2 := lay_all (l := l) fun e he => h e (List.mem_cons_of_mem _ he)
    refine ⟨by simp [PyData.canLayAll0, h1.1, h2.1], ?_⟩
    simp only [PyData.depthAll]
    exact Nat.max_le.mpr ⟨h1.2, h2.2⟩
theorem lay_list {n : Nat} {l : List PyData} (h : ∀ d ∈ l, Lay n d) : Lay (n + 1) (.list l) := by
  have := lay_all h
  exact ⟨by simp [PyData.canLay0, this.1], by simp only [PyData.depth]; omega⟩
theorem lay_tup {n : Nat} {l : List PyData} (h : ∀ d ∈ l, Lay n d) : Lay (n + 1) (.tuple l) := by
  have := lay_all h
  exact ⟨by simp [PyData.canLay0, this.1], by simp only [PyData.depth]; omega⟩
theorem lay_int {n : Nat} (i : Int) : Lay n (.int i) := ⟨by simp [PyData.canLay0], by simp [PyData.depth]⟩
theorem lay_none {n : Nat} : Lay n .none := ⟨by simp [PyData.canLay0], by simp [PyData.depth]⟩
theorem lay_str {n m : Nat} {s : Str} (h : Word m s) (hm : m ≤ 8) : Lay n (.str s) := by
  refine ⟨?_, by simp [PyData.depth]⟩
  simp only [PyData.canLay0]
  unfold PyData.strOk
  rw [Array.all_eq_true']
  intro c hc
  have h1 : ∀ c ∈ small.cps.toList, c < 0x110000 := by decide +kernel
  exact decide_eq_true (h1 c (h.sm c (by simpa using hc)))
theorem Lay.up {n m : Nat} {d : PyData} (h : Lay n d) (l : n ≤ m) : Lay m d := ⟨h.1, Nat.le_trans h.2 l⟩
theorem Lay.sh {n : Nat} {d : PyData} (h : Lay n d) (l : n ≤ 64 := by decide) : SeqAt.shaped d = true := by
  unfold SeqAt.shaped
  rw [h.1, decide_eq_true (Nat.le_trans h.2 l)]
  rfl
theorem Lay.refl {n : Nat} {d : PyData} (h : Lay n d) : PyData.eqv d d = true := SeqAt.eqv_refl d h.1
theorem lay_map {α : Type} {n : Nat} {l : List α} {f : α → PyData} (h : ∀ a ∈ l, Lay n (f a)) : Lay (n + 1) (.list (l.map f)) := lay_list fun d hd => by
  obtain ⟨a, ha, rfl⟩ := List.mem_map.mp hd
  exact h a ha
theorem lay_sL {r : List Str} (h : ∀ x ∈ r, Word 4 x) : Lay 1 (.list (sL r)) := lay_map fun x hx => lay_str (h x hx) (by decide)
theorem lay_mD (a b : Nat) (f : Nat → Nat → Int) : Lay 2 (mD a b f) := lay_map fun i _ => lay_map fun k _ => lay_int _
theorem lay_rD (b : Nat) (f : Nat → Int) : Lay 1 (rD b f) := lay_map fun k _ => lay_int _
theorem lay_tabD {r c : List Str} (f : Nat → Nat → Int) (hr : ∀ x ∈ r, Word 4 x) (hc : ∀ x ∈ c, Word 4 x) : Lay 3 (tabD r c f) := lay_tup fun d hd => by
  have e : d = .list (sL r) ∨ d = .list (sL c) ∨ d = mD r.length c.length f := by simpa using hd
  rcases e with rfl | rfl | rfl
  · exact (lay_sL hr).up (by decide)
  · exact (lay_sL hc).up (by decide)
  · exact lay_mD _ _ _
/-! ### the greatest -/
theorem exists_max : ∀ {ns : List Int}, ns ≠ [] → ∃ m, m ∈ ns ∧ ∀ y ∈ ns, y ≤ m
  | [], h => absurd rfl h
  | [x], _ => ⟨x, by simp, by simp⟩
  | x :: y :: r, _ => by
    obtain ⟨m, h1, h2⟩ := exists_max (ns := y :: r) (by simp)
    by_cases c : x ≤ m
    · refine ⟨m, List.mem_cons_of_mem _ h1, fun z hz => ?_⟩
      rcases List.mem_cons.mp hz with rfl | hz
      · exact c
      · exact h2 z hz
    · refine ⟨x, List.mem_cons_self .., fun z hz => ?_⟩
      rcases List.mem_cons.mp hz with rfl | hz
      · exact Int.le_refl _
      · have := h2 z hz; omega
noncomputable def mx (ns : List Int) : Int := open Classical in if h : ns ≠ [] then Classical.choose (exists_max h) else 0
theorem mx_spec {ns : List Int} (h : ns ≠ []) : mx ns ∈ ns ∧ ∀ y ∈ ns, y ≤ mx ns := by
  unfold mx
  rw [dif_pos h]
  exact Classical.choose_spec (exists_max h)
theorem mx_eq {ns : List Int} {m : Int} (h1 : m ∈ ns) (h2 : ∀ y, y ∈ ns → y ≤ m) : m = mx ns := by
  have hn : ns ≠ [] := fun z => by rw [z] at h1; cases h1
  have := mx_spec hn
  exact Int.le_antisymm (this.2 m h1) (h2 _ this.1)
def R_fitted_cells : RP := fun ds P => ∃ a b f, ds = [mD a b f] ∧ 1 ≤ a ∧ 1 ≤ b ∧ (∀ i k, i < a → k < b → f i k ≤ 1000000000) ∧ P (mD a b f)
theorem m_fitted_cells : MonoP R_fitted_cells := fun ds P P' w ⟨a, b, f, e, h1, h2, h3, h⟩ => ⟨a, b, f, e, h1, h2, h3, w _ h⟩
theorem r_fitted_cells (ds : List PyData) (Q : PyData → Prop) (hl : ds.length = 1) (h : R_fitted_cells ds Q) : t_fitted_cells (endP Q) (enP N_fitted_cells.length ds) := by
  obtain ⟨a, b, f, rfl, ha, hb, hf, h⟩ := h
  refine ⟨rfl, lc_map (fun i => rD b (f i)) (fun i => .int (mx ((List.range b).map (f i)))) _ [] (fun i hi C hC => ⟨(List.range b).map (f i), one_eq (rD_ints _ _), by simp; omega, fun m m1 m2 => ⟨rfl, ?_⟩⟩) ?_⟩
  · rw [mx_eq m1 m2]; exact hC
  · refine ⟨(List.range a).map fun i => mx ((List.range b).map (f i)), by rw [List.map_map]; rfl, by simp; omega, fun m m1 m2 => ?_⟩
    obtain ⟨i, hi, rfl⟩ := List.mem_map.mp m1
    have hne : (List.range b).map (f i) ≠ [] := by
      intro z
      have := congrArg List.length z
      simp at this
      omega
    obtain ⟨k, hk, e⟩ := List.mem_map.mp (mx_spec hne).1
    have hle := hf i k (List.mem_range.mp hi) (List.mem_range.mp hk)
    rw [← e]
    exact ite_f (show decide ((1000000000 : Int) < f i k) = false from decide_eq_false (by omega)) h
/-! ### added -/
theorem for_acc {α β : Type} {g : TDG} {tb : TDS} {D : DEnds} (mk : α → PyData) (J : β → En → Prop) (step : β → α → β) : ∀ (l : List α) (b : β) (E : En), J b E →
    (∀ a ∈ l, ∀ b E, J b E → ∀ C : En → Prop, (∀ E', J (step b a) E' → C E') → g (mk a) E fun E2 => tb { D with nx := C, ct := C, bk := D.nx } E2) → (∀ E, J (l.foldl step b) E → D.nx E) → forGo g tb D (l.map mk) E
  | [], b, E, h0, _, hd => hd E h0
  | a :: l, b, E, h0, hs, hd => hs a (List.mem_cons_self ..) b E h0 _ fun E' h' => for_acc mk J step l (step b a) E' h' (fun c hc => hs c (List.mem_cons_of_mem _ hc)) hd
theorem pairD_range {n : Nat} (u v : Nat → PyData) : pairD ((List.range n).map u) ((List.range n).map v) = (List.range n).map fun i => .tuple [u i, v i] := by
  apply List.ext_getElem
  · simp [pairD]
  · intro i h1 h2
    simp [pairD]
theorem at0 {α : Type} (x : α) (l : List α) : atI (x :: l) 0 = some x := atI_nat (j := 0) rfl
theorem foldl_pt {α : Type} (fs : List α) (h : α → Nat → Nat → Int) (g : Nat → Nat → Int) : fs.foldl (fun g a => fun i k => g i k + h a i k) g = fun i k => g i k + (fs.map fun a => h a i k).sum := by
  induction fs generalizing g with
  | nil => funext i k; simp
  | cons a fs ih =>
    rw [List.foldl_cons, ih]
    funext i k
    simp only [List.map_cons, List.sum_cons]
    omega
def R_added : RP := fun ds P => ∃ (r c : List Str) (fs : List (Nat → Nat → Int)), ds = [.list (fs.map (tabD r c))] ∧ 1 ≤ fs.length ∧ fs.length ≤ 6 ∧ (∀ f ∈ fs, TabOk r c f) ∧ (∀ i k, i < r.length → k < c.length → (fs.map fun f => f i k).sum ≤ 1000000000) ∧
  P (tabD r c fun i k => (fs.map fun f => f i k).sum)
theorem m_added : MonoP R_added := fun ds P P' w ⟨r, c, fs, e, h1, h2, h3, h4, h⟩ => ⟨r, c, fs, e, h1, h2, h3, h4, w _ h⟩
theorem r_added (ds : List PyData) (Q : PyData → Prop) (hl : ds.length = 1) (h : R_added ds Q) : t_added R_table_wrong R_fitted_cells (endF Q) (enP N_added.length ds) := by
  obtain ⟨r, c, fs, rfl, h1, h2, h3, h4, h⟩ := h
  have l1 : (fs.map (tabD r c)).length = fs.length := List.length_map _
  refine ite_t (show decide ((1 : Int) ≤ ((fs.map (tabD r c)).length : Int)) = true from decide_eq_true (by rw [l1]; omega)) (ite_n (show decide (((fs.map (tabD r c)).length : Int) ≤ (6 : Int)) = true from decide_eq_true (by rw [l1]; omega)) ?_)
  refine ⟨rfl, lc_map (tabD r c) (fun _ => .bool true) _ [] (fun f hf C hC => ⟨rfl, r, c, f, rfl, h3 f hf, rfl, rfl, hC⟩) ⟨_, all_eq fs, ite_n (all_tt fs) ?_⟩⟩
  obtain ⟨f0, hf0⟩ : ∃ f0, fs[0]? = some f0 := ⟨fs[0]'(by omega), List.getElem?_eq_getElem (by omega)⟩
  have ha0 : atI (fs.map (tabD r c)) 0 = some (tabD r c f0) := atI_nat (j := 0) (by rw [List.getElem?_map, hf0]; rfl)
  have hT0 := h3 f0 (List.mem_of_getElem? hf0)
  have hrl := hT0.hr.lo
  have hcl := hT0.hc.lo
  have lay2 : Lay 2 (.tuple [.list (sL r), .list (sL c)]) := lay_tup fun d hd => by
    have e : d = .list (sL r) ∨ d = .list (sL c) := by simpa using hd
    rcases e with rfl | rfl
    · exact lay_sL hT0.hr.wd
    · exact lay_sL hT0.hc.wd
  have e2 : PyData.eqv (.tuple [.list (sL r), .list (sL c)]) (.tuple [.list (sL r), .list (sL c)]) = true := lay2.refl
  refine ix_list (k := 0) (d := tabD r c f0) ha0 ⟨rfl, rfl, rfl, lc_map (tabD r c) (fun _ => .bool true) _ [] (fun f hf C hC => ⟨by decide, two_len, lay2.sh, lay2.sh, rfl, ?_⟩) ⟨_, all_eq fs, ite_n (all_tt fs) ?_⟩⟩
  · show C (some (.bool (PyData.eqv (.tuple [.list (sL r), .list (sL c)]) (.tuple [.list (sL r), .list (sL c)])))) 0
    rw [e2]; exact hC
  · refine ⟨rfl, lc_map (fun i => rD c.length (f0 i)) (fun i => rD c.length fun _ => 0) _ [] (fun i hi C hC => ⟨rfl, lc_map (fun k => .int (f0 i k)) (fun _ => .int 0) _ [] (fun k hk C2 hC2 => ⟨rfl, rfl, hC2⟩) ⟨rfl, hC⟩⟩) ?_⟩
    show forGo (dgName 2) _ _ (fs.map (tabD r c)) ⟨[.dat (.list (fs.map (tabD r c))), .gen (mD r.length c.length fun _ _ => 0), .no, .dat (.list (sL r)), .dat (.list (sL c)), .dat (mD r.length c.length f0), .no, .no, .no, .no, .no], 0⟩
    refine for_acc (tabD r c) (fun g E => ∃ s2, E = ⟨[.dat (.list (fs.map (tabD r c))), .gen (mD r.length c.length g), s2, .dat (.list (sL r)), .dat (.list (sL c)), .dat (mD r.length c.length f0), .no, .no, .no, .no, .no], 0⟩) (fun g f => fun i k => g i k + f i k) fs (fun _ _ => 0) _ ⟨.no, rfl⟩ ?_ ?_
    · rintro f hf g E ⟨s2, rfl⟩ C hC
      refine ⟨rfl, ?_⟩
      show lcGo _ _ _ _ _ _ (pairD ((List.range r.length).map fun i => rD c.length (g i)) ((List.range r.length).map fun i => rD c.length (f i))) _ _
      rw [pairD_range]
      refine lc_map _ (fun i => rD c.length fun k => g i k + f i k) _ [] (fun i hi C2 hC2 => ?_) (hC _ ⟨_, rfl⟩)
      refine ⟨rfl, rfl, by rw [rD_len, rD_len], rfl, ?_⟩
      show lcGo _ _ _ _ _ _ (pairD ((List.range c.length).map fun k => .int (g i k)) ((List.range c.length).map fun k => .int (f i k))) _ _
      rw [pairD_range]
      exact lc_map _ (fun k => .int (g i k + f i k)) _ [] (fun k hk C3 hC3 => ⟨rfl, rfl, rfl, rfl, hC3⟩) ⟨rfl, hC2⟩
    · rintro E ⟨s2, rfl⟩
      have sc : ∀ l : List Str, (sL l).all scal = true := fun l => scal_map l (fun _ => rfl)
      rw [foldl_pt fs (fun f i k => f i k)]
      have e3 : (fun i k => (0 : Int) + (fs.map fun f => f i k).sum) = fun i k => (fs.map fun f => f i k).sum := by funext i k; omega
      rw [e3]
      exact ⟨sc r, sc c, rfl, r.length, c.length, _, rfl, hrl, hcl, h4, by show 3 ≤ sizeLine; decide, h⟩
end K22

set_option Elab.async false
set_option linter.all false
set_option maxRecDepth 100000
set_option maxHeartbeats 6400000
/-! P5: lots. -/
namespace K22
open PySem PySem.Spec PyProof.Rows L2
def lotD (l : List Nat) : PyData := .list (l.map fun i : Nat => .int (i : Int))
def lotsD (L : List (List Nat)) : PyData := .list (L.map lotD)
structure Lots (n : Nat) (L : List (List Nat)) : Prop where
  ne : ∀ l ∈ L, l ≠ []
  pm : L.flatten.Perm (List.range n)
theorem Lots.lt {n : Nat} {L : List (List Nat)} (h : Lots n L) {l : List Nat} (hl : l ∈ L) {i : Nat} (hi : i ∈ l) : i < n :=
  List.mem_range.mp (h.pm.subset (List.mem_flatten.mpr ⟨l, hl, hi⟩))
theorem len_flat : ∀ {L : List (List Nat)}, (∀ l ∈ L, l ≠ []) → L.length ≤ L.flatten.length
  | [], _ => Nat.le_refl _
  | l :: L, h => by
    have h1 : l ≠ [] := h l (List.mem_cons_self ..)
    have h2 := len_flat (L := L) fun m hm => h m (List.mem_cons_of_mem _ hm)
    have h3 : 0 < l.length := List.length_pos_iff.mpr h1
    simp only [List.length_cons, List.flatten_cons, List.length_append]
    omega
theorem Lots.len {n : Nat} {L : List (List Nat)} (h : Lots n L) : L.length ≤ n := by
  have := len_flat h.ne
  rw [h.pm.length_eq, List.length_range] at this
  exact this
theorem Lots.pos {n : Nat} {L : List (List Nat)} (h : Lots n L) (hn : 1 ≤ n) : 1 ≤ L.length := by
  cases L with
  | nil =>
    have := h.pm.length_eq
    simp at this
    omega
  | cons l L => simp
theorem lay_lot (l : List Nat) : Lay 1 (lotD l) := lay_map fun i _ => lay_int _
theorem lay_lots (L : List (List Nat)) : Lay 2 (lotsD L) := lay_map fun i _ => lay_lot _
def R_are_lots : RP := fun ds P => ∃ (n : Nat) (L : List (List Nat)), ds = [lotsD L, .int n] ∧ Lots n L ∧ n ≤ 60 ∧ P (.bool true)
theorem m_are_lots : MonoP R_are_lots := fun ds P P' w ⟨n, L, e, h1, h2, h⟩ => ⟨n, L, e, h1, h2, w _ h⟩
theorem r_are_lots (ds : List PyData) (Q : PyData → Prop) (hl : ds.length = 2) (h : R_are_lots ds Q) : t_are_lots R_is_whole (endP Q) (enP N_are_lots.length ds) := by
  obtain ⟨n, L, rfl, hL, hn, h⟩ := h
  have hfl : L.flatten.length = n := by rw [hL.pm.length_eq, List.length_range]
  refine ⟨rfl, lc_map lotD (fun _ => .bool true) _ [] (fun l hl C hC => ?_) ⟨_, all_eq L, ite_n (all_tt L) ?_⟩⟩
  · refine ⟨Nat.zero_le _, (lay_lot l).sh, rfl, ?_⟩
    cases l with
    | nil => exact absurd rfl (hL.ne _ hl)
    | cons i l => exact ⟨rfl, hC⟩
  · refine ⟨by decide, by decide, by decide, (by show 3 < 5; decide), (by show 4 < 5; decide), L.map fun l => l.map fun i : Nat => .int (i : Int), by rw [List.map_map]; rfl, ?_, ?_⟩
    · rw [← List.map_flatten, List.length_map, hfl]; omega
    · rw [← List.map_flatten]
      refine ⟨rfl, lc_map (fun i : Nat => .int (i : Int)) (fun _ => .bool true) _ [] (fun i hi C hC => ⟨rfl, (i : Int), rfl, rfl, hC⟩) ⟨_, all_eq L.flatten, ite_t (all_tt L.flatten) ?_⟩⟩
      refine ⟨L.flatten.map fun i : Nat => (i : Int), by rw [List.map_map]; rfl, by rw [List.length_map, hfl]; omega, fun ns hp hs => ?_⟩
      have e : ns = (List.range n).map fun i : Nat => (i : Int) := by
        refine List.Perm.eq_of_pairwise (le := fun a b => a ≤ b) (fun a b _ _ h1 h2 => Int.le_antisymm h1 h2) hs ?_ (hp.trans (hL.pm.map _))
        rw [List.pairwise_map]
        exact List.pairwise_lt_range.imp fun h => by omega
      subst e
      have e2 : (((List.range n).map fun i : Nat => (i : Int)).map PyData.int) = (List.range n).map fun i : Nat => .int (i : Int) := by rw [List.map_map]; rfl
      rw [e2]
      have ly : Lay 1 (.list ((List.range n).map fun i : Nat => .int (i : Int))) := lay_map fun i _ => lay_int _
      refine ⟨Int.natCast_nonneg n, by omega, ?_⟩
      show oEq _ (.list ((List.range n).map fun i : Nat => .int (i : Int))) _
      refine ⟨ly.sh, ly.sh, ?_⟩
      rw [ly.refl]
      exact h
def ls (l : List Nat) (g : Nat → Int) : Int := (l.map g).sum
def addD (b : Nat) (f : Nat → Nat → Int) (L : List (List Nat)) : PyData := .list (L.map fun l => rD b fun k => ls l fun i => f i k)
theorem map_get {α β : Type} (l : List α) (d : α) (f : α → β) : l.map f = (List.range l.length).map fun j => f (l.getD j d) := by
  apply List.ext_getElem
  · simp
  · intro i h1 h2
    have h3 : i < l.length := by simpa using h1
    simp [List.getD, h3]
theorem addD_eq (b : Nat) (f : Nat → Nat → Int) (L : List (List Nat)) : addD b f L = mD L.length b fun j k => ls (L.getD j []) fun i => f i k := by
  unfold addD mD
  rw [map_get L []]
def R_lots_added : RP := fun ds P => ∃ a b f L, ds = [mD a b f, lotsD L] ∧ 1 ≤ a ∧ b ≤ 1000 ∧ (∀ l ∈ L, ∀ i ∈ l, i < a) ∧ P (mD L.length b fun j k => ls (L.getD j []) fun i => f i k)
theorem m_lots_added : MonoP R_lots_added := fun ds P P' w ⟨a, b, f, L, e, h1, h2, h3, h⟩ => ⟨a, b, f, L, e, h1, h2, h3, w _ h⟩
theorem r_lots_added (ds : List PyData) (Q : PyData → Prop) (hl : ds.length = 2) (h : R_lots_added ds Q) : t_lots_added (endP Q) (enP N_lots_added.length ds) := by
  obtain ⟨a, b, f, L, rfl, ha, hb, hL, h⟩ := h
  rw [← addD_eq] at h
  refine ⟨rfl, lc_map lotD (fun l => rD b fun k => ls l fun i => f i k) _ [] (fun l hl C hC => ?_) h⟩
  refine ix_list (k := 0) (atI_range (k := 0) ha) ⟨by rw [rD_len]; omega, by rw [rD_len]; omega, rfl, ?_⟩
  have e : ((((List.range b).map fun k => PyData.int (f 0 k)).length : Int)).toNat = b := by rw [rD_len]; simp
  rw [e]
  refine lc_map (fun k : Nat => .int (k : Int)) (fun k => .int (ls l fun i => f i k)) _ [] (fun k hk C2 hC2 => ⟨rfl, ?_⟩) ⟨rfl, hC⟩
  refine lc_map (fun i : Nat => .int (i : Int)) (fun i => .int (f i k)) _ [] (fun i hi C3 hC3 => ?_) ⟨l.map fun i => f i k, by rw [List.map_map]; rfl, rfl, hC2⟩
  exact ix_list (atI_range (hL l hl i hi)) (ix_list (atI_range (List.mem_range.mp hk)) ⟨rfl, hC3⟩)
/-- the labels of lots -/
def labs (r : List Str) (L : List (List Nat)) : List Str := L.map fun l => r.getD (l.headD 0) ""
theorem labs_len (r : List Str) (L : List (List Nat)) : (labs r L).length = L.length := by unfold labs; simp
theorem getD_get {r : List Str} {i : Nat} (h : i < r.length) : (sL r)[i]? = some (.str (r.getD i "")) := by
  rw [List.getElem?_map]
  simp [List.getD, h]
def put (f : Nat → Nat → Int) (R C : List (List Nat)) : Nat → Nat → Int := fun j l => ls (C.getD l []) fun k => ls (R.getD j []) fun i => f i k
def R_put_together : RP := fun ds P => ∃ (r c : List Str) (f : Nat → Nat → Int) (R C : List (List Nat)), ds = [tabD r c f, lotsD R, lotsD C] ∧ TabOk r c f ∧ Lots r.length R ∧ Lots c.length C ∧ (∀ j l, j < R.length → l < C.length → put f R C j l ≤ 1000000000) ∧
  P (tabD (labs r R) (labs c C) (put f R C))
theorem m_put_together : MonoP R_put_together := fun ds P P' w ⟨r, c, f, R, C, e, h1, h2, h3, h4, h⟩ => ⟨r, c, f, R, C, e, h1, h2, h3, h4, w _ h⟩
theorem r_put_together (ds : List PyData) (Q : PyData → Prop) (hl : ds.length = 3) (h : R_put_together ds Q) : t_put_together R_must_be_table R_turned_cells R_fitted_cells R_are_lots R_lots_added (endF Q) (enP N_put_together.length ds) := by
  obtain ⟨r, c, f, R, C, rfl, hT, hR, hC, hp, h⟩ := h
  have hr1 := hT.hr.lo
  have hc1 := hT.hc.lo
  have hr6 := hT.hr.hi
  have hc6 := hT.hc.hi
  have lr : (sL r).length = r.length := List.length_map _
  have lc : (sL c).length = c.length := List.length_map _
  have R1 := hR.pos hr1
  have C1 := hC.pos hc1
  have Rn := hR.len
  have Cn := hC.len
  refine ⟨rfl, r, c, f, rfl, hT, rfl, rfl, ?_⟩
  refine ⟨rfl, r.length, R, by rw [lr], hR, by omega, rfl, c.length, C, by rw [lc], hC, by omega, ?_⟩
  refine ⟨rfl, r.length, c.length, f, R, rfl, hr1, by omega, fun l hl i hi => hR.lt hl hi, rfl, R.length, c.length, _, rfl, R1, by omega, rfl, c.length, R.length, _, C, rfl, hc1, by omega, fun l hl i hi => hC.lt hl hi, rfl, C.length, R.length, _, rfl, C1, by omega, ?_⟩
  have lab : ∀ (r : List Str) (L : List (List Nat)), Lots r.length L → ∀ l ∈ L, ∃ (i : Nat), l.headD 0 = i ∧ atI (l.map fun i : Nat => PyData.int (i : Int)) 0 = some (.int (i : Int)) ∧ atI (sL r) (i : Int) = some (.str (r.getD i "")) := fun r L hL l hl => by
    cases l with
    | nil => exact absurd rfl (hL.ne _ hl)
    | cons i l => exact ⟨i, rfl, atI_nat (j := 0) rfl, atI_nat (getD_get (hL.lt hl (List.mem_cons_self ..)))⟩
  refine ⟨rfl, lc_map lotD (fun l => .str (r.getD (l.headD 0) "")) _ [] (fun l hl C0 hC0 => ?_) ?_⟩
  · obtain ⟨i, e1, e2, e3⟩ := lab r R hR l hl
    rw [e1] at hC0
    exact ix_list e2 (ix_list e3 ⟨rfl, rfl, hC0⟩)
  refine ⟨rfl, lc_map lotD (fun l => .str (c.getD (l.headD 0) "")) _ [] (fun l hl C0 hC0 => ?_) ?_⟩
  · obtain ⟨i, e1, e2, e3⟩ := lab c C hC l hl
    rw [e1] at hC0
    exact ix_list e2 (ix_list e3 ⟨rfl, rfl, hC0⟩)
  refine ⟨rfl, R.length, C.length, put f R C, rfl, R1, C1, hp, by show 3 ≤ sizeLine; decide, ?_⟩
  have e1 : ([] ++ R.map fun l => PyData.str (r.getD (l.headD 0) "")) = sL (labs r R) := by unfold labs sL; rw [List.map_map]; rfl
  have e2 : ([] ++ C.map fun l => PyData.str (c.getD (l.headD 0) "")) = sL (labs c C) := by unfold labs sL; rw [List.map_map]; rfl
  have e3 : tabD (labs r R) (labs c C) (put f R C) = .tuple [.list (sL (labs r R)), .list (sL (labs c C)), mD R.length C.length (put f R C)] := by unfold tabD; rw [labs_len, labs_len]
  rw [e3] at h
  rw [← e1, ← e2] at h
  exact h
/-- a loop, by what was gone through -/
theorem for_pre {α : Type} {g : TDG} {tb : TDS} {D : DEnds} (mk : α → PyData) (J : List α → En → Prop) (whole : List α) (hs : ∀ pre a post, whole = pre ++ a :: post → ∀ E, J pre E → ∀ C : En → Prop, (∀ E', J (pre ++ [a]) E' → C E') → g (mk a) E fun E2 => tb { D with nx := C, ct := C, bk := D.nx } E2)
    (hd : ∀ E, J whole E → D.nx E) : ∀ (l pre : List α) (E : En), whole = pre ++ l → J pre E → forGo g tb D (l.map mk) E
  | [], pre, E, e, h0 => hd E (by rw [e, List.append_nil]; exact h0)
  | a :: l, pre, E, e, h0 => hs pre a l e E h0 _ fun E' h' => for_pre mk J whole hs hd l (pre ++ [a]) E' (by rw [e]; simp) h'
def R_law_summed : RP := fun ds P => ∃ a b f L, ds = [mD a b f, lotsD L] ∧ 1 ≤ a ∧ b ≤ 1000 ∧ (∀ l ∈ L, ∀ i ∈ l, i < a) ∧ L.length ≤ 1000 ∧ P (mD L.length b fun j k => ls (L.getD j []) fun i => f i k)
theorem m_law_summed : MonoP R_law_summed := fun ds P P' w ⟨a, b, f, L, e, h1, h2, h3, h4, h⟩ => ⟨a, b, f, L, e, h1, h2, h3, h4, w _ h⟩
theorem r_law_summed (ds : List PyData) (Q : PyData → Prop) (hl : ds.length = 2) (h : R_law_summed ds Q) : t_law_summed (endP Q) (enP N_law_summed.length ds) := by
  obtain ⟨a, b, f, L, rfl, ha, hb, hL, hz, h⟩ := h
  rw [← addD_eq] at h
  refine ⟨Nat.zero_le _, ?_⟩
  refine for_pre lotD (fun pre E => ∃ s3, E = ⟨[.dat (mD a b f), .dat (lotsD L), .own (pre.map fun l => rD b fun k => ls l fun i => f i k), s3, .no, .no], 0⟩) L ?_ ?_ L [] _ rfl ⟨.no, rfl⟩
  · rintro pre l post e E ⟨s3, rfl⟩ C hC
    have hl : l ∈ L := by rw [e]; simp
    have hpre : pre.length < 1000000 := by
      have := congrArg List.length e
      simp at this
      omega
    refine ix_list (k := 0) (atI_range (k := 0) ha) ⟨by rw [rD_len]; omega, by rw [rD_len]; omega, rfl, ?_⟩
    have e : ((((List.range b).map fun k => PyData.int (f 0 k)).length : Int)).toNat = b := by rw [rD_len]; simp
    rw [e]
    refine lc_map (fun k : Nat => .int (k : Int)) (fun k => .int (ls l fun i => f i k)) _ [] (fun k hk C2 hC2 => ⟨rfl, ?_⟩) ⟨by rw [List.length_map]; exact hpre, hC _ ⟨.dat (lotD l), ?_⟩⟩
    · refine lc_map (fun i : Nat => .int (i : Int)) (fun i => .int (f i k)) _ [] (fun i hi C3 hC3 => ?_) ⟨l.map fun i => f i k, by rw [List.map_map]; rfl, rfl, hC2⟩
      exact ix_list (atI_range (hL l hl i hi)) (ix_list (atI_range (List.mem_range.mp hk)) ⟨rfl, hC3⟩)
    · rw [List.map_append]; rfl
  · rintro E ⟨s3, rfl⟩
    exact h
end K22

set_option Elab.async false
set_option linter.all false
set_option maxRecDepth 100000
set_option maxHeartbeats 6400000
/-! P6: records, books. -/
namespace K22
open PySem PySem.Spec PyProof.Rows L2
abbrev Rec : Type := List (Option Str) × Int
def ansD : Option Str → PyData
  | none => .none
  | some s => .str s
def recD (r : Rec) : PyData := .tuple (r.1.map ansD ++ [.int r.2])
def ans (r : Rec) (k : Nat) : Option Str := r.1.getD k none
def codes (p : Plan) (k : Nat) : List Str := (p.getD k ("", [])).2
structure RecOk (p : Plan) (r : Rec) : Prop where
  len : r.1.length = p.length
  ans : ∀ k, k < p.length → ans r k = none ∨ ∃ x ∈ codes p k, ans r k = some x
  lo : 0 ≤ r.2
  hi : r.2 ≤ 1000000
def bookD (B : List Rec) : PyData := .list (B.map recD)
structure BookOk (p : Plan) (B : List Rec) : Prop where
  len : B.length ≤ 60
  recs : ∀ r ∈ B, RecOk p r
theorem plan_get {p : Plan} {k : Nat} (h : k < p.length) : p[k]? = some (p.getD k ("", [])) := by simp [List.getD, h]
theorem plan_at {p : Plan} {k : Nat} (h : k < p.length) : atI (p.map sortD) (k : Int) = some (sortD (p.getD k ("", []))) := atI_nat (by rw [List.getElem?_map, plan_get h]; rfl)
theorem sort_get {p : Plan} (hp : PlanOk p) {k : Nat} (h : k < p.length) : SortOk (p.getD k ("", [])) := hp.so _ (List.mem_of_getElem? (plan_get h))
theorem ans_at {r : Rec} {k : Nat} (h : k < r.1.length) : atI (r.1.map ansD ++ [.int r.2]) (k : Int) = some (ansD (ans r k)) := atI_nat (by
  rw [List.getElem?_append_left (by simpa using h), List.getElem?_map]
  simp [ans, List.getD, h])
theorem lay_ans {n : Nat} {p : Plan} (hp : PlanOk p) {r : Rec} (hr : RecOk p r) {k : Nat} (hk : k < p.length) : Lay n (ansD (ans r k)) := by
  rcases hr.ans k hk with e | ⟨x, hx, e⟩
  · rw [e]; exact lay_none
  · rw [e]; exact lay_str ((sort_get hp hk).cs.wd x hx) (by decide)
def R_is_answer : RP := fun ds P => ∃ (s : Sort') (a : Option Str), ds = [sortD s, ansD a] ∧ (a = none ∨ ∃ x ∈ s.2, a = some x) ∧ P (.bool true)
theorem m_is_answer : MonoP R_is_answer := fun ds P P' w ⟨s, a, e, h1, h⟩ => ⟨s, a, e, h1, w _ h⟩
theorem r_is_answer (ds : List PyData) (Q : PyData → Prop) (hl : ds.length = 2) (h : R_is_answer ds Q) : t_is_answer (endP Q) (enP N_is_answer.length ds) := by
  obtain ⟨s, a, rfl, ha, h⟩ := h
  rcases ha with rfl | ⟨x, hx, rfl⟩
  · exact ⟨rfl, h⟩
  · refine ⟨rfl, ?_⟩
    show oIn (.str x) (.tuple (sL s.2)) Q
    refine ⟨rfl, scal_map s.2 (fun _ => rfl), ?_⟩
    rw [inD_str, decide_eq_true hx]
    exact h
def R_record_in : RP := fun ds P => ∃ (p : Plan) (r : Rec), ds = [planD p, recD r] ∧ PlanOk p ∧ RecOk p r ∧ P .none
theorem m_record_in : MonoP R_record_in := fun ds P P' w ⟨p, r, e, h1, h2, h⟩ => ⟨p, r, e, h1, h2, w _ h⟩
theorem last_at (r : Rec) : atI (r.1.map ansD ++ [PyData.int r.2]) (-1) = some (PyData.int r.2) := atI_last _ _
theorem r_record_in (ds : List PyData) (Q : PyData → Prop) (hl : ds.length = 2) (h : R_record_in ds Q) : t_record_in R_is_whole R_is_answer (endP Q) (enP N_record_in.length ds) := by
  obtain ⟨p, r, rfl, hp, hr, h⟩ := h
  have l1 : (p.map sortD).length = p.length := List.length_map _
  have hhi := hp.hi
  have el : ((r.1.map ansD ++ [PyData.int r.2]).length : Int) = ((p.map sortD).length : Int) + 1 := by
    rw [l1, List.length_append, List.length_map, hr.len]; simp
  refine ⟨rfl, rfl, ite_f (neI el) ⟨by rw [l1]; omega, ?_⟩⟩
  rw [numD_map]
  refine for_each _ (fun E => ∃ s2 s3 : Sl, E = ⟨[.dat (planD p), .dat (recD r), s2, s3], 0⟩) _ _ ⟨.no, .no, rfl⟩ ?_ ?_
  · rintro ⟨s, i⟩ hm E ⟨s2, s3, rfl⟩ C hC
    have hs := mem_zipIdx hm
    have hi : i < p.length := (List.getElem?_eq_some_iff.mp hs).1
    have e : s = p.getD i ("", []) := by
      have := (plan_get hi).symm.trans hs
      exact (Option.some.inj this).symm
    refine ⟨rfl, rfl, ix_tup (k := (i : Int)) (ans_at (by rw [hr.len]; exact hi)) ⟨rfl, s, _, rfl, ?_, hC _ ⟨_, _, rfl⟩⟩⟩
    rw [e]
    exact hr.ans i hi
  · rintro E ⟨s2, s3, rfl⟩
    refine ix_tup (k := -1) (last_at r) ⟨rfl, r.2, rfl, ix_tup (k := -1) (last_at r) ?_⟩
    exact ite_t (show decide ((0 : Int) ≤ r.2) = true from decide_eq_true hr.lo) (ite_n (show decide (r.2 ≤ (1000000 : Int)) = true from decide_eq_true hr.hi) h)
def R_record_wrong : RP := R_record_in
theorem m_record_wrong : MonoP R_record_wrong := m_record_in
theorem r_record_wrong (ds : List PyData) (Q : PyData → Prop) (hl : ds.length = 2) (h : R_record_wrong ds Q) : t_record_wrong R_must_be_plan R_record_in (endP Q) (enP N_record_wrong.length ds) := by
  obtain ⟨p, r, rfl, hp, hr, h⟩ := h
  exact ⟨rfl, p, rfl, hp, rfl, p, r, rfl, hp, hr, h⟩
def R_must_be_record : RP := R_record_in
theorem m_must_be_record : MonoP R_must_be_record := m_record_in
theorem r_must_be_record (ds : List PyData) (Q : PyData → Prop) (hl : ds.length = 2) (h : R_must_be_record ds Q) : t_must_be_record R_record_wrong (endP Q) (enP N_must_be_record.length ds) := by
  obtain ⟨p, r, rfl, hp, hr, h⟩ := h
  exact ⟨rfl, p, r, rfl, hp, hr, rfl, h⟩
def R_book_in : RP := fun ds P => ∃ (p : Plan) (B : List Rec), ds = [planD p, bookD B] ∧ PlanOk p ∧ BookOk p B ∧ P .none
theorem m_book_in : MonoP R_book_in := fun ds P P' w ⟨p, r, e, h1, h2, h⟩ => ⟨p, r, e, h1, h2, w _ h⟩
theorem r_book_in (ds : List PyData) (Q : PyData → Prop) (hl : ds.length = 2) (h : R_book_in ds Q) : t_book_in R_record_in (endP Q) (enP N_book_in.length ds) := by
  obtain ⟨p, B, rfl, hp, hB, h⟩ := h
  have l1 : (B.map recD).length = B.length := List.length_map _
  have hlen := hB.len
  refine ite_f (show decide ((60 : Int) < ((B.map recD).length : Int)) = false from decide_eq_false (by rw [l1]; omega)) ?_
  show forGo _ _ _ (numD (B.map recD)) _
  rw [numD_map]
  refine for_each _ (fun E => ∃ s2 s3 s4 : Sl, E = ⟨[.dat (planD p), .dat (bookD B), s2, s3, s4], 0⟩) _ _ ⟨.no, .no, .no, rfl⟩ ?_ ?_
  · rintro ⟨r, i⟩ hm E ⟨s2, s3, s4, rfl⟩ C hC
    have hs := List.mem_of_getElem? (mem_zipIdx hm)
    exact ⟨rfl, rfl, rfl, p, r, rfl, hp, hB.recs r hs, rfl, hC _ ⟨_, _, _, rfl⟩⟩
  · rintro E ⟨s2, s3, s4, rfl⟩
    exact h
def R_book_wrong : RP := R_book_in
theorem m_book_wrong : MonoP R_book_wrong := m_book_in
theorem r_book_wrong (ds : List PyData) (Q : PyData → Prop) (hl : ds.length = 2) (h : R_book_wrong ds Q) : t_book_wrong R_must_be_plan R_book_in (endP Q) (enP N_book_wrong.length ds) := by
  obtain ⟨p, r, rfl, hp, hr, h⟩ := h
  exact ⟨rfl, p, rfl, hp, rfl, p, r, rfl, hp, hr, h⟩
def R_must_be_book : RP := R_book_in
theorem m_must_be_book : MonoP R_must_be_book := m_book_in
theorem r_must_be_book (ds : List PyData) (Q : PyData → Prop) (hl : ds.length = 2) (h : R_must_be_book ds Q) : t_must_be_book R_book_wrong (endP Q) (enP N_must_be_book.length ds) := by
  obtain ⟨p, r, rfl, hp, hr, h⟩ := h
  exact ⟨rfl, p, r, rfl, hp, hr, rfl, h⟩
def gapsL (p : Plan) (r : Rec) : List Nat := (List.range p.length).filter fun k => (ans r k).isNone
def R_gaps : RP := fun ds P => ∃ (p : Plan) (r : Rec), ds = [planD p, recD r] ∧ PlanOk p ∧ RecOk p r ∧ P (lotD (gapsL p r))
theorem m_gaps : MonoP R_gaps := fun ds P P' w ⟨p, r, e, h1, h2, h⟩ => ⟨p, r, e, h1, h2, w _ h⟩
theorem isN_ans (a : Option Str) : isN (ansD a) = a.isNone := by cases a <;> rfl
theorem filterMap_if {α β : Type} (l : List α) (c : α → Bool) (f : α → β) : l.filterMap (fun a => if c a = true then some (f a) else none) = (l.filter c).map f := by
  induction l with
  | nil => rfl
  | cons a l ih =>
    rw [List.filterMap_cons, List.filter_cons]
    cases h : c a <;> simp [h, ih]
theorem r_gaps (ds : List PyData) (Q : PyData → Prop) (hl : ds.length = 2) (h : R_gaps ds Q) : t_gaps R_must_be_record (endP Q) (enP N_gaps.length ds) := by
  obtain ⟨p, r, rfl, hp, hr, h⟩ := h
  have l1 : (p.map sortD).length = p.length := List.length_map _
  have hhi := hp.hi
  refine ⟨rfl, p, r, rfl, hp, hr, by rw [l1]; omega, by rw [l1]; omega, rfl, ?_⟩
  have e : ((((p.map sortD).length : Nat) : Int)).toNat = p.length := by rw [l1]; simp
  rw [e]
  refine lc_of (fun k : Nat => .int (k : Int)) (fun k => if (ans r k).isNone = true then some (.int (k : Int)) else none) _ [] (fun k hk C hC => ?_) ?_
  · refine ix_tup (k := (k : Int)) (ans_at (by rw [hr.len]; exact List.mem_range.mp hk)) ⟨rfl, ?_⟩
    cases c : (ans r k).isNone with
    | true =>
      rw [c] at hC
      refine ite_t (show isN (ansD (ans r k)) = true by rw [isN_ans, c]) ⟨rfl, hC⟩
    | false =>
      rw [c] at hC
      exact ite_f (show isN (ansD (ans r k)) = false by rw [isN_ans, c]) ⟨rfl, hC⟩
  · rw [filterMap_if]
    exact h
def R_must_be_sorts : RP := fun ds P => ∃ (p : Plan) (ns : List Nat), ds = [planD p, lotD ns] ∧ (∀ n ∈ ns, n < p.length) ∧ ns.Nodup ∧ ns.length ≤ 10 ∧ P .none
theorem m_must_be_sorts : MonoP R_must_be_sorts := fun ds P P' w ⟨p, r, e, h1, h2, h3, h⟩ => ⟨p, r, e, h1, h2, h3, w _ h⟩
theorem r_must_be_sorts (ds : List PyData) (Q : PyData → Prop) (hl : ds.length = 2) (h : R_must_be_sorts ds Q) : t_must_be_sorts R_is_sort_number (endP Q) (enP N_must_be_sorts.length ds) := by
  obtain ⟨p, ns, rfl, h1, h2, h3, h⟩ := h
  refine ⟨rfl, lc_map (fun i : Nat => .int (i : Int)) (fun _ => .bool true) _ [] (fun n hn C hC => ⟨rfl, p, n, rfl, h1 n hn, rfl, hC⟩) ⟨_, all_eq ns, ite_n (all_tt ns) ?_⟩⟩
  refine ⟨ns.map fun i : Nat => (i : Int), by rw [List.map_map]; rfl, ?_, by rw [List.length_map]; omega, ?_⟩
  · rw [List.Nodup, List.pairwise_map]
    exact h2.imp fun h z => h (by omega)
  · exact ite_f (show decide ((((ns.map fun i : Nat => (i : Int)).length : Nat) : Int) < (((ns.map fun i : Nat => PyData.int (i : Int)).length : Nat) : Int)) = false from decide_eq_false (by simp)) h
end K22

set_option Elab.async false
set_option linter.all false
set_option maxRecDepth 100000
set_option maxHeartbeats 6400000
/-! P7: counting. -/
namespace K22
open PySem PySem.Spec PyProof.Rows L2
def hit (r : Rec) (row col : Nat) (x y : Str) : Bool := decide (ans r row = some x) && decide (ans r col = some y)
def selD (B : List Rec) (am : List PyData) (row col : Nat) (x y : Str) : List PyData := ((B.zip am).filter fun q => hit q.1 row col x y).map (·.2)
theorem eqv_ans (a : Option Str) (x : Str) : PyData.eqv (ansD a) (.str x) = decide (a = some x) := by
  cases a with
  | none => simp [ansD, PyData.eqv]
  | some s =>
    by_cases h : s = x
    · subst h; simp [ansD, PyData.eqv]
    · simp [ansD, PyData.eqv, h]
theorem eqv_two (a b : Option Str) (x y : Str) : PyData.eqv (.tuple [ansD a, ansD b]) (.tuple [.str x, .str y]) = (decide (a = some x) && decide (b = some y)) := by
  simp only [PyData.eqv, PyData.eqvAll, eqv_ans, Bool.and_true]
def R_cells_of : RP := fun ds P => ∃ (p : Plan) (B : List Rec) (row col : Nat) (am : List PyData), ds = [planD p, bookD B, .int row, .int col, .list am] ∧ PlanOk p ∧ BookOk p B ∧ row < p.length ∧ col < p.length ∧ am.length = B.length ∧
  P (.list ((codes p row).map fun x => .list ((codes p col).map fun y => .list (selD B am row col x y))))
theorem m_cells_of : MonoP R_cells_of := fun ds P P' w ⟨p, B, row, col, am, e, h1, h2, h3, h4, h5, h⟩ => ⟨p, B, row, col, am, e, h1, h2, h3, h4, h5, w _ h⟩
theorem pairD_map (B : List Rec) (am : List PyData) : pairD (B.map recD) am = (B.zip am).map fun q => .tuple [recD q.1, q.2] := by
  unfold pairD
  induction B generalizing am with
  | nil => simp
  | cons r B ih =>
    cases am with
    | nil => simp
    | cons a am => simp only [List.map_cons, List.zip_cons_cons, ih]
theorem r_cells_of (ds : List PyData) (Q : PyData → Prop) (hl : ds.length = 5) (h : R_cells_of ds Q) : t_cells_of (endP Q) (enP N_cells_of.length ds) := by
  obtain ⟨p, B, row, col, am, rfl, hp, hB, hr, hc, hal, h⟩ := h
  have sr := (sort_get hp hr).cs
  have sc := (sort_get hp hc).cs
  have lr : (sL (codes p row)).length = (codes p row).length := List.length_map _
  have lc : (sL (codes p col)).length = (codes p col).length := List.length_map _
  have hlr : (codes p row).length ≤ 6 := sr.hi
  have hlc : (codes p col).length ≤ 6 := sc.hi
  have cr : (p.getD row ("", [])).2 = codes p row := rfl
  have cc : (p.getD col ("", [])).2 = codes p col := rfl
  refine ⟨by rw [List.length_map, hal], Nat.zero_le _, ix_tup (k := (row : Int)) (plan_at hr) ⟨(by rw [lr]; omega : (sL (codes p row)).length ≤ 1000000), ?_⟩⟩
  rw [pairD_map]
  refine for_pre .str (fun pre E => ∃ s7 s8 s9, E = ⟨[.dat (planD p), .dat (bookD B), .dat (.int row), .dat (.int col), .dat (.list am), .dat (.list ((B.zip am).map fun q => .tuple [recD q.1, q.2])),
    .own (pre.map fun x => .list ((codes p col).map fun y => .list (selD B am row col x y))), s7, s8, s9, .no, .no], 0⟩) (codes p row) ?_ ?_ (codes p row) [] _ rfl ⟨.no, .no, .no, rfl⟩
  · rintro pre x post e E ⟨s7, s8, s9, rfl⟩ C hC
    have hpre : pre.length < 1000000 := by
      have := congrArg List.length e
      simp at this
      omega
    refine ⟨Nat.zero_le _, ix_tup (k := (col : Int)) (plan_at hc) ⟨(by rw [lc]; omega : (sL (codes p col)).length ≤ 1000000), ?_⟩⟩
    refine for_pre .str (fun pre2 E => ∃ s9, E = ⟨[.dat (planD p), .dat (bookD B), .dat (.int row), .dat (.int col), .dat (.list am), .dat (.list ((B.zip am).map fun q => .tuple [recD q.1, q.2])),
      .own (pre.map fun x => .list ((codes p col).map fun y => .list (selD B am row col x y))), .dat (.str x), .own (pre2.map fun y => .list (selD B am row col x y)), s9, .no, .no], 0⟩) (codes p col) ?_ ?_ (codes p col) [] _ rfl ⟨s9, rfl⟩
    · rintro pre2 y post2 e2 E ⟨s9, rfl⟩ C2 hC2
      have hpre2 : pre2.length < 1000000 := by
        have := congrArg List.length e2
        simp at this
        omega
      refine ⟨rfl, lc_of (fun q : Rec × PyData => .tuple [recD q.1, q.2]) (fun q => if hit q.1 row col x y = true then some q.2 else none) _ [] (fun q hq C3 hC3 => ?_) ?_⟩
      · have hqB : q.1 ∈ B := (List.of_mem_zip hq).1
        have ok := hB.recs _ hqB
        have lt : Lay 1 (.tuple [ansD (ans q.1 row), ansD (ans q.1 col)]) := lay_tup fun d hd => by
          have e : d = ansD (ans q.1 row) ∨ d = ansD (ans q.1 col) := by simpa using hd
          rcases e with rfl | rfl
          · exact lay_ans hp ok hr
          · exact lay_ans hp ok hc
        have hx : x ∈ codes p row := by rw [e]; simp
        have hy : y ∈ codes p col := by rw [e2]; simp
        have lu : Lay 1 (.tuple [.str x, .str y]) := lay_tup fun d hd => by
          have e : d = .str x ∨ d = .str y := by simpa using hd
          rcases e with rfl | rfl
          · exact lay_str (sr.wd x hx) (by decide)
          · exact lay_str (sc.wd y hy) (by decide)
        refine ⟨rfl, rfl, ix_tup (k := (row : Int)) (ans_at (by rw [ok.len]; exact hr)) (ix_tup (k := (col : Int)) (ans_at (by rw [ok.len]; exact hc)) ⟨two_len, two_len, lt.sh, lu.sh, ?_⟩)⟩
        have ee : PyData.eqv (.tuple [ansD (ans q.1 row), ansD (ans q.1 col)]) (.tuple [.str x, .str y]) = hit q.1 row col x y := eqv_two _ _ _ _
        cases c : hit q.1 row col x y with
        | true =>
          rw [c] at hC3
          exact ite_t (ee.trans c) ⟨rfl, hC3⟩
        | false =>
          rw [c] at hC3
          exact ite_f (ee.trans c) ⟨rfl, hC3⟩
      · rw [filterMap_if]
        refine ⟨by rw [List.length_map]; exact hpre2, hC2 _ ⟨.dat (.str y), ?_⟩⟩
        rw [List.map_append]
        rfl
    · rintro E ⟨s9, rfl⟩
      refine ⟨by rw [List.length_map]; exact hpre, hC _ ⟨.dat (.str x), .dat (.list ((codes p col).map fun y => .list (selD B am row col x y))), s9, ?_⟩⟩
      rw [List.map_append]
      rfl
  · rintro E ⟨s7, s8, s9, rfl⟩
    exact h
end K22

set_option Elab.async false
set_option linter.all false
set_option maxRecDepth 100000
set_option maxHeartbeats 6400000
/-! P8: tables of counts. -/
namespace K22
open PySem PySem.Spec PyProof.Rows L2
/-- count (false) or measure (true) -/
def wS : Bool → Str
  | false => "count"
  | true => "measure"
def amt : Bool → Rec → Int
  | false, _ => 1
  | true, r => r.2
def amD (m : Bool) (B : List Rec) : List PyData := B.map fun r => .int (amt m r)
def R_amounts_by : RP := fun ds P => ∃ (p : Plan) (B : List Rec) (m : Bool), ds = [bookD B, .str (wS m)] ∧ BookOk p B ∧ P (.list (amD m B))
theorem m_amounts_by : MonoP R_amounts_by := fun ds P P' w ⟨p, B, m, e, h1, h⟩ => ⟨p, B, m, e, h1, w _ h⟩
theorem inW (m : Bool) : (!inD (.str (wS m)) [.str "count", .str "measure"]) = false := by
  have := inD_str (wS m) ["count", "measure"]
  rw [show ([.str "count", .str "measure"] : List PyData) = sL ["count", "measure"] from rfl, this]
  cases m
  · rw [decide_eq_true (by simp [wS])]; rfl
  · rw [decide_eq_true (by simp [wS])]; rfl
theorem eqW (m : Bool) : PyData.eqv (.str (wS m)) (.str "count") = !m := by
  cases m
  · simp [PyData.eqv, wS]
  · simp only [PyData.eqv, wS]; decide
theorem r_amounts_by (ds : List PyData) (Q : PyData → Prop) (hl : ds.length = 2) (h : R_amounts_by ds Q) : t_amounts_by (endP Q) (enP N_amounts_by.length ds) := by
  obtain ⟨p, B, m, rfl, hB, h⟩ := h
  refine ⟨rfl, rfl, ite_f (inW m) ⟨rfl, lc_map recD (fun r => .int (amt m r)) _ [] (fun r hr C hC => ?_) h⟩⟩
  have sh : ∀ m, SeqAt.shaped (.str (wS m)) = true := fun m => by cases m <;> decide +kernel
  refine ⟨sh m, sh false, ?_⟩
  cases m with
  | false => exact ⟨rfl, hC⟩
  | true => exact ix_tup (k := -1) (last_at r) ⟨rfl, hC⟩
def cnt (m : Bool) (B : List Rec) (row col : Nat) (x y : Str) : Int := ((B.filter fun r => hit r row col x y).map (amt m)).sum
def cntF (m : Bool) (p : Plan) (B : List Rec) (row col : Nat) : Nat → Nat → Int := fun i k => cnt m B row col ((codes p row).getD i "") ((codes p col).getD k "")
def tabP (m : Bool) (p : Plan) (B : List Rec) (row col : Nat) : PyData := tabD (codes p row) (codes p col) (cntF m p B row col)
theorem sel_map (f : Rec → PyData) (B : List Rec) (row col : Nat) (x y : Str) : selD B (B.map f) row col x y = (B.filter fun r => hit r row col x y).map f := by
  unfold selD
  induction B with
  | nil => rfl
  | cons r B ih =>
    simp only [List.map_cons, List.zip_cons_cons, List.filter_cons]
    cases c : hit r row col x y <;> simp [ih]
def R_summed : RP := fun ds P => ∃ (p : Plan) (B : List Rec) (row col : Nat) (m : Bool), ds = [planD p, bookD B, .int row, .int col, .str (wS m)] ∧ PlanOk p ∧ BookOk p B ∧ row < p.length ∧ col < p.length ∧ P (tabP m p B row col)
theorem m_summed : MonoP R_summed := fun ds P P' w ⟨p, B, row, col, m, e, h1, h2, h3, h4, h⟩ => ⟨p, B, row, col, m, e, h1, h2, h3, h4, w _ h⟩
theorem tab_eq (m : Bool) (p : Plan) (B : List Rec) (row col : Nat) : mD (codes p row).length (codes p col).length (cntF m p B row col) = .list ((codes p row).map fun x => .list ((codes p col).map fun y => .int (cnt m B row col x y))) := by
  unfold mD rD
  rw [map_get (codes p row) "" fun x => PyData.list ((codes p col).map fun y => .int (cnt m B row col x y))]
  congr 1
  apply List.map_congr_left
  intro i _
  rw [map_get (codes p col) "" fun y => PyData.int (cnt m B row col _ y)]
  rfl
theorem r_summed (ds : List PyData) (Q : PyData → Prop) (hl : ds.length = 5) (h : R_summed ds Q) : t_summed R_cells_of R_amounts_by (endP Q) (enP N_summed.length ds) := by
  obtain ⟨p, B, row, col, m, rfl, hp, hB, hr, hc, h⟩ := h
  refine ⟨rfl, p, B, m, rfl, hB, rfl, p, B, row, col, amD m B, rfl, hp, hB, hr, hc, by unfold amD; simp, ?_⟩
  refine ix_tup (k := (row : Int)) (plan_at hr) ?_
  refine ix_tup (k := (col : Int)) (plan_at hc) ?_
  refine ⟨rfl, lc_map (fun x => .list ((codes p col).map fun y => .list (selD B (amD m B) row col x y))) (fun x => .list ((codes p col).map fun y => .int (cnt m B row col x y))) _ [] (fun x hx C hC => ⟨rfl, ?_⟩) ⟨by show 3 ≤ sizeLine; decide, ?_⟩⟩
  · refine lc_map (fun y => .list (selD B (amD m B) row col x y)) (fun y => .int (cnt m B row col x y)) _ [] (fun y hy C2 hC2 => ?_) ⟨rfl, hC⟩
    refine ⟨(B.filter fun r => hit r row col x y).map (amt m), one_eq ?_, rfl, hC2⟩
    unfold amD
    rw [sel_map, List.map_map]
    rfl
  · have e : tabP m p B row col = .tuple [.list (sL (codes p row)), .list (sL (codes p col)), .list ((codes p row).map fun x => .list ((codes p col).map fun y => .int (cnt m B row col x y)))] := by
      unfold tabP tabD
      rw [tab_eq]
    rw [e] at h
    exact h
def R_table_of : RP := fun ds P => ∃ (p : Plan) (B : List Rec) (row col : Nat) (m : Bool), ds = [planD p, bookD B, .int row, .int col, .str (wS m)] ∧ PlanOk p ∧ BookOk p B ∧ row < p.length ∧ col < p.length ∧ row ≠ col ∧ P (tabP m p B row col)
theorem m_table_of : MonoP R_table_of := fun ds P P' w ⟨p, B, row, col, m, e, h1, h2, h3, h4, h5, h⟩ => ⟨p, B, row, col, m, e, h1, h2, h3, h4, h5, w _ h⟩
theorem r_table_of (ds : List PyData) (Q : PyData → Prop) (hl : ds.length = 5) (h : R_table_of ds Q) : t_table_of R_must_be_book R_must_be_sorts R_summed (endP Q) (enP N_table_of.length ds) := by
  obtain ⟨p, B, row, col, m, rfl, hp, hB, hr, hc, hne, h⟩ := h
  refine ⟨rfl, p, B, rfl, hp, hB, two_len, rfl, p, [row, col], rfl, ?_, ?_, (by show 2 ≤ 10; decide), rfl, p, B, row, col, m, rfl, hp, hB, hr, hc, h⟩
  · intro n hn
    have e : n = row ∨ n = col := by simpa using hn
    rcases e with rfl | rfl <;> assumption
  · simp [hne]
def one1 : PyData := .tuple [.int 1, .int 1]
def R_weighed_cells : RP := fun ds P => ∃ (p : Plan) (B : List Rec) (row col : Nat), ds = [planD p, bookD B, .int row, .int col, .list (B.map fun _ => one1)] ∧ PlanOk p ∧ BookOk p B ∧ row < p.length ∧ col < p.length ∧ row ≠ col ∧
  P (.list ((codes p row).map fun x => .list ((codes p col).map fun y => .tuple [.int (cnt false B row col x y), .int 1])))
theorem m_weighed_cells : MonoP R_weighed_cells := fun ds P P' w ⟨p, B, row, col, e, h1, h2, h3, h4, h5, h⟩ => ⟨p, B, row, col, e, h1, h2, h3, h4, h5, w _ h⟩
theorem cnt_len (B : List Rec) (row col : Nat) (x y : Str) : cnt false B row col x y = ((B.filter fun r => hit r row col x y).length : Int) := by
  unfold cnt
  generalize (B.filter fun r => hit r row col x y) = l
  induction l with
  | nil => rfl
  | cons r l ih => simp only [List.map_cons, List.sum_cons, ih, List.length_cons, amt]; omega
theorem r_weighed_cells (ds : List PyData) (Q : PyData → Prop) (hl : ds.length = 5) (h : R_weighed_cells ds Q) : t_weighed_cells R_is_fraction R_plus R_must_be_book R_must_be_sorts R_cells_of (endP Q) (enP N_weighed_cells.length ds) := by
  obtain ⟨p, B, row, col, rfl, hp, hB, hr, hc, hne, h⟩ := h
  have lw : (B.map fun _ => one1).length = B.length := List.length_map _
  have lB : (B.map recD).length = B.length := List.length_map _
  have sr := (sort_get hp hr).cs
  have sc := (sort_get hp hc).cs
  have hlr : (codes p row).length ≤ 6 := sr.hi
  have hlc : (codes p col).length ≤ 6 := sc.hi
  refine ⟨rfl, p, B, rfl, hp, hB, two_len, rfl, p, [row, col], rfl, ?_, ?_, (by show 2 ≤ 10; decide), rfl, rfl, ite_f (neI (by rw [lw, lB])) ⟨rfl, ?_⟩⟩
  · intro n hn
    have e : n = row ∨ n = col := by simpa using hn
    rcases e with rfl | rfl <;> assumption
  · simp [hne]
  · refine lc_map (fun _ : Rec => one1) (fun _ => .bool true) _ [] (fun r hr C hC => ⟨rfl, 1, rfl, rfl, hC⟩) ⟨_, all_eq B, ite_n (all_tt B) ⟨Nat.zero_le _, rfl, rfl, p, B, row, col, _, rfl, hp, hB, hr, hc, lw, ?_⟩⟩
    refine for_pre (fun x => .list ((codes p col).map fun y => .list (selD B (B.map fun _ => one1) row col x y)))
      (fun pre E => ∃ s6 s7 s8 s9, E = ⟨[.dat (planD p), .dat (bookD B), .dat (.int row), .dat (.int col), .dat (.list (B.map fun _ => one1)), .own2 (pre.map fun x => (codes p col).map fun y => .tuple [.int (cnt false B row col x y), .int 1]), s6, s7, s8, s9, .no], 0⟩) (codes p row) ?_ ?_ (codes p row) [] _ rfl ⟨.no, .no, .no, .no, rfl⟩
    · rintro pre x post e E ⟨s6, s7, s8, s9, rfl⟩ C hC
      have hpre : pre.length < 1000000 := by
        have := congrArg List.length e
        simp at this
        omega
      refine ⟨by rw [List.length_map]; exact hpre, ?_⟩
      refine for_pre (fun y => .list (selD B (B.map fun _ => one1) row col x y))
        (fun pre2 E => ∃ s7 s8 s9, E = ⟨[.dat (planD p), .dat (bookD B), .dat (.int row), .dat (.int col), .dat (.list (B.map fun _ => one1)), .own2 ((pre.map fun x => (codes p col).map fun y => .tuple [.int (cnt false B row col x y), .int 1]) ++ [pre2.map fun y => .tuple [.int (cnt false B row col x y), .int 1]]), .dat (.list ((codes p col).map fun y => .list (selD B (B.map fun _ => one1) row col x y))), s7, s8, s9, .no], 0⟩) (codes p col) ?_ ?_ (codes p col) [] _ rfl ⟨s7, s8, s9, rfl⟩
      · rintro pre2 y post2 e2 E ⟨s7, s8, s9, rfl⟩ C2 hC2
        have hpre2 : pre2.length < 1000000 := by
          have := congrArg List.length e2
          simp at this
          omega
        refine ⟨two_len, ?_⟩
        show forGo _ _ _ (selD B (B.map fun _ => one1) row col x y) _
        rw [sel_map]
        refine for_pre (fun _ : Rec => one1)
          (fun pre3 E => ∃ s9, E = ⟨[.dat (planD p), .dat (bookD B), .dat (.int row), .dat (.int col), .dat (.list (B.map fun _ => one1)), .own2 ((pre.map fun x => (codes p col).map fun y => .tuple [.int (cnt false B row col x y), .int 1]) ++ [pre2.map fun y => .tuple [.int (cnt false B row col x y), .int 1]]), .dat (.list ((codes p col).map fun y => .list (selD B (B.map fun _ => one1) row col x y))), .dat (.list ((B.filter fun r => hit r row col x y).map fun _ => one1)), .dat (.tuple [.int (pre3.length : Int), .int 1]), s9, .no], 0⟩) (B.filter fun r => hit r row col x y) ?_ ?_ _ [] _ rfl ⟨s9, rfl⟩
        · rintro pre3 r post3 e3 E ⟨s9, rfl⟩ C3 hC3
          refine ⟨rfl, (pre3.length : Int), rfl, hC3 _ ⟨.dat one1, ?_⟩⟩
          have : (((pre3 ++ [r]).length : Nat) : Int) = (pre3.length : Int) + 1 := by simp
          rw [this]
          rfl
        · rintro E ⟨s9, rfl⟩
          refine ⟨_, _, rfl, by rw [List.length_map]; exact hpre2, hC2 _ ⟨.dat (.list ((B.filter fun r => hit r row col x y).map fun _ => one1)), .dat (.tuple [.int ((B.filter fun r => hit r row col x y).length : Int), .int 1]), s9, ?_⟩⟩
          rw [List.map_append, ← cnt_len]
          rfl
      · rintro E ⟨s7, s8, s9, rfl⟩
        refine hC _ ⟨.dat (.list ((codes p col).map fun y => .list (selD B (B.map fun _ => one1) row col x y))), s7, s8, s9, ?_⟩
        rw [List.map_append]
        rfl
    · rintro E ⟨s6, s7, s8, s9, rfl⟩
      show Q (.list (((codes p row).map fun x => (codes p col).map fun y => .tuple [.int (cnt false B row col x y), .int 1]).map .list))
      rw [List.map_map]
      exact h
theorem BookOk.filter {p : Plan} {B : List Rec} (h : BookOk p B) (c : Rec → Bool) : BookOk p (B.filter c) := ⟨Nat.le_trans (List.length_filter_le _ _) h.len, fun r hr => h.recs r (List.mem_filter.mp hr).1⟩
def atL (B : List Rec) (k : Nat) (z : Str) : List Rec := B.filter fun r => decide (ans r k = some z)
def R_layers : RP := fun ds P => ∃ (p : Plan) (B : List Rec) (la row col : Nat) (m : Bool), ds = [planD p, bookD B, .int la, .int row, .int col, .str (wS m)] ∧ PlanOk p ∧ BookOk p B ∧ la < p.length ∧ row < p.length ∧ col < p.length ∧ [la, row, col].Nodup ∧
  P (.list ((codes p la).map fun z => tabP m p (atL B la z) row col))
theorem m_layers : MonoP R_layers := fun ds P P' w ⟨p, B, la, row, col, m, e, h1, h2, h3, h4, h5, h6, h⟩ => ⟨p, B, la, row, col, m, e, h1, h2, h3, h4, h5, h6, w _ h⟩
theorem r_layers (ds : List PyData) (Q : PyData → Prop) (hl : ds.length = 6) (h : R_layers ds Q) : t_layers R_must_be_book R_must_be_sorts R_amounts_by R_summed (endP Q) (enP N_layers.length ds) := by
  obtain ⟨p, B, la, row, col, m, rfl, hp, hB, hla, hr, hc, hnd, h⟩ := h
  have sl := (sort_get hp hla).cs
  have hll : (codes p la).length ≤ 6 := sl.hi
  have lc : (sL (codes p la)).length = (codes p la).length := List.length_map _
  refine ⟨rfl, p, B, rfl, hp, hB, by show 3 ≤ sizeLine; decide, rfl, p, [la, row, col], rfl, ?_, hnd, (by show 3 ≤ 10; decide), rfl, p, B, m, rfl, hB, Nat.zero_le _, ?_⟩
  · intro n hn
    have e : n = la ∨ n = row ∨ n = col := by simpa using hn
    rcases e with rfl | rfl | rfl <;> assumption
  refine ix_tup (k := (la : Int)) (plan_at hla) ⟨(by rw [lc]; omega : (sL (codes p la)).length ≤ 1000000), ?_⟩
  refine for_pre .str (fun pre E => ∃ s7, E = ⟨[.dat (planD p), .dat (bookD B), .dat (.int la), .dat (.int row), .dat (.int col), .dat (.str (wS m)), .own (pre.map fun z => tabP m p (atL B la z) row col), s7, .no], 0⟩) (codes p la) ?_ ?_ (codes p la) [] _ rfl ⟨.no, rfl⟩
  · rintro pre z post e E ⟨s7, rfl⟩ C hC
    have hpre : pre.length < 1000000 := by
      have := congrArg List.length e
      simp at this
      omega
    have hz : z ∈ codes p la := by rw [e]; simp
    refine ⟨rfl, lc_of recD (fun r => if decide (ans r la = some z) = true then some (recD r) else none) _ [] (fun r hr2 C2 hC2 => ?_) ?_⟩
    · have ok := hB.recs r hr2
      refine ix_tup (k := (la : Int)) (ans_at (by rw [ok.len]; exact hla)) ⟨(lay_ans (n := 1) hp ok hla).sh, (lay_str (n := 1) (sl.wd z hz) (by decide)).sh, ?_⟩
      have ee := eqv_ans (ans r la) z
      cases c : decide (ans r la = some z) with
      | true =>
        rw [c] at hC2
        exact ite_t (ee.trans c) ⟨rfl, hC2⟩
      | false =>
        rw [c] at hC2
        exact ite_f (ee.trans c) ⟨rfl, hC2⟩
    · rw [filterMap_if]
      refine ⟨rfl, p, atL B la z, row, col, m, rfl, hp, hB.filter _, hr, hc, by rw [List.length_map]; exact hpre, hC _ ⟨.dat (.str z), ?_⟩⟩
      rw [List.map_append]
      rfl
  · rintro E ⟨s7, rfl⟩
    exact h
end K22

set_option Elab.async false
set_option linter.all false
set_option maxRecDepth 100000
set_option maxHeartbeats 6400000
/-! Q0: drawing comprehensions; words joined. -/
namespace K22
open PySem PySem.Spec PyProof.Rows L2
/-- a comprehension whose items draw -/
theorem lc_dem {α : Type} {g : TDG} {tt : TDT} {te : TDE} {vs : List Nat} {sl : List Sl} {Q : List PyData → En → Prop} (mk : α → PyData) (I : List α → List PyData → Nat → Prop) (whole : List α)
    (hs : ∀ pre a post, whole = pre ++ a :: post → ∀ acc fu, I pre acc fu → ∀ C : Option PyData → Nat → Prop, (∀ y fu', I (pre ++ [a]) (acc ++ [y]) fu' → C (some y) fu') →
      g (mk a) (wipeE vs ⟨sl, fu⟩) fun E2 => tt E2 fun b E3 => if b = true then te E3 fun y E4 => E4.sl = E2.sl ∧ C (some y) E4.fu else E3.sl = E2.sl ∧ C none E3.fu)
    (hd : ∀ acc fu, I whole acc fu → Q acc ⟨sl, fu⟩) : ∀ (l pre : List α) (acc : List PyData) (fu : Nat), whole = pre ++ l → I pre acc fu → lcGo g tt te vs sl Q (l.map mk) acc fu
  | [], pre, acc, fu, e, h => hd acc fu (by rw [e, List.append_nil]; exact h)
  | a :: l, pre, acc, fu, e, h => hs pre a l e acc fu h (fun o fu' => match o with
      | some y => lcGo g tt te vs sl Q (l.map mk) (acc ++ [y]) fu'
      | none => lcGo g tt te vs sl Q (l.map mk) acc fu') fun y fu' h' => lc_dem mk I whole hs hd l (pre ++ [a]) (acc ++ [y]) fu' (by rw [e]; simp) h'
abbrev alph : Str := "aabeknorst"
/-- a text of those signs -/
structure AW (n : Nat) (s : Str) : Prop where
  lo : 1 ≤ s.length
  hi : s.length ≤ n
  al : ∀ c ∈ s.cps.toList, c ∈ alph.cps.toList
theorem AW.word {n : Nat} {s : Str} (h : AW n s) : Word n s := ⟨h.lo, h.hi, fun c hc => by
  have h1 : ∀ c ∈ alph.cps.toList, c ∈ small.cps.toList := by decide +kernel
  exact h1 c (h.al c hc)⟩
def ofSigns (cs : List Nat) : Str := ⟨cs.toArray⟩
theorem joinL_signs : ∀ cs : List Nat, TL.joinL [] (cs.map fun c => [c]) = cs
  | [] => rfl
  | [c] => rfl
  | c :: d :: r => by
    show [c] ++ ([] ++ TL.joinL [] ((d :: r).map fun c => [c])) = c :: d :: r
    rw [joinL_signs (d :: r)]; rfl
theorem join_signs (cs : List Nat) : Txt.join ("" : Str) (cs.map fun c => (⟨#[c]⟩ : Str)) = ofSigns cs := by
  have h := SX.join_S [] (cs.map fun c => [c])
  rw [joinL_signs, List.map_map] at h
  exact h
theorem ofSigns_len (cs : List Nat) : (ofSigns cs).length = cs.length := rfl
theorem ofSigns_aw {n : Nat} {cs : List Nat} (h0 : 1 ≤ cs.length) (h1 : cs.length ≤ n) (h : ∀ c ∈ cs, c ∈ alph.cps.toList) : AW n (ofSigns cs) := ⟨h0, h1, fun c hc => h c (by simpa [ofSigns] using hc)⟩
/-! ### a draw, a pick, a word -/
def R_law_draw : RZ := fun ds fu P => ∃ m : Nat, ds = [.int m] ∧ 1 ≤ m ∧ m ≤ 1073741823 ∧ 1 ≤ fu ∧ ∀ r : Nat, r < m → P (.int r) (fu - 1)
theorem m_law_draw : MonoZ R_law_draw := fun ds n P P' w ⟨m, e, h1, h2, h3, h⟩ => ⟨m, e, h1, h2, h3, fun r hr => w _ _ (h r hr)⟩
def R_law_pick : RZ := fun ds fu P => 1 ≤ fu ∧ ((∃ xs : List Str, ds = [.tuple (sL xs)] ∧ xs ≠ [] ∧ xs.length ≤ 1000 ∧ ∀ x ∈ xs, P (.str x) (fu - 1)) ∨ (ds = [.str alph] ∧ ∀ c ∈ alph.cps.toList, P (.str ⟨#[c]⟩) (fu - 1)))
theorem m_law_pick : MonoZ R_law_pick := fun ds n P P' w ⟨h0, h⟩ => ⟨h0, by
  rcases h with ⟨xs, e, h1, h2, h⟩ | ⟨e, h⟩
  · exact .inl ⟨xs, e, h1, h2, fun x hx => w _ _ (h x hx)⟩
  · exact .inr ⟨e, fun c hc => w _ _ (h c hc)⟩⟩
theorem r_law_pick (ds : List PyData) (fu : Nat) (Q : PyData → Nat → Prop) (hl : ds.length = 1) (h : R_law_pick ds fu Q) : t_law_pick R_law_draw (endZ Q) (enZ N_law_pick.length ds fu) := by
  obtain ⟨h0, ⟨xs, rfl, hne, hle, h⟩ | ⟨rfl, h⟩⟩ := h
  · have l1 : (sL xs).length = xs.length := List.length_map _
    have hpos : 0 < xs.length := List.length_pos_iff.mpr hne
    refine ⟨rfl, xs.length, by rw [l1], hpos, by omega, h0, fun r hr => ?_⟩
    exact ix_tup (k := (r : Int)) (d := .str xs[r]) (atI_nat (by rw [List.getElem?_map, List.getElem?_eq_getElem hr]; rfl)) (h _ (List.getElem_mem hr))
  · refine ⟨small_line (by decide), rfl, 10, by rfl, by decide, by decide, h0, fun r hr => ⟨small_line (by decide), ?_⟩⟩
    have ha : alph.cps.toList.length = 10 := by decide +kernel
    have e : atI alph.cps.toList (r : Int) = some (alph.cps.toList[r]'(by omega)) := atI_nat (List.getElem?_eq_getElem _)
    show match atI alph.cps.toList (r : Int) with | some c => _ | none => False
    rw [e]
    exact h _ (List.getElem_mem _)
end K22

set_option Elab.async false
set_option linter.all false
set_option maxRecDepth 100000
set_option maxHeartbeats 6400000
/-! Q1: words, codes drawn. -/
namespace K22
open PySem PySem.Spec PyProof.Rows L2
def signD (c : Nat) : PyData := .str ⟨#[c]⟩
theorem join_ok {cs : List Nat} {P : PyData → Prop} (hl : cs.length ≤ 1000) (h : P (.str (ofSigns cs))) : oJoin "" P (.list (cs.map signD)) := by
  refine ⟨cs.map fun c => ⟨#[c]⟩, by rw [List.map_map]; rfl, ?_, ?_⟩
  · have e : ((cs.map fun c => (⟨#[c]⟩ : Str)).map (·.length)).sum = cs.length := by
      rw [List.map_map]
      clear h hl
      induction cs with
      | nil => rfl
      | cons c cs ih =>
        rw [List.map_cons, List.sum_cons, ih]
        show 1 + cs.length = cs.length + 1
        omega
    rw [e]
    have e2 : ("" : Str).length = 0 := rfl
    rw [e2]
    omega
  · rw [join_signs]; exact h
def R_law_word : RZ := fun ds fu P => ∃ n : Nat, ds = [.int n] ∧ 2 ≤ n ∧ n ≤ 8 ∧ 10 ≤ fu ∧ ∀ (s : Str) (fu' : Nat), AW n s → fu ≤ fu' + 10 → P (.str s) fu'
theorem m_law_word : MonoZ R_law_word := fun ds n P P' w ⟨m, e, h1, h2, h3, h⟩ => ⟨m, e, h1, h2, h3, fun s f a b => w _ _ (h s f a b)⟩
/-- n signs are picked -/
theorem picks {F : Nat} {sl : List Sl} {v k : Nat} {Q : List PyData → En → Prop} (hs : ∀ d : PyData, ((wipeL sl [k]).set k (.dat d))[0]? = some .pz) (hF : v ≤ F) (hQ : ∀ (cs : List Nat) (fu : Nat), cs.length = v → (∀ c ∈ cs, c ∈ alph.cps.toList) → F ≤ fu + v → Q (cs.map signD) ⟨sl, fu⟩) :
    lcGo (dgName k) dYes (dDraw 0 1 R_law_pick (dCons (dC (.str alph)) dNil)) [k] sl Q ((List.range v).map fun i : Nat => .int (i : Int)) [] F := by
  refine lc_dem (fun i : Nat => .int (i : Int)) (fun pre acc fu => ∃ cs : List Nat, acc = cs.map signD ∧ cs.length = pre.length ∧ (∀ c ∈ cs, c ∈ alph.cps.toList) ∧ F ≤ fu + pre.length) (List.range v) ?_ ?_ _ [] [] F rfl ⟨[], rfl, rfl, (fun c hc => nomatch hc), Nat.le_add_right _ _⟩
  · rintro pre a post e acc fu ⟨cs, rfl, hlen, hal, hfu⟩ C hC
    have hpre : pre.length < v := by
      have := congrArg List.length e
      simp at this
      omega
    have key : dDraw 0 1 R_law_pick (dCons (dC (.str alph)) dNil) ⟨(wipeL sl [k]).set k (.dat (.int (a : Int))), fu⟩ (fun y E4 => E4.sl = (wipeL sl [k]).set k (.dat (.int (a : Int))) ∧ C (some y) E4.fu) := ?_
    · exact key
    unfold dDraw
    rw [show (⟨(wipeL sl [k]).set k (.dat (.int (a : Int))), fu⟩ : En).sl[0]? = some .pz from hs _]
    refine ⟨rfl, by show 1 ≤ fu; omega, .inr ⟨rfl, fun c hc => ⟨rfl, hC _ _ ⟨cs ++ [c], by rw [List.map_append]; rfl, by simp [hlen], (fun d hd => ?_), ?_⟩⟩⟩⟩
    · rcases List.mem_append.mp hd with hd | hd
      · exact hal d hd
      · rw [List.mem_singleton.mp hd]; exact hc
    · show F ≤ fu - 1 + (pre ++ [a]).length
      rw [List.length_append, List.length_singleton]
      omega
  · rintro acc fu ⟨cs, rfl, hlen, hal, hfu⟩
    rw [List.length_range] at hlen hfu
    exact hQ cs fu hlen hal hfu
theorem r_law_word (ds : List PyData) (fu : Nat) (Q : PyData → Nat → Prop) (hl : ds.length = 1) (h : R_law_word ds fu Q) : t_law_word R_law_draw R_law_pick (endZ Q) (enZ N_law_word.length ds fu) := by
  obtain ⟨n, rfl, h2, h8, hfu, h⟩ := h
  refine ⟨two_len, rfl, 2, rfl, by decide, by decide, by show 1 ≤ fu; omega, fun r hr => ?_⟩
  obtain ⟨m, hm, hm2, hmn⟩ : ∃ m : Nat, atI [PyData.int 2, .int (n : Int)] (r : Int) = some (.int (m : Int)) ∧ 2 ≤ m ∧ m ≤ n := by
    have : r = 0 ∨ r = 1 := by omega
    rcases this with rfl | rfl
    · exact ⟨2, rfl, by omega, h2⟩
    · exact ⟨n, rfl, h2, Nat.le_refl _⟩
  refine ix_list hm ⟨rfl, m, rfl, by omega, by omega, by show 1 ≤ fu - 1; omega, fun r2 hr2 => ?_⟩
  refine ⟨by omega, by omega, rfl, ?_⟩
  have e : ((1 : Int) + (r2 : Int)).toNat = r2 + 1 := by omega
  rw [e]
  refine picks (F := fu - 1 - 1) (k := 3) (fun d => rfl) (by omega) fun cs fu' hc hal hf => ?_
  exact join_ok (by omega) (h _ _ (ofSigns_aw (by omega) (by omega) hal) (by show fu ≤ fu' + 10; omega))
def R_law_codes : RZ := fun ds fu P => ds = [] ∧ 61 ≤ fu ∧ ∀ (xs : List Str) (fu' : Nat), Codes 2 6 xs → fu ≤ fu' + 61 → P (.tuple (sL xs)) fu'
theorem m_law_codes : MonoZ R_law_codes := fun ds n P P' w ⟨e, h3, h⟩ => ⟨e, h3, fun s f a b => w _ _ (h s f a b)⟩
theorem scal_sL (l : List Str) : (sL l).all scal = true := scal_map l (fun _ => rfl)
theorem zz_word : Word 4 "zz" := ⟨by decide, by decide, by decide +kernel⟩
theorem zz_not {n : Nat} : ¬ AW n "zz" := fun h => by
  have := h.al 122 (by decide +kernel)
  revert this
  decide +kernel
theorem r_law_codes (ds : List PyData) (fu : Nat) (Q : PyData → Nat → Prop) (hl : ds.length = 0) (h : R_law_codes ds fu Q) : t_law_codes R_law_draw R_law_word (endZ Q) (enZ N_law_codes.length ds fu) := by
  obtain ⟨rfl, hfu, h⟩ := h
  refine ⟨Nat.zero_le _, rfl, 5, rfl, by decide, by decide, by show 1 ≤ fu; omega, fun r hr => ⟨by omega, by omega, ?_⟩⟩
  have e : ((2 : Int) + (r : Int)).toNat = r + 2 := by omega
  rw [e]
  refine for_pre (fun i : Nat => .int (i : Int)) (fun pre E => ∃ (xs : List Str) (sk sw : Sl) (f : Nat), E = ⟨[.pz, .own (sL xs), sk, sw], f⟩ ∧ xs.Nodup ∧ (∀ x ∈ xs, AW 4 x) ∧ xs.length ≤ pre.length ∧ (pre ≠ [] → xs ≠ []) ∧ fu - 1 ≤ f + 10 * pre.length) (List.range (r + 2)) ?_ ?_ _ [] _ rfl
    ⟨[], .no, .no, fu - 1, rfl, List.nodup_nil, (fun x hx => nomatch hx), Nat.le_refl _, (fun z => absurd rfl z), Nat.le_add_right _ _⟩
  · rintro pre a post e E ⟨xs, sk, sw, f, rfl, hnd, haw, hle, hne, hf⟩ C hC
    have hpre : pre.length < r + 2 := by
      have := congrArg List.length e
      simp at this
      omega
    refine ⟨rfl, 4, rfl, by decide, by decide, by show 10 ≤ f; omega, fun s f' hs hf' => ⟨rfl, scal_sL xs, ?_⟩⟩
    have hf'' : f ≤ f' + 10 := hf'
    have lp : (pre ++ [a]).length = pre.length + 1 := by simp
    have ee : (!inD (.str s) (sL xs)) = !decide (s ∈ xs) := by rw [inD_str]
    by_cases c : s ∈ xs
    · refine ite_f (ee.trans (by rw [decide_eq_true c]; rfl)) (hC _ ⟨xs, .dat (.int (a : Int)), .dat (.str s), f', rfl, hnd, haw, by rw [lp]; omega, (fun _ z => by rw [z] at c; cases c), by rw [lp]; omega⟩)
    · refine ite_t (ee.trans (by rw [decide_eq_false c]; rfl)) ⟨by rw [List.length_map]; omega, hC _ ⟨xs ++ [s], .dat (.int (a : Int)), .dat (.str s), f', ?_, ?_, ?_, by rw [lp, List.length_append, List.length_singleton]; omega, (fun _ => by simp), by rw [lp]; omega⟩⟩
      · show (⟨[.pz, .own (sL xs ++ [.str s]), _, _], _⟩ : En) = _
        rw [show sL (xs ++ [s]) = sL xs ++ [.str s] from List.map_append ..]
        rfl
      · exact List.nodup_append.mpr ⟨hnd, by simp, fun x hx y hy => by rw [List.mem_singleton.mp hy]; exact fun z => c (by rw [← z]; exact hx)⟩
      · intro x hx
        rcases List.mem_append.mp hx with hx | hx
        · exact haw x hx
        · rw [List.mem_singleton.mp hx]; exact hs
  · rintro E ⟨xs, sk, sw, f, rfl, hnd, haw, hle, hne, hf⟩
    rw [List.length_range] at hle hf
    have hne' : xs ≠ [] := hne (by intro z; have := congrArg List.length z; simp at this)
    have hpos : 0 < xs.length := List.length_pos_iff.mpr hne'
    have lx : (sL xs).length = xs.length := List.length_map _
    refine ⟨two_len, rfl, ?_⟩
    have fin : ∀ (k : Int) (ys : List Str), 0 ≤ k → sL ys = sL xs ++ [PyData.str "zz", .str "z"].take k.toNat → Codes 2 6 ys →
        (0 ≤ k ∧ ((sL xs).length + ([PyData.str "zz", .str "z"].take k.toNat).length ≤ sizeLine ∧ Q (.tuple (sL xs ++ [PyData.str "zz", .str "z"].take k.toNat)) f)) := fun k ys hk e hc => by
      refine ⟨hk, ?_, ?_⟩
      · rw [lx]
        refine small_line ?_
        have : ([PyData.str "zz", .str "z"].take k.toNat).length ≤ 2 := by
          have := List.length_take_le' k.toNat [PyData.str "zz", .str "z"]
          simpa using this
        omega
      · rw [← e]
        exact h ys f hc (by omega)
    show 0 ≤ (if (2 : Int) - ((sL xs).length : Int) > 0 then (2 : Int) - ((sL xs).length : Int) else 0) ∧ _
    by_cases c : xs.length = 1
    · have ek : (if (2 : Int) - ((sL xs).length : Int) > 0 then (2 : Int) - ((sL xs).length : Int) else 0) = 1 := by rw [lx, c]; rfl
      rw [ek]
      refine fin 1 (xs ++ [("zz" : Str)]) (by decide) (List.map_append ..) ⟨by simp [c], by simp [c], fun x hx => ?_, ?_⟩
      · rcases List.mem_append.mp hx with hx | hx
        · exact (haw x hx).word
        · rw [List.mem_singleton.mp hx]; exact zz_word
      · exact List.nodup_append.mpr ⟨hnd, by simp, fun x hx y hy z => zz_not (n := 4) ((z.trans (List.mem_singleton.mp hy)) ▸ haw x hx)⟩
    · have ek : (if (2 : Int) - ((sL xs).length : Int) > 0 then (2 : Int) - ((sL xs).length : Int) else 0) = 0 := by rw [lx, if_neg (by omega)]
      rw [ek]
      exact fin 0 xs (by decide) (by simp) ⟨by omega, by omega, fun x hx => (haw x hx).word, hnd⟩
end K22

set_option Elab.async false
set_option linter.all false
set_option maxRecDepth 100000
set_option maxHeartbeats 6400000
/-! Q2: plans, records, books drawn. -/
namespace K22
open PySem PySem.Spec PyProof.Rows L2
theorem range_at {n a : Nat} {pre post : List Nat} (e : List.range n = pre ++ a :: post) : a = pre.length ∧ pre.length < n := by
  have h : (List.range n)[pre.length]? = some a := by rw [e]; simp
  have hl : pre.length < n := by
    have := congrArg List.length e
    simp at this
    omega
  rw [List.getElem?_range hl] at h
  exact ⟨(Option.some.inj h).symm, hl⟩
def zs (k : Nat) : Str := (["za", "zb", "zc", "zd"] : List Str).getD k ""
theorem zs_word : ∀ k, k < 4 → Word 8 (zs k) := fun k hk => by
  have : k = 0 ∨ k = 1 ∨ k = 2 ∨ k = 3 := by omega
  rcases this with rfl | rfl | rfl | rfl <;> exact ⟨by decide, by decide, by decide +kernel⟩
theorem zs_inj : ∀ j k, j < 4 → k < 4 → zs j = zs k → j = k := by
  have h : ∀ j : Fin 4, ∀ k : Fin 4, zs j = zs k → j = k := by decide +kernel
  intro j k hj hk e
  have := h ⟨j, hj⟩ ⟨k, hk⟩ e
  exact congrArg Fin.val this
theorem zs_not {n k : Nat} (hk : k < 4) : ¬ AW n (zs k) := fun h => by
  have h2 := h.al 122 (by
    have h : ∀ k : Fin 4, 122 ∈ (zs k).cps.toList := by decide +kernel
    exact h ⟨k, hk⟩)
  revert h2
  decide +kernel
def R_law_plan : RZ := fun ds fu P => ds = [.int 2] ∧ 285 ≤ fu ∧ ∀ (p : Plan) (fu' : Nat), PlanOk p → 2 ≤ p.length → fu ≤ fu' + 285 → P (planD p) fu'
theorem m_law_plan : MonoZ R_law_plan := fun ds n P P' w ⟨e, h3, h⟩ => ⟨e, h3, fun s f a b c => w _ _ (h s f a b c)⟩
structure NamOk (p : Plan) : Prop where
  so : ∀ s ∈ p, SortOk s
  nd : (p.map (·.1)).Nodup
  nm : ∀ s ∈ p, AW 8 s.1 ∨ ∃ j, j < p.length ∧ s.1 = zs j
theorem r_law_plan (ds : List PyData) (fu : Nat) (Q : PyData → Nat → Prop) (hl : ds.length = 1) (h : R_law_plan ds fu Q) : t_law_plan R_law_draw R_law_word R_law_codes (endZ Q) (enZ N_law_plan.length ds fu) := by
  obtain ⟨rfl, hfu, h⟩ := h
  refine ⟨Nat.zero_le _, rfl, 3, rfl, by decide, by decide, by show 1 ≤ fu; omega, fun r hr => ⟨by omega, by omega, ?_⟩⟩
  have e : ((2 : Int) + (r : Int)).toNat = r + 2 := by omega
  rw [e]
  refine for_pre (fun i : Nat => .int (i : Int)) (fun pre E => ∃ (p : Plan) (s3 s4 : Sl) (f : Nat), E = ⟨[.pz, .dat (.int 2), .own (p.map sortD), s3, s4, .no, .no], f⟩ ∧ p.length = pre.length ∧ NamOk p ∧ fu - 1 ≤ f + 71 * pre.length) (List.range (r + 2)) ?_ ?_ _ [] _ rfl
    ⟨[], .no, .no, fu - 1, rfl, rfl, ⟨(fun s hs => nomatch hs), List.nodup_nil, (fun s hs => nomatch hs)⟩, Nat.le_add_right _ _⟩
  · rintro pre a post e E ⟨p, s3, s4, f, rfl, hpl, hok, hf⟩ C hC
    obtain ⟨rfl, hpre⟩ := range_at e
    have lp : (pre ++ [pre.length]).length = pre.length + 1 := by simp
    refine ⟨rfl, 8, rfl, by decide, by decide, by show 10 ≤ f; omega, fun s f' hs hf' => ?_⟩
    have hf'' : f ≤ f' + 10 := hf'
    have rest : ∀ n : Str, Word 8 n → n ∉ p.map (·.1) → (AW 8 n ∨ n = zs pre.length) → dApp 2 (dTup (dCons (dVar 4) (dCons (dDraw 0 0 R_law_codes dNil) dNil))) ⟨C, fun d k => Q d k, fun d k => Q d k, fun _ => False, C⟩ ⟨[.pz, .dat (.int 2), .own (p.map sortD), .dat (.int (pre.length : Int)), .dat (.str n), .no, .no], f'⟩ := fun n hw hn hz => by
      refine ⟨rfl, rfl, by show 61 ≤ f'; omega, fun xs f'' hx hf3 => ⟨two_len, by rw [List.length_map]; omega, hC _ ⟨p ++ [(n, xs)], .dat (.int (pre.length : Int)), .dat (.str n), f'', ?_, by rw [List.length_append, lp, hpl]; rfl, ⟨?_, ?_, ?_⟩, ?_⟩⟩⟩
      · show (⟨[.pz, .dat (.int 2), .own (p.map sortD ++ [sortD (n, xs)]), _, _, _, _], _⟩ : En) = _
        rw [List.map_append]
        rfl
      · intro s hs
        rcases List.mem_append.mp hs with hs | hs
        · exact hok.so s hs
        · rw [List.mem_singleton.mp hs]; exact ⟨hw, hx⟩
      · rw [List.map_append]
        exact List.nodup_append.mpr ⟨hok.nd, by simp, fun x hx y hy z => hn (by rw [show n = y from (List.mem_singleton.mp hy).symm, ← z]; exact hx)⟩
      · intro s hs
        rw [List.length_append]
        rcases List.mem_append.mp hs with hs | hs
        · exact (hok.nm s hs).imp id fun ⟨j, hj, e⟩ => ⟨j, by omega, e⟩
        · rw [List.mem_singleton.mp hs]
          exact hz.imp id fun e => ⟨pre.length, by rw [hpl]; simp, e⟩
      · have hf4 : f' ≤ f'' + 61 := hf3
        rw [lp]
        omega
    refine ⟨rfl, lc_map sortD (fun s => .str s.1) _ [] (fun s hs C2 hC2 => ⟨rfl, rfl, rfl, hC2⟩) ⟨rfl, scal_map _ (fun _ => rfl), ?_⟩⟩
    have ee : inD (.str s) ([] ++ p.map fun s => .str s.1) = decide (s ∈ p.map (·.1)) := by
      have := inD_str s (p.map (·.1))
      rw [sL, List.map_map] at this
      rw [List.nil_append]
      exact this
    by_cases c : s ∈ p.map (·.1)
    · refine ite_t (ee.trans (decide_eq_true c)) ⟨by show 4 ≤ sizeLine; decide, ?_⟩
      have h4 : pre.length < 4 := by omega
      refine ix_list (k := (pre.length : Int)) (d := .str (zs pre.length)) (atI_nat ?_) (rest _ (zs_word _ h4) (fun z => ?_) (.inr rfl))
      · have : pre.length = 0 ∨ pre.length = 1 ∨ pre.length = 2 ∨ pre.length = 3 := by omega
        rcases this with q | q | q | q <;> rw [q] <;> rfl
      · obtain ⟨t, ht, et⟩ := List.mem_map.mp z
        rcases hok.nm t ht with q | ⟨j, hj, q⟩
        · rw [et] at q; exact zs_not h4 q
        · have := zs_inj j pre.length (by omega) h4 (by rw [← q, et])
          omega
    · exact ite_f (ee.trans (decide_eq_false c)) (rest s hs.word c (.inl hs))
  · rintro E ⟨p, s3, s4, f, rfl, hpl, hok, hf⟩
    rw [List.length_range] at hpl hf
    exact h p f ⟨by omega, by omega, hok.so, hok.nd⟩ (by omega) (by omega)
def R_law_record : RZ := fun ds fu P => ∃ p : Plan, ds = [planD p] ∧ PlanOk p ∧ 10 ≤ fu ∧ ∀ (r : Rec) (fu' : Nat), RecOk p r → fu ≤ fu' + 10 → P (recD r) fu'
theorem m_law_record : MonoZ R_law_record := fun ds n P P' w ⟨p, e, h1, h3, h⟩ => ⟨p, e, h1, h3, fun s f a b => w _ _ (h s f a b)⟩
theorem r_law_record (ds : List PyData) (fu : Nat) (Q : PyData → Nat → Prop) (hl : ds.length = 1) (h : R_law_record ds fu Q) : t_law_record R_law_draw R_law_pick (endZ Q) (enZ N_law_record.length ds fu) := by
  obtain ⟨p, rfl, hp, hfu, h⟩ := h
  have l1 : (p.map sortD).length = p.length := List.length_map _
  have hhi := hp.hi
  refine ⟨Nat.zero_le _, (by rw [l1]; omega : (p.map sortD).length ≤ 1000000), ?_⟩
  refine for_pre sortD (fun pre E => ∃ (as : List (Option Str)) (s3 s4 : Sl) (f : Nat), E = ⟨[.pz, .dat (planD p), .own (as.map ansD), s3, s4], f⟩ ∧ as.length = pre.length ∧ (∀ k, k < pre.length → as.getD k none = none ∨ ∃ x ∈ codes p k, as.getD k none = some x) ∧ fu ≤ f + 2 * pre.length) p ?_ ?_ _ [] _ rfl
    ⟨[], .no, .no, fu, rfl, rfl, (fun k hk => absurd hk (Nat.not_lt_zero _)), Nat.le_add_right _ _⟩
  · rintro pre s post e E ⟨as, s3, s4, f, rfl, hal, hok, hf⟩ C hC
    have hpl : p.length = pre.length + post.length + 1 := by rw [e]; simp; omega
    have lp : (pre ++ [s]).length = pre.length + 1 := by simp
    have hs : p[pre.length]? = some s := by rw [e]; simp
    have hk : pre.length < p.length := by omega
    have es : p.getD pre.length ("", []) = s := by simp [List.getD, hs]
    have so := hp.so s (List.mem_of_getElem? hs)
    have hne : s.2 ≠ [] := fun z => by have := so.cs.lo; rw [z] at this; simp at this
    have hle := so.cs.hi
    refine ⟨rfl, rfl, rfl, by show 1 ≤ f; omega, .inl ⟨s.2, rfl, hne, by omega, fun x hx => ⟨two_len, rfl, 6, rfl, by decide, by decide, by show 1 ≤ f - 1; omega, fun r hr => ⟨shI _, shI _, ?_⟩⟩⟩⟩
    have fin : ∀ a : Option Str, (a = none ∨ ∃ x ∈ s.2, a = some x) → (as.map ansD).length < 1000000 ∧ C ⟨[.pz, .dat (planD p), .own (as.map ansD ++ [ansD a]), .dat (.str s.1), .dat (.tuple (sL s.2))], f - 1 - 1⟩ := fun a ha => by
      refine ⟨by rw [List.length_map]; omega, hC _ ⟨as ++ [a], .dat (.str s.1), .dat (.tuple (sL s.2)), f - 1 - 1, by rw [List.map_append]; rfl, by rw [List.length_append, lp, hal]; rfl, fun k hk2 => ?_, by rw [lp]; omega⟩⟩
      rw [lp] at hk2
      by_cases c : k < pre.length
      · have : (as ++ [a]).getD k none = as.getD k none := by simp [List.getD, List.getElem?_append_left (show k < as.length by omega)]
        rw [this]
        exact hok k c
      · have ek : k = pre.length := by omega
        subst ek
        have : (as ++ [a]).getD pre.length none = a := by rw [← hal]; simp [List.getD]
        rw [this]
        unfold codes
        rw [es]
        exact ha
    show oIx (.list [.str x, .none]) (.int (if PyData.eqv (.int (r : Int)) (.int 0) = true then 1 else 0)) _
    cases PyData.eqv (.int (r : Int)) (.int 0) with
    | true => exact fin none (.inl rfl)
    | false => exact fin (some x) (.inr ⟨x, hx, rfl⟩)
  · rintro E ⟨as, s3, s4, f, rfl, hal, hok, hf⟩
    have hp4 := hp.hi
    refine ⟨by decide, by decide, two_len, rfl, 2, rfl, by decide, by decide, by show 1 ≤ f; omega, fun r hr => ?_⟩
    obtain ⟨m, hm, hm1, hm2⟩ : ∃ m : Nat, atI [PyData.int 10, .int ((10 : Int) ^ (6 : Int).toNat + 1)] (r : Int) = some (.int (m : Int)) ∧ 1 ≤ m ∧ m ≤ 1000001 := by
      have : r = 0 ∨ r = 1 := by omega
      rcases this with rfl | rfl
      · exact ⟨10, rfl, by omega, by omega⟩
      · exact ⟨1000001, rfl, by omega, by omega⟩
    refine ix_list hm ⟨rfl, m, rfl, hm1, by omega, by show 1 ≤ f - 1; omega, fun r2 hr2 => ⟨by show 1 ≤ sizeLine; decide, ?_, ?_⟩⟩
    · rw [List.length_map]
      refine small_line ?_
      show as.length + 1 ≤ 1000000
      omega
    · refine h (as, (r2 : Int)) _ ⟨hal, fun k hk => hok k (by omega), by omega, by show (r2 : Int) ≤ 1000000; omega⟩ ?_
      show fu ≤ f - 1 - 1 + 10
      omega
end K22

set_option Elab.async false
set_option linter.all false
set_option maxRecDepth 100000
set_option maxHeartbeats 6400000
/-! Q3: books, labels, tables, orders, lots drawn. -/
namespace K22
open PySem PySem.Spec PyProof.Rows L2
def R_law_book : RZ := fun ds fu P => ∃ p : Plan, ds = [planD p] ∧ PlanOk p ∧ 602 ≤ fu ∧ ∀ (B : List Rec) (fu' : Nat), BookOk p B → fu ≤ fu' + 602 → P (bookD B) fu'
theorem m_law_book : MonoZ R_law_book := fun ds n P P' w ⟨p, e, h1, h3, h⟩ => ⟨p, e, h1, h3, fun s f a b => w _ _ (h s f a b)⟩
theorem r_law_book (ds : List PyData) (fu : Nat) (Q : PyData → Nat → Prop) (hl : ds.length = 1) (h : R_law_book ds fu Q) : t_law_book R_law_draw R_law_record (endZ Q) (enZ N_law_book.length ds fu) := by
  obtain ⟨p, rfl, hp, hfu, h⟩ := h
  refine ⟨by show 3 ≤ sizeLine; decide, rfl, 3, rfl, by decide, by decide, by show 1 ≤ fu; omega, fun r hr => ?_⟩
  obtain ⟨m, hm, hm1, hm2⟩ : ∃ m : Nat, atI [PyData.int 4, .int 12, .int 61] (r : Int) = some (.int (m : Int)) ∧ 1 ≤ m ∧ m ≤ 61 := by
    have : r = 0 ∨ r = 1 ∨ r = 2 := by omega
    rcases this with rfl | rfl | rfl
    · exact ⟨4, rfl, by omega, by omega⟩
    · exact ⟨12, rfl, by omega, by omega⟩
    · exact ⟨61, rfl, by omega, by omega⟩
  refine ix_list hm ⟨rfl, m, rfl, hm1, by omega, by show 1 ≤ fu - 1; omega, fun n hn => ⟨by omega, by omega, rfl, ?_⟩⟩
  have e : ((n : Int)).toNat = n := by omega
  rw [e]
  refine lc_dem (fun i : Nat => .int (i : Int)) (fun pre acc f => ∃ B : List Rec, acc = B.map recD ∧ B.length = pre.length ∧ (∀ r ∈ B, RecOk p r) ∧ fu - 2 ≤ f + 10 * pre.length) (List.range n) ?_ ?_ _ [] [] (fu - 1 - 1) rfl ⟨[], rfl, rfl, (fun c hc => nomatch hc), by omega⟩
  · rintro pre a post e acc f ⟨B, rfl, hBl, hB, hf⟩ C hC
    obtain ⟨rfl, hpre⟩ := range_at e
    have lp : (pre ++ [pre.length]).length = pre.length + 1 := by simp
    refine ⟨rfl, p, rfl, hp, by show 10 ≤ f; omega, fun r f' hr hf' => ⟨rfl, hC _ _ ⟨B ++ [r], by rw [List.map_append]; rfl, by rw [List.length_append, lp, hBl]; rfl, fun x hx => ?_, ?_⟩⟩⟩
    · rcases List.mem_append.mp hx with hx | hx
      · exact hB x hx
      · rw [List.mem_singleton.mp hx]; exact hr
    · have hf3 : f ≤ f' + 10 := hf'
      show fu - 2 ≤ f' + 10 * (pre ++ [pre.length]).length
      rw [lp]
      omega
  · rintro acc f ⟨B, rfl, hBl, hB, hf⟩
    rw [List.length_range] at hBl hf
    exact h B f ⟨by omega, hB⟩ (by omega)
def R_law_labels : RZ := fun ds fu P => ds = [] ∧ 31 ≤ fu ∧ ∀ (xs : List Str) (fu' : Nat), Codes 1 6 xs → fu ≤ fu' + 31 → P (.list (sL xs)) fu'
theorem m_law_labels : MonoZ R_law_labels := fun ds n P P' w ⟨e, h3, h⟩ => ⟨e, h3, fun s f a b => w _ _ (h s f a b)⟩
theorem r_law_labels (ds : List PyData) (fu : Nat) (Q : PyData → Nat → Prop) (hl : ds.length = 0) (h : R_law_labels ds fu Q) : t_law_labels R_law_draw R_law_pick (endZ Q) (enZ N_law_labels.length ds fu) := by
  obtain ⟨rfl, hfu, h⟩ := h
  refine ⟨Nat.zero_le _, rfl, 6, rfl, by decide, by decide, by show 1 ≤ fu; omega, fun r hr => ⟨by omega, by omega, ?_⟩⟩
  have e : ((1 : Int) + (r : Int)).toNat = r + 1 := by omega
  rw [e]
  refine for_pre (fun i : Nat => .int (i : Int)) (fun pre E => ∃ (xs : List Str) (sk sw : Sl) (f : Nat), E = ⟨[.pz, .own (sL xs), sk, sw, .no], f⟩ ∧ xs.Nodup ∧ (∀ x ∈ xs, AW 4 x) ∧ xs.length ≤ pre.length ∧ (pre ≠ [] → xs ≠ []) ∧ fu - 1 ≤ f + 5 * pre.length) (List.range (r + 1)) ?_ ?_ _ [] _ rfl
    ⟨[], .no, .no, fu - 1, rfl, List.nodup_nil, (fun x hx => nomatch hx), Nat.le_refl _, (fun z => absurd rfl z), Nat.le_add_right _ _⟩
  · rintro pre a post e E ⟨xs, sk, sw, f, rfl, hnd, haw, hle, hne, hf⟩ C hC
    have hpre : pre.length < r + 1 := (range_at e).2
    have lp : (pre ++ [a]).length = pre.length + 1 := by simp
    refine ⟨rfl, 4, rfl, by decide, by decide, by show 1 ≤ f; omega, fun r2 hr2 => ⟨by omega, by omega, rfl, ?_⟩⟩
    have e2 : ((1 : Int) + (r2 : Int)).toNat = r2 + 1 := by omega
    rw [e2]
    refine picks (F := f - 1) (k := 4) (fun d => rfl) (by omega) fun cs f' hc hal hf' => join_ok (by omega) ⟨rfl, scal_sL xs, ?_⟩
    have hs : AW 4 (ofSigns cs) := ofSigns_aw (by omega) (by omega) hal
    have ee : (!inD (.str (ofSigns cs)) (sL xs)) = !decide (ofSigns cs ∈ xs) := by rw [inD_str]
    by_cases c : ofSigns cs ∈ xs
    · refine ite_f (ee.trans (by rw [decide_eq_true c]; rfl)) (hC _ ⟨xs, .dat (.int (a : Int)), .dat (.str (ofSigns cs)), f', rfl, hnd, haw, by rw [lp]; omega, (fun _ z => by rw [z] at c; cases c), by rw [lp]; omega⟩)
    · refine ite_t (ee.trans (by rw [decide_eq_false c]; rfl)) ⟨by rw [List.length_map]; omega, hC _ ⟨xs ++ [ofSigns cs], .dat (.int (a : Int)), .dat (.str (ofSigns cs)), f', ?_, ?_, ?_, by rw [lp, List.length_append, List.length_singleton]; omega, (fun _ => by simp), by rw [lp]; omega⟩⟩
      · show (⟨[.pz, .own (sL xs ++ [.str (ofSigns cs)]), _, _, _], _⟩ : En) = _
        rw [show sL (xs ++ [ofSigns cs]) = sL xs ++ [.str (ofSigns cs)] from List.map_append ..]
        rfl
      · exact List.nodup_append.mpr ⟨hnd, by simp, fun x hx y hy => by rw [List.mem_singleton.mp hy]; exact fun z => c (by rw [← z]; exact hx)⟩
      · intro x hx
        rcases List.mem_append.mp hx with hx | hx
        · exact haw x hx
        · rw [List.mem_singleton.mp hx]; exact hs
  · rintro E ⟨xs, sk, sw, f, rfl, hnd, haw, hle, hne, hf⟩
    rw [List.length_range] at hle hf
    have hne' : xs ≠ [] := hne (by intro z; have := congrArg List.length z; simp at this)
    have hpos : 0 < xs.length := List.length_pos_iff.mpr hne'
    exact h xs f ⟨hpos, by omega, fun x hx => (haw x hx).word, hnd⟩ (by omega)
/-- a matrix by lists -/
theorem rD_of (l : List Int) : PyData.list (l.map .int) = rD l.length fun k => l.getD k 0 := by
  unfold rD
  rw [map_get l 0 PyData.int]
theorem mD_of (m : List (List Int)) (b : Nat) (h : ∀ r ∈ m, r.length = b) : PyData.list (m.map fun r => .list (r.map .int)) = mD m.length b fun i k => (m.getD i []).getD k 0 := by
  unfold mD
  rw [map_get m [] fun r => PyData.list (r.map .int)]
  congr 1
  apply List.map_congr_left
  intro i hi
  have hi' : i < m.length := List.mem_range.mp hi
  have e : (m.getD i []).length = b := by
    rw [List.getD, List.getElem?_eq_getElem hi']
    exact h _ (List.getElem_mem hi')
  rw [rD_of, e]
def R_law_table : RZ := fun ds fu P => ds = [] ∧ 99 ≤ fu ∧ ∀ (r c : List Str) (f : Nat → Nat → Int) (fu' : Nat), Codes 1 6 r → Codes 1 6 c → (∀ i k, i < r.length → k < c.length → 0 ≤ f i k) → fu ≤ fu' + 99 → P (tabD r c f) fu'
theorem m_law_table : MonoZ R_law_table := fun ds n P P' w ⟨e, h3, h⟩ => ⟨e, h3, fun r c f fu' a b d g => w _ _ (h r c f fu' a b d g)⟩
theorem r_law_table (ds : List PyData) (fu : Nat) (Q : PyData → Nat → Prop) (hl : ds.length = 0) (h : R_law_table ds fu Q) : t_law_table R_law_draw R_law_labels (endZ Q) (enZ N_law_table.length ds fu) := by
  obtain ⟨rfl, hfu, h⟩ := h
  refine ⟨rfl, rfl, by show 31 ≤ fu; omega, fun rr f1 hrr hf1 => ⟨rfl, rfl, ?_, fun cc f2 hcc hf2 => ?_⟩⟩
  · have : fu ≤ f1 + 31 := hf1
    show 31 ≤ f1
    omega
  have hf1' : fu ≤ f1 + 31 := hf1
  have hf2' : f1 ≤ f2 + 31 := hf2
  have lr : (sL rr).length = rr.length := List.length_map _
  have lc : (sL cc).length = cc.length := List.length_map _
  have hr6 := hrr.hi
  have hc6 := hcc.hi
  refine ⟨by decide, by decide, by show 3 ≤ sizeLine; decide, rfl, 3, rfl, by decide, by decide, by show 1 ≤ f2; omega, fun r hr => ?_⟩
  obtain ⟨m, hm, hm1, hm2⟩ : ∃ m : Nat, atI [PyData.int 3, .int 100, .int ((10 : Int) ^ (9 : Int).toNat + 1)] (r : Int) = some (.int (m : Int)) ∧ 1 ≤ m ∧ m ≤ 1000000001 := by
    have : r = 0 ∨ r = 1 ∨ r = 2 := by omega
    rcases this with rfl | rfl | rfl
    · exact ⟨3, rfl, by omega, by omega⟩
    · exact ⟨100, rfl, by omega, by omega⟩
    · exact ⟨1000000001, rfl, by omega, by omega⟩
  refine ix_list hm ⟨Nat.zero_le _, by rw [lr]; omega, by rw [lr]; omega, ?_⟩
  have e : ((((sL rr).length : Nat) : Int)).toNat = rr.length := by rw [lr]; omega
  rw [e]
  refine for_pre (fun i : Nat => .int (i : Int)) (fun pre E => ∃ (mm : List (List Int)) (s3 : Sl) (f : Nat), E = ⟨[.pz, .dat (.int (m : Int)), .own (mm.map fun r => .list (r.map .int)), s3, .dat (.list (sL rr)), .dat (.list (sL cc)), .no], f⟩ ∧ mm.length = pre.length ∧ (∀ r ∈ mm, r.length = cc.length ∧ ∀ x ∈ r, 0 ≤ x) ∧ f2 - 1 ≤ f + 6 * pre.length) (List.range rr.length) ?_ ?_ _ [] _ rfl
    ⟨[], .no, f2 - 1, rfl, rfl, (fun x hx => nomatch hx), Nat.le_add_right _ _⟩
  · rintro pre a post e E ⟨mm, s3, f, rfl, hml, hmm, hf⟩ C hC
    have hpre : pre.length < rr.length := (range_at e).2
    have lp : (pre ++ [a]).length = pre.length + 1 := by simp
    refine ⟨by rw [lc]; omega, by rw [lc]; omega, rfl, ?_⟩
    have e2 : ((((sL cc).length : Nat) : Int)).toNat = cc.length := by rw [lc]; omega
    rw [e2]
    refine lc_dem (fun i : Nat => .int (i : Int)) (fun pre2 acc f' => ∃ l : List Int, acc = l.map .int ∧ l.length = pre2.length ∧ (∀ x ∈ l, 0 ≤ x) ∧ f ≤ f' + pre2.length) (List.range cc.length) ?_ ?_ _ [] [] f rfl ⟨[], rfl, rfl, (fun c hc => nomatch hc), Nat.le_add_right _ _⟩
    · rintro pre2 a2 post2 e2 acc f' ⟨l, rfl, hll, hl0, hf'⟩ C2 hC2
      have hpre2 : pre2.length < cc.length := (range_at e2).2
      have lp2 : (pre2 ++ [a2]).length = pre2.length + 1 := by simp
      refine ⟨rfl, m, rfl, hm1, by omega, by show 1 ≤ f'; omega, fun r hr => ⟨rfl, hC2 _ _ ⟨l ++ [(r : Int)], by rw [List.map_append]; rfl, by rw [List.length_append, lp2, hll]; rfl, fun x hx => ?_, ?_⟩⟩⟩
      · rcases List.mem_append.mp hx with hx | hx
        · exact hl0 x hx
        · rw [List.mem_singleton.mp hx]; exact Int.natCast_nonneg r
      · show f ≤ f' - 1 + (pre2 ++ [a2]).length
        rw [lp2]
        omega
    · rintro acc f' ⟨l, rfl, hll, hl0, hf'⟩
      rw [List.length_range] at hll hf'
      refine ⟨by rw [List.length_map]; omega, hC _ ⟨mm ++ [l], .dat (.int (a : Int)), f', by rw [List.map_append]; rfl, by rw [List.length_append, lp, hml]; rfl, fun x hx => ?_, by rw [lp]; omega⟩⟩
      rcases List.mem_append.mp hx with hx | hx
      · exact hmm x hx
      · rw [List.mem_singleton.mp hx]; exact ⟨hll, hl0⟩
  · rintro E ⟨mm, s3, f, rfl, hml, hmm, hf⟩
    rw [List.length_range] at hml hf
    refine ⟨by show 3 ≤ sizeLine; decide, ?_⟩
    have e3 := mD_of mm cc.length fun r hr => (hmm r hr).1
    have e4 : tabD rr cc (fun i k => (mm.getD i []).getD k 0) = .tuple [.list (sL rr), .list (sL cc), .list (mm.map fun r => .list (r.map .int))] := by
      unfold tabD
      rw [e3, hml]
    have hh := h rr cc (fun i k => (mm.getD i []).getD k 0) f hrr hcc (fun i k hi hk => ?_) (by omega)
    · rw [e4] at hh
      exact hh
    · have hi' : i < mm.length := by omega
      have e5 : mm.getD i [] = mm[i] := by rw [List.getD, List.getElem?_eq_getElem hi']; rfl
      have := hmm _ (List.getElem_mem hi')
      have hk' : k < mm[i].length := by omega
      show 0 ≤ (mm.getD i []).getD k 0
      rw [e5, List.getD, List.getElem?_eq_getElem hk']
      exact this.2 _ (List.getElem_mem hk')
end K22

set_option Elab.async false
set_option linter.all false
set_option maxRecDepth 100000
set_option maxHeartbeats 6400000
/-! Q4: orders, lots drawn. -/
namespace K22
open PySem PySem.Spec PyProof.Rows L2
def iL (l : List Nat) : List PyData := l.map fun i : Nat => .int (i : Int)
theorem er_perm {α : Type} : ∀ (l : List α) (i : Nat) (y : α), l[i]? = some y → (y :: l.eraseIdx i).Perm l
  | [], i, y, h => by simp at h
  | x :: l, 0, y, h => by
    have e : x = y := by simpa using h
    rw [e]; exact List.Perm.refl _
  | x :: l, i + 1, y, h => by
    have := er_perm l i y (by simpa using h)
    rw [List.eraseIdx_cons_succ]
    exact (List.Perm.swap x y _).trans (this.cons x)
theorem erase_map {α β : Type} (f : α → β) : ∀ (l : List α) (i : Nat), (l.map f).eraseIdx i = (l.eraseIdx i).map f
  | [], i => by simp
  | x :: l, 0 => rfl
  | x :: l, i + 1 => by simp [erase_map f l i]
def R_law_order : RZ := fun ds fu P => ∃ n : Nat, ds = [.int n] ∧ n ≤ 10 ∧ n ≤ fu ∧ ∀ (l : List Nat) (fu' : Nat), l.Perm (List.range n) → fu ≤ fu' + n → P (lotD l) fu'
theorem m_law_order : MonoZ R_law_order := fun ds n P P' w ⟨p, e, h1, h3, h⟩ => ⟨p, e, h1, h3, fun s f a b => w _ _ (h s f a b)⟩
theorem lay_iL (l : List Nat) : Lay 1 (.list (iL l)) := lay_map fun i _ => lay_int _
theorem r_law_order (ds : List PyData) (fu : Nat) (Q : PyData → Nat → Prop) (hl : ds.length = 1) (h : R_law_order ds fu Q) : t_law_order R_law_draw (endZ Q) (enZ N_law_order.length ds fu) := by
  obtain ⟨n, rfl, hn, hfu, h⟩ := h
  refine ⟨by omega, by omega, Nat.zero_le _, ?_⟩
  have e0 : ((n : Int)).toNat = n := by omega
  rw [e0]
  refine ⟨fun m E => ∃ (left found : List Nat) (f : Nat), E = ⟨[.pz, .dat (.int (n : Int)), .own (iL left), .own (iL found)], f⟩ ∧ m = left.length ∧ (left ++ found).Perm (List.range n) ∧ fu ≤ f + found.length, ⟨n, List.range n, [], fu, rfl, by simp, by simp, Nat.le_add_right _ _⟩, ?_⟩
  rintro m E ⟨left, found, f, rfl, rfl, hp, hf⟩
  have hlen : left.length + found.length = n := by
    have := hp.length_eq
    simpa using this
  refine ⟨Nat.zero_le _, (lay_iL left).sh, rfl, ?_⟩
  cases left with
  | nil =>
    have hp' : found.Perm (List.range n) := by simpa using hp
    refine h found f hp' ?_
    simp at hlen
    omega
  | cons x left =>
    have ll : (iL (x :: left)).length = (x :: left).length := List.length_map _
    refine ⟨rfl, rfl, (x :: left).length, by rw [ll], by simp, by simp at hlen ⊢; omega, by simp at hlen; show 1 ≤ f; omega, fun r hr => ⟨by omega, ?_⟩⟩
    have er : ((r : Int)).toNat = r := by omega
    have hg : (x :: left)[r]? = some ((x :: left)[r]) := List.getElem?_eq_getElem hr
    refine ⟨.int (((x :: left)[r] : Nat) : Int), by rw [er]; show (iL (x :: left))[r]? = _; unfold iL; rw [List.getElem?_map, hg]; rfl, ?_⟩
    rw [er]
    refine ⟨by unfold iL; rw [List.length_map]; simp at hlen; omega, ?_⟩
    refine ⟨((x :: left).eraseIdx r).length, ?_, (x :: left).eraseIdx r, found ++ [(x :: left)[r]], f - 1, ?_, rfl, ?_, ?_⟩
    · rw [List.length_eraseIdx_of_lt hr]; simp
    · show (⟨[.pz, .dat (.int (n : Int)), .own ((iL (x :: left)).eraseIdx r), .own (iL found ++ [.int (((x :: left)[r] : Nat) : Int)])], f - 1⟩ : En) = _
      have e1 : (iL (x :: left)).eraseIdx r = iL ((x :: left).eraseIdx r) := by
        unfold iL
        exact erase_map _ _ _
      rw [e1]
      unfold iL
      rw [List.map_append]
      rfl
    · have h1 := er_perm (x :: left) r _ hg
      refine List.Perm.trans ?_ hp
      refine List.Perm.trans ?_ (h1.append_right found)
      rw [← List.append_assoc]
      exact (List.perm_append_comm (l₁ := (x :: left).eraseIdx r ++ found) (l₂ := [(x :: left)[r]])).trans (by simp)
    · simp at hlen
      rw [List.length_append, List.length_singleton]
      omega
def R_law_lots : RZ := fun ds fu P => ∃ n : Nat, ds = [.int n] ∧ 1 ≤ n ∧ n ≤ 10 ∧ 20 ≤ fu ∧ ∀ (L : List (List Nat)) (fu' : Nat), Lots n L → fu ≤ fu' + 20 → P (lotsD L) fu'
theorem m_law_lots : MonoZ R_law_lots := fun ds n P P' w ⟨p, e, h1, h2, h3, h⟩ => ⟨p, e, h1, h2, h3, fun s f a b => w _ _ (h s f a b)⟩
theorem r_law_lots (ds : List PyData) (fu : Nat) (Q : PyData → Nat → Prop) (hl : ds.length = 1) (h : R_law_lots ds fu Q) : t_law_lots R_law_draw R_law_order (endZ Q) (enZ N_law_lots.length ds fu) := by
  obtain ⟨n, rfl, h1, hn, hfu, h⟩ := h
  refine ⟨rfl, n, rfl, hn, by show n ≤ fu; omega, fun l f0 hl hf0 => ?_⟩
  have hf0' : fu ≤ f0 + n := hf0
  have hll : l.length = n := by rw [hl.length_eq, List.length_range]
  refine for_pre (fun i : Nat => .int (i : Int)) (fun pre E => ∃ (L0 : List (List Nat)) (l0 : List Nat) (s3 : Sl) (f : Nat), E = ⟨[.pz, .dat (.int (n : Int)), .own2 (L0.map iL ++ [iL l0]), s3], f⟩ ∧ (L0 ++ [l0]).flatten = pre ∧ (∀ m ∈ L0, m ≠ []) ∧ (pre ≠ [] → l0 ≠ []) ∧ f0 ≤ f + pre.length) l ?_ ?_ _ [] _ rfl
    ⟨[], [], .no, f0, rfl, rfl, (fun x hx => nomatch hx), (fun z => absurd rfl z), Nat.le_add_right _ _⟩
  · rintro pre a post e E ⟨L0, l0, s3, f, rfl, hfl, hne, hl0, hf⟩ C hC
    have hpre : pre.length < n := by
      have := congrArg List.length e
      simp at this
      omega
    have lp : (pre ++ [a]).length = pre.length + 1 := by simp
    have hL0 : L0.length ≤ pre.length := by
      have := len_flat hne
      have h2 := congrArg List.length hfl
      simp only [List.flatten_append, List.length_append] at h2
      omega
    have hl0l : l0.length ≤ pre.length := by
      have h2 := congrArg List.length hfl
      simp only [List.flatten_append, List.length_append, List.flatten_cons, List.flatten_nil, List.append_nil] at h2
      omega
    have stay : ∀ (D : DEnds) (f' : Nat), (∀ E', C E' → D.nx E') → f ≤ f' + 1 → dAppL 2 3 D ⟨[.pz, .dat (.int (n : Int)), .own2 (L0.map iL ++ [iL l0]), .dat (.int (a : Int))], f'⟩ := fun D f' hD hf' => by
      refine ⟨L0.map iL, iL l0, rfl, by unfold iL; rw [List.length_map]; omega, hD _ (hC _ ⟨L0, l0 ++ [a], .dat (.int (a : Int)), f', ?_, ?_, hne, (fun _ => by simp), by rw [lp]; omega⟩)⟩
      · show (⟨[.pz, _, .own2 (L0.map iL ++ [iL l0 ++ [.int (a : Int)]]), _], _⟩ : En) = _
        unfold iL
        rw [List.map_append]
        rfl
      · rw [← hfl]; simp
    have fresh : ∀ (D D1 : DEnds) (f' : Nat), D1.nx = dAppL 2 3 D → (∀ E', C E' → D.nx E') → f ≤ f' + 1 → l0 ≠ [] → dApp2 2 D1 ⟨[.pz, .dat (.int (n : Int)), .own2 (L0.map iL ++ [iL l0]), .dat (.int (a : Int))], f'⟩ := fun D D1 f' hD1 hD hf' hl0' => by
      refine ⟨by simp; omega, ?_⟩
      rw [hD1]
      refine ⟨L0.map iL ++ [iL l0], [], rfl, by decide, hD _ (hC _ ⟨L0 ++ [l0], [a], .dat (.int (a : Int)), f', ?_, ?_, ?_, (fun _ => by simp), by rw [lp]; omega⟩)⟩
      · show (⟨[.pz, _, .own2 ((L0.map iL ++ [iL l0]) ++ [[] ++ [.int (a : Int)]]), _], _⟩ : En) = _
        rw [List.map_append]
        rfl
      · rw [← hfl]; simp
      · intro m hm
        rcases List.mem_append.mp hm with hm | hm
        · exact hne m hm
        · rw [List.mem_singleton.mp hm]; exact hl0'
    have hat : atI ((L0.map iL ++ [iL l0]).map PyData.list) (-1) = some (.list (iL l0)) := by rw [List.map_append]; exact atI_last _ _
    refine ix_list (k := -1) hat ⟨Nat.zero_le _, (lay_iL l0).sh, rfl, ?_⟩
    cases hl : l0 with
    | nil =>
      rw [hl] at stay
      exact stay _ f (by exact fun _ h => h) (Nat.le_succ _)
    | cons x l1 =>
      rw [hl] at stay fresh
      refine ⟨rfl, 2, rfl, by decide, by decide, ?_, fun r hr => ⟨shI _, shI _, ?_⟩⟩
      · show 1 ≤ f
        omega
      · cases c : PyData.eqv (.int (r : Int)) (.int 0) with
        | true =>
          refine fresh ⟨C, (endZ Q).rt, (endZ Q).rf, dRet (dVar 2) (endZ Q), C⟩ _ (f - 1) ?_ ?_ (by omega) (by simp)
          · rfl
          · exact fun _ h => h
        | false =>
          refine stay _ (f - 1) ?_ (by omega)
          exact fun _ h => h
  · rintro E ⟨L0, l0, s3, f, rfl, hfl, hne, hl0, hf⟩
    have hl0' : l0 ≠ [] := hl0 (by intro z; rw [z] at hll; simp at hll; omega)
    have hh := h (L0 ++ [l0]) f ⟨fun m hm => ?_, by rw [hfl]; exact hl⟩ (by omega)
    · show Q (.list ((L0.map iL ++ [iL l0]).map .list)) f
      have e : lotsD (L0 ++ [l0]) = .list ((L0.map iL ++ [iL l0]).map .list) := by
        unfold lotsD lotD iL
        simp
      rw [← e]
      exact hh
    · rcases List.mem_append.mp hm with hm | hm
      · exact hne m hm
      · rw [List.mem_singleton.mp hm]; exact hl0'
end K22

set_option Elab.async false
set_option linter.all false
set_option maxRecDepth 100000
set_option maxHeartbeats 6400000
/-! R1: put together rightly. -/
namespace K22
open PySem PySem.Spec PyProof.Rows L2
/-! ### what may be shown -/
structure Sh (n W : Nat) (d : PyData) : Prop where
  lay : Lay n d
  wt : d.weight ≤ W
  sh : d.intsShort 13 = true
  sb : d.showable = true
theorem sh_all {n W : Nat} : ∀ {l : List PyData}, (∀ d ∈ l, Sh n W d) → PyData.weightAll l ≤ l.length * (W + 1) ∧ PyData.intsShortAll 13 l = true ∧ PyData.showableAll l = true
  | [], _ => ⟨by simp [PyData.weightAll], by simp [PyData.intsShortAll], by simp [PyData.showableAll]⟩
  | d :: l, h => by
    have h1 := h d (List.mem_cons_self ..)
    have h2 := sh_all (l := l) fun e he => h e (List.mem_cons_of_mem _ he)
    have h3 := h1.wt
    refine ⟨?_, by simp [PyData.intsShortAll, h1.sh, h2.2.1], by simp [PyData.showableAll, h1.sb, h2.2.2]⟩
    simp only [PyData.weightAll, List.length_cons]
    have := h2.1
    rw [Nat.succ_mul]
    omega
theorem sh_list {n W L : Nat} {l : List PyData} (h : ∀ d ∈ l, Sh n W d) (hl : l.length ≤ L) : Sh (n + 1) (L * (W + 1)) (.list l) := by
  have := sh_all h
  refine ⟨lay_list fun d hd => (h d hd).lay, ?_, by simp only [PyData.intsShort]; exact this.2.1, by simp only [PyData.showable]; exact this.2.2⟩
  simp only [PyData.weight]
  exact Nat.le_trans this.1 (Nat.mul_le_mul_right _ hl)
theorem sh_tup {n W L : Nat} {l : List PyData} (h : ∀ d ∈ l, Sh n W d) (hl : l.length ≤ L) : Sh (n + 1) (L * (W + 1)) (.tuple l) := by
  have := sh_all h
  refine ⟨lay_tup fun d hd => (h d hd).lay, ?_, by simp only [PyData.intsShort]; exact this.2.1, by simp only [PyData.showable]; exact this.2.2⟩
  simp only [PyData.weight]
  exact Nat.le_trans this.1 (Nat.mul_le_mul_right _ hl)
theorem Sh.up {n m W V : Nat} {d : PyData} (h : Sh n W d) (a : n ≤ m) (b : W ≤ V) : Sh m V d := ⟨h.lay.up a, Nat.le_trans h.wt b, h.sh, h.sb⟩
theorem log2_lt {a k : Nat} (hk : 0 < k) (h : a < 2 ^ k) : a.log2 < k := by
  by_cases c : a = 0
  · subst c; simpa using hk
  · exact (Nat.log2_lt c).mpr h
theorem sh_int {n : Nat} {i : Int} (h : i.natAbs < 10 ^ 12) : Sh n 41 (.int i) := by
  have h2 : i.natAbs.log2 < 40 := log2_lt (by decide) (Nat.lt_of_lt_of_le h (by decide))
  refine ⟨lay_int i, ?_, ?_, ?_⟩
  · simp only [PyData.weight]
    split
    · omega
    · omega
  · simp only [PyData.intsShort]
    exact decide_eq_true (PyData.shown_int_le h)
  · simp only [PyData.showable]
    exact decide_eq_true (by omega)
theorem sh_str {n m : Nat} {s : Str} (h : Word m s) (hm : m ≤ 8) : Sh n 41 (.str s) := by
  refine ⟨lay_str h hm, ?_, by simp only [PyData.intsShort], by simp only [PyData.showable]⟩
  simp only [PyData.weight]
  have : s.cps.size ≤ m := h.hi
  omega
theorem Sh.repr {n W : Nat} {l : List PyData} (h : Sh n W (.list l)) (hn : n ≤ 40) (hW : W ≤ 1000000) {P : PyData → Prop} (p : P (.str (PyData.shown (.list l)))) : cRepr [.list l] P := by
  refine ⟨h.sb, PyData.hasDict_of_canLay _ h.lay.1, Nat.le_trans h.lay.2 hn, ?_, p⟩
  refine PyData.shown_fits_of_layable0 (B := 13) (by decide) (by decide) ?_ h.sh
  unfold PyData.layable0
  rw [h.lay.1, decide_eq_true (Nat.le_trans h.lay.2 (by omega)), decide_eq_true (Nat.le_trans h.wt (by omega))]
  rfl
theorem Sh.reprT {n W : Nat} {l : List PyData} (h : Sh n W (.tuple l)) (hn : n ≤ 40) (hW : W ≤ 1000000) {P : PyData → Prop} (p : P (.str (PyData.shown (.tuple l)))) : cRepr [.tuple l] P := by
  refine ⟨h.sb, PyData.hasDict_of_canLay _ h.lay.1, Nat.le_trans h.lay.2 hn, ?_, p⟩
  refine PyData.shown_fits_of_layable0 (B := 13) (by decide) (by decide) ?_ h.sh
  unfold PyData.layable0
  rw [h.lay.1, decide_eq_true (Nat.le_trans h.lay.2 (by omega)), decide_eq_true (Nat.le_trans h.wt (by omega))]
  rfl
theorem sh_sL {r : List Str} (h : ∀ x ∈ r, Word 4 x) (hl : r.length ≤ 6) : Sh 2 1518 (.list (sL r)) :=
  (sh_list (n := 0) (W := 41) (L := 6) (fun d hd => by
    obtain ⟨x, hx, rfl⟩ := List.mem_map.mp hd
    exact sh_str (h x hx) (by decide)) (by simpa using hl)).up (by decide) (by decide)
theorem sh_mD {a b : Nat} {f : Nat → Nat → Int} (ha : a ≤ 6) (hb : b ≤ 6) (h : ∀ i k, i < a → k < b → (f i k).natAbs < 10 ^ 12) : Sh 2 1518 (mD a b f) :=
  sh_list (n := 1) (W := 252) (L := 6) (fun d hd => by
    obtain ⟨i, hi, rfl⟩ := List.mem_map.mp hd
    exact sh_list (n := 0) (W := 41) (L := 6) (fun e he => by
      obtain ⟨k, hk, rfl⟩ := List.mem_map.mp he
      exact sh_int (h i k (List.mem_range.mp hi) (List.mem_range.mp hk))) (by simpa using hb)) (by simpa using ha)
theorem sh_tabD {r c : List Str} {f : Nat → Nat → Int} (h : TabOk r c f) : Sh 3 4557 (tabD r c f) := sh_tup (n := 2) (W := 1518) (L := 3) (fun d hd => by
    have e : d = .list (sL r) ∨ d = .list (sL c) ∨ d = mD r.length c.length f := by simpa using hd
    rcases e with rfl | rfl | rfl
    · exact sh_sL h.hr.wd h.hr.hi
    · exact sh_sL h.hc.wd h.hc.hi
    · refine sh_mD h.hr.hi h.hc.hi fun i k hi hk => ?_
      have h1 := h.lo i k hi hk
      have h2 := h.hi i k hi hk
      have : (10 : Nat) ^ 12 = 1000000000000 := by decide
      omega) (Nat.le_refl _)
theorem sh_lots {n : Nat} {L : List (List Nat)} (h : Lots n L) (hn : n ≤ 6) : Sh 3 4557 (lotsD L) :=
  (sh_list (n := 1) (W := 252) (L := 6) (fun d hd => by
    obtain ⟨l, hl, rfl⟩ := List.mem_map.mp hd
    have hlen : l.length ≤ n := by
      have h1 : l.length ≤ L.flatten.length := by
        have := List.Sublist.length_le (List.sublist_flatten_of_mem hl)
        exact this
      rw [h.pm.length_eq, List.length_range] at h1
      exact h1
    exact sh_list (n := 0) (W := 41) (L := 6) (fun e he => by
      obtain ⟨i, hi, rfl⟩ := List.mem_map.mp he
      have := h.lt hl hi
      refine sh_int ?_
      have : (10 : Nat) ^ 12 = 1000000000000 := by decide
      omega) (by simp; omega)) (by have := h.len; simp; omega)).up (by decide) (by decide)
/-! ### sums -/
theorem sm_congr {n : Nat} {g h : Nat → Int} (e : ∀ k, k < n → g k = h k) : sm n g = sm n h := by
  unfold sm
  congr 1
  exact List.map_congr_left fun k hk => e k (List.mem_range.mp hk)
theorem ls_congr {l : List Nat} {g h : Nat → Int} (e : ∀ k ∈ l, g k = h k) : ls l g = ls l h := by
  unfold ls
  congr 1
  exact List.map_congr_left e
theorem ls_add (l : List Nat) (g h : Nat → Int) : ls l (fun k => g k + h k) = ls l g + ls l h := by
  unfold ls
  induction l with
  | nil => rfl
  | cons x l ih => simp only [List.map_cons, List.sum_cons, ih]; omega
theorem ls_zero (l : List Nat) : ls l (fun _ => 0) = 0 := by
  unfold ls
  induction l with
  | nil => rfl
  | cons x l ih => simp only [List.map_cons, List.sum_cons, ih]; omega
theorem ls_swap (l m : List Nat) (f : Nat → Nat → Int) : ls l (fun k => ls m fun i => f i k) = ls m fun i => ls l fun k => f i k := by
  induction m with
  | nil => exact ls_zero l
  | cons x m ih =>
    have e1 : (fun k => ls (x :: m) fun i => f i k) = fun k => f x k + ls m fun i => f i k := by funext k; simp [ls]
    rw [e1, ls_add, ih]
    simp [ls]
theorem sum_perm {l m : List Int} (h : l.Perm m) : l.sum = m.sum := by
  induction h with
  | nil => rfl
  | cons x _ ih => simp only [List.sum_cons, ih]
  | swap x y l => simp only [List.sum_cons]; omega
  | trans _ _ h1 h2 => exact h1.trans h2
theorem sum_app (l m : List Int) : (l ++ m).sum = l.sum + m.sum := by
  induction l with
  | nil => simp
  | cons x l ih => simp only [List.cons_append, List.sum_cons, ih]; omega
theorem sum_flat (g : Nat → Int) : ∀ L : List (List Nat), (L.map fun l => ls l g).sum = (L.flatten.map g).sum
  | [] => rfl
  | l :: L => by
    simp only [List.map_cons, List.sum_cons, List.flatten_cons, List.map_append, sum_app, sum_flat g L]
    rfl
theorem sm_lots {n : Nat} {L : List (List Nat)} (h : Lots n L) (g : Nat → Int) : sm L.length (fun j => ls (L.getD j []) g) = sm n g := by
  unfold sm
  rw [← map_get L [] fun l => ls l g, sum_flat]
  exact sum_perm (h.pm.map g)
theorem sm_ls (n : Nat) (g : Nat → Int) : sm n g = ls (List.range n) g := rfl
theorem ls_le {l : List Nat} {g : Nat → Int} {M : Int} (h : ∀ k ∈ l, g k ≤ M) : ls l g ≤ l.length * M := by
  unfold ls
  induction l with
  | nil => simp
  | cons x l ih =>
    have h1 := h x (List.mem_cons_self ..)
    have h2 := ih fun k hk => h k (List.mem_cons_of_mem _ hk)
    simp only [List.map_cons, List.sum_cons, List.length_cons]
    have : ((l.length + 1 : Nat) : Int) * M = l.length * M + M := by rw [Int.natCast_succ, Int.add_mul]; omega
    omega
theorem ls_nonneg {l : List Nat} {g : Nat → Int} (h : ∀ k ∈ l, 0 ≤ g k) : 0 ≤ ls l g := by
  unfold ls
  induction l with
  | nil => simp
  | cons x l ih =>
    have h1 := h x (List.mem_cons_self ..)
    have h2 := ih fun k hk => h k (List.mem_cons_of_mem _ hk)
    simp only [List.map_cons, List.sum_cons]
    omega
theorem lot_mem {L : List (List Nat)} {j : Nat} (h : j < L.length) : L.getD j [] ∈ L := by
  rw [List.getD, List.getElem?_eq_getElem h]
  exact List.getElem_mem h
theorem lot_len {n : Nat} {L : List (List Nat)} (h : Lots n L) {l : List Nat} (hl : l ∈ L) : l.length ≤ n := by
  have h1 : l.length ≤ L.flatten.length := List.Sublist.length_le (List.sublist_flatten_of_mem hl)
  rw [h.pm.length_eq, List.length_range] at h1
  exact h1
theorem put_bound {r c : List Str} {f : Nat → Nat → Int} {R C : List (List Nat)} (hT : TabOk r c f) (h7 : ∀ i k, i < r.length → k < c.length → f i k ≤ 10000000) (hR : Lots r.length R) (hC : Lots c.length C) {j l : Nat} (hj : j < R.length) (hl : l < C.length) :
    0 ≤ put f R C j l ∧ put f R C j l ≤ 1000000000 := by
  have hr6 := hT.hr.hi
  have hc6 := hT.hc.hi
  have m1 := lot_mem hj
  have m2 := lot_mem hl
  have in1 : ∀ k ∈ C.getD l [], ls (R.getD j []) (fun i => f i k) ≤ 60000000 := fun k hk => by
    have := ls_le (l := R.getD j []) (g := fun i => f i k) (M := 10000000) fun i hi => h7 i k (hR.lt m1 hi) (hC.lt m2 hk)
    have hlen := lot_len hR m1
    omega
  constructor
  · exact ls_nonneg fun k hk => ls_nonneg fun i hi => hT.lo i k (hR.lt m1 hi) (hC.lt m2 hk)
  · have := ls_le (l := C.getD l []) (g := fun k => ls (R.getD j []) fun i => f i k) (M := 60000000) in1
    have hlen := lot_len hC m2
    unfold put
    omega
theorem heads_nodup : ∀ {L : List (List Nat)}, (∀ l ∈ L, l ≠ []) → L.flatten.Nodup → (L.map fun l => l.headD 0).Nodup
  | [], _, _ => List.nodup_nil
  | l :: L, h, nd => by
    rw [List.flatten_cons, List.nodup_append] at nd
    rw [List.map_cons, List.nodup_cons]
    refine ⟨fun hm => ?_, heads_nodup (fun m hm => h m (List.mem_cons_of_mem _ hm)) nd.2.1⟩
    obtain ⟨m, hm, e⟩ := List.mem_map.mp hm
    have hl := h l (List.mem_cons_self ..)
    have hm' := h m (List.mem_cons_of_mem _ hm)
    cases l with
    | nil => exact hl rfl
    | cons x l =>
      cases m with
      | nil => exact hm' rfl
      | cons y m =>
        have e' : y = x := e
        exact nd.2.2 x (List.mem_cons_self ..) y (List.mem_flatten.mpr ⟨y :: m, hm, List.mem_cons_self ..⟩) e'.symm
theorem head_lt {n : Nat} {L : List (List Nat)} (h : Lots n L) {l : List Nat} (hl : l ∈ L) : l.headD 0 < n := by
  cases l with
  | nil => exact absurd rfl (h.ne _ hl)
  | cons x l => exact h.lt hl (List.mem_cons_self ..)
theorem labs_codes {r : List Str} {L : List (List Nat)} (hr : Codes 1 6 r) (h : Lots r.length L) : Codes 1 6 (labs r L) := by
  have h1 := hr.lo
  have h6 := hr.hi
  refine ⟨by rw [labs_len]; exact h.pos h1, by rw [labs_len]; have := h.len; omega, fun x hx => ?_, ?_⟩
  · obtain ⟨l, hl, rfl⟩ := List.mem_map.mp hx
    have hi := head_lt h hl
    refine hr.wd _ ?_
    show r.getD (l.headD 0) "" ∈ r
    rw [List.getD, List.getElem?_eq_getElem hi]
    exact List.getElem_mem hi
  · have nd := heads_nodup h.ne (h.pm.nodup_iff.mpr List.nodup_range)
    unfold labs
    rw [List.Nodup, List.pairwise_map]
    rw [List.Nodup, List.pairwise_map] at nd
    refine List.Pairwise.imp_of_mem (fun {a b} ha hb hab e => hab ?_) nd
    have hi := head_lt h ha
    have hk := head_lt h hb
    rw [List.getD, List.getElem?_eq_getElem hi, List.getD, List.getElem?_eq_getElem hk] at e
    exact (List.getElem_inj hr.nd).mp e
theorem put_ok {r c : List Str} {f : Nat → Nat → Int} {R C : List (List Nat)} (hT : TabOk r c f) (h7 : ∀ i k, i < r.length → k < c.length → f i k ≤ 10000000) (hR : Lots r.length R) (hC : Lots c.length C) : TabOk (labs r R) (labs c C) (put f R C) :=
  ⟨labs_codes hT.hr hR, labs_codes hT.hc hC, fun i k hi hk => (put_bound hT h7 hR hC (by rwa [labs_len] at hi) (by rwa [labs_len] at hk)).1, fun i k hi hk => (put_bound hT h7 hR hC (by rwa [labs_len] at hi) (by rwa [labs_len] at hk)).2⟩
/-- rows' sums of the table put together -/
theorem put_rows {c : Nat} (f : Nat → Nat → Int) {R C : List (List Nat)} (hC : Lots c C) (j : Nat) : sm C.length (put f R C j) = ls (R.getD j []) fun i => sm c (f i) := by
  have h := sm_lots hC fun k => ls (R.getD j []) fun i => f i k
  have e : put f R C j = fun l => ls (C.getD l []) fun k => ls (R.getD j []) fun i => f i k := rfl
  rw [e, h, sm_ls, ls_swap]
  rfl
theorem put_all {a c : Nat} (f : Nat → Nat → Int) {R C : List (List Nat)} (hR : Lots a R) (hC : Lots c C) : sm R.length (fun j => sm C.length (put f R C j)) = sm a fun i => sm c (f i) := by
  have e : (fun j => sm C.length (put f R C j)) = fun j => ls (R.getD j []) fun i => sm c (f i) := by funext j; exact put_rows f hC j
  rw [e]
  exact sm_lots hR fun i => sm c (f i)
theorem put_turn (f : Nat → Nat → Int) (R C : List (List Nat)) : put (fun k i => f i k) C R = fun l j => put f R C j l := by
  funext l j
  exact (ls_swap (C.getD l []) (R.getD j []) f).symm
end K22

set_option Elab.async false
set_option linter.all false
set_option maxRecDepth 100000
set_option maxHeartbeats 6400000
/-! R2: put together rightly: the reading. -/
namespace K22
open PySem PySem.Spec PyProof.Rows L2
theorem Sh.r4 {n W : Nat} {d : PyData} (h : Sh n W d) (hn : n ≤ 40) (hW : W ≤ 1000000) : d.showable = true ∧ d.hasDict = false ∧ d.depth ≤ 40 ∧ d.shown.length ≤ sizeLine := by
  refine ⟨h.sb, PyData.hasDict_of_canLay _ h.lay.1, Nat.le_trans h.lay.2 hn, ?_⟩
  refine PyData.shown_fits_of_layable0 (B := 13) (by decide) (by decide) ?_ h.sh
  unfold PyData.layable0
  rw [h.lay.1, decide_eq_true (Nat.le_trans h.lay.2 (by omega)), decide_eq_true (Nat.le_trans h.wt (by omega))]
  rfl
theorem tab_cons {r c : List Str} {f : Nat → Nat → Int} (h : 1 ≤ r.length) : tabD r c f = .tuple [.list (sL r), .list (sL c), .list (.list ((List.range c.length).map fun k => .int (f 0 k)) :: ((List.range (r.length - 1)).map Nat.succ).map fun i => rD c.length (f i))] := by
  unfold tabD mD
  obtain ⟨n, hn⟩ : ∃ n, r.length = n + 1 := ⟨r.length - 1, by omega⟩
  rw [hn, List.range_succ_eq_map]
  rfl
theorem spoil_tab {i : Nat} {D : DEnds} {E : En} {r c : List Str} {f : Nat → Nat → Int} (h : E.sl[i]? = some (.frs (tabD r c f))) (hr : 1 ≤ r.length) (hr2 : r.length ≤ 1000) (hc : c.length ≤ 1000) (hd : D.nx (E.set i .no)) : dSpoil i D E := by
  unfold dSpoil
  rw [h, tab_cons hr]
  exact ⟨by rw [List.length_map]; omega, by rw [List.length_map, List.length_range]; omega, hd⟩
theorem TabOk.turn {r c : List Str} {f : Nat → Nat → Int} (h : TabOk r c f) : TabOk c r fun k i => f i k := ⟨h.hc, h.hr, fun i k hi hk => h.lo k i hk hi, fun i k hi hk => h.hi k i hk hi⟩
/-- the due table as it is built -/
def dueD (r c : List Str) (f : Nat → Nat → Int) (R C : List (List Nat)) : PyData := .tuple [.list ([] ++ R.map fun l => .str (r.getD (l.headD 0) "")), .list ([] ++ C.map fun l => .str (c.getD (l.headD 0) "")), mD R.length C.length (put f R C)]
theorem due_eq (r c : List Str) (f : Nat → Nat → Int) (R C : List (List Nat)) : dueD r c f R C = tabD (labs r R) (labs c C) (put f R C) := by
  unfold dueD tabD
  have e1 : ([] ++ R.map fun l => PyData.str (r.getD (l.headD 0) "")) = sL (labs r R) := by unfold labs sL; rw [List.map_map]; rfl
  have e2 : ([] ++ C.map fun l => PyData.str (c.getD (l.headD 0) "")) = sL (labs c C) := by unfold labs sL; rw [List.map_map]; rfl
  rw [e1, e2, labs_len, labs_len]
def R_law_put_right : RZ := fun ds fu P => ∃ r c f, ds = [tabD r c f] ∧ TabOk r c f ∧ (∀ i k, i < r.length → k < c.length → f i k ≤ 10000000) ∧ 40 ≤ fu ∧ ∀ fu', fu ≤ fu' + 40 → P (.bool true) fu'
theorem m_law_put_right : MonoZ R_law_put_right := fun ds n P P' w ⟨r, c, f, e, h1, h2, h3, h⟩ => ⟨r, c, f, e, h1, h2, h3, fun f a => w _ _ (h f a)⟩
theorem r_law_put_right (ds : List PyData) (fu : Nat) (Q : PyData → Nat → Prop) (hl : ds.length = 1) (h : R_law_put_right ds fu Q) : t_law_put_right R_totals R_turned_table R_put_together R_law_lots R_law_summed R_law_about (endZ Q) (enZ N_law_put_right.length ds fu) := by
  obtain ⟨r, c, f, rfl, hT, h7, hfu, h⟩ := h
  have hr1 := hT.hr.lo
  have hc1 := hT.hc.lo
  have hr6 := hT.hr.hi
  have hc6 := hT.hc.hi
  have lr : (sL r).length = r.length := List.length_map _
  have lc : (sL c).length = c.length := List.length_map _
  refine ⟨rfl, rfl, rfl, r.length, by rw [lr], hr1, by omega, by show 20 ≤ fu; omega, fun R f1 hR hf1 => ⟨rfl, c.length, by rw [lc], hc1, by omega, ?_, fun C f2 hC hf2 => ?_⟩⟩
  · have : fu ≤ f1 + 20 := hf1
    show 20 ≤ f1
    omega
  have hf1' : fu ≤ f1 + 20 := hf1
  have hf2' : f1 ≤ f2 + 20 := hf2
  have R1 := hR.pos hr1
  have C1 := hC.pos hc1
  have Rn := hR.len
  have Cn := hC.len
  have hD := put_ok hT h7 hR hC
  have eD := due_eq r c f R C
  have lab : ∀ (r : List Str) (L : List (List Nat)), Lots r.length L → ∀ l ∈ L, ∃ (i : Nat), l.headD 0 = i ∧ atI (l.map fun i : Nat => PyData.int (i : Int)) 0 = some (.int (i : Int)) ∧ atI (sL r) (i : Int) = some (.str (r.getD i "")) := fun r L hL l hl => by
    cases l with
    | nil => exact absurd rfl (hL.ne _ hl)
    | cons i l => exact ⟨i, rfl, atI_nat (j := 0) rfl, atI_nat (getD_get (hL.lt hl (List.mem_cons_self ..)))⟩
  refine ⟨rfl, r.length, c.length, f, R, rfl, hr1, by omega, fun l hl i hi => hR.lt hl hi, by omega, rfl, R.length, c.length, _, rfl, R1, by omega, rfl, c.length, R.length, _, C, rfl, hc1, by omega, fun l hl i hi => hC.lt hl hi, by omega, rfl, C.length, R.length, _, rfl, C1, by omega, ?_⟩
  refine ⟨rfl, lc_map lotD (fun l => .str (r.getD (l.headD 0) "")) _ [] (fun l hl C0 hC0 => ?_) ?_⟩
  · obtain ⟨i, e1, e2, e3⟩ := lab r R hR l hl
    rw [e1] at hC0
    exact ix_list e2 (ix_list e3 ⟨rfl, hC0⟩)
  refine ⟨rfl, lc_map lotD (fun l => .str (c.getD (l.headD 0) "")) _ [] (fun l hl C0 hC0 => ?_) ?_⟩
  · obtain ⟨i, e1, e2, e3⟩ := lab c C hC l hl
    rw [e1] at hC0
    exact ix_list e2 (ix_list e3 ⟨rfl, hC0⟩)
  have three : 3 ≤ sizeLine := by decide
  have kS : Sh 4 13674 (.list [tabD r c f, lotsD R, lotsD C]) := sh_list (n := 3) (W := 4557) (L := 3) (fun d hd => by
    have e : d = tabD r c f ∨ d = lotsD R ∨ d = lotsD C := by simpa using hd
    rcases e with rfl | rfl | rfl
    · exact sh_tabD hT
    · exact sh_lots hR hr6
    · exact sh_lots hC hc6) (Nat.le_refl _)
  obtain ⟨k1, k2, k3, k4⟩ := kS.r4 (by decide) (by decide)
  obtain ⟨d1, d2, d3, d4⟩ := (sh_tabD hD).r4 (by decide) (by decide)
  refine ⟨three, three, k1, k2, k3, k4, by decide, by decide, ?_⟩
  refine for_each (fun i : Nat => .int (i : Int)) (fun E => ∃ s4 : Sl, E = ⟨[.pz, .dat (tabD r c f), .dat (dueD r c f R C), .dat (.str (PyData.shown (.list [tabD r c f, lotsD R, lotsD C]))), s4, .no, .dat (.list (sL r)), .dat (.list (sL c)), .dat (mD r.length c.length f), .dat (lotsD R), .dat (lotsD C), .no, .no, .no], f2⟩) _ _ ⟨.no, rfl⟩ ?_ ?_
  · rintro a ha E ⟨s4, rfl⟩ C0 hC0
    refine ⟨rfl, r, c, f, R, C, rfl, hT, hR, hC, fun j l hj hl => (put_bound hT h7 hR hC hj hl).2, ?_⟩
    have sp : ∀ D : DEnds, (∀ E, C0 E → D.nx E) → dSpoil 11 D ⟨[.pz, .dat (tabD r c f), .dat (dueD r c f R C), .dat (.str (PyData.shown (.list [tabD r c f, lotsD R, lotsD C]))), .dat (.int (a : Int)), .no, .dat (.list (sL r)), .dat (.list (sL c)), .dat (mD r.length c.length f), .dat (lotsD R), .dat (lotsD C), .frs (tabD (labs r R) (labs c C) (put f R C)), .no, .no], f2⟩ := fun D hDn =>
      spoil_tab (i := 11) rfl (by rw [labs_len]; exact R1) (by rw [labs_len]; omega) (by rw [labs_len]; omega) (hDn _ (hC0 _ ⟨_, rfl⟩))
    refine ⟨d1, d2, d3, d4, ?_⟩
    rw [← eD] at d1 d2 d3 d4
    refine ⟨d1, d2, d3, d4, ?_⟩
    have e1 : (!decide (PyData.shown (tabD (labs r R) (labs c C) (put f R C)) = PyData.shown (dueD r c f R C))) = false := by rw [eD, decide_eq_true rfl]; rfl
    refine ite_f e1 ⟨three, k1, k2, k3, k4, ?_⟩
    have e2 : (!decide (PyData.shown (.list [tabD r c f, lotsD R, lotsD C]) = PyData.shown (.list [tabD r c f, lotsD R, lotsD C]))) = false := by rw [decide_eq_true rfl]; rfl
    exact ite_f e2 (sp _ fun _ h => h)
  · rintro E ⟨s4, rfl⟩
    refine ⟨rfl, r, c, f, rfl, hT, rfl, labs r R, labs c C, put f R C, one_eq eD, hD, shI _, shI _, ?_⟩
    have e1 : sm (labs r R).length (fun i => sm (labs c C).length (put f R C i)) = sm r.length fun i => sm c.length (f i) := by rw [labs_len, labs_len]; exact put_all f hR hC
    refine ite_f (neI e1) ⟨rfl, labs r R, labs c C, put f R C, one_eq eD, hD, rfl, ?_⟩
    refine lc_map lotD (fun l => .int (ls l fun i => sm c.length (f i))) _ [] (fun l hl C2 hC2 => ?_) ?_
    · refine ⟨rfl, lc_map (fun i : Nat => .int (i : Int)) (fun i => .int (sm c.length (f i))) _ [] (fun i hi C3 hC3 => ?_) ⟨l.map fun i => sm c.length (f i), by rw [List.map_map]; rfl, rfl, hC2⟩⟩
      exact ix_list (atI_range (hR.lt hl hi)) ⟨rfl, hC3⟩
    · have e2 : rD (labs r R).length (fun i => sm (labs c C).length (put f R C i)) = .list ([] ++ R.map fun l => .int (ls l fun i => sm c.length (f i))) := by
        rw [labs_len, labs_len]
        unfold rD
        rw [List.nil_append, map_get R [] fun l => PyData.int (ls l fun i => sm c.length (f i))]
        congr 1
        apply List.map_congr_left
        intro j _
        show PyData.int (sm C.length (put f R C j)) = _
        rw [put_rows f hC]
      have ly : Lay 1 (rD (labs r R).length fun i => sm (labs c C).length (put f R C i)) := lay_rD _ _
      have ly2 := ly
      rw [e2] at ly2
      refine ⟨ly.sh, ly2.sh, ?_⟩
      have e3 : (!PyData.eqv (rD (labs r R).length fun i => sm (labs c C).length (put f R C i)) (.list ([] ++ R.map fun l => .int (ls l fun i => sm c.length (f i))))) = false := by rw [e2, ly2.refl]; rfl
      refine ite_f e3 ⟨rfl, r, c, f, rfl, hT, rfl, c, r, _, C, R, rfl, hT.turn, hC, hR, fun j l hj hl => ?_, rfl, labs r R, labs c C, put f R C, one_eq eD, hD, ?_⟩
      · have := (put_bound hT h7 hR hC hl hj).2
        rw [put_turn]
        exact this
      · have e4 : tabD (labs c C) (labs r R) (put (fun k i => f i k) C R) = tabD (labs c C) (labs r R) fun k i => put f R C i k := by rw [put_turn]
        have ly3 : Lay 3 (tabD (labs c C) (labs r R) fun k i => put f R C i k) := lay_tabD _ hD.hc.wd hD.hr.wd
        have ly4 := ly3
        rw [← e4] at ly4
        refine ⟨ly4.sh, ly3.sh, ?_⟩
        rw [e4, ly3.refl]
        exact h f2 (by omega)
end K22

set_option Elab.async false
set_option linter.all false
set_option maxRecDepth 100000
set_option maxHeartbeats 6400000
/-! R3: added rightly: the reading. -/
namespace K22
open PySem PySem.Spec PyProof.Rows L2
theorem sum_bound {b : Int} : ∀ {l : List Int}, (∀ x ∈ l, 0 ≤ x ∧ x ≤ b) → 0 ≤ l.sum ∧ l.sum ≤ b * l.length
  | [], _ => ⟨by simp, by simp⟩
  | x :: l, h => by
    have h1 := h x (List.mem_cons_self ..)
    have h2 := sum_bound (l := l) fun y hy => h y (List.mem_cons_of_mem _ hy)
    have e : b * ((x :: l).length : Int) = b * (l.length : Int) + b := by rw [List.length_cons]; push_cast; rw [Int.mul_add, Int.mul_one]
    rw [e, List.sum_cons]
    omega
def smF (fs : List (Nat → Nat → Int)) : Nat → Nat → Int := fun i k => (fs.map fun g => g i k).sum
def SmallT (r c : List Str) (g : Nat → Nat → Int) : Prop := ∀ i k, i < r.length → k < c.length → 0 ≤ g i k ∧ g i k ≤ 999
def R_law_added_right : RZ := fun ds fu P => ∃ r c f, ds = [tabD r c f] ∧ TabOk r c f ∧ (∀ i k, i < r.length → k < c.length → f i k ≤ 10000000) ∧ 109 ≤ fu ∧ ∀ fu', fu ≤ fu' + 109 → P (.bool true) fu'
theorem m_law_added_right : MonoZ R_law_added_right := fun ds n P P' w ⟨r, c, f, e, h1, h2, h3, h⟩ => ⟨r, c, f, e, h1, h2, h3, fun f a => w _ _ (h f a)⟩
theorem smF_bound {r c : List Str} {f : Nat → Nat → Int} {fs : List (Nat → Nat → Int)} (hT : TabOk r c f) (h7 : ∀ i k, i < r.length → k < c.length → f i k ≤ 10000000) (hl : fs.length ≤ 3) (hs : ∀ g ∈ fs, SmallT r c g) {i k : Nat} (hi : i < r.length) (hk : k < c.length) : 0 ≤ smF (f :: fs) i k ∧ smF (f :: fs) i k ≤ 10002997 := by
  have h1 := hT.lo i k hi hk
  have h2 := h7 i k hi hk
  have h3 := sum_bound (b := 999) (l := fs.map fun g => g i k) fun x hx => by
    obtain ⟨g, hg, rfl⟩ := List.mem_map.mp hx
    exact hs g hg i k hi hk
  rw [List.length_map] at h3
  have e : smF (f :: fs) i k = f i k + (fs.map fun g => g i k).sum := rfl
  rw [e]
  omega
theorem r_law_added_right (ds : List PyData) (fu : Nat) (Q : PyData → Nat → Prop) (hl : ds.length = 1) (h : R_law_added_right ds fu Q) : t_law_added_right R_added R_law_draw (endZ Q) (enZ N_law_added_right.length ds fu) := by
  obtain ⟨r, c, f, rfl, hT, h7, hfu, h⟩ := h
  have hr1 := hT.hr.lo
  have hc1 := hT.hc.lo
  have hr6 := hT.hr.hi
  have hc6 := hT.hc.hi
  have lr : (sL r).length = r.length := List.length_map _
  have lc : (sL c).length = c.length := List.length_map _
  have three : 3 ≤ sizeLine := by decide
  have er : ((((sL r).length : Nat) : Int)).toNat = r.length := by rw [lr]; omega
  have ec : ((((sL c).length : Nat) : Int)).toNat = c.length := by rw [lc]; omega
  refine ⟨rfl, rfl, by show 1 ≤ sizeLine; decide, rfl, 3, rfl, by decide, by decide, by show 1 ≤ fu; omega, fun q hq => ⟨by omega, by omega, ?_⟩⟩
  have e : ((1 : Int) + (q : Int)).toNat = q + 1 := by omega
  rw [e]
  have hrc : r.length * c.length ≤ 36 := Nat.mul_le_mul hr6 hc6
  refine for_pre (fun i : Nat => .int (i : Int)) (fun pre E => ∃ (fs : List (Nat → Nat → Int)) (s3 s5 s11 : Sl) (f' : Nat), E = ⟨[.pz, .dat (tabD r c f), .own ((f :: fs).map (tabD r c)), s3, .no, s5, .no, .no, .dat (.list (sL r)), .dat (.list (sL c)), .dat (mD r.length c.length f), s11, .no, .no, .no, .no, .no], f'⟩ ∧ s3.plain = true ∧ fs.length = pre.length ∧ (∀ g ∈ fs, SmallT r c g) ∧ fu - 1 ≤ f' + 36 * pre.length) (List.range (q + 1)) ?_ ?_ _ [] _ rfl
    ⟨[], .no, .no, .no, fu - 1, rfl, rfl, rfl, (fun x hx => nomatch hx), Nat.le_add_right _ _⟩
  · rintro pre a post e E ⟨fs, s3, s5, s11, f', rfl, hs3, hfl, hfs, hf⟩ C hC
    have hpre : pre.length < q + 1 := (range_at e).2
    have lp : (pre ++ [a]).length = pre.length + 1 := by simp
    refine ⟨Nat.zero_le _, by rw [lr]; omega, by rw [lr]; omega, ?_⟩
    rw [er]
    refine for_pre (fun i : Nat => .int (i : Int)) (fun pr E => ∃ (mm : List (List Int)) (s5 : Sl) (f2 : Nat), E = ⟨[.pz, .dat (tabD r c f), .own ((f :: fs).map (tabD r c)), .dat (.int (a : Int)), .no, s5, .no, .no, .dat (.list (sL r)), .dat (.list (sL c)), .dat (mD r.length c.length f), .own (mm.map fun r => .list (r.map .int)), .no, .no, .no, .no, .no], f2⟩ ∧ mm.length = pr.length ∧ (∀ l ∈ mm, l.length = c.length ∧ ∀ x ∈ l, 0 ≤ x ∧ x ≤ 999) ∧ f' ≤ f2 + c.length * pr.length) (List.range r.length) ?_ ?_ _ [] _ rfl
      ⟨[], s5, f', rfl, rfl, (fun x hx => nomatch hx), Nat.le_add_right _ _⟩
    · rintro pr b post2 e2 E ⟨mm, s5', f2, rfl, hml, hmm, hf2⟩ C2 hC2
      have hpr : pr.length < r.length := (range_at e2).2
      have lp2 : (pr ++ [b]).length = pr.length + 1 := by simp
      have hmul : c.length * (pr.length + 1) ≤ 36 := Nat.le_trans (Nat.mul_le_mul hc6 (show pr.length + 1 ≤ 6 by omega)) (by decide)
      rw [Nat.mul_succ] at hmul
      refine ⟨rfl, ?_⟩
      refine lc_dem (fun x : Str => .str x) (fun pre3 acc f3 => ∃ l : List Int, acc = l.map .int ∧ l.length = pre3.length ∧ (∀ x ∈ l, 0 ≤ x ∧ x ≤ 999) ∧ f2 ≤ f3 + pre3.length) c ?_ ?_ _ [] [] f2 rfl ⟨[], rfl, rfl, (fun c hc => nomatch hc), Nat.le_add_right _ _⟩
      · rintro pre3 a3 post3 e3 acc f3 ⟨l, rfl, hll, hl0, hf3⟩ C3 hC3
        have hpre3 : pre3.length < c.length := by rw [e3, List.length_append, List.length_cons]; omega
        have lp3 : (pre3 ++ [a3]).length = pre3.length + 1 := by simp
        refine ⟨rfl, 1000, rfl, by decide, by decide, by show 1 ≤ f3; omega, fun r3 hr3 => ⟨rfl, hC3 _ _ ⟨l ++ [(r3 : Int)], by rw [List.map_append]; rfl, by rw [List.length_append, lp3, hll]; rfl, fun x hx => ?_, ?_⟩⟩⟩
        · rcases List.mem_append.mp hx with hx | hx
          · exact hl0 x hx
          · rw [List.mem_singleton.mp hx]; exact ⟨Int.natCast_nonneg r3, by omega⟩
        · show f2 ≤ f3 - 1 + (pre3 ++ [a3]).length
          rw [lp3]
          omega
      · rintro acc f3 ⟨l, rfl, hll, hl0, hf3⟩
        refine ⟨by rw [List.length_map]; omega, hC2 _ ⟨mm ++ [l], .dat (.int (b : Int)), f3, by rw [List.map_append]; rfl, by rw [List.length_append, lp2, hml]; rfl, fun x hx => ?_, ?_⟩⟩
        · rcases List.mem_append.mp hx with hx | hx
          · exact hmm x hx
          · rw [List.mem_singleton.mp hx]; exact ⟨hll, hl0⟩
        · rw [lp2, Nat.mul_succ]
          omega
    · rintro E ⟨mm, s5', f2, rfl, hml, hmm, hf2⟩
      rw [List.length_range] at hml hf2
      rw [Nat.mul_comm] at hf2
      have e3 := mD_of mm c.length fun r hr => (hmm r hr).1
      refine ⟨three, by rw [List.length_map, List.length_cons]; omega, hC _ ⟨fs ++ [fun i k => (mm.getD i []).getD k 0], .dat (.int (a : Int)), s5', .dat (.list (mm.map fun r => .list (r.map .int))), f2, ?_, rfl, by rw [List.length_append, lp, hfl]; rfl, fun g hg => ?_, by rw [lp]; omega⟩⟩
      · have e4 : tabD r c (fun i k => (mm.getD i []).getD k 0) = .tuple [.list (sL r), .list (sL c), .list (mm.map fun r => .list (r.map .int))] := by
          unfold tabD
          rw [e3, hml]
        have e5 : (f :: (fs ++ [fun i k => (mm.getD i []).getD k 0])).map (tabD r c) = (f :: fs).map (tabD r c) ++ [.tuple [.list (sL r), .list (sL c), .list (mm.map fun r => .list (r.map .int))]] := by
          rw [← e4, ← List.cons_append, List.map_append]; rfl
        rw [e5]
        rfl
      · rcases List.mem_append.mp hg with hg | hg
        · exact hfs g hg
        · rw [List.mem_singleton.mp hg]
          intro i k hi hk
          have hi' : i < mm.length := by omega
          have e5 : mm.getD i [] = mm[i] := by rw [List.getD, List.getElem?_eq_getElem hi']; rfl
          have := hmm _ (List.getElem_mem hi')
          have hk' : k < mm[i].length := by omega
          show 0 ≤ (mm.getD i []).getD k 0 ∧ (mm.getD i []).getD k 0 ≤ 999
          rw [e5, List.getD, List.getElem?_eq_getElem hk']
          exact this.2 _ (List.getElem_mem hk')
  · rintro E ⟨fs, s3, s5, s11, f', rfl, hs3, hfl, hfs, hf⟩
    rw [List.length_range] at hfl hf
    have hf3 : fs.length ≤ 3 := by omega
    have hG : ∀ i k, i < r.length → k < c.length → 0 ≤ smF (f :: fs) i k ∧ smF (f :: fs) i k ≤ 10002997 := fun i k hi hk => smF_bound hT h7 hf3 hfs hi hk
    have hTG : TabOk r c (smF (f :: fs)) := ⟨hT.hr, hT.hc, fun i k hi hk => (hG i k hi hk).1, fun i k hi hk => Int.le_trans (hG i k hi hk).2 (by decide)⟩
    have hTs : ∀ g ∈ f :: fs, TabOk r c g := fun g hg => by
      rcases List.mem_cons.mp hg with rfl | hg
      · exact hT
      · exact ⟨hT.hr, hT.hc, fun i k hi hk => (hfs g hg i k hi hk).1, fun i k hi hk => Int.le_trans (hfs g hg i k hi hk).2 (by decide)⟩
    have lf : ((f :: fs).map (tabD r c)).length = fs.length + 1 := by rw [List.length_map, List.length_cons]
    refine ⟨Nat.zero_le _, by rw [lr]; omega, by rw [lr]; omega, ?_⟩
    rw [er]
    refine for_pre (fun i : Nat => .int (i : Int)) (fun pre E => ∃ (s5 s12 : Sl), E = ⟨[.pz, .dat (tabD r c f), .dat (.list ((f :: fs).map (tabD r c))), s3, .own (pre.map fun i => rD c.length (smF (f :: fs) i)), s5, .no, .no, .dat (.list (sL r)), .dat (.list (sL c)), .dat (mD r.length c.length f), s11, s12, .no, .no, .no, .no], f'⟩) (List.range r.length) ?_ ?_ _ [] _ rfl
      ⟨s5, .no, rfl⟩
    · rintro pre a post e E ⟨s5, s12, rfl⟩ C hC
      obtain ⟨ea, hpre⟩ := range_at e
      have ha : a < r.length := by omega
      refine ⟨rfl, ?_⟩
      refine lc_map (tabD r c) (fun g => rD c.length (g a)) (f :: fs) [] (fun g hg C2 hC2 => ?_) ?_
      · exact ix_list (l := (List.range r.length).map fun i => rD c.length (g i)) (k := (a : Int)) (atI_range ha) ⟨rfl, hC2⟩
      · refine ⟨by rw [lc]; omega, by rw [lc]; omega, (by show (s3.plain && true) = true; rw [hs3]; rfl), ?_⟩
        rw [ec]
        refine lc_map (fun i : Nat => .int (i : Int)) (fun k => .int (smF (f :: fs) a k)) (List.range c.length) [] (fun k hk C2 hC2 => ?_) ?_
        · have hk' : k < c.length := List.mem_range.mp hk
          have hC2' : C2 (some (.int ((f :: fs).map fun g => g a k).sum)) f' := hC2
          refine ⟨rfl, lc_map (fun g : Nat → Nat → Int => rD c.length (g a)) (fun g => .int (g a k)) (f :: fs) [] (fun g hg C3 hC3 => ix_list (atI_range (g := fun k => PyData.int (g a k)) hk') ⟨rfl, hC3⟩) ⟨(f :: fs).map fun g => g a k, by rw [List.map_map]; rfl, rfl, hC2'⟩⟩
        · refine ⟨by rw [List.length_map]; omega, hC _ ⟨.dat (.int (a : Int)), .dat (.list ((f :: fs).map fun g => rD c.length (g a))), ?_⟩⟩
          rw [List.map_append]
          rfl
    · rintro E ⟨s5, s12, rfl⟩
      have kS : Sh 4 18232 (.list ((f :: fs).map (tabD r c))) := sh_list (n := 3) (W := 4557) (L := 4) (fun d hd => by
        obtain ⟨g, hg, rfl⟩ := List.mem_map.mp hd
        exact sh_tabD (hTs g hg)) (by rw [lf]; omega)
      obtain ⟨k1, k2, k3, k4⟩ := kS.r4 (by decide) (by decide)
      obtain ⟨d1, d2, d3, d4⟩ := (sh_tabD hTG).r4 (by decide) (by decide)
      refine ⟨k1, k2, k3, k4, by decide, by decide, ?_⟩
      refine for_each (fun i : Nat => .int (i : Int)) (fun E => ∃ s7 : Sl, E = ⟨[.pz, .dat (tabD r c f), .dat (.list ((f :: fs).map (tabD r c))), s3, .dat (mD r.length c.length (smF (f :: fs))), s5, .dat (.str (PyData.shown (.list ((f :: fs).map (tabD r c))))), s7, .dat (.list (sL r)), .dat (.list (sL c)), .dat (mD r.length c.length f), s11, s12, .no, .no, .no, .no], f'⟩) _ _ ⟨.no, rfl⟩ ?_ ?_
      · rintro a ha E ⟨s7, rfl⟩ C0 hC0
        refine ⟨rfl, r, c, f :: fs, rfl, by show 1 ≤ fs.length + 1; omega, by show fs.length + 1 ≤ 6; omega, hTs, fun i k hi hk => Int.le_trans (hG i k hi hk).2 (by decide), ?_⟩
        refine ⟨d1, d2, d3, d4, three, d1, d2, d3, d4, ?_⟩
        have e1 : (!decide (PyData.shown (tabD r c (smF (f :: fs))) = PyData.shown (tabD r c (smF (f :: fs))))) = false := by rw [decide_eq_true rfl]; rfl
        refine ite_f e1 ⟨k1, k2, k3, k4, ?_⟩
        have e2 : (!decide (PyData.shown (.list ((f :: fs).map (tabD r c))) = PyData.shown (.list ((f :: fs).map (tabD r c))))) = false := by rw [decide_eq_true rfl]; rfl
        refine ite_f e2 (spoil_tab (i := 13) (r := r) (c := c) (f := smF (f :: fs)) rfl hr1 (by omega) (by omega) (hC0 _ ⟨_, rfl⟩))
      · rintro E ⟨s7, rfl⟩
        have e3 : tabD r c (fun i k => (([f]).map fun g => g i k).sum) = tabD r c f := by
          congr 1
          funext i k
          simp
        refine ⟨by show 1 ≤ sizeLine; decide, rfl, r, c, [f], rfl, (by show 1 ≤ 1; decide), (by show 1 ≤ 6; decide), fun g hg => by rw [List.mem_singleton.mp hg]; exact hT, fun i k hi hk => ?_, ?_⟩
        · have := h7 i k hi hk
          show f i k + 0 ≤ _
          omega
        · rw [e3]
          have ly : Lay 3 (tabD r c f) := lay_tabD _ hT.hr.wd hT.hc.wd
          refine ⟨ly.sh, ly.sh, ?_⟩
          rw [ly.refl]
          exact h f' (by omega)
end K22

set_option Elab.async false
set_option linter.all false
set_option maxRecDepth 100000
set_option maxHeartbeats 6400000
/-! R4: counting records: the plain law. -/
namespace K22
open PySem PySem.Spec PyProof.Rows L2
theorem sum_add {α : Type} (l : List α) (f g : α → Int) : (l.map fun z => f z + g z).sum = (l.map f).sum + (l.map g).sum := by
  induction l with
  | nil => rfl
  | cons x l ih => simp only [List.map_cons, List.sum_cons, ih]; omega
theorem sum_nil {α : Type} (l : List α) : (l.map fun _ => (0 : Int)).sum = 0 := by
  induction l with
  | nil => rfl
  | cons x l ih => simp only [List.map_cons, List.sum_cons, ih]; omega
theorem sum_filter {α : Type} (l : List α) (c : α → Bool) (w : α → Int) : ((l.filter c).map w).sum = (l.map fun a => if c a = true then w a else 0).sum := by
  induction l with
  | nil => rfl
  | cons a l ih =>
    simp only [List.filter_cons, List.map_cons, List.sum_cons]
    cases h : c a with
    | true => rw [if_pos rfl, if_pos rfl, List.map_cons, List.sum_cons, ih]
    | false => rw [if_neg (by decide), if_neg (by decide), ih]; omega
theorem sum_one {l : List Str} (hn : l.Nodup) (x : Str) (a : Int) : (l.map fun z => if decide (some x = some z) = true then a else 0).sum = if x ∈ l then a else 0 := by
  induction l with
  | nil => rfl
  | cons z l ih =>
    have hn' := List.nodup_cons.mp hn
    rw [List.map_cons, List.sum_cons, ih hn'.2]
    by_cases e : x = z
    · subst e
      rw [if_pos (by simp), if_neg hn'.1, if_pos (List.mem_cons_self ..)]
      omega
    · rw [if_neg (by simpa using e)]
      by_cases c : x ∈ l
      · rw [if_pos c, if_pos (List.mem_cons_of_mem _ c)]; omega
      · rw [if_neg c, if_neg (by simp [e, c])]; omega
theorem sum_none (l : List Str) (a : Int) : (l.map fun z => if decide ((none : Option Str) = some z) = true then a else 0).sum = 0 := by
  induction l with
  | nil => rfl
  | cons z l ih =>
    rw [List.map_cons, List.sum_cons, ih, if_neg (by simp)]
    rfl
theorem part {l : List Str} (hn : l.Nodup) (a : Rec → Option Str) (w : Rec → Int) : ∀ (B : List Rec), (∀ r ∈ B, a r = none ∨ ∃ x ∈ l, a r = some x) →
    (l.map fun z => ((B.filter fun r => decide (a r = some z)).map w).sum).sum = ((B.filter fun r => (a r).isSome).map w).sum
  | [], _ => by
    show (l.map fun z => (0 : Int)).sum = 0
    exact sum_nil l
  | r :: B, h => by
    have ih := part hn a w B fun q hq => h q (List.mem_cons_of_mem _ hq)
    have e : ∀ z, (((r :: B).filter fun r => decide (a r = some z)).map w).sum = (if decide (a r = some z) = true then w r else 0) + ((B.filter fun r => decide (a r = some z)).map w).sum := fun z => by
      rw [sum_filter, List.map_cons, List.sum_cons, ← sum_filter]
    simp only [e]
    rw [sum_add, ih]
    have e2 : (((r :: B).filter fun r => (a r).isSome).map w).sum = (if (a r).isSome = true then w r else 0) + ((B.filter fun r => (a r).isSome).map w).sum := by
      rw [sum_filter, List.map_cons, List.sum_cons, ← sum_filter]
    rw [e2]
    congr 1
    rcases h r (List.mem_cons_self ..) with q | ⟨x, hx, q⟩
    · rw [q]; exact sum_none l _
    · rw [q, sum_one hn, if_pos hx]
      exact (if_pos (by rfl)).symm
theorem cnt_app (m : Bool) (A B : List Rec) (row col : Nat) (x y : Str) : cnt m (A ++ B) row col x y = cnt m A row col x y + cnt m B row col x y := by
  unfold cnt
  rw [List.filter_append, List.map_append, sum_app]
theorem cnt_turn (m : Bool) (B : List Rec) (row col : Nat) (x y : Str) : cnt m B col row y x = cnt m B row col x y := by
  unfold cnt hit
  congr 2
  apply List.filter_congr
  intro r _
  exact Bool.and_comm _ _
theorem amt_bound {p : Plan} {r : Rec} (h : RecOk p r) (m : Bool) : 0 ≤ amt m r ∧ amt m r ≤ 1000000 := by
  cases m with
  | false => exact ⟨by show (0 : Int) ≤ 1; decide, by show (1 : Int) ≤ 1000000; decide⟩
  | true => exact ⟨h.lo, h.hi⟩
theorem cnt_bound {p : Plan} {B : List Rec} (h : BookOk p B) (m : Bool) (row col : Nat) (x y : Str) : 0 ≤ cnt m B row col x y ∧ cnt m B row col x y ≤ 60000000 := by
  have h1 := sum_bound (b := 1000000) (l := (B.filter fun r => hit r row col x y).map (amt m)) fun z hz => by
    obtain ⟨r, hr, rfl⟩ := List.mem_map.mp hz
    exact amt_bound (h.recs r (List.mem_filter.mp hr).1) m
  have h2 : (B.filter fun r => hit r row col x y).length ≤ 60 := Nat.le_trans (List.length_filter_le _ _) h.len
  rw [List.length_map] at h1
  unfold cnt
  omega
theorem Codes.wide {b : Nat} {xs : List Str} (h : Codes 2 b xs) : Codes 1 b xs := ⟨by have := h.lo; omega, h.hi, h.wd, h.nd⟩
theorem tabP_ok {p : Plan} {B : List Rec} (hp : PlanOk p) (hB : BookOk p B) {row col : Nat} (hr : row < p.length) (hc : col < p.length) (m : Bool) : TabOk (codes p row) (codes p col) (cntF m p B row col) :=
  ⟨(sort_get hp hr).cs.wide, (sort_get hp hc).cs.wide, fun i k _ _ => (cnt_bound hB m row col _ _).1, fun i k _ _ => Int.le_trans (cnt_bound hB m row col _ _).2 (by decide)⟩
theorem tabP_lay {p : Plan} {B : List Rec} (hp : PlanOk p) {row col : Nat} (hr : row < p.length) (hc : col < p.length) (m : Bool) : Lay 3 (tabP m p B row col) := lay_tabD _ (sort_get hp hr).cs.wd (sort_get hp hc).cs.wd
theorem tabP_two (m : Bool) (p : Plan) (A B : List Rec) (row col : Nat) : tabD (codes p row) (codes p col) (fun i k => (([cntF m p A row col, cntF m p B row col]).map fun g => g i k).sum) = tabP m p (A ++ B) row col := by
  unfold tabP
  congr 1
  funext i k
  show cntF m p A row col i k + (cntF m p B row col i k + 0) = _
  unfold cntF
  rw [cnt_app]
  omega
theorem tabP_turn (m : Bool) (p : Plan) (B : List Rec) (row col : Nat) : tabD (codes p col) (codes p row) (fun k i => cntF m p B row col i k) = tabP m p B col row := by
  unfold tabP
  congr 1
  funext k i
  unfold cntF
  rw [cnt_turn]
/-- the records with an answer -/
def here (B : List Rec) (k : Nat) : List Rec := B.filter fun r => (ans r k).isSome
theorem cnt_w (m : Bool) (B : List Rec) (row col : Nat) (x y : Str) : cnt m B row col x y = (B.map fun r => if hit r row col x y = true then amt m r else 0).sum := sum_filter ..
theorem tabP_lay_sum {p : Plan} (m : Bool) {B : List Rec} (hp : PlanOk p) (hB : BookOk p B) {la row col : Nat} (hla : la < p.length) : tabD (codes p row) (codes p col) (fun i k => (((codes p la).map fun z => cntF m p (atL B la z) row col).map fun g => g i k).sum) = tabP m p (here B la) row col := by
  unfold tabP
  congr 1
  funext i k
  rw [List.map_map]
  unfold cntF
  show ((codes p la).map fun z => cnt m (atL B la z) row col _ _).sum = _
  simp only [cnt_w]
  exact part (sort_get hp hla).cs.nd (fun r => ans r la) _ B fun r hr => (hB.recs r hr).ans la hla
theorem all_full {p : Plan} {B : List Rec} (hp : PlanOk p) (hB : BookOk p B) {row col : Nat} (hr : row < p.length) (hc : col < p.length) : sm (codes p row).length (fun i => sm (codes p col).length (cntF false p B row col i)) = (((here B row).filter fun r => (ans r col).isSome).length : Int) := by
  have e1 : ∀ x, ((codes p col).map fun y => cnt false B row col x y).sum = ((B.filter fun r => decide (ans r row = some x)).map fun r => if (ans r col).isSome = true then (1 : Int) else 0).sum := fun x => by
    rw [← sum_filter]
    rw [← part (sort_get hp hc).cs.nd (fun r => ans r col) (fun _ => 1) (B.filter fun r => decide (ans r row = some x)) fun r h => (hB.recs r (List.mem_filter.mp h).1).ans col hc]
    congr 1
    apply List.map_congr_left
    intro y _
    unfold cnt hit
    rw [List.filter_filter]
    have e : (B.filter fun r => decide (ans r row = some x) && decide (ans r col = some y)) = B.filter fun r => decide (ans r col = some y) && decide (ans r row = some x) := by
      apply List.filter_congr
      intro r _
      exact Bool.and_comm _ _
    rw [e]
    rfl
  unfold sm cntF
  rw [← map_get (codes p row) "" fun x => ((List.range (codes p col).length).map fun k => cnt false B row col x ((codes p col).getD k "")).sum]
  have e2 : ∀ x, ((List.range (codes p col).length).map fun k => cnt false B row col x ((codes p col).getD k "")).sum = ((B.filter fun r => decide (ans r row = some x)).map fun r => if (ans r col).isSome = true then (1 : Int) else 0).sum := fun x => by
    rw [← map_get (codes p col) "" fun y => cnt false B row col x y]
    exact e1 x
  simp only [e2]
  rw [part (l := codes p row) (sort_get hp hr).cs.nd (fun r => ans r row) _ B fun r h => (hB.recs r h).ans row hr, ← sum_filter]
  show (((here B row).filter fun r => (ans r col).isSome).map fun _ => (1 : Int)).sum = _
  generalize ((here B row).filter fun r => (ans r col).isSome) = l
  induction l with
  | nil => rfl
  | cons r l ih => rw [List.map_cons, List.sum_cons, ih, List.length_cons]; omega
end K22

set_option Elab.async false
set_option linter.all false
set_option maxRecDepth 100000
set_option maxHeartbeats 6400000
/-! R5: books tabled rightly: the reading. -/
namespace K22
open PySem PySem.Spec PyProof.Rows L2
theorem inD_lot (x : Nat) (l : List Nat) : inD (.int (x : Int)) (iL l) = decide (x ∈ l) := by
  unfold inD
  have e0 : (iL l).map K22.toV = l.map fun i : Nat => V.int (i : Int) := by unfold iL; rw [List.map_map]; rfl
  rw [e0]
  unfold L2.inV
  rw [List.any_map]
  have e : ((fun y => eqV y (K22.toV (.int (x : Int)))) ∘ fun i : Nat => V.int (i : Int)) = fun y : Nat => decide (y = x) := by
    funext y
    show ((y : Int) == (x : Int)) = decide (y = x)
    by_cases c : y = x
    · rw [c]; simp
    · rw [decide_eq_false c]; exact beq_eq_false_iff_ne.mpr (by omega)
  rw [e]
  by_cases c : x ∈ l
  · rw [decide_eq_true c]; exact List.any_eq_true.mpr ⟨x, c, by simp⟩
  · rw [decide_eq_false c]
    exact List.any_eq_false.mpr fun y hy => by simpa using fun z => c (by rw [← z]; exact hy)
theorem scal_iL' (l : List Nat) : (iL l).all scal = true := scal_map l (fun _ => rfl)
theorem nin_gaps {p : Plan} {k : Nat} (hk : k < p.length) (r : Rec) : (!inD (.int (k : Int)) (iL (gapsL p r))) = (ans r k).isSome := by
  rw [inD_lot]
  unfold gapsL
  cases c : (ans r k).isSome with
  | true =>
    rw [decide_eq_false]; rfl
    intro h
    have := (List.mem_filter.mp h).2
    cases e : ans r k with
    | none => rw [e] at c; cases c
    | some x => rw [e] at this; cases this
  | false =>
    rw [decide_eq_true]; rfl
    refine List.mem_filter.mpr ⟨List.mem_range.mpr hk, ?_⟩
    cases e : ans r k with
    | none => rfl
    | some x => rw [e] at c; cases c
theorem ones_flat (x : PyData) : ∀ A : List Rec, (List.replicate A.length [x]).flatten = A.map fun _ => x
  | [] => rfl
  | a :: A => by
    rw [List.length_cons, List.replicate_succ, List.flatten_cons, ones_flat x A]
    rfl
def fullR (A : List Rec) (row col : Nat) : List Rec := (here A row).filter fun r => (ans r col).isSome
def R_law_books_right : RZ := fun ds fu P => ∃ p A B, ds = [planD p, bookD A, bookD B] ∧ PlanOk p ∧ 2 ≤ p.length ∧ BookOk p A ∧ BookOk p B ∧ 10 ≤ fu ∧ ∀ fu', fu ≤ fu' + 10 → P (.bool true) fu'
theorem m_law_books_right : MonoZ R_law_books_right := fun ds n P P' w ⟨p, A, B, e, h1, h2, h3, h4, h5, h⟩ => ⟨p, A, B, e, h1, h2, h3, h4, h5, fun f a => w _ _ (h f a)⟩
theorem fullR_snoc (pre : List Rec) (r : Rec) (row col : Nat) : fullR (pre ++ [r]) row col = fullR pre row col ++ if ((ans r row).isSome && (ans r col).isSome) = true then [r] else [] := by
  unfold fullR here
  rw [List.filter_append, List.filter_append]
  congr 1
  cases c1 : (ans r row).isSome <;> cases c2 : (ans r col).isSome <;> simp [List.filter_cons, c1, c2]
theorem r_law_books_right (ds : List PyData) (fu : Nat) (Q : PyData → Nat → Prop) (hl : ds.length = 3) (h : R_law_books_right ds fu Q) : t_law_books_right R_totals R_turned_table R_added R_gaps R_table_of R_weighed_cells R_layers R_law_order (endZ Q) (enZ N_law_books_right.length ds fu) := by
  obtain ⟨p, A, B, rfl, hp, h2, hA, hB, hfu, h⟩ := h
  have hp4 := hp.hi
  have lp : (p.map sortD).length = p.length := List.length_map _
  have lA : (A.map recD).length = A.length := List.length_map _
  have lB : (B.map recD).length = B.length := List.length_map _
  have hA6 := hA.len
  have hB6 := hB.len
  have two : 2 ≤ sizeLine := by decide
  have three : 3 ≤ sizeLine := by decide
  have sz := sizeLine_big
  refine ⟨rfl, p.length, by rw [lp], by omega, by show p.length ≤ fu; omega, fun l f1 hl hf1 => ?_⟩
  have hf1' : fu ≤ f1 + p.length := hf1
  have hll : l.length = p.length := by rw [hl.length_eq, List.length_range]
  have hlnd : l.Nodup := hl.nodup_iff.mpr List.nodup_range
  have hllt : ∀ i ∈ l, i < p.length := fun i hi => List.mem_range.mp (hl.mem_iff.mp hi)
  obtain ⟨row, col, rest, rfl⟩ : ∃ row col rest, l = row :: col :: rest := by
    match l, hll with
    | [], e => simp at e; omega
    | [x], e => simp at e; omega
    | x :: y :: z, _ => exact ⟨x, y, z, rfl⟩
  have hr : row < p.length := hllt row (by simp)
  have hc : col < p.length := hllt col (by simp)
  have hne : row ≠ col := fun z => by rw [z] at hlnd; simp at hlnd
  have hne' : col ≠ row := fun z => hne z.symm
  refine ⟨by decide, rfl, rfl, two, ?_⟩
  have tot : ∀ {X : List Rec} {a b : Nat} (m : Bool), BookOk p X → a < p.length → b < p.length → TabOk (codes p a) (codes p b) (cntF m p X a b) := fun m hX ha hb => tabP_ok hp hX ha hb m
  have lay : ∀ (X : List Rec) {a b : Nat} (m : Bool), a < p.length → b < p.length → Lay 3 (tabP m p X a b) := fun X a b m ha hb => tabP_lay hp ha hb m
  refine for_each (fun m : Bool => .str (wS m)) (fun E => ∃ (s5 s12 s13 s14 s15 : Sl), E = ⟨[.pz, .dat (planD p), .dat (bookD A), .dat (bookD B), .dat (lotD (row :: col :: rest)), s5, .no, .no, .no, .no, .dat (.int (row : Int)), .dat (.int (col : Int)), s12, s13, s14, s15, .no, .no, .no], f1⟩) [false, true] _ ⟨.no, .no, .no, .no, .no, rfl⟩ ?_ ?_
  · rintro m _ E ⟨s5, s12, s13, s14, s15, rfl⟩ C0 hC0
    refine ⟨two, rfl, lc_map bookD (fun X => tabP m p X row col) [A, B] [] (fun X hX C hC => ?_) ?_⟩
    · have hXok : BookOk p X := by
        rcases List.mem_cons.mp hX with rfl | hX
        · exact hA
        · rw [List.mem_singleton.mp hX]; exact hB
      exact ⟨rfl, rfl, rfl, p, X, row, col, m, rfl, hp, hXok, hr, hc, hne, rfl, hC⟩
    have hD : BookOk p ((A ++ B).take 60) := ⟨by rw [List.length_take]; omega, fun r hr => by
      rcases List.mem_append.mp (List.mem_of_mem_take hr) with hr | hr
      · exact hA.recs r hr
      · exact hB.recs r hr⟩
    have eD : PyData.list ((A.map recD ++ B.map recD).take (60 : Int).toNat) = bookD ((A ++ B).take 60) := by
      unfold bookD
      rw [List.map_take, List.map_append]
      rfl
    refine ⟨by rw [lA, lB]; omega, by decide, rfl, rfl, rfl, p, (A ++ B).take 60, row, col, m, by rw [← eD]; rfl, hp, hD, hr, hc, hne, ?_⟩
    have rest : ∀ D : DEnds, (∀ E, C0 E → D.nx E) → (dSeq (dIfS (dTs (dOp oNe (dUse 1 R_turned_table (dCons (dOp oIx (dVar 12) (dC (.int 0))) dNil)) (dUseK 4 R_table_of (dCons (dVar 1) (dCons (dVar 2) (dCons (dVar 11) (dCons (dVar 10) dNil)))) (dVar 5)))) (dRet (dC (.bool false))) dNilS) (dIfS (dTs (dOp oGt (dCall cLen (dCons (dVar 1) dNil)) (dC (.int 2)))) (dSeq (dSet 14 (dLc (dIter (dVar 2)) (dgName 7) (dTs (dOp oNin (dOp oIx (dVar 4) (dC (.int 2))) (dUse 2 R_gaps (dCons (dVar 1) (dCons (dVar 7) dNil))))) (dVar 7) [7])) (dSeq (dSet 15 (dUseK 5 R_layers (dCons (dVar 1) (dCons (dVar 2) (dCons (dOp oIx (dVar 4) (dC (.int 2))) (dCons (dVar 10) (dCons (dVar 11) dNil))))) (dVar 5))) (dIfS (dTs (dOp oNe (dUse 1 R_added (dCons (dVar 15) dNil)) (dUseK 4 R_table_of (dCons (dVar 1) (dCons (dVar 14) (dCons (dVar 10) (dCons (dVar 11) dNil)))) (dVar 5)))) (dRet (dC (.bool false))) dNilS))) dNilS)) D ⟨[.pz, .dat (planD p), .dat (bookD A), .dat (bookD B), .dat (lotD (row :: col :: rest)), .dat (.str (wS m)), .no, .no, .no, .no, .dat (.int (row : Int)), .dat (.int (col : Int)), .dat (.list [tabP m p A row col, tabP m p B row col]), .dat (tabP m p ((A ++ B).take 60) row col), s14, s15, .no, .no, .no], f1⟩ := fun D hDn => by
      refine ⟨rfl, codes p row, codes p col, cntF m p A row col, rfl, tot m hA hr hc, rfl, rfl, rfl, p, A, col, row, m, rfl, hp, hA, hc, hr, hne', ?_⟩
      have ly := lay A m hc hr
      rw [tabP_turn]
      refine ⟨ly.sh, ly.sh, ite_f (show (!PyData.eqv (tabP m p A col row) (tabP m p A col row)) = false by rw [ly.refl]; rfl) ?_⟩
      by_cases c3 : 2 < p.length
      · refine ite_t (show decide ((2 : Int) < ((p.map sortD).length : Int)) = true from decide_eq_true (by rw [lp]; omega)) ?_
        obtain ⟨la, rest2, rfl⟩ : ∃ la rest2, rest = la :: rest2 := by
          match rest, hll with
          | [], e => simp at e; omega
          | x :: y, _ => exact ⟨x, y, rfl⟩
        have hla : la < p.length := hllt la (by simp)
        have hnd3 : [la, row, col].Nodup := by
          have h1 := List.nodup_cons.mp hlnd
          have h2 := List.nodup_cons.mp h1.2
          simp at h1 h2
          refine List.nodup_cons.mpr ⟨?_, List.nodup_cons.mpr ⟨by simpa using hne, by simp⟩⟩
          intro z
          have : la = row ∨ la = col := by simpa using z
          rcases this with e | e
          · exact h1.1.2.1 e.symm
          · exact h2.1.1 e.symm
        refine ⟨rfl, lc_of recD (fun r => if (ans r la).isSome = true then some (recD r) else none) _ [] (fun r hr2 C hC => ?_) ?_⟩
        · have ok := hA.recs r hr2
          refine ix_list (d := .int (la : Int)) (k := 2) (atI_nat (j := 2) rfl) ⟨rfl, p, r, rfl, hp, ok, rfl, scal_iL' _, ?_⟩
          have ee := nin_gaps hla r
          cases c : (ans r la).isSome with
          | true =>
            rw [c] at hC ee
            exact ite_t ee ⟨rfl, hC⟩
          | false =>
            rw [c] at hC ee
            exact ite_f ee ⟨rfl, hC⟩
        · rw [filterMap_if]
          refine ix_list (d := .int (la : Int)) (k := 2) (atI_nat (j := 2) rfl) ⟨rfl, rfl, rfl, p, A, la, row, col, m, rfl, hp, hA, hla, hr, hc, hnd3, ?_⟩
          have hl6 : (codes p la).length ≤ 6 := (sort_get hp hla).cs.hi
          have hl2 : 2 ≤ (codes p la).length := (sort_get hp hla).cs.lo
          have hThere := tabP_lay_sum (row := row) (col := col) m hp hA hla
          refine ⟨rfl, codes p row, codes p col, (codes p la).map fun z => cntF m p (atL A la z) row col, one_eq (by rw [List.map_map]; rfl), by rw [List.length_map]; omega, by rw [List.length_map]; omega, fun g hg => ?_, fun i k hi hk => ?_, ?_⟩
          · obtain ⟨z, _, rfl⟩ := List.mem_map.mp hg
            exact tot m (hA.filter _) hr hc
          · have e := sum_bound (b := 60000000) (l := ((codes p la).map fun z => cntF m p (atL A la z) row col).map fun g => g i k) fun x hx => by
              obtain ⟨g, hg, rfl⟩ := List.mem_map.mp hx
              obtain ⟨z, _, rfl⟩ := List.mem_map.mp hg
              exact cnt_bound (hA.filter _) m row col _ _
            rw [List.length_map, List.length_map] at e
            omega
          · rw [hThere]
            refine ⟨rfl, rfl, rfl, p, here A la, row, col, m, rfl, hp, hA.filter _, hr, hc, hne, ?_⟩
            have ly2 := lay (here A la) m hr hc
            exact ⟨ly2.sh, ly2.sh, ite_f (show (!PyData.eqv (tabP m p (here A la) row col) (tabP m p (here A la) row col)) = false by rw [ly2.refl]; rfl) (hDn _ (hC0 _ ⟨_, _, _, _, _, rfl⟩))⟩
      · exact ite_f (show decide ((2 : Int) < ((p.map sortD).length : Int)) = false from decide_eq_false (by rw [lp]; omega)) (hDn _ (hC0 _ ⟨_, _, _, _, _, rfl⟩))
    by_cases c1 : A.length + B.length < 61
    · refine ite_t (show decide (((A.map recD).length : Int) + ((B.map recD).length : Int) < 61) = true from decide_eq_true (by rw [lA, lB]; omega)) ?_
      have eT : (A ++ B).take 60 = A ++ B := List.take_of_length_le (by rw [List.length_append]; omega)
      refine ⟨rfl, codes p row, codes p col, [cntF m p A row col, cntF m p B row col], rfl, (by show 1 ≤ 2; decide), (by show 2 ≤ 6; decide), fun g hg => ?_, fun i k hi hk => ?_, ?_⟩
      · rcases List.mem_cons.mp hg with rfl | hg
        · exact tot m hA hr hc
        · rw [List.mem_singleton.mp hg]; exact tot m hB hr hc
      · have e1 := (cnt_bound hA m row col ((codes p row).getD i "") ((codes p col).getD k "")).2
        have e2 := (cnt_bound hB m row col ((codes p row).getD i "") ((codes p col).getD k "")).2
        show cnt m A row col _ _ + (cnt m B row col _ _ + 0) ≤ _
        omega
      · have eT2 : tabP m p (A ++ B) row col = tabP m p ((A ++ B).take 60) row col := by rw [eT]
        rw [tabP_two, eT2]
        have ly := lay ((A ++ B).take 60) m hr hc
        exact ⟨ly.sh, ly.sh, ite_f (show (!PyData.eqv (tabP m p ((A ++ B).take 60) row col) (tabP m p ((A ++ B).take 60) row col)) = false by rw [ly.refl]; rfl) (rest _ fun _ h => h)⟩
    · exact ite_f (show decide (((A.map recD).length : Int) + ((B.map recD).length : Int) < 61) = false from decide_eq_false (by rw [lA, lB]; omega)) (ite_f rfl (rest _ fun _ h => h))
  · rintro E ⟨s5, s12, s13, s14, s15, rfl⟩
    refine ⟨Nat.zero_le _, for_pre recD (fun pre E => ∃ s7 : Sl, s7.plain = true ∧ E = ⟨[.pz, .dat (planD p), .dat (bookD A), .dat (bookD B), .dat (lotD (row :: col :: rest)), s5, .own ((fullR pre row col).map recD), s7, .no, .no, .dat (.int (row : Int)), .dat (.int (col : Int)), s12, s13, s14, s15, .no, .no, .no], f1⟩) A ?_ ?_ A [] _ rfl ⟨.no, rfl, rfl⟩⟩
    · rintro pre r post e E ⟨s7, _, rfl⟩ C hC
      have hrA : r ∈ A := by rw [e]; simp
      have ok := hA.recs r hrA
      have hpre : pre.length < 1000000 := by
        have := congrArg List.length e
        simp at this
        omega
      have hfl : (fullR pre row col).length ≤ pre.length := Nat.le_trans (List.length_filter_le _ _) (List.length_filter_le _ _)
      have e1 := nin_gaps hr r
      have e2 := nin_gaps hc r
      have es := fullR_snoc pre r row col
      refine ⟨rfl, p, r, rfl, hp, ok, rfl, scal_iL' _, ?_⟩
      cases c1 : (ans r row).isSome with
      | true =>
        rw [c1] at e1 es
        refine ite_t e1 ⟨rfl, p, r, rfl, hp, ok, rfl, scal_iL' _, ?_⟩
        cases c2 : (ans r col).isSome with
        | true =>
          rw [c2] at e2 es
          refine ite_t e2 ⟨by rw [List.length_map]; omega, hC _ ⟨.dat (recD r), rfl, ?_⟩⟩
          rw [es, if_pos (by rfl), List.map_append]
          rfl
        | false =>
          rw [c2] at e2 es
          refine ite_f e2 (hC _ ⟨.dat (recD r), rfl, ?_⟩)
          rw [es, if_neg (by decide), List.append_nil]
          rfl
      | false =>
        rw [c1] at e1 es
        refine ite_f e1 (hC _ ⟨.dat (recD r), rfl, ?_⟩)
        rw [es, if_neg (by cases (ans r col).isSome <;> decide), List.append_nil]
        rfl
    · rintro E ⟨s7, _, rfl⟩
      have af := all_full hp hA hr hc
      have lF : ((fullR A row col).map recD).length = (fullR A row col).length := List.length_map _
      refine ⟨rfl, p, A, row, col, false, rfl, hp, hA, hr, hc, hne, rfl, codes p row, codes p col, cntF false p A row col, rfl, tot false hA hr hc, rfl, shI _, shI _, ?_⟩
      refine ite_f (neI (by rw [lF]; exact af)) ?_
      have eL : ((((A.map recD).length : Nat) : Int)).toNat = A.length := by rw [lA]; omega
      have eO : PyData.list (List.replicate ((((A.map recD).length : Nat) : Int)).toNat [one1]).flatten = .list (A.map fun _ => one1) := by rw [eL, ones_flat]
      have p63 : (2 : Int) ^ 63 = 9223372036854775808 := by decide
      refine ⟨two, (by show 1 ≤ sizeLine; decide), by rw [lA]; omega, by rw [lA, p63]; omega, by rw [eL]; show 1 * A.length ≤ sizeLine; omega, rfl, p, A, row, col, ?_, hp, hA, hr, hc, hne, ?_⟩
      · rw [← eO]; rfl
      refine ⟨rfl, p, A, row, col, false, rfl, hp, hA, hr, hc, hne, ?_⟩
      refine ⟨rfl, lc_map (fun i => rD (codes p col).length (cntF false p A row col i)) (fun i => .list ((List.range (codes p col).length).map fun k => .tuple [.int (cntF false p A row col i k), .int 1])) (List.range (codes p row).length) [] (fun i hi C hC => ?_) ?_⟩
      · exact ⟨rfl, lc_map (fun k => .int (cntF false p A row col i k)) (fun k => .tuple [.int (cntF false p A row col i k), .int 1]) (List.range (codes p col).length) [] (fun k hk C2 hC2 => ⟨two, rfl, hC2⟩) ⟨rfl, hC⟩⟩
      · have eW : PyData.list ((codes p row).map fun x => .list ((codes p col).map fun y => .tuple [.int (cnt false A row col x y), .int 1])) = .list ([] ++ (List.range (codes p row).length).map fun i => .list ((List.range (codes p col).length).map fun k => .tuple [.int (cntF false p A row col i k), .int 1])) := by
          rw [List.nil_append, map_get (codes p row) "" fun x => PyData.list ((codes p col).map fun y => .tuple [.int (cnt false A row col x y), .int 1])]
          congr 1
          apply List.map_congr_left
          intro i _
          rw [map_get (codes p col) "" fun y => PyData.tuple [.int (cnt false A row col _ y), .int 1]]
          rfl
        rw [eW]
        have ly : Lay 3 (.list ([] ++ (List.range (codes p row).length).map fun i => .list ((List.range (codes p col).length).map fun k => .tuple [.int (cntF false p A row col i k), .int 1]))) := by
          rw [List.nil_append]
          exact lay_map fun i _ => lay_map fun k _ => lay_tup fun d hd => by
            have e : d = .int (cntF false p A row col i k) ∨ d = .int 1 := by simpa using hd
            rcases e with rfl | rfl <;> exact lay_int _
        refine ⟨ly.sh, ly.sh, ?_⟩
        rw [ly.refl]
        exact h f1 (by omega)
end K22

set_option Elab.async false
set_option linter.all false
set_option maxRecDepth 100000
set_option maxHeartbeats 6400000
/-! S0: the purse: a draw. -/
namespace K22
open PySem PySem.Spec PyProof.Rows L2
abbrev N_law_draw : List Str := ["_law_purse_here", "_law_out_of", "_law_cells", "_law_went", "_law_where", "_law_cell", "_law_num", "_law_other"]
theorem sc_law_draw : FnScope N_law_draw ["_law_purse_here", "_law_out_of"] (defScope s_law_draw) := ⟨rfl, rfl, rfl, by decide +kernel, rfl, by decide +kernel, by decide +kernel⟩
abbrev tI (i : Int) : TE := tC (.int i)
abbrev tAdd : TE → TE → TE := tOp (rI0 fun i j => .int (i + j))
abbrev tMul : TE → TE → TE := tOp (rI CMul fun i j => .int (i * j))
abbrev tMod : TE → TE → TE := tOp (rI (fun _ j => 0 < j) fun i j => .int (i % j))
abbrev tDiv : TE → TE → TE := tOp (rI CDiv fun i j => .int (i / j))
abbrev tPow : TE → TE → TE := tOp (rI (fun i j => 0 ≤ j ∧ (Builtin.Int.intBits i : Int) * j ≤ 2 ^ 27) fun i j => .int (i ^ j.toNat))
def rLenS (K : PySem.W.Frag) : List V → Hp → VK → Prop := fun xs H Q => ∃ p ys, xs = [.ref p] ∧ (SqL K H p ys ∨ SqT K H p ys) ∧ Q (.int ys.length) H
def t_law_draw (K : PySem.W.Frag) : TS :=
  tSeq (tAsg (tVar 0) (gUnl K 2 (gCons (gName 2) (gCons (gName 3) gNil))))
  (tSeq (tAsg (tMod (tVar 3) (tCB (rLenS K) (tCons (tVar 2) tNil))) (gName 4))
  (tSeq (tAsg (tOp (rIx K) (tVar 2) (tVar 4)) (gName 5))
  (tSeq (tAsg (tAdd (tVar 3) (tI 1)) (gSub (tVar 0) (tI 1) rSetL))
  (tSeq (tIfS (tTest (tOp (rI0 fun i j => .bl (decide (j ≤ i))) (tVar 5) (tPow (tI 10) (tI 18))))
    (tSeq (tAsg (tDiv (tVar 5) (tVar 1)) (gSub (tVar 2) (tVar 4) rSetL)) (tRet (tMod (tVar 5) (tVar 1)))) tNext)
  (tSeq (tAsg (tMod (tAdd (tAdd (tMul (tMod (tVar 5) (tI 2147483629)) (tI 48271)) (tMul (tMul (tVar 3) (tVar 3)) (tI 69621))) (tI 11)) (tI 2147483647)) (gName 6))
  (tSeq (tAsg (tMod (tMul (tVar 6) (tVar 6)) (tI 2147483629)) (gName 6))
  (tSeq (tAsg (tMod (tMul (tVar 6) (tVar 6)) (tI 2147483587)) (gName 6))
  (tSeq (tIfS (tTest (tOp (rI0 fun i j => .bl (decide (j < i))) (tVar 1) (tPow (tI 10) (tI 9))))
    (tSeq (tAsg (tMod (tAdd (tAdd (tMul (tVar 6) (tI 39373)) (tMul (tVar 3) (tI 7919))) (tI 500)) (tI 2147483629)) (gName 7))
      (tAsg (tMul (tVar 6) (tAdd (tMul (tMul (tVar 7) (tVar 7)) (tVar 7)) (tI 1))) (gName 6))) tNext)
  (tRet (tMod (tVar 6) (tVar 1)))))))))))
set_option maxHeartbeats 0 in
theorem b_law_draw {P : Program} {w : World} {K : PySem.W.Frag} {mg : Str → Option Value} {base : Heap} (W : Wd K mg) (cdv : Value) (A : Around) (outer : List Env) (s : Shared) (H : Hp) (E : XK) (hr : Room 0 (A.deeper (envOfC "_law_draw" (defScope s_law_draw) s.heap.objs.size (He.ga K "_law_draw") cdv))) :
    PSs (cxOf CX0 P w K mg base N_law_draw "_law_draw" (defScope s_law_draw) (He.ga K "_law_draw") cdv A outer s H E).nox (defBody s_law_draw) (t_law_draw K) := by
  have nd := sc_law_draw.nd
  exact pss_cons (ps_asg (pe_var (i := 0) rfl (.inl rfl)) (pg_unl rfl (pgs_cons (pg_name nd rfl (.inl rfl)) (pgs_cons (pg_name nd rfl (.inl rfl)) pgs_nil))))
    (pss_cons (ps_asg (pe_op op_mod (pe_var (i := 3) rfl (.inl rfl)) (pe_callB call_len_seq rfl (W.free 58) (by decide +kernel) (pa_cons (pe_var (i := 2) rfl (.inl rfl)) pa_nil))) (pg_name nd rfl (.inl rfl)))
    (pss_cons (ps_asg (pe_ix ix_seq (pe_var (i := 2) rfl (.inl rfl)) (pe_var (i := 4) rfl (.inl rfl)) (fun _ _ => rfl)) (pg_name nd rfl (.inl rfl)))
    (pss_cons (ps_asg (pe_op op_add (pe_var (i := 3) rfl (.inl rfl)) pe_int) (pg_sub (pe_var (i := 0) rfl (.inl rfl)) pe_int set_list))
    (pss_cons (ps_if (pt_cmpR op_ge (pe_var (i := 5) rfl (.inl rfl)) (pe_op op_powG pe_int pe_int) (nomark _))
      (pss_cons (ps_asg (pe_op op_fdiv (pe_var (i := 5) rfl (.inl rfl)) (pe_var (i := 1) rfl (.inl rfl))) (pg_sub (pe_var (i := 2) rfl (.inl rfl)) (pe_var (i := 4) rfl (.inl rfl)) set_list))
        (pss_one (ps_ret (pe_op op_mod (pe_var (i := 5) rfl (.inl rfl)) (pe_var (i := 1) rfl (.inl rfl)))))) pss_nil)
    (pss_cons (ps_asg (pe_op op_mod (pe_op op_add (pe_op op_add (pe_op op_mul (pe_op op_mod (pe_var (i := 5) rfl (.inl rfl)) pe_int) pe_int) (pe_op op_mul (pe_op op_mul (pe_var (i := 3) rfl (.inl rfl)) (pe_var (i := 3) rfl (.inl rfl))) pe_int)) pe_int) pe_int) (pg_name nd rfl (.inl rfl)))
    (pss_cons (ps_asg (pe_op op_mod (pe_op op_mul (pe_var (i := 6) rfl (.inl rfl)) (pe_var (i := 6) rfl (.inl rfl))) pe_int) (pg_name nd rfl (.inl rfl)))
    (pss_cons (ps_asg (pe_op op_mod (pe_op op_mul (pe_var (i := 6) rfl (.inl rfl)) (pe_var (i := 6) rfl (.inl rfl))) pe_int) (pg_name nd rfl (.inl rfl)))
    (pss_cons (ps_if (pt_cmpR op_gt (pe_var (i := 1) rfl (.inl rfl)) (pe_op op_powG pe_int pe_int) (nomark _))
      (pss_cons (ps_asg (pe_op op_mod (pe_op op_add (pe_op op_add (pe_op op_mul (pe_var (i := 6) rfl (.inl rfl)) pe_int) (pe_op op_mul (pe_var (i := 3) rfl (.inl rfl)) pe_int)) pe_int) pe_int) (pg_name nd rfl (.inl rfl)))
        (pss_one (ps_asg (pe_op op_mul (pe_var (i := 6) rfl (.inl rfl)) (pe_op op_add (pe_op op_mul (pe_op op_mul (pe_var (i := 7) rfl (.inl rfl)) (pe_var (i := 7) rfl (.inl rfl))) (pe_var (i := 7) rfl (.inl rfl))) pe_int)) (pg_name nd rfl (.inl rfl))))) pss_nil)
    (pss_one (ps_ret (pe_op op_mod (pe_var (i := 6) rfl (.inl rfl)) (pe_var (i := 1) rfl (.inl rfl)))))))))))))
end K22

set_option Elab.async false
set_option linter.all false
set_option maxRecDepth 100000
set_option maxHeartbeats 6400000
/-! S1: a draw keeps its promise. -/
namespace K22
open PySem PySem.Spec PyProof.Rows L2
theorem small_num {a m : Int} (h : 0 < m) : 0 ≤ a % m ∧ a % m < m := ⟨Int.emod_nonneg _ (by omega), Int.emod_lt_of_pos _ h⟩
theorem p18 : (10 : Int) ^ (18 : Int).toNat = 1000000000000000000 := by decide
theorem p9 : (10 : Int) ^ (9 : Int).toNat = 1000000000 := by decide
theorem cm_l {i j : Int} (h0 : 0 ≤ i) (h1 : i < 2 ^ 64) : CMul i j := .inl ⟨by omega, h1⟩
theorem cm_r {i j : Int} (h0 : 0 ≤ j) (h1 : j < 2 ^ 64) : CMul i j := .inr ⟨by omega, h1⟩
theorem r_law_draw {K : PySem.W.Frag} (vs : List V) (H : Hp) (Q : VK) (E : XK) (h : spZ K 1 R_law_draw vs H Q E) : t_law_draw K { nx := fun _ H' => Q .non H', rt := Q } (start N_law_draw vs) H := by
  obtain ⟨Fr, p, c, vs', ds, fu, hpz, rfl, h1, hN, hM0, hl, hz, hd, m, rfl, hm1, hm2, hfu, hr⟩ := h
  cases hd with
  | cons hd0 hdr =>
    cases hdr
    cases hd0
    obtain ⟨hne, ns, w, hp, hc, hns, h63, hb, hw0, hwf⟩ := hz p c hpz
    have hm0 : (0 : Int) < (m : Int) := by omega
    have hpos : 0 < ns.length := List.length_pos_iff.mpr hns
    have hlen0 : (0 : Int) < (ns.length : Int) := by omega
    have hj := small_num (a := w) hlen0
    obtain ⟨j, hjn⟩ : ∃ j : Nat, w % (ns.length : Int) = (j : Int) := ⟨(w % (ns.length : Int)).toNat, by omega⟩
    have hjlt : j < ns.length := by omega
    have hmap : (ns.map V.int).length = ns.length := List.length_map _
    have hx : ns[j]? = some ns[j] := List.getElem?_eq_getElem hjlt
    have hxb := hb ns[j] (List.getElem_mem hjlt)
    have pz' : ∀ (ns' : List Int) (H' : Hp), H' p = some (.lst [.ref c, .int (w + 1)]) → H' c = some (.lst (ns'.map V.int)) → ns'.length = ns.length → (∀ x ∈ ns', 0 ≤ x ∧ x < 10 ^ 3600) → PzOk Fr H' (fu - 1) := fun ns' H' e1 e2 e3 e4 p' c' e5 => by
      rw [hpz] at e5
      cases e5
      exact ⟨hne, ns', w + 1, e1, e2, (fun z => by rw [z] at e3; simp at e3; omega), by omega, e4, by omega, by omega⟩
    have fin : ∀ (z : Int) (H' : Hp), 0 ≤ z → z < (m : Int) → (∀ a o, a ≠ p → a ≠ c → H a = some o → H' a = some o) → LenOk H' → PzOk Fr H' (fu - 1) → Q (.int z) H' := fun z H' hz0 hz1 hk hl' hpz' => by
      obtain ⟨r, hrn⟩ : ∃ r : Nat, z = (r : Int) := ⟨z.toNat, by omega⟩
      subst hrn
      exact hr r (by omega) _ H' ⟨fun a o n e => hk a o (fun q => n ⟨p, c, hpz, .inl q⟩) (fun q => n ⟨p, c, hpz, .inr q⟩) e, fun a q => .inl q⟩ hl' (.int _) hpz'
    have k1 : ∀ a o, a ≠ p → H a = some o → upd H p (.lst [.ref c, .int (w + 1)]) a = some o := fun a o n e => by rw [upd_ne n]; exact e
    have hc1 : upd H p (.lst [.ref c, .int (w + 1)]) c = some (.lst (ns.map V.int)) := k1 c _ (Ne.symm hne) hc
    have l1 : LenOk (upd H p (.lst [.ref c, .int (w + 1)])) := len_upd hl (by show 2 ≤ sizeLine; decide)
    have hatx : atI (ns.map V.int) (j : Int) = some (.int ns[j]) := atI_nat (by rw [List.getElem?_map, hx]; rfl)
    refine ⟨.ref p, rfl, p, _, rfl, SqL.of hp, rfl, .ref c, _, rfl, .int w, _, rfl, rfl, ?_⟩
    refine ⟨.int w, rfl, .ref c, rfl, c, _, rfl, .inl (SqL.of hc), w, _, rfl, rfl, by rw [hmap]; exact hlen0, ?_⟩
    rw [hmap]
    dsimp only
    rw [hjn]
    refine ⟨.ref c, rfl, .int (j : Int), rfl, .inl ⟨c, _, (j : Int), .int ns[j], rfl, rfl, .of hc, hatx, ?_⟩⟩
    refine ⟨.int w, rfl, w, 1, rfl, rfl, .ref p, rfl, p, [.ref c, .int w], 1, 1, rfl, rfl, hp, rfl, ?_⟩
    refine ⟨.int ns[j], rfl, 10, 18, rfl, rfl, ⟨by decide, by decide⟩, ns[j], _, rfl, rfl, _, rfl, ?_⟩
    by_cases cs : (1000000000000000000 : Int) ≤ ns[j]
    · refine ite_t (show decide ((10 : Int) ^ (18 : Int).toNat ≤ ns[j]) = true from decide_eq_true (by rw [p18]; omega)) ?_
      refine ⟨.int ns[j], rfl, .int (m : Int), rfl, ns[j], m, rfl, rfl, ⟨hm0, by omega⟩, .ref c, rfl, .int (j : Int), rfl, c, _, (j : Int), j, rfl, rfl, hc1, ?_, ?_⟩
      · rw [hmap]
        unfold ixN
        rw [if_pos (by omega), if_pos (by omega)]
        simp
      · refine ⟨.int ns[j], rfl, .int (m : Int), rfl, ns[j], m, rfl, rfl, hm0, ?_⟩
        have hq := small_num (a := ns[j]) hm0
        have eset : (ns.map V.int).set j (.int (ns[j] / (m : Int))) = (ns.set j (ns[j] / (m : Int))).map V.int := by rw [List.map_set]
        refine fin _ _ hq.1 hq.2 (fun a o n1 n2 e => by rw [upd_ne n2]; exact k1 a o n1 e) (len_upd l1 (by simp; exact small_line (by omega))) (pz' (ns.set j (ns[j] / (m : Int))) _ (by rw [upd_ne hne, upd_same]; rfl) (by rw [upd_same, eset]) (by simp) fun x hx => ?_)
        rcases List.mem_or_eq_of_mem_set hx with hx | rfl
        · exact hb x hx
        · have d1 : 0 ≤ ns[j] / (m : Int) := Int.ediv_nonneg hxb.1 (by omega)
          have d2 : ns[j] / (m : Int) ≤ ns[j] := Int.ediv_le_self _ hxb.1
          exact ⟨d1, Int.lt_of_le_of_lt d2 hxb.2⟩
    · refine ite_f (show decide ((10 : Int) ^ (18 : Int).toNat ≤ ns[j]) = false from decide_eq_false (by rw [p18]; omega)) ?_
      have a1 := small_num (a := ns[j]) (m := 2147483629) (by decide)
      have big : ((2 : Int) ^ 64) = 18446744073709551616 := by decide
      have cm : ∀ {a b : Int}, 0 ≤ a → a < 18446744073709551616 → CMul a b := fun h0 h1 => cm_l h0 (by rw [big]; exact h1)
      have cmr : ∀ {a b : Int}, 0 ≤ b → b < 18446744073709551616 → CMul a b := fun h0 h1 => cm_r h0 (by rw [big]; exact h1)
      have hw6 : w < 1000000 := by omega
      refine ⟨.int ns[j], rfl, ns[j], _, rfl, rfl, (by show (0 : Int) < _; decide), _, _, rfl, rfl, cm a1.1 (by omega), .int w, rfl, .int w, rfl, w, w, rfl, rfl, cm hw0 (by omega), _, _, rfl, rfl, cmr (by decide) (by decide), _, _, rfl, rfl, _, _, rfl, rfl, _, _, rfl, rfl, (by show (0 : Int) < _; decide), ?_⟩
      dsimp only
      generalize (ns[j] % 2147483629 * 48271 + w * w * 69621 + 11) = z1
      have b1 := small_num (a := z1) (m := 2147483647) (by decide)
      generalize z1 % 2147483647 = n1 at b1
      refine ⟨.int n1, rfl, .int n1, rfl, n1, n1, rfl, rfl, cm b1.1 (by omega), _, _, rfl, rfl, (by show (0 : Int) < _; decide), ?_⟩
      dsimp only
      have b2 := small_num (a := n1 * n1) (m := 2147483629) (by decide)
      generalize n1 * n1 % 2147483629 = n2 at b2
      refine ⟨.int n2, rfl, .int n2, rfl, n2, n2, rfl, rfl, cm b2.1 (by omega), _, _, rfl, rfl, (by show (0 : Int) < _; decide), ?_⟩
      dsimp only
      have b3 := small_num (a := n2 * n2) (m := 2147483587) (by decide)
      generalize n2 * n2 % 2147483587 = n3 at b3
      refine ⟨.int (m : Int), rfl, 10, 9, rfl, rfl, ⟨by decide, by decide⟩, m, _, rfl, rfl, _, rfl, ?_⟩
      have last : ∀ z : Int, Q (.int (z % (m : Int))) (upd H p (.lst [.ref c, .int (w + 1)])) := fun z => by
        have hq := small_num (a := z) hm0
        exact fin _ _ hq.1 hq.2 (fun a o n1 n2 e => k1 a o n1 e) l1 (pz' ns _ upd_same hc1 rfl hb)
      by_cases c9 : (1000000000 : Int) < (m : Int)
      · refine ite_t (show decide ((10 : Int) ^ (9 : Int).toNat < (m : Int)) = true from decide_eq_true (by rw [p9]; omega)) ?_
        refine ⟨.int n3, rfl, n3, _, rfl, rfl, cm b3.1 (by omega), .int w, rfl, w, _, rfl, rfl, cm hw0 (by omega), _, _, rfl, rfl, _, _, rfl, rfl, _, _, rfl, rfl, (by show (0 : Int) < _; decide), ?_⟩
        dsimp only
        have b4 := small_num (a := n3 * 39373 + w * 7919 + 500) (m := 2147483629) (by decide)
        generalize (n3 * 39373 + w * 7919 + 500) % 2147483629 = n4 at b4
        exact ⟨.int n3, rfl, .int n4, rfl, .int n4, rfl, n4, n4, rfl, rfl, cm b4.1 (by omega), .int n4, rfl, _, n4, rfl, rfl, cmr b4.1 (by omega), _, _, rfl, rfl, n3, _, rfl, rfl, cm b3.1 (by omega), _, rfl, .int (m : Int), rfl, _, m, rfl, rfl, hm0, last _⟩
      · refine ite_f (show decide ((10 : Int) ^ (9 : Int).toNat < (m : Int)) = false from decide_eq_false (by rw [p9]; omega)) ?_
        exact ⟨.int n3, rfl, .int (m : Int), rfl, n3, m, rfl, rfl, hm0, last _⟩
end K22

set_option Elab.async false
set_option linter.all false
set_option maxRecDepth 100000
set_option maxHeartbeats 6400000
/-! S2: the purse is laid. -/
namespace K22
open PySem PySem.Spec PyProof.Rows L2
def tCut63 (K : PySem.W.Frag) : TE := fun σ H Q => ∃ a xs, σ[0]? = some (some (.ref a)) ∧ SqL K H a xs ∧ ∀ p, H p = none → Q (.ref p) (upd H p (.lst (xs.take 63)))
theorem pe_cut63 {X : Cx} {x : Str} {p1 p2 p3 pos : Pos} {j : Nat} (hx : PE X (.Name x p1) (tVar 0)) : PE X (.Subscript (.Name x p1) (.Slice none (some (.Constant (.int 63) j p2)) none p3) pos) (tCut63 X.K) := by
  refine (pe_slice (sl_list.or sl_tupA) hx po_none (po_some pe_int)).imp fun σ H Q l q => ?_
  obtain ⟨a, xs, h1, h2, h3⟩ := q
  refine ⟨_, h1, _, rfl, .inl ⟨_, _, rfl, h2, fun p hp l' => ?_⟩⟩
  rw [cut_take _ _ (by decide)]
  exact h3 p hp
abbrev N_law_purse : List Str := ["_law_script", "_law_cells", "_law_cell"]
theorem sc_law_purse : FnScope N_law_purse ["_law_script"] (defScope s_law_purse) := ⟨rfl, rfl, rfl, by decide +kernel, rfl, by decide +kernel, by decide +kernel⟩
def t_law_purse (K : PySem.W.Frag) : TS :=
  tSeq (tAsg (tLc (iList K (tCut63 K)) (gName 2) tYes (tMod (tVar 2) (tPow (tPow (tI 10) (tI 60)) (tI 60))) [2]) (gName 1))
  (tSeq (tIfS (tTest (tOp (rEqD K) (tVar 1) (tLst tNil))) (tAsg (tLst (tCons (tI 0) tNil)) (gName 1)) tNext)
  (tRet (tLst (tCons (tVar 1) (tCons (tI 0) tNil)))))
set_option maxHeartbeats 0 in
theorem b_law_purse {P : Program} {w : World} {K : PySem.W.Frag} {mg : Str → Option Value} {base : Heap} (W : Wd K mg) (cdv : Value) (A : Around) (outer : List Env) (s : Shared) (H : Hp) (E : XK) (hr : Room 0 (A.deeper (envOfC "_law_purse" (defScope s_law_purse) s.heap.objs.size (He.ga K "_law_purse") cdv))) :
    PSs (cxOf CX0 P w K mg base N_law_purse "_law_purse" (defScope s_law_purse) (He.ga K "_law_purse") cdv A outer s H E).nox (defBody s_law_purse) (t_law_purse K) := by
  have nd := sc_law_purse.nd
  exact pss_cons (ps_setLc (i := 1) (own := [("_law_cell", 2)]) rfl nd rfl rfl (by rfl) (pi_list (pe_cut63 (pe_var (i := 0) rfl (.inl rfl)))) (blkOk_by (by kernel_rfl)) (fun _ _ _ _ _ => pg_name (i := 2) nd rfl (.inl rfl)) (fun _ _ _ _ _ => pts_nil) (fun _ _ _ _ _ => pe_op op_mod (pe_var (i := 2) rfl (.inl rfl)) (pe_op op_powG (pe_op op_powG pe_int pe_int) pe_int)))
    (pss_cons (ps_if (pt_cmpR (op_eqD (un64 hr)) (pe_var (i := 1) rfl (.inl rfl)) (pe_lst pa_nil) (nomark _)) (pss_one (ps_asg (pe_lst (pa_cons pe_int pa_nil)) (pg_name (i := 1) nd rfl (.inl rfl)))) pss_nil)
    (pss_one (ps_ret (pe_lst (pa_cons (pe_var (i := 1) rfl (.inl rfl)) (pa_cons pe_int pa_nil))))))
def spPu (K : PySem.W.Frag) : Sp := fun vs H Q _ => ∃ (a : Addr) (ns : List Int), vs = [.ref a] ∧ SqL K H a (ns.map V.int) ∧ LenOk H ∧ ∀ (p c : Addr) (H' : Hp) (ns' : List Int), Same H H' → LenOk H' → p ≠ c → H p = none → H c = none → H' p = some (.lst [.ref c, .int 0]) → H' c = some (.lst (ns'.map V.int)) → ns' ≠ [] → ns'.length ≤ 63 → (∀ x ∈ ns', 0 ≤ x ∧ x < 10 ^ 3600) → Q (.ref p) H'
def bigM : Int := (10 ^ 60) ^ 60
theorem bigM_eq : ((10 : Int) ^ (60 : Int).toNat) ^ (60 : Int).toNat = 10 ^ 3600 := by
  show ((10 : Int) ^ 60) ^ 60 = 10 ^ 3600
  rw [← Int.pow_mul]
theorem bigM_pos : (0 : Int) < 10 ^ 3600 := Int.pow_pos (by decide)
theorem r_law_purse {K : PySem.W.Frag} (vs : List V) (H : Hp) (Q : VK) (E : XK) (h : spPu K vs H Q E) : t_law_purse K { nx := fun _ H' => Q .non H', rt := Q } (start N_law_purse vs) H := by
  obtain ⟨a, ns, rfl, hS, hl, hq⟩ := h
  have three : 3 ≤ sizeLine := by decide
  refine ⟨a, ns.map V.int, rfl, hS, fun b hb => ?_⟩
  have hH1 : upd H b (.lst ((ns.map V.int).take 63)) b = some (.lst ((ns.map V.int).take 63)) := upd_same
  have htake : (ns.map V.int).take 63 = (ns.take 63).map V.int := by rw [List.map_take]
  have hlt : (ns.take 63).length ≤ 63 := by rw [List.length_take]; omega
  have l1 : LenOk (upd H b (.lst ((ns.map V.int).take 63))) := len_upd hl (by rw [htake, List.length_map]; exact small_line (by omega))
  refine ⟨b, rfl, ⟨_, .of hH1⟩, fun D hD => ?_⟩
  have hDb : D ≠ b := fun z => by rw [z, upd_same] at hD; cases hD
  have hDH : H D = none := by rw [upd_ne hDb] at hD; exact hD
  have hb2 : ∀ va, upd (upd H b (.lst ((ns.map V.int).take 63))) D (.lst va) b = some (.lst ((ns.take 63).map V.int)) := fun va => by rw [upd_ne (Ne.symm hDb), upd_same, htake]
  refine ⟨fun i m H' => m = (ns.take 63).length - i ∧ i ≤ (ns.take 63).length ∧ H' = upd (upd H b (.lst ((ns.map V.int).take 63))) D (.lst (((ns.take 63).take i).map fun x => .int (x % 10 ^ 3600))), ⟨_, rfl, Nat.zero_le _, rfl⟩, ?_⟩
  rintro i m H' ⟨rfl, hi, rfl⟩
  by_cases hlt2 : i < (ns.take 63).length
  · refine .inr ⟨⟨_, _, .of (hb2 _), List.getElem?_eq_getElem (by rw [List.length_map]; exact hlt2)⟩, fun H' => H' = upd (upd H b (.lst ((ns.map V.int).take 63))) D (.lst (((ns.take 63).take (i + 1)).map fun x => .int (x % 10 ^ 3600))), fun H' z => ⟨_, by omega, rfl, hlt2, z⟩, fun x H' hy => ?_⟩
    obtain ⟨rfl, hx⟩ := hy
    have hx' := hx _ (.of (hb2 _))
    have hg : (ns.take 63)[i]? = some (ns.take 63)[i] := List.getElem?_eq_getElem hlt2
    rw [List.getElem?_map, hg] at hx'
    cases hx'
    refine ⟨rfl, ?_⟩
    unfold tYes
    refine iteT ⟨_, rfl, 10, 60, rfl, rfl, ⟨by decide, by decide +kernel⟩, _, 60, rfl, rfl, ⟨by decide, ?_⟩, _, _, rfl, rfl, ?_, _, upd_same, ?_, ?_⟩
    · show (Builtin.Int.intBits ((10 : Int) ^ 60) : Int) * 60 ≤ 2 ^ 27
      decide +kernel
    · show (0 : Int) < ((10 : Int) ^ (60 : Int).toNat) ^ (60 : Int).toNat
      rw [bigM_eq]; exact bigM_pos
    · rw [List.length_map, List.length_take]
      exact Nat.lt_of_lt_of_le (show _ < 1000000 by omega) sizeLine_big
    · dsimp only
      rw [bigM_eq, take_succ' hg, List.map_append]
      funext z
      unfold upd
      split <;> rfl
  · have ei : i = (ns.take 63).length := by omega
    subst ei
    refine .inl ⟨⟨_, .of (hb2 _), by rw [List.length_map]; exact Nat.le_refl _⟩, ?_⟩
    rw [List.take_length]
    have e1 : ((ns.take 63).map fun x => V.int (x % 10 ^ 3600)) = ((ns.take 63).map fun x => x % 10 ^ 3600).map V.int := by rw [List.map_map]; rfl
    rw [e1]
    generalize hms : (ns.take 63).map (fun x => x % 10 ^ 3600) = ms
    have hms1 : ms.length ≤ 63 := by rw [← hms, List.length_map]; exact hlt
    have hms2 : ∀ x ∈ ms, 0 ≤ x ∧ x < 10 ^ 3600 := fun x hx => by
      rw [← hms] at hx
      obtain ⟨y, _, rfl⟩ := List.mem_map.mp hx
      exact small_num bigM_pos
    have l2 : LenOk (upd (upd H b (.lst ((ns.map V.int).take 63))) D (.lst (ms.map V.int))) := len_upd l1 (by rw [List.length_map]; exact small_line (by omega))
    have hDm : upd (upd H b (.lst ((ns.map V.int).take 63))) D (.lst (ms.map V.int)) D = some (.lst (ms.map V.int)) := upd_same
    generalize hH2 : upd (upd H b (.lst ((ns.map V.int).take 63))) D (.lst (ms.map V.int)) = H2 at l2 hDm
    have same2 : Same H H2 := by rw [← hH2]; exact fun x o e => same_new hD _ _ (same_new hb _ _ e)
    have none2 : ∀ x, H2 x = none → H x = none := fun x hx => by
      cases c : H x with
      | none => rfl
      | some o => rw [same2 _ _ c] at hx; cases hx
    have lay : ∀ l : List Int, Lay 1 (.list (l.map .int)) := fun l => lay_map fun x _ => lay_int x
    have dints : ∀ (H3 : Hp) (a : Addr) (l : List Int), H3 a = some (.lst (l.map V.int)) → Dp K H3 (.ref a) (.list (l.map .int)) := fun H3 a l e => Dat.dp _ _ (Dat.lst (N := fun _ => False) e (fun z => z) (DatA.of_ints l))
    refine ⟨.ref D, rfl, Nat.zero_le _, fun q hq0 => ?_⟩
    have hqD : D ≠ q := fun z => by rw [z, hq0] at hDm; cases hDm
    have l3 : LenOk (upd H2 q (.lst [])) := len_upd l2 (Nat.zero_le _)
    refine ⟨.list (ms.map .int), .list [], dints _ D ms (by rw [upd_ne hqD]; exact hDm), Dat.dp _ _ (Dat.lst (N := fun _ => False) (xs := []) upd_same (fun z => z) .nil), (lay ms).sh, rfl, _, rfl, ?_⟩
    have same3 : Same H (upd H2 q (.lst [])) := fun x o e => same_new hq0 _ _ (same2 _ _ e)
    cases hm : ms with
    | nil =>
      refine ⟨(by show 1 ≤ sizeLine; decide), fun c hc => ⟨.ref c, rfl, (by show 2 ≤ sizeLine; decide), fun p hp => ?_⟩⟩
      have hcH : H c = none := none2 c (by
        by_cases z : c = q
        · rw [z, upd_same] at hc; cases hc
        · rw [upd_ne z] at hc; exact hc)
      have hpc : p ≠ c := fun z => by rw [z, upd_same] at hp; cases hp
      have hp3 : upd H2 q (.lst []) p = none := by rw [upd_ne hpc] at hp; exact hp
      have hpH : H p = none := none2 p (by
        by_cases z : p = q
        · rw [z, upd_same] at hp3; cases hp3
        · rw [upd_ne z] at hp3; exact hp3)
      exact hq p c _ [0] (fun x o e => same_new hp _ _ (same_new hc _ _ (same3 _ _ e))) (len_upd (len_upd l3 (by show 1 ≤ sizeLine; decide)) (by show 2 ≤ sizeLine; decide)) hpc hpH hcH upd_same (by rw [upd_ne (Ne.symm hpc), upd_same]; rfl) (by simp) (by simp) (fun x hx => by rw [List.mem_singleton.mp hx]; exact ⟨Int.le_refl _, bigM_pos⟩)
    | cons y ms' =>
      refine ⟨.ref D, rfl, (by show 2 ≤ sizeLine; decide), fun p hp => ?_⟩
      have hpq : p ≠ q := fun z => by rw [z, upd_same] at hp; cases hp
      have hp2 : H2 p = none := by rw [upd_ne hpq] at hp; exact hp
      have hpD : p ≠ D := fun z => by rw [z, hDm] at hp2; cases hp2
      rw [hm] at hms1 hms2 hDm
      exact hq p D _ (y :: ms') (fun x o e => same_new hp _ _ (same3 _ _ e)) (len_upd l3 (by show 2 ≤ sizeLine; decide)) hpD (none2 p hp2) hDH upd_same (by rw [upd_ne (Ne.symm hpD), upd_ne hqD]; exact hDm) (by simp) hms1 hms2
end K22

set_option Elab.async false
set_option linter.all false
set_option maxRecDepth 100000
set_option maxHeartbeats 6400000
/-! T0: the keyword-only what. -/
namespace K22
open PySem PySem.Spec PyProof.Rows L2
theorem kw_table_of {K : PySem.W.Frag} {f : Addr} {fd : FuncData} (F : FunD K d_table_of.name d_table_of.qual d_table_of.params d_table_of.body d_table_of.scope [] [("what", .str "count")] f fd) :
    (∃ du, RelV (.str "count") du ∧ Binds K fd ["plan", "book", "row", "column", "what"] [du]) ∧ KBn K fd ["plan", "book", "row", "column", "what"] 4 ["what"] (fun us ws => us ++ ws) (fun vs zs => vs ++ zs) := by
  refine ⟨?_, ?_⟩
  · obtain ⟨ds, hv, hb⟩ := F.binds0 (ps := ["plan", "book", "row", "column", "what"]) 4 (by simp) rfl (fun D doc pm an cdv ct us ks hl hk => match us, ks, hl, hk with | [_, _, _, _], [_], _, _ => ⟨_, _, _, _, _, _, rfl, rfl, rfl⟩)
    cases hv with
    | cons h1 h2 =>
      cases h2
      exact ⟨_, h1, hb⟩
  · obtain ⟨mv, h⟩ := F.kbinds0 (ps := ["plan", "book", "row", "column", "what"]) 4 ["what"] [] (fun us mv ws => us ++ ws) (by simp) (by simp) (fun a _ b => a.append b) (fun D doc pm an cdv ct us mv ws h1 h2 h3 => match us, mv, ws, h1, h2, h3 with | [_, _, _, _], [], [_], _, _, _ => rfl)
    exact h
theorem kw_layers {K : PySem.W.Frag} {f : Addr} {fd : FuncData} (F : FunD K d_layers.name d_layers.qual d_layers.params d_layers.body d_layers.scope [] [("what", .str "count")] f fd) :
    (∃ du, RelV (.str "count") du ∧ Binds K fd ["plan", "book", "layer", "row", "column", "what"] [du]) ∧ KBn K fd ["plan", "book", "layer", "row", "column", "what"] 5 ["what"] (fun us ws => us ++ ws) (fun vs zs => vs ++ zs) := by
  refine ⟨?_, ?_⟩
  · obtain ⟨ds, hv, hb⟩ := F.binds0 (ps := ["plan", "book", "layer", "row", "column", "what"]) 5 (by simp) rfl (fun D doc pm an cdv ct us ks hl hk => match us, ks, hl, hk with | [_, _, _, _, _], [_], _, _ => ⟨_, _, _, _, _, _, rfl, rfl, rfl⟩)
    cases hv with
    | cons h1 h2 =>
      cases h2
      exact ⟨_, h1, hb⟩
  · obtain ⟨mv, h⟩ := F.kbinds0 (ps := ["plan", "book", "layer", "row", "column", "what"]) 5 ["what"] [] (fun us mv ws => us ++ ws) (by simp) (by simp) (fun a _ b => a.append b) (fun D doc pm an cdv ct us mv ws h1 h2 h3 => match us, mv, ws, h1, h2, h3 with | [_, _, _, _, _], [], [_], _, _, _ => rfl)
    exact h
end K22

set_option Elab.async false
set_option linter.all false
set_option maxRecDepth 100000
set_option maxHeartbeats 6400000
/-! T1: each def keeps its promise (printed by gen_ok.py). -/
namespace K22
open PySem PySem.Spec PyProof.Rows L2
section
variable {P : Program} {w : World} {K : PySem.W.Frag} {mg : Str → Option Value} {base : Heap}
theorem ok_shared (W : Wd K mg) : Ok P w K mg base "shared" 1 ["one", "other"] (spP K 2 R_shared) := by
  obtain ⟨fd, F⟩ := W.says.def_ 0 (d := d_shared) rfl
  exact ⟨fd, ok_P F sc_shared rfl (fun cdv A outer s H E hr => b_shared W  cdv A outer s H E hr) (fun ds Q hl h => r_shared ds Q hl h), F.kp, F.bindsN fun _ _ _ _ _ _ us hl => match us, hl with | [_, _], _ => rfl, W.glo 0 rfl⟩
theorem ok_is_whole (W : Wd K mg) : Ok P w K mg base "is_whole" 1 ["thing"] (spP K 1 R_is_whole) := by
  obtain ⟨fd, F⟩ := W.says.def_ 1 (d := d_is_whole) rfl
  exact ⟨fd, ok_P F sc_is_whole rfl (fun cdv A outer s H E hr => b_is_whole W  cdv A outer s H E hr) (fun ds Q hl h => r_is_whole ds Q hl h), F.kp, F.bindsN fun _ _ _ _ _ _ us hl => match us, hl with | [_], _ => rfl, W.glo 1 rfl⟩
theorem ok_is_fraction (W : Wd K mg) : Ok P w K mg base "is_fraction" 2 ["thing"] (spP K 1 R_is_fraction) := by
  obtain ⟨fd, F⟩ := W.says.def_ 2 (d := d_is_fraction) rfl
  exact ⟨fd, ok_P F sc_is_fraction rfl (fun cdv A outer s H E hr => b_is_fraction W m_shared (ok_shared W) m_is_whole (ok_is_whole W) cdv A outer s H E hr) (fun ds Q hl h => r_is_fraction ds Q hl h), F.kp, F.bindsN fun _ _ _ _ _ _ us hl => match us, hl with | [_], _ => rfl, W.glo 2 rfl⟩
theorem ok_lowest (W : Wd K mg) : Ok P w K mg base "lowest" 2 ["top", "bottom"] (spP K 2 R_lowest) := by
  obtain ⟨fd, F⟩ := W.says.def_ 3 (d := d_lowest) rfl
  exact ⟨fd, ok_P F sc_lowest rfl (fun cdv A outer s H E hr => b_lowest W m_shared (ok_shared W) cdv A outer s H E hr) (fun ds Q hl h => r_lowest ds Q hl h), F.kp, F.bindsN fun _ _ _ _ _ _ us hl => match us, hl with | [_, _], _ => rfl, W.glo 3 rfl⟩
theorem ok_plus (W : Wd K mg) : Ok P w K mg base "plus" 3 ["one", "other"] (spP K 2 R_plus) := by
  obtain ⟨fd, F⟩ := W.says.def_ 4 (d := d_plus) rfl
  exact ⟨fd, ok_P F sc_plus rfl (fun cdv A outer s H E hr => b_plus W m_lowest (ok_lowest W) cdv A outer s H E hr) (fun ds Q hl h => r_plus ds Q hl h), F.kp, F.bindsN fun _ _ _ _ _ _ us hl => match us, hl with | [_, _], _ => rfl, W.glo 4 rfl⟩
theorem ok_is_word (W : Wd K mg) : Ok P w K mg base "is_word" 1 ["thing", "longest"] (spP K 2 R_is_word) := by
  obtain ⟨fd, F⟩ := W.says.def_ 5 (d := d_is_word) rfl
  exact ⟨fd, ok_P F sc_is_word rfl (fun cdv A outer s H E hr => b_is_word W  cdv A outer s H E hr) (fun ds Q hl h => r_is_word ds Q hl h), F.kp, F.bindsN fun _ _ _ _ _ _ us hl => match us, hl with | [_, _], _ => rfl, W.glo 5 rfl⟩
theorem ok_is_code (W : Wd K mg) : Ok P w K mg base "is_code" 2 ["thing"] (spP K 1 R_is_code) := by
  obtain ⟨fd, F⟩ := W.says.def_ 6 (d := d_is_code) rfl
  exact ⟨fd, ok_P F sc_is_code rfl (fun cdv A outer s H E hr => b_is_code W m_is_word (ok_is_word W) cdv A outer s H E hr) (fun ds Q hl h => r_is_code ds Q hl h), F.kp, F.bindsN fun _ _ _ _ _ _ us hl => match us, hl with | [_], _ => rfl, W.glo 6 rfl⟩
theorem ok_are_unlike_codes (W : Wd K mg) : Ok P w K mg base "are_unlike_codes" 3 ["things", "least", "most"] (spP K 3 R_are_unlike_codes) := by
  obtain ⟨fd, F⟩ := W.says.def_ 7 (d := d_are_unlike_codes) rfl
  exact ⟨fd, ok_P F sc_are_unlike_codes rfl (fun cdv A outer s H E hr => b_are_unlike_codes W m_is_code (ok_is_code W) cdv A outer s H E hr) (fun ds Q hl h => r_are_unlike_codes ds Q hl h), F.kp, F.bindsN fun _ _ _ _ _ _ us hl => match us, hl with | [_, _, _], _ => rfl, W.glo 7 rfl⟩
theorem ok_is_sort (W : Wd K mg) : Ok P w K mg base "is_sort" 4 ["thing"] (spP K 1 R_is_sort) := by
  obtain ⟨fd, F⟩ := W.says.def_ 8 (d := d_is_sort) rfl
  exact ⟨fd, ok_P F sc_is_sort rfl (fun cdv A outer s H E hr => b_is_sort W m_is_word (ok_is_word W) m_are_unlike_codes (ok_are_unlike_codes W) cdv A outer s H E hr) (fun ds Q hl h => r_is_sort ds Q hl h), F.kp, F.bindsN fun _ _ _ _ _ _ us hl => match us, hl with | [_], _ => rfl, W.glo 8 rfl⟩
theorem ok_plan_wrong (W : Wd K mg) : Ok P w K mg base "plan_wrong" 5 ["thing"] (spP K 1 R_plan_wrong) := by
  obtain ⟨fd, F⟩ := W.says.def_ 9 (d := d_plan_wrong) rfl
  exact ⟨fd, ok_P F sc_plan_wrong rfl (fun cdv A outer s H E hr => b_plan_wrong W m_is_sort (ok_is_sort W) cdv A outer s H E hr) (fun ds Q hl h => r_plan_wrong ds Q hl h), F.kp, F.bindsN fun _ _ _ _ _ _ us hl => match us, hl with | [_], _ => rfl, W.glo 9 rfl⟩
theorem ok_must_be_plan (W : Wd K mg) : Ok P w K mg base "must_be_plan" 6 ["plan"] (spP K 1 R_must_be_plan) := by
  obtain ⟨fd, F⟩ := W.says.def_ 10 (d := d_must_be_plan) rfl
  exact ⟨fd, ok_P F sc_must_be_plan rfl (fun cdv A outer s H E hr => b_must_be_plan W m_plan_wrong (ok_plan_wrong W) cdv A outer s H E hr) (fun ds Q hl h => r_must_be_plan ds Q hl h), F.kp, F.bindsN fun _ _ _ _ _ _ us hl => match us, hl with | [_], _ => rfl, W.glo 10 rfl⟩
theorem ok_is_sort_number (W : Wd K mg) : Ok P w K mg base "is_sort_number" 2 ["plan", "thing"] (spP K 2 R_is_sort_number) := by
  obtain ⟨fd, F⟩ := W.says.def_ 11 (d := d_is_sort_number) rfl
  exact ⟨fd, ok_P F sc_is_sort_number rfl (fun cdv A outer s H E hr => b_is_sort_number W m_is_whole (ok_is_whole W) cdv A outer s H E hr) (fun ds Q hl h => r_is_sort_number ds Q hl h), F.kp, F.bindsN fun _ _ _ _ _ _ us hl => match us, hl with | [_, _], _ => rfl, W.glo 11 rfl⟩
theorem ok_are_labels (W : Wd K mg) : Ok P w K mg base "are_labels" 4 ["thing"] (spP K 1 R_are_labels) := by
  obtain ⟨fd, F⟩ := W.says.def_ 12 (d := d_are_labels) rfl
  exact ⟨fd, ok_P F sc_are_labels rfl (fun cdv A outer s H E hr => b_are_labels W m_are_unlike_codes (ok_are_unlike_codes W) cdv A outer s H E hr) (fun ds Q hl h => r_are_labels ds Q hl h), F.kp, F.bindsN fun _ _ _ _ _ _ us hl => match us, hl with | [_], _ => rfl, W.glo 12 rfl⟩
theorem ok_is_cell (W : Wd K mg) : Ok P w K mg base "is_cell" 2 ["thing"] (spP K 1 R_is_cell) := by
  obtain ⟨fd, F⟩ := W.says.def_ 13 (d := d_is_cell) rfl
  exact ⟨fd, ok_P F sc_is_cell rfl (fun cdv A outer s H E hr => b_is_cell W m_is_whole (ok_is_whole W) cdv A outer s H E hr) (fun ds Q hl h => r_is_cell ds Q hl h), F.kp, F.bindsN fun _ _ _ _ _ _ us hl => match us, hl with | [_], _ => rfl, W.glo 13 rfl⟩
theorem ok_table_wrong (W : Wd K mg) : Ok P w K mg base "table_wrong" 5 ["thing"] (spP K 1 R_table_wrong) := by
  obtain ⟨fd, F⟩ := W.says.def_ 14 (d := d_table_wrong) rfl
  exact ⟨fd, ok_P F sc_table_wrong rfl (fun cdv A outer s H E hr => b_table_wrong W m_are_labels (ok_are_labels W) m_is_cell (ok_is_cell W) cdv A outer s H E hr) (fun ds Q hl h => r_table_wrong ds Q hl h), F.kp, F.bindsN fun _ _ _ _ _ _ us hl => match us, hl with | [_], _ => rfl, W.glo 14 rfl⟩
theorem ok_must_be_table (W : Wd K mg) : Ok P w K mg base "must_be_table" 6 ["table"] (spP K 1 R_must_be_table) := by
  obtain ⟨fd, F⟩ := W.says.def_ 15 (d := d_must_be_table) rfl
  exact ⟨fd, ok_P F sc_must_be_table rfl (fun cdv A outer s H E hr => b_must_be_table W m_table_wrong (ok_table_wrong W) cdv A outer s H E hr) (fun ds Q hl h => r_must_be_table ds Q hl h), F.kp, F.bindsN fun _ _ _ _ _ _ us hl => match us, hl with | [_], _ => rfl, W.glo 15 rfl⟩
theorem ok_turned_cells (W : Wd K mg) : Ok P w K mg base "turned_cells" 1 ["cells"] (spF K 1 R_turned_cells) := by
  obtain ⟨fd, F⟩ := W.says.def_ 16 (d := d_turned_cells) rfl
  exact ⟨fd, ok_F F sc_turned_cells rfl (fun cdv A outer s H E hr => b_turned_cells W  cdv A outer s H E hr) (fun ds Q hl h => r_turned_cells ds Q hl h), F.kp, F.bindsN fun _ _ _ _ _ _ us hl => match us, hl with | [_], _ => rfl, W.glo 16 rfl⟩
theorem ok_totals (W : Wd K mg) : Ok P w K mg base "totals" 7 ["table"] (spP K 1 R_totals) := by
  obtain ⟨fd, F⟩ := W.says.def_ 17 (d := d_totals) rfl
  exact ⟨fd, ok_P F sc_totals rfl (fun cdv A outer s H E hr => b_totals W m_must_be_table (ok_must_be_table W) m_turned_cells (ok_turned_cells W) cdv A outer s H E hr) (fun ds Q hl h => r_totals ds Q hl h), F.kp, F.bindsN fun _ _ _ _ _ _ us hl => match us, hl with | [_], _ => rfl, W.glo 17 rfl⟩
theorem ok_turned_table (W : Wd K mg) : Ok P w K mg base "turned_table" 7 ["table"] (spP K 1 R_turned_table) := by
  obtain ⟨fd, F⟩ := W.says.def_ 18 (d := d_turned_table) rfl
  exact ⟨fd, ok_P F sc_turned_table rfl (fun cdv A outer s H E hr => b_turned_table W m_must_be_table (ok_must_be_table W) m_turned_cells (ok_turned_cells W) cdv A outer s H E hr) (fun ds Q hl h => r_turned_table ds Q hl h), F.kp, F.bindsN fun _ _ _ _ _ _ us hl => match us, hl with | [_], _ => rfl, W.glo 18 rfl⟩
theorem ok_fitted_cells (W : Wd K mg) : Ok P w K mg base "fitted_cells" 1 ["cells"] (spP K 1 R_fitted_cells) := by
  obtain ⟨fd, F⟩ := W.says.def_ 19 (d := d_fitted_cells) rfl
  exact ⟨fd, ok_P F sc_fitted_cells rfl (fun cdv A outer s H E hr => b_fitted_cells W  cdv A outer s H E hr) (fun ds Q hl h => r_fitted_cells ds Q hl h), F.kp, F.bindsN fun _ _ _ _ _ _ us hl => match us, hl with | [_], _ => rfl, W.glo 19 rfl⟩
theorem ok_added (W : Wd K mg) : Ok P w K mg base "added" 6 ["tables"] (spF K 1 R_added) := by
  obtain ⟨fd, F⟩ := W.says.def_ 20 (d := d_added) rfl
  exact ⟨fd, ok_F F sc_added rfl (fun cdv A outer s H E hr => b_added W m_table_wrong (ok_table_wrong W) m_fitted_cells (ok_fitted_cells W) cdv A outer s H E hr) (fun ds Q hl h => r_added ds Q hl h), F.kp, F.bindsN fun _ _ _ _ _ _ us hl => match us, hl with | [_], _ => rfl, W.glo 20 rfl⟩
theorem ok_are_lots (W : Wd K mg) : Ok P w K mg base "are_lots" 2 ["thing", "many"] (spP K 2 R_are_lots) := by
  obtain ⟨fd, F⟩ := W.says.def_ 21 (d := d_are_lots) rfl
  exact ⟨fd, ok_P F sc_are_lots rfl (fun cdv A outer s H E hr => b_are_lots W m_is_whole (ok_is_whole W) cdv A outer s H E hr) (fun ds Q hl h => r_are_lots ds Q hl h), F.kp, F.bindsN fun _ _ _ _ _ _ us hl => match us, hl with | [_, _], _ => rfl, W.glo 21 rfl⟩
theorem ok_lots_added (W : Wd K mg) : Ok P w K mg base "lots_added" 1 ["cells", "lots"] (spP K 2 R_lots_added) := by
  obtain ⟨fd, F⟩ := W.says.def_ 22 (d := d_lots_added) rfl
  exact ⟨fd, ok_P F sc_lots_added rfl (fun cdv A outer s H E hr => b_lots_added W  cdv A outer s H E hr) (fun ds Q hl h => r_lots_added ds Q hl h), F.kp, F.bindsN fun _ _ _ _ _ _ us hl => match us, hl with | [_, _], _ => rfl, W.glo 22 rfl⟩
theorem ok_put_together (W : Wd K mg) : Ok P w K mg base "put_together" 7 ["table", "row_lots", "column_lots"] (spF K 3 R_put_together) := by
  obtain ⟨fd, F⟩ := W.says.def_ 23 (d := d_put_together) rfl
  exact ⟨fd, ok_F F sc_put_together rfl (fun cdv A outer s H E hr => b_put_together W m_must_be_table (ok_must_be_table W) m_turned_cells (ok_turned_cells W) m_fitted_cells (ok_fitted_cells W) m_are_lots (ok_are_lots W) m_lots_added (ok_lots_added W) cdv A outer s H E hr) (fun ds Q hl h => r_put_together ds Q hl h), F.kp, F.bindsN fun _ _ _ _ _ _ us hl => match us, hl with | [_, _, _], _ => rfl, W.glo 23 rfl⟩
theorem ok_is_answer (W : Wd K mg) : Ok P w K mg base "is_answer" 1 ["sort", "thing"] (spP K 2 R_is_answer) := by
  obtain ⟨fd, F⟩ := W.says.def_ 24 (d := d_is_answer) rfl
  exact ⟨fd, ok_P F sc_is_answer rfl (fun cdv A outer s H E hr => b_is_answer W  cdv A outer s H E hr) (fun ds Q hl h => r_is_answer ds Q hl h), F.kp, F.bindsN fun _ _ _ _ _ _ us hl => match us, hl with | [_, _], _ => rfl, W.glo 24 rfl⟩
theorem ok_record_in (W : Wd K mg) : Ok P w K mg base "record_in" 2 ["plan", "thing"] (spP K 2 R_record_in) := by
  obtain ⟨fd, F⟩ := W.says.def_ 25 (d := d_record_in) rfl
  exact ⟨fd, ok_P F sc_record_in rfl (fun cdv A outer s H E hr => b_record_in W m_is_whole (ok_is_whole W) m_is_answer (ok_is_answer W) cdv A outer s H E hr) (fun ds Q hl h => r_record_in ds Q hl h), F.kp, F.bindsN fun _ _ _ _ _ _ us hl => match us, hl with | [_, _], _ => rfl, W.glo 25 rfl⟩
theorem ok_record_wrong (W : Wd K mg) : Ok P w K mg base "record_wrong" 7 ["plan", "thing"] (spP K 2 R_record_wrong) := by
  obtain ⟨fd, F⟩ := W.says.def_ 26 (d := d_record_wrong) rfl
  exact ⟨fd, ok_P F sc_record_wrong rfl (fun cdv A outer s H E hr => b_record_wrong W m_must_be_plan (ok_must_be_plan W) m_record_in (ok_record_in W) cdv A outer s H E hr) (fun ds Q hl h => r_record_wrong ds Q hl h), F.kp, F.bindsN fun _ _ _ _ _ _ us hl => match us, hl with | [_, _], _ => rfl, W.glo 26 rfl⟩
theorem ok_book_in (W : Wd K mg) : Ok P w K mg base "book_in" 3 ["plan", "thing"] (spP K 2 R_book_in) := by
  obtain ⟨fd, F⟩ := W.says.def_ 27 (d := d_book_in) rfl
  exact ⟨fd, ok_P F sc_book_in rfl (fun cdv A outer s H E hr => b_book_in W m_record_in (ok_record_in W) cdv A outer s H E hr) (fun ds Q hl h => r_book_in ds Q hl h), F.kp, F.bindsN fun _ _ _ _ _ _ us hl => match us, hl with | [_, _], _ => rfl, W.glo 27 rfl⟩
theorem ok_book_wrong (W : Wd K mg) : Ok P w K mg base "book_wrong" 7 ["plan", "thing"] (spP K 2 R_book_wrong) := by
  obtain ⟨fd, F⟩ := W.says.def_ 28 (d := d_book_wrong) rfl
  exact ⟨fd, ok_P F sc_book_wrong rfl (fun cdv A outer s H E hr => b_book_wrong W m_must_be_plan (ok_must_be_plan W) m_book_in (ok_book_in W) cdv A outer s H E hr) (fun ds Q hl h => r_book_wrong ds Q hl h), F.kp, F.bindsN fun _ _ _ _ _ _ us hl => match us, hl with | [_, _], _ => rfl, W.glo 28 rfl⟩
theorem ok_must_be_record (W : Wd K mg) : Ok P w K mg base "must_be_record" 8 ["plan", "record"] (spP K 2 R_must_be_record) := by
  obtain ⟨fd, F⟩ := W.says.def_ 29 (d := d_must_be_record) rfl
  exact ⟨fd, ok_P F sc_must_be_record rfl (fun cdv A outer s H E hr => b_must_be_record W m_record_wrong (ok_record_wrong W) cdv A outer s H E hr) (fun ds Q hl h => r_must_be_record ds Q hl h), F.kp, F.bindsN fun _ _ _ _ _ _ us hl => match us, hl with | [_, _], _ => rfl, W.glo 29 rfl⟩
theorem ok_must_be_book (W : Wd K mg) : Ok P w K mg base "must_be_book" 8 ["plan", "book"] (spP K 2 R_must_be_book) := by
  obtain ⟨fd, F⟩ := W.says.def_ 30 (d := d_must_be_book) rfl
  exact ⟨fd, ok_P F sc_must_be_book rfl (fun cdv A outer s H E hr => b_must_be_book W m_book_wrong (ok_book_wrong W) cdv A outer s H E hr) (fun ds Q hl h => r_must_be_book ds Q hl h), F.kp, F.bindsN fun _ _ _ _ _ _ us hl => match us, hl with | [_, _], _ => rfl, W.glo 30 rfl⟩
theorem ok_gaps (W : Wd K mg) : Ok P w K mg base "gaps" 9 ["plan", "record"] (spP K 2 R_gaps) := by
  obtain ⟨fd, F⟩ := W.says.def_ 31 (d := d_gaps) rfl
  exact ⟨fd, ok_P F sc_gaps rfl (fun cdv A outer s H E hr => b_gaps W m_must_be_record (ok_must_be_record W) cdv A outer s H E hr) (fun ds Q hl h => r_gaps ds Q hl h), F.kp, F.bindsN fun _ _ _ _ _ _ us hl => match us, hl with | [_, _], _ => rfl, W.glo 31 rfl⟩
theorem ok_must_be_sorts (W : Wd K mg) : Ok P w K mg base "must_be_sorts" 3 ["plan", "numbers"] (spP K 2 R_must_be_sorts) := by
  obtain ⟨fd, F⟩ := W.says.def_ 32 (d := d_must_be_sorts) rfl
  exact ⟨fd, ok_P F sc_must_be_sorts rfl (fun cdv A outer s H E hr => b_must_be_sorts W m_is_sort_number (ok_is_sort_number W) cdv A outer s H E hr) (fun ds Q hl h => r_must_be_sorts ds Q hl h), F.kp, F.bindsN fun _ _ _ _ _ _ us hl => match us, hl with | [_, _], _ => rfl, W.glo 32 rfl⟩
theorem ok_cells_of (W : Wd K mg) : Ok P w K mg base "cells_of" 1 ["plan", "book", "row", "column", "amounts"] (spP K 5 R_cells_of) := by
  obtain ⟨fd, F⟩ := W.says.def_ 33 (d := d_cells_of) rfl
  exact ⟨fd, ok_P F sc_cells_of rfl (fun cdv A outer s H E hr => b_cells_of W  cdv A outer s H E hr) (fun ds Q hl h => r_cells_of ds Q hl h), F.kp, F.bindsN fun _ _ _ _ _ _ us hl => match us, hl with | [_, _, _, _, _], _ => rfl, W.glo 33 rfl⟩
theorem ok_amounts_by (W : Wd K mg) : Ok P w K mg base "amounts_by" 1 ["book", "what"] (spP K 2 R_amounts_by) := by
  obtain ⟨fd, F⟩ := W.says.def_ 34 (d := d_amounts_by) rfl
  exact ⟨fd, ok_P F sc_amounts_by rfl (fun cdv A outer s H E hr => b_amounts_by W  cdv A outer s H E hr) (fun ds Q hl h => r_amounts_by ds Q hl h), F.kp, F.bindsN fun _ _ _ _ _ _ us hl => match us, hl with | [_, _], _ => rfl, W.glo 34 rfl⟩
theorem ok_summed (W : Wd K mg) : Ok P w K mg base "summed" 2 ["plan", "book", "row", "column", "what"] (spP K 5 R_summed) := by
  obtain ⟨fd, F⟩ := W.says.def_ 35 (d := d_summed) rfl
  exact ⟨fd, ok_P F sc_summed rfl (fun cdv A outer s H E hr => b_summed W m_cells_of (ok_cells_of W) m_amounts_by (ok_amounts_by W) cdv A outer s H E hr) (fun ds Q hl h => r_summed ds Q hl h), F.kp, F.bindsN fun _ _ _ _ _ _ us hl => match us, hl with | [_, _, _, _, _], _ => rfl, W.glo 35 rfl⟩
theorem ok_table_of (W : Wd K mg) : OkD P w K mg base "table_of" 9 ["plan", "book", "row", "column", "what"] (spP K 5 R_table_of) := by
  obtain ⟨fd, F⟩ := W.says.def_ 36 (d := d_table_of) rfl
  exact ⟨fd, ok_P F sc_table_of rfl (fun cdv A outer s H E hr => b_table_of W m_must_be_book (ok_must_be_book W) m_must_be_sorts (ok_must_be_sorts W) m_summed (ok_summed W) cdv A outer s H E hr) (fun ds Q hl h => r_table_of ds Q hl h), F.kp, (kw_table_of F).1, (kw_table_of F).2, W.glo 36 rfl⟩
theorem ok_weighed_cells (W : Wd K mg) : Ok P w K mg base "weighed_cells" 9 ["plan", "book", "row", "column", "weights"] (spP K 5 R_weighed_cells) := by
  obtain ⟨fd, F⟩ := W.says.def_ 37 (d := d_weighed_cells) rfl
  exact ⟨fd, ok_P F sc_weighed_cells rfl (fun cdv A outer s H E hr => b_weighed_cells W m_is_fraction (ok_is_fraction W) m_plus (ok_plus W) m_must_be_book (ok_must_be_book W) m_must_be_sorts (ok_must_be_sorts W) m_cells_of (ok_cells_of W) cdv A outer s H E hr) (fun ds Q hl h => r_weighed_cells ds Q hl h), F.kp, F.bindsN fun _ _ _ _ _ _ us hl => match us, hl with | [_, _, _, _, _], _ => rfl, W.glo 37 rfl⟩
theorem ok_layers (W : Wd K mg) : OkD P w K mg base "layers" 9 ["plan", "book", "layer", "row", "column", "what"] (spP K 6 R_layers) := by
  obtain ⟨fd, F⟩ := W.says.def_ 38 (d := d_layers) rfl
  exact ⟨fd, ok_P F sc_layers rfl (fun cdv A outer s H E hr => b_layers W m_must_be_book (ok_must_be_book W) m_must_be_sorts (ok_must_be_sorts W) m_amounts_by (ok_amounts_by W) m_summed (ok_summed W) cdv A outer s H E hr) (fun ds Q hl h => r_layers ds Q hl h), F.kp, (kw_layers F).1, (kw_layers F).2, W.glo 38 rfl⟩
theorem ok_law_draw (W : Wd K mg) : Ok P w K mg base "_law_draw" 1 ["_law_purse_here", "_law_out_of"] (spZ K 1 R_law_draw) := by
  obtain ⟨fd, F⟩ := W.says.def_ 40 (d := d_law_draw) rfl
  exact ⟨fd, F.ok sc_law_draw (fun vs H Q E h => by obtain ⟨_, p, c, vs', ds, fu, _, e, h1, _⟩ := h; rw [e, List.length_cons, h1]; rfl) (fun cdv A outer s H vs Q E hr h => ⟨t_law_draw K, PSs.nox (b_law_draw W cdv A outer s H E hr), r_law_draw vs H Q E h⟩), F.kp, F.bindsN fun _ _ _ _ _ _ us hl => match us, hl with | [_, _], _ => rfl, W.glo 40 rfl⟩
theorem ok_law_pick (W : Wd K mg) : Ok P w K mg base "_law_pick" 2 ["_law_purse_here", "_law_some"] (spZ K 1 R_law_pick) := by
  obtain ⟨fd, F⟩ := W.says.def_ 41 (d := d_law_pick) rfl
  exact ⟨fd, ok_Z F sc_law_pick rfl (fun cdv A outer s H E hr => b_law_pick W m_law_draw (ok_law_draw W) cdv A outer s H E hr) (fun ds fu Q hl h => r_law_pick ds fu Q hl h), F.kp, F.bindsN fun _ _ _ _ _ _ us hl => match us, hl with | [_, _], _ => rfl, W.glo 41 rfl⟩
theorem ok_law_word (W : Wd K mg) : Ok P w K mg base "_law_word" 3 ["_law_purse_here", "_law_most"] (spZ K 1 R_law_word) := by
  obtain ⟨fd, F⟩ := W.says.def_ 42 (d := d_law_word) rfl
  exact ⟨fd, ok_Z F sc_law_word rfl (fun cdv A outer s H E hr => b_law_word W m_law_draw (ok_law_draw W) m_law_pick (ok_law_pick W) cdv A outer s H E hr) (fun ds fu Q hl h => r_law_word ds fu Q hl h), F.kp, F.bindsN fun _ _ _ _ _ _ us hl => match us, hl with | [_, _], _ => rfl, W.glo 42 rfl⟩
theorem ok_law_codes (W : Wd K mg) : Ok P w K mg base "_law_codes" 4 ["_law_purse_here"] (spZ K 0 R_law_codes) := by
  obtain ⟨fd, F⟩ := W.says.def_ 43 (d := d_law_codes) rfl
  exact ⟨fd, ok_Z F sc_law_codes rfl (fun cdv A outer s H E hr => b_law_codes W m_law_draw (ok_law_draw W) m_law_word (ok_law_word W) cdv A outer s H E hr) (fun ds fu Q hl h => r_law_codes ds fu Q hl h), F.kp, F.bindsN fun _ _ _ _ _ _ us hl => match us, hl with | [_], _ => rfl, W.glo 43 rfl⟩
theorem ok_law_plan (W : Wd K mg) : Ok P w K mg base "_law_plan" 5 ["_law_purse_here", "_law_least"] (spZ K 1 R_law_plan) := by
  obtain ⟨fd, F⟩ := W.says.def_ 44 (d := d_law_plan) rfl
  exact ⟨fd, ok_Z F sc_law_plan rfl (fun cdv A outer s H E hr => b_law_plan W m_law_draw (ok_law_draw W) m_law_word (ok_law_word W) m_law_codes (ok_law_codes W) cdv A outer s H E hr) (fun ds fu Q hl h => r_law_plan ds fu Q hl h), F.kp, F.bindsN fun _ _ _ _ _ _ us hl => match us, hl with | [_, _], _ => rfl, W.glo 44 rfl⟩
theorem ok_law_record (W : Wd K mg) : Ok P w K mg base "_law_record" 3 ["_law_purse_here", "_law_plan_here"] (spZ K 1 R_law_record) := by
  obtain ⟨fd, F⟩ := W.says.def_ 45 (d := d_law_record) rfl
  exact ⟨fd, ok_Z F sc_law_record rfl (fun cdv A outer s H E hr => b_law_record W m_law_draw (ok_law_draw W) m_law_pick (ok_law_pick W) cdv A outer s H E hr) (fun ds fu Q hl h => r_law_record ds fu Q hl h), F.kp, F.bindsN fun _ _ _ _ _ _ us hl => match us, hl with | [_, _], _ => rfl, W.glo 45 rfl⟩
theorem ok_law_book (W : Wd K mg) : Ok P w K mg base "_law_book" 4 ["_law_purse_here", "_law_plan_here"] (spZ K 1 R_law_book) := by
  obtain ⟨fd, F⟩ := W.says.def_ 46 (d := d_law_book) rfl
  exact ⟨fd, ok_Z F sc_law_book rfl (fun cdv A outer s H E hr => b_law_book W m_law_draw (ok_law_draw W) m_law_record (ok_law_record W) cdv A outer s H E hr) (fun ds fu Q hl h => r_law_book ds fu Q hl h), F.kp, F.bindsN fun _ _ _ _ _ _ us hl => match us, hl with | [_, _], _ => rfl, W.glo 46 rfl⟩
theorem ok_law_labels (W : Wd K mg) : Ok P w K mg base "_law_labels" 3 ["_law_purse_here"] (spZ K 0 R_law_labels) := by
  obtain ⟨fd, F⟩ := W.says.def_ 47 (d := d_law_labels) rfl
  exact ⟨fd, ok_Z F sc_law_labels rfl (fun cdv A outer s H E hr => b_law_labels W m_law_draw (ok_law_draw W) m_law_pick (ok_law_pick W) cdv A outer s H E hr) (fun ds fu Q hl h => r_law_labels ds fu Q hl h), F.kp, F.bindsN fun _ _ _ _ _ _ us hl => match us, hl with | [_], _ => rfl, W.glo 47 rfl⟩
theorem ok_law_table (W : Wd K mg) : Ok P w K mg base "_law_table" 4 ["_law_purse_here"] (spZ K 0 R_law_table) := by
  obtain ⟨fd, F⟩ := W.says.def_ 48 (d := d_law_table) rfl
  exact ⟨fd, ok_Z F sc_law_table rfl (fun cdv A outer s H E hr => b_law_table W m_law_draw (ok_law_draw W) m_law_labels (ok_law_labels W) cdv A outer s H E hr) (fun ds fu Q hl h => r_law_table ds fu Q hl h), F.kp, F.bindsN fun _ _ _ _ _ _ us hl => match us, hl with | [_], _ => rfl, W.glo 48 rfl⟩
theorem ok_law_order (W : Wd K mg) : Ok P w K mg base "_law_order" 2 ["_law_purse_here", "_law_many"] (spZ K 1 R_law_order) := by
  obtain ⟨fd, F⟩ := W.says.def_ 49 (d := d_law_order) rfl
  exact ⟨fd, ok_Z F sc_law_order rfl (fun cdv A outer s H E hr => b_law_order W m_law_draw (ok_law_draw W) cdv A outer s H E hr) (fun ds fu Q hl h => r_law_order ds fu Q hl h), F.kp, F.bindsN fun _ _ _ _ _ _ us hl => match us, hl with | [_, _], _ => rfl, W.glo 49 rfl⟩
theorem ok_law_lots (W : Wd K mg) : Ok P w K mg base "_law_lots" 3 ["_law_purse_here", "_law_many"] (spZ K 1 R_law_lots) := by
  obtain ⟨fd, F⟩ := W.says.def_ 50 (d := d_law_lots) rfl
  exact ⟨fd, ok_Z F sc_law_lots rfl (fun cdv A outer s H E hr => b_law_lots W m_law_draw (ok_law_draw W) m_law_order (ok_law_order W) cdv A outer s H E hr) (fun ds fu Q hl h => r_law_lots ds fu Q hl h), F.kp, F.bindsN fun _ _ _ _ _ _ us hl => match us, hl with | [_, _], _ => rfl, W.glo 50 rfl⟩
theorem ok_law_summed (W : Wd K mg) : Ok P w K mg base "_law_summed" 1 ["_law_cells", "_law_lots_here"] (spP K 2 R_law_summed) := by
  obtain ⟨fd, F⟩ := W.says.def_ 51 (d := d_law_summed) rfl
  exact ⟨fd, ok_P F sc_law_summed rfl (fun cdv A outer s H E hr => b_law_summed W  cdv A outer s H E hr) (fun ds Q hl h => r_law_summed ds Q hl h), F.kp, F.bindsN fun _ _ _ _ _ _ us hl => match us, hl with | [_, _], _ => rfl, W.glo 51 rfl⟩
theorem ok_law_about (W : Wd K mg) : Ok P w K mg base "_law_about" 1 ["_law_cells"] (spP K 1 R_law_about) := by
  obtain ⟨fd, F⟩ := W.says.def_ 52 (d := d_law_about) rfl
  exact ⟨fd, ok_P F sc_law_about rfl (fun cdv A outer s H E hr => b_law_about W  cdv A outer s H E hr) (fun ds Q hl h => r_law_about ds Q hl h), F.kp, F.bindsN fun _ _ _ _ _ _ us hl => match us, hl with | [_], _ => rfl, W.glo 52 rfl⟩
theorem ok_law_put_right (W : Wd K mg) : OkG P w K mg base "_law_put_right" 8 ["_law_purse_here", "_law_table_here"] (spZ K 1 R_law_put_right) := by
  obtain ⟨fd, F⟩ := W.says.def_ 53 (d := d_law_put_right) rfl
  exact ⟨fd, ok_ZG F sc_law_put_right rfl (fun cdv A outer s H E hgd hr => b_law_put_right W m_totals (ok_totals W) m_turned_table (ok_turned_table W) m_put_together (ok_put_together W) m_law_lots (ok_law_lots W) m_law_summed (ok_law_summed W) m_law_about (ok_law_about W) cdv A outer s H E hgd hr) (fun ds fu Q hl h => r_law_put_right ds fu Q hl h), F.kp, F.bindsN fun _ _ _ _ _ _ us hl => match us, hl with | [_, _], _ => rfl, W.glo 53 rfl⟩
theorem ok_law_added_right (W : Wd K mg) : OkG P w K mg base "_law_added_right" 7 ["_law_purse_here", "_law_table_here"] (spZ K 1 R_law_added_right) := by
  obtain ⟨fd, F⟩ := W.says.def_ 54 (d := d_law_added_right) rfl
  exact ⟨fd, ok_ZG F sc_law_added_right rfl (fun cdv A outer s H E hgd hr => b_law_added_right W m_added (ok_added W) m_law_draw (ok_law_draw W) cdv A outer s H E hgd hr) (fun ds fu Q hl h => r_law_added_right ds fu Q hl h), F.kp, F.bindsN fun _ _ _ _ _ _ us hl => match us, hl with | [_, _], _ => rfl, W.glo 54 rfl⟩
theorem ok_law_books_right (W : Wd K mg) : Ok P w K mg base "_law_books_right" 10 ["_law_purse_here", "_law_plan_here", "_law_one", "_law_other"] (spZ K 3 R_law_books_right) := by
  obtain ⟨fd, F⟩ := W.says.def_ 55 (d := d_law_books_right) rfl
  exact ⟨fd, ok_Z F sc_law_books_right rfl (fun cdv A outer s H E hr => b_law_books_right W m_totals (ok_totals W) m_turned_table (ok_turned_table W) m_added (ok_added W) m_gaps (ok_gaps W) m_table_of (ok_table_of W) m_weighed_cells (ok_weighed_cells W) m_layers (ok_layers W) m_law_order (ok_law_order W) cdv A outer s H E hr) (fun ds fu Q hl h => r_law_books_right ds fu Q hl h), F.kp, F.bindsN fun _ _ _ _ _ _ us hl => match us, hl with | [_, _, _, _], _ => rfl, W.glo 55 rfl⟩
end
end K22

set_option Elab.async false
set_option linter.all false
set_option maxRecDepth 100000
set_option maxHeartbeats 6400000
/-! T2: the law's def; the lines down to b_law are printed by gen_defs.py law. -/
namespace K22
open PySem PySem.Spec PyProof.Rows L2
/-! ### law -/
abbrev N_law : List Str := ["_law_script", "_law_purse_here", "_law_turn", "_law_plan_here", "_law_table_here", "_law_rows", "_law_columns", "_law_cells", "_law_line", "_law_cell"]
theorem sc_law : FnScope N_law ["_law_script"] (defScope s_law) := ⟨rfl, rfl, rfl, by decide +kernel, rfl, by decide +kernel, by decide +kernel⟩
def t_law (R_law_plan : RZ) (R_law_book : RZ) (R_law_table : RZ) (R_law_put_right : RZ) (R_law_added_right : RZ) (R_law_books_right : RZ) : TDS := (dSeq (dFor (dRng (dC (.int 6))) (dgName 2) (dSeq (dSet 3 (dDraw 1 1 R_law_plan (dCons (dC (.int 2)) dNil))) (dSeq (dIfS (dNotT (dTs (dDraw 1 3 R_law_books_right (dCons (dVar 3) (dCons (dDraw 1 1 R_law_book (dCons (dVar 3) dNil)) (dCons (dDraw 1 1 R_law_book (dCons (dVar 3) dNil)) dNil)))))) (dRet (dC (.bool false))) dNilS) (dSeq (dAsg (dDraw 1 0 R_law_table dNil) (dgTup 3 (dgCons (dgName 5) (dgCons (dgName 6) (dgCons (dgName 7) dgNil))))) (dSeq (dSet 4 (dTup (dCons (dVar 5) (dCons (dVar 6) (dCons (dLc (dIter (dVar 7)) (dgName 8) dYes (dLc (dIter (dVar 8)) (dgName 9) dYes (dOp oMod (dVar 9) (dOp oPow (dC (.int 10)) (dC (.int 7)))) [9]) [8]) dNil))))) (dIfS (dOrT (dNotT (dTs (dDraw 1 1 R_law_put_right (dCons (dVar 4) dNil)))) (dNotT (dTs (dDraw 1 1 R_law_added_right (dCons (dVar 4) dNil))))) (dRet (dC (.bool false))) dNilS)))))) (dRet (dC (.bool true))))
set_option maxHeartbeats 0 in
theorem b_law {P : Program} {w : World} {K : PySem.W.Frag} {mg : Str → Option Value} {base : Heap} (W : Wd K mg) {R_law_plan : RZ} {R_law_book : RZ} {R_law_table : RZ} {R_law_put_right : RZ} {R_law_added_right : RZ} {R_law_books_right : RZ} (hR_law_plan : MonoZ R_law_plan) (O_law_plan : Ok P w K mg base "_law_plan" 5 ["_law_purse_here", "_law_least"] (spZ K 1 R_law_plan)) (hR_law_book : MonoZ R_law_book) (O_law_book : Ok P w K mg base "_law_book" 4 ["_law_purse_here", "_law_plan_here"] (spZ K 1 R_law_book)) (hR_law_table : MonoZ R_law_table) (O_law_table : Ok P w K mg base "_law_table" 4 ["_law_purse_here"] (spZ K 0 R_law_table)) (hR_law_put_right : MonoZ R_law_put_right) (O_law_put_right : OkG P w K mg base "_law_put_right" 8 ["_law_purse_here", "_law_table_here"] (spZ K 1 R_law_put_right)) (hR_law_added_right : MonoZ R_law_added_right) (O_law_added_right : OkG P w K mg base "_law_added_right" 7 ["_law_purse_here", "_law_table_here"] (spZ K 1 R_law_added_right)) (hR_law_books_right : MonoZ R_law_books_right) (O_law_books_right : Ok P w K mg base "_law_books_right" 10 ["_law_purse_here", "_law_plan_here", "_law_one", "_law_other"] (spZ K 3 R_law_books_right)) (cdv : Value) (A : Around) (outer : List Env) (s : Shared) (H : Hp) (E : XK) (hgd : A.guards = some []) (hr : Room 10 (A.deeper (envOfC "law" (defScope s_law) s.heap.objs.size (He.ga K "law") cdv))) :
    DSs (cxOf CX0 P w K mg base N_law "law" (defScope s_law) (He.ga K "law") cdv A outer s H E).nox ((defBody s_law).drop 1) (t_law R_law_plan R_law_book R_law_table R_law_put_right R_law_added_right R_law_books_right) := by
  exact (dss_cons (ds_for PassesOwn.never rfl (di_range de_int (W.free 67)) (dg_name 2 sc_law.nd) (dss_cons (ds_set 3 sc_law.nd (dc_Z 1 O_law_plan hR_law_plan hr (da_cons de_int da_nil))) (dss_cons (ds_if (dt_not (dt_of (dc_Z 1 O_law_books_right hR_law_books_right hr (da_cons (de_var 3) (da_cons (dc_Z 1 O_law_book hR_law_book hr (da_cons (de_var 3) da_nil)) (da_cons (dc_Z 1 O_law_book hR_law_book hr (da_cons (de_var 3) da_nil)) da_nil)))))) (dss_one (ds_ret de_bl)) dss_nil) (dss_cons (ds_asg (dc_Z 1 O_law_table hR_law_table hr da_nil) (dg_tup rfl (dgs_cons (dg_name 5 sc_law.nd) (dgs_cons (dg_name 6 sc_law.nd) (dgs_cons (dg_name 7 sc_law.nd) dgs_nil))))) (dss_cons (ds_set 4 sc_law.nd (de_tup (da_cons (de_var 5) (da_cons (de_var 6) (da_cons (de_lc rfl sc_law.nd (di_list (de_var 7)) (blkOk_by (own := [("_law_line", 8)]) (by kernel_rfl)) (fun _ _ _ _ _ => (dg_name 8 sc_law.nd)) (fun _ _ _ _ _ => dts_nil) (fun _ _ _ _ _ => (de_lc rfl sc_law.nd (di_list (de_var 8)) (blkOk_by (own := [("_law_cell", 9)]) (by kernel_rfl)) (fun _ _ _ _ _ => (dg_name 9 sc_law.nd)) (fun _ _ _ _ _ => dts_nil) (fun _ _ _ _ _ => (de_op os_mod (de_var 9) (de_op os_pow de_int de_int)))))) da_nil))))) (dss_one (ds_if (DW.dt (dw_or (dt_not (dt_of (dc_ZG 1 O_law_put_right hgd hR_law_put_right hr (da_cons (de_var 4) da_nil)))) (dw_or1 (dt_not (dt_of (dc_ZG 1 O_law_added_right hgd hR_law_added_right hr (da_cons (de_var 4) da_nil))))))) (dss_one (ds_ret de_bl)) dss_nil))))))) (dss_one (ds_ret de_bl)))
def lawE (s2 s3 s4 s5 s6 s7 : Sl) (fu : Nat) : En := ⟨[.no, .pz, s2, s3, s4, s5, s6, s7, .no, .no], fu⟩
theorem r_law (fu : Nat) (Q : PyData → Nat → Prop) (hfu : 20000 ≤ fu) (h : ∀ fu', Q (.bool true) fu') : t_law R_law_plan R_law_book R_law_table R_law_put_right R_law_added_right R_law_books_right (endZ Q) (lawE .no .no .no .no .no .no fu) := by
  have three : 3 ≤ sizeLine := by decide
  refine ⟨by decide, by decide, for_pre (fun i : Nat => .int (i : Int)) (fun pre E => ∃ (s2 s3 s4 s5 s6 s7 : Sl) (f : Nat), E = lawE s2 s3 s4 s5 s6 s7 f ∧ fu ≤ f + 2000 * pre.length) (List.range 6) ?_ ?_ _ [] _ rfl ⟨.no, .no, .no, .no, .no, .no, fu, rfl, Nat.le_add_right _ _⟩⟩
  · rintro pre a post e E ⟨s2, s3, s4, s5, s6, s7, f, rfl, hf⟩ C hC
    have hpre : pre.length < 6 := (range_at e).2
    have lp : (pre ++ [a]).length = pre.length + 1 := by simp
    refine ⟨rfl, rfl, by show 285 ≤ f; omega, fun p f1 hp h2 hf1 => ?_⟩
    have hf1' : f ≤ f1 + 285 := hf1
    refine ⟨rfl, p, rfl, hp, by show 602 ≤ f1; omega, fun A fA hA hfA => ?_⟩
    have hfA' : f1 ≤ fA + 602 := hfA
    refine ⟨rfl, p, rfl, hp, by show 602 ≤ fA; omega, fun B fB hB hfB => ?_⟩
    have hfB' : fA ≤ fB + 602 := hfB
    refine ⟨rfl, p, A, B, rfl, hp, h2, hA, hB, by show 10 ≤ fB; omega, fun f3 hf3 => ?_⟩
    have hf3' : fB ≤ f3 + 10 := hf3
    refine ⟨rfl, rfl, by show 99 ≤ f3; omega, fun r c g f4 hr hc hg hf4 => ?_⟩
    have hf4' : f3 ≤ f4 + 99 := hf4
    refine ⟨rfl, rfl, rfl, lc_map (fun i => rD c.length (g i)) (fun i => rD c.length fun k => g i k % (10 : Int) ^ (7 : Int).toNat) (List.range r.length) [] (fun i hi C1 hC1 => ?_) ?_⟩
    · exact ⟨rfl, lc_map (fun k => .int (g i k)) (fun k => .int (g i k % (10 : Int) ^ (7 : Int).toNat)) (List.range c.length) [] (fun k hk C2 hC2 => ⟨by decide, by decide, by decide, rfl, hC2⟩) ⟨rfl, hC1⟩⟩
    have p7 : (10 : Int) ^ (7 : Int).toNat = 10000000 := by decide
    have hT : TabOk r c fun i k => g i k % (10 : Int) ^ (7 : Int).toNat := ⟨hr, hc, fun i k _ _ => Int.emod_nonneg _ (by decide), fun i k _ _ => by
      have := Int.emod_lt_of_pos (g i k) (show (0 : Int) < (10 : Int) ^ (7 : Int).toNat by decide)
      rw [p7] at this ⊢
      omega⟩
    have h7 : ∀ i k, i < r.length → k < c.length → (fun i k => g i k % (10 : Int) ^ (7 : Int).toNat) i k ≤ 10000000 := fun i k _ _ => by
      have := Int.emod_lt_of_pos (g i k) (show (0 : Int) < (10 : Int) ^ (7 : Int).toNat by decide)
      show g i k % (10 : Int) ^ (7 : Int).toNat ≤ 10000000
      rw [p7] at this ⊢
      omega
    refine ⟨three, ?_⟩
    refine ⟨rfl, r, c, (fun i k => g i k % (10 : Int) ^ (7 : Int).toNat), rfl, hT, h7, by show 40 ≤ f4; omega, fun f5 hf5 => ?_⟩
    have hf5' : f4 ≤ f5 + 40 := hf5
    refine ⟨rfl, r, c, (fun i k => g i k % (10 : Int) ^ (7 : Int).toNat), rfl, hT, h7, by show 109 ≤ f5; omega, fun f6 hf6 => ?_⟩
    have hf6' : f5 ≤ f6 + 109 := hf6
    exact hC _ ⟨_, _, _, _, _, _, f6, rfl, by rw [lp]; omega⟩
  · rintro E ⟨s2, s3, s4, s5, s6, s7, f, rfl, hf⟩
    exact h f
end K22

set_option Elab.async false
set_option linter.all false
set_option maxRecDepth 100000
set_option maxHeartbeats 6400000
/-! T3: the law keeps its promise. -/
namespace K22
open PySem PySem.Spec PyProof.Rows L2
section
variable {P : Program} {w : World} {K : PySem.W.Frag} {mg : Str → Option Value} {base : Heap}
theorem ok_law_purse (W : Wd K mg) : Ok P w K mg base "_law_purse" 1 ["_law_script"] (spPu K) := by
  obtain ⟨fd, F⟩ := W.says.def_ 39 (d := d_law_purse) rfl
  exact ⟨fd, F.ok sc_law_purse (fun vs H Q E h => by obtain ⟨a, ns, rfl, _⟩ := h; rfl) (fun cdv A outer s H vs Q E hr h => ⟨t_law_purse K, PSs.nox (b_law_purse W cdv A outer s H E hr), r_law_purse vs H Q E h⟩), F.kp, F.bindsN fun _ _ _ _ _ _ us hl => match us, hl with | [_], _ => rfl, W.glo 39 rfl⟩
def spLaw (K : PySem.W.Frag) : Sp := fun vs H Q _ => ∃ (a : Addr) (ns : List Int), vs = [.ref a] ∧ SqL K H a (ns.map V.int) ∧ LenOk H ∧ ∀ H', Q (.bl true) H'
def t_whole (K : PySem.W.Frag) : TS := tSeq (tAsg (tCall (spPu K) [] E0 (tCons (tVar 0) tNil)) (gName 1)) (embS K (t_law R_law_plan R_law_book R_law_table R_law_put_right R_law_added_right R_law_books_right))
abbrev FL (K : PySem.W.Frag) (fd : FuncData) : Prop := FunD K d_law.name d_law.qual d_law.params d_law.body d_law.scope [] [] (He.ga K "law") fd
theorem ok_law (W : Wd K mg) {fd : FuncData} (F : FL K fd) : FnG P w K mg base CX0 11 (He.ga K "law") fd ["_law_script"] (spLaw K) := by
  refine FunD.okG F sc_law (fun vs H Q E h => by obtain ⟨a, ns, rfl, _⟩ := h; rfl) (fun cdv A outer s H vs Q E hgd hr h => ⟨t_whole K, PSs.nox ?_, ?_⟩)
  · have b := b_law (P := P) (w := w) (base := base) W m_law_plan (ok_law_plan W) m_law_book (ok_law_book W) m_law_table (ok_law_table W) m_law_put_right (ok_law_put_right W) m_law_added_right (ok_law_added_right W) m_law_books_right (ok_law_books_right W) cdv A outer s H E hgd hr
    obtain ⟨fp, hp1, hp2, hp3, hp4⟩ := ok_law_purse (P := P) (w := w) (base := base) W
    exact pss_cons (ps_set (i := 1) sc_law.nd rfl (Or.inl rfl) (pe_call (hp1.mono (by decide)) hr rfl hp4 hp2 hp3 .nil pass0 (pa_cons (pe_var (i := 0) rfl (.inl rfl)) pa_nil))) b.run
  · obtain ⟨a, ns, rfl, hS, hl, hq⟩ := h
    refine ⟨.ref a, rfl, a, ns, rfl, hS, hl, fun p c H' ns' sm l' hpc hp0 hc0 hp hc hne h63 hb => ?_⟩
    have z : PzOk ⟨fun x => x = p ∨ x = c, some (p, c), fun _ => False⟩ H' 1000000 := fun p' c' e => by
      have e' : some (p, c) = some (p', c') := e
      cases e'
      exact ⟨hpc, ns', 0, hp, hc, hne, h63, hb, Int.le_refl _, by decide⟩
    have n0 : ∀ x, (x = p ∨ x = c) → IsL H' x := fun x hx => by
      rcases hx with rfl | rfl
      · exact ⟨_, hp⟩
      · exact ⟨_, hc⟩
    have m0 : ∀ x, (Fm.mk (fun x => x = p ∨ x = c) (some (p, c)) fun _ => False).M0 x → (x = p ∨ x = c) := fun x ⟨p', c', e, h⟩ => by
      have e' : some (p, c) = some (p', c') := e
      cases e'
      exact h
    refine ⟨⟨fun x => x = p ∨ x = c, some (p, c), fun _ => False⟩, _, lawE .no .no .no .no .no .no 1000000, ⟨fun _ => [], rfl, fun i s h => ?_, fun _ _ _ h => (nomatch h), fun _ => List.nodup_nil, fun _ _ h => (nomatch h), z, n0, fun x h => n0 x (m0 x h), fun x h => ⟨h, m0 x h⟩, l', fun x h => h.elim⟩, ?_⟩
    · match i, h with
      | 0, h => cases h; exact ⟨_, rfl, trivial⟩
      | 1, h => cases h; exact ⟨_, rfl, p, c, rfl, rfl⟩
      | 2, h => cases h; exact ⟨_, rfl, trivial⟩
      | 3, h => cases h; exact ⟨_, rfl, trivial⟩
      | 4, h => cases h; exact ⟨_, rfl, trivial⟩
      | 5, h => cases h; exact ⟨_, rfl, trivial⟩
      | 6, h => cases h; exact ⟨_, rfl, trivial⟩
      | 7, h => cases h; exact ⟨_, rfl, trivial⟩
      | 8, h => cases h; exact ⟨_, rfl, trivial⟩
      | 9, h => cases h; exact ⟨_, rfl, trivial⟩
      | n + 10, h => cases h
    · have b := b_law (P := P) (w := w) (base := base) W m_law_plan (ok_law_plan W) m_law_book (ok_law_book W) m_law_table (ok_law_table W) m_law_put_right (ok_law_put_right W) m_law_added_right (ok_law_added_right W) m_law_books_right (ok_law_books_right W) cdv A outer s H E hgd hr
      refine b.mono (endZ fun d _ => d = .bool true) _ _ ⟨fun E' q => ?_, fun d m q v H' s' dv _ l => ?_, fun d m q v H' s' dv _ l => ?_, fun _ q => (show False from q).elim, fun _ q => (show False from q).elim⟩ (r_law 1000000 _ (by decide) fun _ => rfl)
      · have q' : PyData.none = .bool true := q
        cases q'
      · have q' : d = .bool true := q
        subst q'
        cases dv
        exact hq _
      · have q' : d = .bool true := q
        subst q'
        cases dv
        exact hq _
end
end K22

section
set_option Elab.async false
set_option linter.all false
set_option maxRecDepth 100000
set_option maxHeartbeats 6400000
/-! T4: the theorem. -/
namespace K22
open PySem PySem.Spec PyProof.Rows L2
theorem lenOk_only {H : Hp} (h : Only H) : LenOk H := fun a xs e => by
  rcases h a with q | ⟨o, ys, q⟩
  · rw [q] at e; cases e
  · rw [q] at e; cases e
theorem wd_of {K : PySem.W.Frag} {h : Heap} {mg : Str → Option Value} (X : K.In h) (G : h.Ns mainGlobals mg) (c : He.SaysD fa fn K) (b : whatsB K = true) : Wd K mg := ⟨⟨h, X, G⟩, c, b⟩
theorem facts {P : Program} {w : World} {K : PySem.W.Frag} {h : Heap} {mg : Str → Option Value} {f : Addr} (X : K.In h) (G : h.Ns mainGlobals mg) (hfa : mg ("law" : Str) = some (.ref f)) (c : He.SaysD fa fn K) (b : whatsB K = true) :
    ∃ fd : FuncData, (∀ (s : Shared) (v : Value), BindsTo s fd ⟨[v], []⟩ [("_law_script", v)]) ∧ ∀ base : Heap, K.In base → base.Ns mainGlobals mg → FnG P w K mg base CX0 11 f fd ["_law_script"] (spLaw K) := by
  have W := wd_of X G c b
  obtain ⟨fd, F⟩ := c.def_ 56 (d := d_law) rfl
  have e := hfa.symm.trans (He.glo_ok X G (c.fact 56 (f := .glo "law") rfl))
  cases e
  have bb := FunD.bindsA (ps := ["_law_script"]) F fun _ _ _ _ _ _ us hl => match us, hl with | [_], _ => rfl
  exact ⟨fd, fun s v => bb s [v] rfl, fun base _ _ => ok_law W F⟩
end K22
open PySem PySem.W PySem.Calls PyProof.Rows
set_option maxHeartbeats 0 in
theorem PySem.Challenge.cw_countveil_k22_whole_tables_put_together_holds : PySem.Challenge.rw_countveil_k22_whole_tables_put_together.Holds := by
  w_on; o_law
  refine HandSHeadRun.head_any (r := OpenLaw.row PySem.Challenge.rw_countveil_k22_whole_tables_put_together) (q := view (OpenLaw.row PySem.Challenge.rw_countveil_k22_whole_tables_put_together).prog [86]) (H := K22.hkW) (ob := K22.ob) (M := 8000) (loose := K22.loose) (d := HandSHeadRun.topDef (OpenLaw.row PySem.Challenge.rw_countveil_k22_whole_tables_put_together).prog 86) (kwd := []) K22.obs_eq
    (by kernel_rfl) (fun s => by kernel_rfl) K22.run (by kernel_rfl) (by kernel_rfl) (by kernel_rfl) (by rfl) (by first | assumption | decide +kernel) (by decide +kernel) ⟨rfl, rfl, rfl, rfl, rfl, by decide +kernel⟩ ?hw ?hc
  case hw => w_witness2
  case hc =>
    refine K22.walk_ofG (l := PySem.Challenge.rw_countveil_k22_whole_tables_put_together) (n := 63) (k := 11) (x := "_law_script") (CX := L2.CX0) rfl (by decide) (by kernel_rfl) ⟨rfl, by decide, by decide⟩ ?F (fun _ _ _ _ z => z)
    intro w mg fa h Y G hmg0
    obtain ⟨K, KX, c, cb⟩ := Y
    have hmg : mg ("law" : PySem.Str) = some (.ref fa) := by
      have e : (HandSHeadRun.topDef (OpenLaw.row PySem.Challenge.rw_countveil_k22_whole_tables_put_together).prog 86).name = ("law" : PySem.Str) := by kernel_rfl
      rw [← e]
      exact hmg0
    obtain ⟨fd, hb, hF⟩ := K22.facts (P := (PySem.Challenge.rw_countveil_k22_whole_tables_put_together).prog) (w := w) KX G hmg c cb
    exact ⟨K, fd, K22.spLaw K, KX, hb, fun H a ns _ ho hS => ⟨a, ns, rfl, hS, K22.lenOk_only ho, fun _ => rfl⟩, hF⟩
end
