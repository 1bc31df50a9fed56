import PyProof.Rows.All
import Wide.All
import OpenK.AllK
import Wide.FinOn
import HandS.Base
import HandS.Call
import HandS.List
import HandS.Comp
import HandS.Dict
import HandS.Iter
import HandS.Text
import HandS.TupAny
import HandS.TupMul
import HandS.TupLe
import HandS.Wide
import HandS.Style
import HandS.NoneIn
import HandS.Words
import HandS.WordsExc
import HandS.Defaults
import HandS.IsInst
import KE.SortData
import HandS.Zip
import KE.GoesMore
import HandS.Deep
import HandS.SetFor
import HandS.SortInts
import HandS.HeadHook2
import HandS.HeadEnd
import KE.DatumOrd
import KE.DatumMoreOrd
import PySem.Challenge.RW_playrolled_k37_whole_lines_at_their_boun
import KE.KStateDown
import HandS.Ends
import HandS.More
import HandS.Head0
import HandS.Head1
import HandS.Head2
import HandS.HeadHook1
set_option Elab.async false
set_option linter.all false
set_option maxRecDepth 100000
set_option maxHeartbeats 0
/-! G0: data D, memory, what stands for what, the readings, the judgements. -/
namespace G
open PySem L2

/-- data, told apart from where they lie; ref n: the n-th cell of the memory -/
inductive D where
  | non | bl (b : Bool) | int (i : Int) | str (x : Str) | tup (xs : List D) | lst (xs : List D) | ref (n : Nat) | raw (v : V) | arg (ns : List Int)
instance : Inhabited D := ⟨.non⟩
/-- a cell of the memory: what can be changed -/
inductive Cell where
  | lst (xs : List D) | dct (kvs : List (D × D)) | ins (C : Addr) (fs : List (Str × D))
abbrev Mem := List Cell
/-- an outcome -/
inductive Res (α : Type) where
  | ok (a : α) (M : Mem) | exc (C : Addr) (fs : Option (List (Str × D))) (M : Mem) | stuck
def Res.bind {α β : Type} (r : Res α) (k : α → Mem → Res β) : Res β := match r with
  | .ok a M => k a M
  | .exc C fs M => .exc C fs M
  | .stuck => .stuck
@[simp] theorem Res.bind_ok {α β : Type} (a : α) (M : Mem) (k : α → Mem → Res β) : (Res.ok a M).bind k = k a M := rfl
@[simp] theorem Res.bind_exc {α β : Type} (C : Addr) (fs) (M : Mem) (k : α → Mem → Res β) : (Res.exc C fs M : Res α).bind k = .exc C fs M := rfl
@[simp] theorem Res.bind_stuck {α β : Type} (k : α → Mem → Res β) : (Res.stuck : Res α).bind k = .stuck := rfl

def opt {α β : Type} (o : Option α) (f : α → Res β) : Res β := match o with
  | some x => f x
  | none => .stuck
@[simp] theorem opt_some {α β : Type} (a : α) (f : α → Res β) : opt (some a) f = f a := rfl
@[simp] theorem opt_none {α β : Type} (f : α → Res β) : opt none f = .stuck := rfl

/-- where the cells lie, and which lists are never changed any more -/
structure Gh where
  io : List Addr
  F : Addr → Prop

/-- the law's own list: read only -/
def ArgL (K : PySem.W.Frag) (F : Addr → Prop) (H : Hp) (a : Addr) (xs : List V) : Prop :=
  (F a ∧ ∃ o, H a = some (.frz o (.lst xs))) ∨ ∃ (o : Obj) (its : Array Value) (n : Nat), K.lookup a = some o ∧ o.cls = .type "list" ∧ o.dict = none ∧ o.data = .seq its n ∧ its.size ≤ sizeLine ∧ Vals xs its.toList
theorem ArgL.sq {K : PySem.W.Frag} {F : Addr → Prop} {H : Hp} {a : Addr} {xs : List V} (h : ArgL K F H a xs) : SqL K H a xs := by
  rcases h with ⟨_, o, h⟩ | h
  · exact .inl (.inr ⟨o, h⟩)
  · exact .inr h
mutual
inductive DR (K : PySem.W.Frag) (g : Gh) (H : Hp) : V → D → Prop
  | non : DR K g H .non .non
  | bl (b : Bool) : DR K g H (.bl b) (.bl b)
  | int (i : Int) : DR K g H (.int i) (.int i)
  | str (x : Str) : PyData.strOk x = true → DR K g H (.str x) (.str x)
  | tup {a : Addr} {xs : List V} {ds : List D} : SqT K H a xs → xs.length ≤ sizeLine → DRs K g H xs ds → DR K g H (.ref a) (.tup ds)
  | lst {a : Addr} {xs : List V} {ds : List D} : g.F a → H a = some (.lst xs) → xs.length ≤ sizeLine → DRs K g H xs ds → DR K g H (.ref a) (.lst ds)
  | ref {n : Nat} {a : Addr} : g.io[n]? = some a → DR K g H (.ref a) (.ref n)
  | raw (v : V) : DR K g H v (.raw v)
  | arg {a : Addr} {ns : List Int} : ArgL K g.F H a (ns.map V.int) → ns.length ≤ sizeLine → DR K g H (.ref a) (.arg ns)
inductive DRs (K : PySem.W.Frag) (g : Gh) (H : Hp) : List V → List D → Prop
  | nil : DRs K g H [] []
  | cons {v : V} {vs : List V} {d : D} {ds : List D} : DR K g H v d → DRs K g H vs ds → DRs K g H (v :: vs) (d :: ds)
end

section
variable {K : PySem.W.Frag} {g g' g'' : Gh} {H H' H'' : Hp}
theorem DRs.length {vs : List V} {ds : List D} (h : DRs K g H vs ds) : vs.length = ds.length := by
  induction vs generalizing ds with
  | nil => cases h; rfl
  | cons v vs ih => cases h with | cons a b => simp [ih b]
theorem DRs.get {vs : List V} {ds : List D} {i : Nat} {d : D} (h : DRs K g H vs ds) (e : ds[i]? = some d) : ∃ v, vs[i]? = some v ∧ DR K g H v d := by
  induction vs generalizing ds i with
  | nil => cases h; simp at e
  | cons v vs ih => cases h with | cons a b =>
    cases i with
    | zero => simp at e; subst e; exact ⟨v, by simp, a⟩
    | succ i => obtain ⟨w, e1, r⟩ := ih b (by simpa using e); exact ⟨w, by simpa using e1, r⟩
theorem DRs.getV {vs : List V} {ds : List D} {i : Nat} {v : V} (h : DRs K g H vs ds) (e : vs[i]? = some v) : ∃ d, ds[i]? = some d ∧ DR K g H v d := by
  induction vs generalizing ds i with
  | nil => simp at e
  | cons w vs ih => cases h with | cons a b =>
    cases i with
    | zero => simp at e; subst e; exact ⟨_, by simp, a⟩
    | succ i => obtain ⟨d, e1, r⟩ := ih b (by simpa using e); exact ⟨d, by simpa using e1, r⟩
theorem DRs.append {vs ws : List V} {ds es : List D} (h : DRs K g H vs ds) (h' : DRs K g H ws es) : DRs K g H (vs ++ ws) (ds ++ es) := by
  induction vs generalizing ds with
  | nil => cases h; exact h'
  | cons v vs ih => cases h with | cons a b => exact .cons a (ih b)
theorem DRs.take {vs : List V} {ds : List D} (n : Nat) (h : DRs K g H vs ds) : DRs K g H (vs.take n) (ds.take n) := by
  induction vs generalizing ds n with
  | nil => cases h; simp; exact .nil
  | cons v vs ih => cases h with | cons a b => cases n with
    | zero => exact .nil
    | succ n => exact .cons a (ih n b)
theorem DRs.drop {vs : List V} {ds : List D} (n : Nat) (h : DRs K g H vs ds) : DRs K g H (vs.drop n) (ds.drop n) := by
  induction vs generalizing ds n with
  | nil => cases h; simp; exact .nil
  | cons v vs ih => cases h with | cons a b => cases n with
    | zero => exact .cons a b
    | succ n => exact ih n b
theorem DRs.set {vs : List V} {ds : List D} {v : V} {d : D} (n : Nat) (h : DRs K g H vs ds) (r : DR K g H v d) : DRs K g H (vs.set n v) (ds.set n d) := by
  induction vs generalizing ds n with
  | nil => cases h; exact .nil
  | cons w vs ih => cases h with | cons a b => cases n with
    | zero => exact .cons r b
    | succ n => exact .cons a (ih n b)
theorem DRs.one {v : V} {d : D} (h : DR K g H v d) : DRs K g H [v] [d] := .cons h .nil
theorem DRs.reverse {vs : List V} {ds : List D} (h : DRs K g H vs ds) : DRs K g H vs.reverse ds.reverse := by
  induction vs generalizing ds with
  | nil => cases h; exact .nil
  | cons v vs ih => cases h with | cons a b => simp only [List.reverse_cons]; exact (ih b).append (.one a)
theorem DRs.ints {vs : List V} {ns : List Int} (h : DRs K g H vs (ns.map D.int)) : vs = ns.map V.int := by
  induction vs generalizing ns with
  | nil => cases ns with | nil => rfl | cons _ _ => cases h
  | cons v vs ih => cases ns with
    | nil => cases h
    | cons n ns => cases h with | cons a b => cases a; rw [List.map_cons, ih b]
theorem DRs.of_ints (ns : List Int) : DRs K g H (ns.map V.int) (ns.map D.int) := by
  induction ns with
  | nil => exact .nil
  | cons n ns ih => exact .cons (.int n) ih

/-- fields, pairs -/
inductive FR (K : PySem.W.Frag) (g : Gh) (H : Hp) : List (Str × V) → List (Str × D) → Prop
  | nil : FR K g H [] []
  | cons {x : Str} {v : V} {d : D} {vs ds} : DR K g H v d → FR K g H vs ds → FR K g H ((x, v) :: vs) ((x, d) :: ds)
/-- a dict's key, told by data: an int or a text -/
def keyOf : D → Option Key
  | .int i => some (.inl i)
  | .str x => some (.inr x)
  | _ => none
inductive KR (K : PySem.W.Frag) (g : Gh) (H : Hp) : List (Key × V) → List (D × D) → Prop
  | nil : KR K g H [] []
  | cons {k : Key} {dk : D} {v : V} {d : D} {vs ds} : keyOf dk = some k → (∀ x, k = .inr x → PyData.strOk x = true) → DR K g H v d → KR K g H vs ds → KR K g H ((k, v) :: vs) ((dk, d) :: ds)
/-- what a cell stands for -/
inductive CR (K : PySem.W.Frag) (g : Gh) (H : Hp) : Addr → Cell → Prop
  | lst {a : Addr} {xs : List V} {ds : List D} : H a = some (.lst xs) → xs.length ≤ sizeLine → DRs K g H xs ds → CR K g H a (.lst ds)
  | dct {a : Addr} {kvs : List (Key × V)} {ds : List (D × D)} : H a = some (.dK kvs) → kvs.length ≤ sizeLine → KR K g H kvs ds → CR K g H a (.dct ds)
  | ins {a C dx : Addr} {fs : List (Str × V)} {ds : List (Str × D)} : H a = some (.ins C dx fs) → FR K g H fs ds → CR K g H a (.ins C ds)
theorem CR.there {a : Addr} {c : Cell} (h : CR K g H a c) : ∃ o, H a = some o := by
  cases h <;> exact ⟨_, by assumption⟩

/-- the memory stands in the heap -/
structure RelH (K : PySem.W.Frag) (g : Gh) (M : Mem) (H : Hp) : Prop where
  len : g.io.length = M.length
  nd : g.io.Nodup
  cell : ∀ (n : Nat) a c, g.io[n]? = some a → M[n]? = some c → CR K g H a c
  nF : ∀ a, a ∈ g.io → ¬ g.F a
  wF : ∀ a, g.F a → ∃ o, H a = some o
/-- what may have changed since -/
structure Grw (K : PySem.W.Frag) (g : Gh) (H : Hp) (g' : Gh) (H' : Hp) : Prop where
  sq : ∀ a xs, SqT K H a xs → SqT K H' a xs
  frm : ∀ a o, H a = some o → a ∉ g.io → H' a = some o
  trk : ∀ a o, H a = some o → ∃ o', H' a = some o'
  ext : ∀ (n : Nat) a, g.io[n]? = some a → g'.io[n]? = some a
  newI : ∀ a, a ∈ g'.io → a ∈ g.io ∨ H a = none
  F : ∀ a, g.F a → g'.F a
  newF : ∀ a, g'.F a → g.F a ∨ H a = none
theorem Grw.refl : Grw K g H g H := ⟨fun _ _ h => h, fun _ _ h _ => h, fun _ o h => ⟨o, h⟩, fun _ _ h => h, fun _ h => .inl h, fun _ h => h, fun _ h => .inl h⟩
theorem Grw.back (h : Grw K g H g' H') {a : Addr} (e : H' a = none) : H a = none := by
  cases q : H a with
  | none => rfl
  | some o => obtain ⟨o', e'⟩ := h.trk a o q; rw [e] at e'; cases e'
theorem Grw.mem (h : Grw K g H g' H') {a : Addr} (e : a ∈ g.io) : a ∈ g'.io := by
  obtain ⟨n, q⟩ := List.mem_iff_getElem?.mp e
  exact List.mem_of_getElem? (h.ext n a q)
theorem Grw.trans (h : Grw K g H g' H') (h' : Grw K g' H' g'' H'') : Grw K g H g'' H'' where
  sq := fun a xs e => h'.sq a xs (h.sq a xs e)
  frm := fun a o e n => h'.frm a o (h.frm a o e n) fun m => (h.newI a m).elim n fun z => by rw [e] at z; cases z
  trk := fun a o e => let ⟨o', e'⟩ := h.trk a o e; h'.trk a o' e'
  ext := fun n a e => h'.ext n a (h.ext n a e)
  newI := fun a m => (h'.newI a m).elim (fun m' => h.newI a m') fun z => .inr (h.back z)
  F := fun a e => h'.F a (h.F a e)
  newF := fun a m => (h'.newF a m).elim (fun m' => h.newF a m') fun z => .inr (h.back z)
theorem SqL.grow {a : Addr} {xs : List V} (h : Grw K g H g' H') (n : a ∉ g.io) (q : SqL K H a xs) : SqL K H' a xs := by
  rcases q with (q | ⟨o, q⟩) | q
  · exact .inl (.inl (h.frm a _ q n))
  · exact .inl (.inr ⟨o, h.frm a _ q n⟩)
  · exact .inr q
theorem ArgL.grow {a : Addr} {xs : List V} (h : Grw K g H g' H') (nF : ∀ a, a ∈ g.io → ¬ g.F a) (q : ArgL K g.F H a xs) : ArgL K g'.F H' a xs := by
  rcases q with ⟨f, o, q⟩ | q
  · exact .inl ⟨h.F _ f, o, h.frm a _ q fun m => nF _ m f⟩
  · exact .inr q
mutual
theorem DR.grow (h : Grw K g H g' H') (nF : ∀ a, a ∈ g.io → ¬ g.F a) : ∀ {v : V} {d : D}, DR K g H v d → DR K g' H' v d
  | _, _, .non => .non
  | _, _, .bl b => .bl b
  | _, _, .int i => .int i
  | _, _, .str x e => .str x e
  | _, _, .tup s z r => .tup (h.sq _ _ s) z (DRs.grow h nF r)
  | _, _, .lst f s z r => .lst (h.F _ f) (h.frm _ _ s fun m => nF _ m f) z (DRs.grow h nF r)
  | _, _, .ref e => .ref (h.ext _ _ e)
  | _, _, .raw v => .raw v
  | _, _, .arg q z => .arg (q.grow h nF) z
theorem DRs.grow (h : Grw K g H g' H') (nF : ∀ a, a ∈ g.io → ¬ g.F a) : ∀ {vs : List V} {ds : List D}, DRs K g H vs ds → DRs K g' H' vs ds
  | _, _, .nil => .nil
  | _, _, .cons a b => .cons (DR.grow h nF a) (DRs.grow h nF b)
end
theorem FR.grow (h : Grw K g H g' H') (nF : ∀ a, a ∈ g.io → ¬ g.F a) {vs ds} (r : FR K g H vs ds) : FR K g' H' vs ds := by
  induction r with
  | nil => exact .nil
  | cons a _ ih => exact .cons (a.grow h nF) ih
theorem KR.grow (h : Grw K g H g' H') (nF : ∀ a, a ∈ g.io → ¬ g.F a) {vs ds} (r : KR K g H vs ds) : KR K g' H' vs ds := by
  induction r with
  | nil => exact .nil
  | cons e s a _ ih => exact .cons e s (a.grow h nF) ih

/-- a new object, no cell, not frozen -/
theorem Grw.new {p : Addr} {o : HO} (n : H p = none) : Grw K g H g (upd H p o) where
  sq := fun a xs s => by
    rcases s with (s | ⟨o', s⟩) | s
    · exact .inl (.inl (by rw [upd_ne (ne_of_none s n)]; exact s))
    · exact .inl (.inr ⟨o', by rw [upd_ne (ne_of_none s n)]; exact s⟩)
    · exact .inr s
  frm := fun a u e _ => by rw [upd_ne (ne_of_none e n)]; exact e
  trk := fun a u e => ⟨u, by rw [upd_ne (ne_of_none e n)]; exact e⟩
  ext := fun _ _ e => e
  newI := fun _ m => .inl m
  F := fun _ f => f
  newF := fun _ f => .inl f
theorem CR.grow (h : Grw K g H g' H') (nF : ∀ a, a ∈ g.io → ¬ g.F a) {a : Addr} {c : Cell} (e : H' a = H a) (r : CR K g H a c) : CR K g' H' a c := by
  cases r with
  | lst q z s => exact .lst (e.trans q) z (s.grow h nF)
  | dct q z s => exact .dct (e.trans q) z (s.grow h nF)
  | ins q s => exact .ins (e.trans q) (s.grow h nF)
theorem RelH.new {M : Mem} {p : Addr} {o : HO} (r : RelH K g M H) (n : H p = none) : RelH K g M (upd H p o) where
  len := r.len
  nd := r.nd
  cell := fun i a c e1 e2 => by
    have q := r.cell i a c e1 e2
    obtain ⟨u, hu⟩ := q.there
    exact q.grow (Grw.new n) r.nF (upd_ne (ne_of_none hu n))
  nF := r.nF
  wF := fun a f => by
    obtain ⟨u, e⟩ := r.wF a f
    exact ⟨u, by rw [upd_ne (ne_of_none e n)]; exact e⟩

/-- a new list that is frozen -/
def Gh.frz (g : Gh) (p : Addr) : Gh := ⟨g.io, fun a => a = p ∨ g.F a⟩
theorem Grw.frz {p : Addr} {o : HO} (n : H p = none) : Grw K g H (g.frz p) (upd H p o) where
  sq := (Grw.new (g := g) n).sq
  frm := (Grw.new (K := K) (g := g) n).frm
  trk := (Grw.new (K := K) (g := g) n).trk
  ext := fun _ _ e => e
  newI := fun _ m => .inl m
  F := fun _ f => .inr f
  newF := fun a f => f.elim (fun e => .inr (by rw [e]; exact n)) .inl
theorem RelH.frz {M : Mem} {p : Addr} {o : HO} (r : RelH K g M H) (n : H p = none) : RelH K (g.frz p) M (upd H p o) where
  len := r.len
  nd := r.nd
  cell := fun i a c e1 e2 => by
    have q := r.cell i a c e1 e2
    obtain ⟨u, hu⟩ := q.there
    exact q.grow (Grw.frz n) r.nF (upd_ne (ne_of_none hu n))
  nF := fun a m f => f.elim (fun e => by
    obtain ⟨i, q⟩ := List.mem_iff_getElem?.mp m
    have hi : i < M.length := by rw [← r.len]; exact (List.getElem?_eq_some_iff.mp q).1
    obtain ⟨u, hu⟩ := (r.cell i a _ q (List.getElem?_eq_getElem hi)).there
    rw [e, n] at hu; cases hu) (r.nF a m)
  wF := fun a f => f.elim (fun e => ⟨o, by rw [e]; exact upd_same⟩) fun f => by
    obtain ⟨u, e⟩ := r.wF a f
    exact ⟨u, by rw [upd_ne (ne_of_none e n)]; exact e⟩
theorem RelH.at_ {M : Mem} {n : Nat} {c : Cell} (r : RelH K g M H) (e : M[n]? = some c) : ∃ a, g.io[n]? = some a ∧ CR K g H a c := by
  have hi : n < g.io.length := by rw [r.len]; exact (List.getElem?_eq_some_iff.mp e).1
  exact ⟨g.io[n], List.getElem?_eq_getElem hi, r.cell n _ c (List.getElem?_eq_getElem hi) e⟩
theorem RelH.there {M : Mem} {a : Addr} (r : RelH K g M H) (m : a ∈ g.io) : ∃ o, H a = some o := by
  obtain ⟨i, q⟩ := List.mem_iff_getElem?.mp m
  have hi : i < M.length := by rw [← r.len]; exact (List.getElem?_eq_some_iff.mp q).1
  exact (r.cell i a _ q (List.getElem?_eq_getElem hi)).there

/-- a new cell -/
def Gh.add (g : Gh) (p : Addr) : Gh := ⟨g.io ++ [p], g.F⟩
theorem Grw.add {p : Addr} {o : HO} (n : H p = none) : Grw K g H (g.add p) (upd H p o) where
  sq := (Grw.new (g := g) n).sq
  frm := (Grw.new (K := K) (g := g) n).frm
  trk := (Grw.new (K := K) (g := g) n).trk
  ext := fun i a e => by
    have hi := (List.getElem?_eq_some_iff.mp e).1
    show (g.io ++ [p])[i]? = some a
    rw [List.getElem?_append_left hi]; exact e
  newI := fun a m => by
    rcases List.mem_append.mp m with m | m
    · exact .inl m
    · have e : a = p := by simpa using m
      exact .inr (by rw [e]; exact n)
  F := fun _ f => f
  newF := fun _ f => .inl f
theorem RelH.add {M : Mem} {p : Addr} {o : HO} {c : Cell} (r : RelH K g M H) (n : H p = none) (new : CR K (g.add p) (upd H p o) p c) : RelH K (g.add p) (M ++ [c]) (upd H p o) where
  len := by show (g.io ++ [p]).length = _; simp [r.len]
  nd := by
    show (g.io ++ [p]).Nodup
    refine List.nodup_append.mpr ⟨r.nd, by simp, fun a m b m' e => ?_⟩
    have eb : b = p := by simpa using m'
    obtain ⟨u, hu⟩ := r.there m
    rw [e, eb, n] at hu; cases hu
  cell := fun i a c' e1 e2 => by
    have e1 : (g.io ++ [p])[i]? = some a := e1
    by_cases hi : i < g.io.length
    · rw [List.getElem?_append_left hi] at e1
      rw [List.getElem?_append_left (by rw [← r.len]; exact hi)] at e2
      have q := r.cell i a c' e1 e2
      obtain ⟨u, hu⟩ := q.there
      exact q.grow (Grw.add n) r.nF (upd_ne (ne_of_none hu n))
    · have hi' : i = g.io.length := by
        have := (List.getElem?_eq_some_iff.mp e1).1
        simp at this; omega
      rw [hi', List.getElem?_append_right (Nat.le_refl _)] at e1
      rw [hi', r.len, List.getElem?_append_right (Nat.le_refl _)] at e2
      simp at e1 e2
      subst e1 e2
      exact new
  nF := fun a m f => by
    rcases List.mem_append.mp m with m | m
    · exact r.nF a m f
    · have e : a = p := by simpa using m
      obtain ⟨u, hu⟩ := r.wF a f
      rw [e, n] at hu; cases hu
  wF := fun a f => by
    obtain ⟨u, e⟩ := r.wF a f
    exact ⟨u, by rw [upd_ne (ne_of_none e n)]; exact e⟩
theorem RelH.last {M : Mem} {p : Addr} (r : RelH K g M H) : (g.add p).io[M.length]? = some p := by
  show (g.io ++ [p])[M.length]? = some p
  rw [← r.len, List.getElem?_append_right (Nat.le_refl _)]; simp

/-- a cell changed -/
theorem Grw.put {a : Addr} {o o' : HO} (m : a ∈ g.io) (e : H a = some o) (nt : ∀ xs, o ≠ .tup xs) (nz : ∀ b u, o ≠ .frz b u) : Grw K g H g (upd H a o') where
  sq := fun b xs s => by
    rcases s with (s | ⟨o', s⟩) | s
    · exact .inl (.inl (by rw [upd_ne (ne_of s e (fun q => nt _ q.symm))]; exact s))
    · exact .inl (.inr ⟨o', by rw [upd_ne (ne_of s e (fun q => nz _ _ q.symm))]; exact s⟩)
    · exact .inr s
  frm := fun b u q n => by rw [upd_ne (fun z => n (by rw [z]; exact m))]; exact q
  trk := fun b u q => by
    by_cases z : b = a
    · exact ⟨o', by rw [z]; exact upd_same⟩
    · exact ⟨u, by rw [upd_ne z]; exact q⟩
  ext := fun _ _ e => e
  newI := fun _ m => .inl m
  F := fun _ f => f
  newF := fun _ f => .inl f
theorem RelH.put {M : Mem} {n : Nat} {a : Addr} {o o' : HO} {c : Cell} (r : RelH K g M H) (m : g.io[n]? = some a) (e : H a = some o) (nt : ∀ xs, o ≠ .tup xs) (nz : ∀ b u, o ≠ .frz b u)
    (new : CR K g (upd H a o') a c) : RelH K g (M.set n c) (upd H a o') where
  len := by simp [r.len]
  nd := r.nd
  cell := fun i b c' e1 e2 => by
    have mm := List.mem_of_getElem? m
    by_cases hi : n = i
    · subst hi
      have hl : n < M.length := by rw [← r.len]; exact (List.getElem?_eq_some_iff.mp m).1
      rw [List.getElem?_set_self hl] at e2
      rw [m] at e1
      cases e1; cases e2
      exact new
    · rw [List.getElem?_set_ne hi] at e2
      have q := r.cell i b c' e1 e2
      refine q.grow (Grw.put mm e nt nz) r.nF (upd_ne fun z => hi ?_)
      rw [z] at e1
      have h1 := List.getElem?_eq_some_iff.mp e1
      have h2 := List.getElem?_eq_some_iff.mp m
      obtain ⟨l1, q1⟩ := h1
      obtain ⟨l2, q2⟩ := h2
      exact (List.getElem_inj r.nd).mp (q2.trans q1.symm)
  nF := r.nF
  wF := fun b f => by
    obtain ⟨u, q⟩ := r.wF b f
    by_cases z : b = a
    · exact ⟨o', by rw [z]; exact upd_same⟩
    · exact ⟨u, by rw [upd_ne z]; exact q⟩

/-! ### outcomes and readings -/
/-- what is wanted of an exception -/
def XP (K : PySem.W.Frag) (E : XK) (g : Gh) (H : Hp) (C : Addr) (fs : Option (List (Str × D))) (M' : Mem) : Prop :=
  ∀ g' H', Grw K g H g' H' → RelH K g' M' H' → match fs with
    | none => E (.ref C) none H'
    | some fs => ∀ dx vs, H' dx = some (.xd vs) → FR K g' H' vs fs → E (.ref C) (some dx) H'
def Pg {α β : Type} (K : PySem.W.Frag) (E : XK) (rep : Gh → Hp → α → β → Prop) (g : Gh) (H : Hp) (r : Res β) (Q : α → Hp → Prop) : Prop := match r with
  | .ok d M' => ∀ g' H' v, Grw K g H g' H' → RelH K g' M' H' → rep g' H' v d → Q v H'
  | .exc C fs M' => XP K E g H C fs M'
  | .stuck => False
theorem XP.base {E : XK} {C : Addr} {fs : Option (List (Str × D))} {M' : Mem} (h : XP K E g H C fs M') (gr : Grw K g H g' H') : XP K E g' H' C fs M' :=
  fun g2 H2 a b => h g2 H2 (gr.trans a) b
theorem Pg.base {α β : Type} {E : XK} {rep : Gh → Hp → α → β → Prop} {r : Res β} {Q : α → Hp → Prop} (h : Pg K E rep g H r Q) (gr : Grw K g H g' H') : Pg K E rep g' H' r Q := by
  cases r with
  | ok d M' => exact fun g2 H2 v a b c => h g2 H2 v (gr.trans a) b c
  | exc C fs M' => exact XP.base h gr
  | stuck => exact h
theorem Pg.bind {α β γ δ : Type} {E : XK} {rep1 : Gh → Hp → α → β → Prop} {rep2 : Gh → Hp → γ → δ → Prop} {r : Res β} {k : β → Mem → Res δ} {Q1 : α → Hp → Prop} {Q : γ → Hp → Prop} (h : Pg K E rep2 g H (r.bind k) Q)
    (step : ∀ d M1 g1 H1 v, r = .ok d M1 → Grw K g H g1 H1 → RelH K g1 M1 H1 → rep1 g1 H1 v d → Pg K E rep2 g1 H1 (k d M1) Q → Q1 v H1) : Pg K E rep1 g H r Q1 := by
  cases r with
  | ok d M' => exact fun g2 H2 v a b c => step d M' g2 H2 v rfl a b c (Pg.base h a)
  | exc C fs M' => exact h
  | stuck => exact h
/-- the same, where the outcome itself comes first -/
theorem Pg.pre {α β γ δ : Type} {E : XK} {rep1 : Gh → Hp → α → β → Prop} {rep2 : Gh → Hp → γ → δ → Prop} {r : Res β} {k : β → Mem → Res δ} {Q1 : α → Hp → Prop} {Q : γ → Hp → Prop} (h : Pg K E rep2 g H (r.bind k) Q)
    (step : ∀ d M1 g1 H1 v, r = .ok d M1 → Grw K g H g1 H1 → RelH K g1 M1 H1 → rep1 g1 H1 v d → Pg K E rep2 g1 H1 (k d M1) Q → Q1 v H1) : Pg K E rep1 g H r Q1 := Pg.bind h step
/-- the end of a step: a value told -/
theorem Pg.fin {α β : Type} {E : XK} {rep : Gh → Hp → α → β → Prop} {d : β} {M : Mem} {Q : α → Hp → Prop} {v : α} (h : Pg K E rep g H (.ok d M) Q) (gr : Grw K g H g' H') (r : RelH K g' M H') (s : rep g' H' v d) : Q v H' := h g' H' v gr r s

abbrev repV (K : PySem.W.Frag) : Gh → Hp → V → D → Prop := fun g H v d => DR K g H v d
abbrev repB : Gh → Hp → Bool → Bool → Prop := fun _ _ b c => b = c
abbrev repA (K : PySem.W.Frag) : Gh → Hp → List V → List D → Prop := fun g H vs ds => DRs K g H vs ds

abbrev Slots := List (Option D)
/-- the slots stand for the names -/
structure Rel (K : PySem.W.Frag) (g : Gh) (ρ : Slots) (M : Mem) (σ : St) (H : Hp) : Prop where
  h : RelH K g M H
  s : ∀ (i : Nat) (d : D), ρ[i]? = some (some d) → ∃ v, σ[i]? = some (some v) ∧ DR K g H v d
  len : ρ.length = σ.length
theorem Rel.grow {ρ : Slots} {M M' : Mem} {σ : St} (r : Rel K g ρ M σ H) (gr : Grw K g H g' H') (h : RelH K g' M' H') : Rel K g' ρ M' σ H' :=
  ⟨h, fun i d e => let ⟨v, q, x⟩ := r.s i d e; ⟨v, q, x.grow gr r.h.nF⟩, r.len⟩
theorem Rel.set {ρ : Slots} {M : Mem} {σ : St} {v : V} {d : D} (r : Rel K g ρ M σ H) (i : Nat) (x : DR K g H v d) : Rel K g (ρ.set i (some d)) M (σ.set i (some v)) H :=
  ⟨r.h, fun j e q => by
    by_cases hj : i = j
    · subst hj
      by_cases hl : i < ρ.length
      · rw [List.getElem?_set_self hl] at q
        cases q
        exact ⟨v, by rw [List.getElem?_set_self (by rw [← r.len]; exact hl)], x⟩
      · rw [List.getElem?_eq_none (by simpa using hl)] at q; cases q
    · rw [List.getElem?_set_ne hj] at q
      rw [List.getElem?_set_ne hj]
      exact r.s j e q, by simp [r.len]⟩
/-- forgetting a slot -/
theorem Rel.unset {ρ : Slots} {M : Mem} {σ : St} (r : Rel K g ρ M σ H) (i : Nat) (o : Option V) : Rel K g (ρ.set i none) M (σ.set i o) H :=
  ⟨r.h, fun j e q => by
    by_cases hj : i = j
    · subst hj
      by_cases hl : i < ρ.length
      · rw [List.getElem?_set_self hl] at q; cases q
      · rw [List.getElem?_eq_none (by simpa using hl)] at q; cases q
    · rw [List.getElem?_set_ne hj] at q
      rw [List.getElem?_set_ne hj]
      exact r.s j e q, by simp [r.len]⟩

/-- what an expression, a test, arguments make of slots and memory -/
abbrev Ev := Slots → Mem → Res D
abbrev EvT := Slots → Mem → Res Bool
abbrev EvA := Slots → Mem → Res (List D)
def RD (K : PySem.W.Frag) (E : XK) (f : Ev) : TE := fun σ H Q => ∃ g ρ M, Rel K g ρ M σ H ∧ Pg K E (repV K) g H (f ρ M) Q
def RT (K : PySem.W.Frag) (E : XK) (f : EvT) : TT := fun σ H Q => ∃ g ρ M, Rel K g ρ M σ H ∧ Pg K E repB g H (f ρ M) Q
def RA (K : PySem.W.Frag) (E : XK) (f : EvA) : TA := fun σ H Q => ∃ g ρ M, Rel K g ρ M σ H ∧ Pg K E (repA K) g H (f ρ M) Q
end

section
variable {X : Cx} {E : XK}
structure GE (X : Cx) (E : XK) (e : Expr) (f : Ev) : Prop where
  pe : PE X e (RD X.K E f)
structure GT (X : Cx) (E : XK) (e : Expr) (f : EvT) : Prop where
  pt : PT X e (RT X.K E f)
structure GA (X : Cx) (E : XK) (es : List Expr) (f : EvA) : Prop where
  pa : PA X es (RA X.K E f)
theorem PE.weak {e : Expr} {t t' : TE} (h : PE X e t) (w : ∀ σ H Q, t' σ H Q → t σ H Q) : PE X e t' := ⟨fun pins s σ H Q I q => h.run pins s σ H Q I (w σ H Q q)⟩
theorem PT.weak {e : Expr} {t t' : TT} (h : PT X e t) (w : ∀ σ H Q, t' σ H Q → t σ H Q) : PT X e t' := ⟨fun pins s σ H Q I q => h.run pins s σ H Q I (w σ H Q q)⟩
theorem PA.weak {e : List Expr} {t t' : TA} (h : PA X e t) (w : ∀ σ H Q, t' σ H Q → t σ H Q) : PA X e t' := ⟨fun pos pins s σ H Q I q => h.run pos pins s σ H Q I (w σ H Q q)⟩
theorem PS.weak {e : Stmt} {t t' : TS} (h : PS X e t) (w : ∀ D σ H, t' D σ H → t D σ H) : PS X e t' := ⟨fun pins s σ H D I q => h.run pins s σ H D I (w D σ H q)⟩
theorem PSs.weak {e : List Stmt} {t t' : TS} (h : PSs X e t) (w : ∀ D σ H, t' D σ H → t D σ H) : PSs X e t' := ⟨fun pins s σ H D I q => h.run pins s σ H D I (w D σ H q)⟩
end
end G
/-! G1: expressions. -/
namespace G
open PySem L2

/-! ### reading data -/
def cellL : Option Cell → Option (List D)
  | some (.lst xs) => some xs
  | _ => none
def lstOf (M : Mem) : D → Option (List D)
  | .lst xs => some xs
  | .ref n => cellL M[n]?
  | _ => none
def seqOf (M : Mem) : D → Option (List D)
  | .tup xs => some xs
  | d => lstOf M d
/-- a list's cell as the list that it holds -/
def vw (M : Mem) (d : D) : D := match d with
  | .ref n => match cellL M[n]? with
    | some xs => .lst xs
    | none => .ref n
  | d => d
theorem cellL_some {c : Option Cell} {xs : List D} (h : cellL c = some xs) : c = some (.lst xs) := by
  cases c with
  | none => cases h
  | some c => cases c with
    | lst ys => cases h; rfl
    | _ => cases h
mutual
def pyOf : D → Option PyData
  | .non => some .none
  | .bl b => some (.bool b)
  | .int i => some (.int i)
  | .str x => some (.str x)
  | .tup xs => (pyAll xs).map .tuple
  | .lst xs => (pyAll xs).map .list
  | .ref _ => none
  | .raw _ => none
  | .arg _ => none
def pyAll : List D → Option (List PyData)
  | [] => some []
  | x :: xs => match pyOf x, pyAll xs with
    | some p, some ps => some (p :: ps)
    | _, _ => none
end
section
variable {K : PySem.W.Frag} {g g' : Gh} {H H' : Hp} {M : Mem} {v w : V} {d e : D} {vs : List V} {ds : List D}
theorem DR.lstOf (h : DR K g H v d) (r : RelH K g M H) (e : lstOf M d = some ds) : ∃ a xs, v = .ref a ∧ H a = some (.lst xs) ∧ xs.length ≤ sizeLine ∧ DRs K g H xs ds := by
  cases h with
  | lst f s z q => cases e; exact ⟨_, _, rfl, s, z, q⟩
  | @ref n a q =>
    have hM : M[n]? = some (.lst ds) := cellL_some e
    have c := r.cell n a _ q hM
    cases c with
    | lst s z q => exact ⟨_, _, rfl, s, z, q⟩
  | _ => cases e
theorem DR.seqOf (h : DR K g H v d) (r : RelH K g M H) (e : seqOf M d = some ds) : ∃ a xs, v = .ref a ∧ (SqL K H a xs ∨ SqT K H a xs) ∧ xs.length ≤ sizeLine ∧ DRs K g H xs ds := by
  by_cases ht : ∃ xs, d = .tup xs
  · obtain ⟨xs, rfl⟩ := ht
    cases e
    cases h with
    | tup s z q => exact ⟨_, _, rfl, .inr s, z, q⟩
  · have e' : G.lstOf M d = some ds := by
      cases d with
      | tup xs => exact absurd ⟨xs, rfl⟩ ht
      | _ => exact e
    obtain ⟨a, xs, e1, e2, e3, e4⟩ := h.lstOf r e'
    exact ⟨a, xs, e1, .inl (.of e2), e3, e4⟩
theorem DR.vw (h : DR K g H v d) (r : RelH K g M H) {p : PyData} (e : pyOf (G.vw M d) = some p) : (∃ n xs a ys, d = .ref n ∧ G.vw M d = .lst xs ∧ v = .ref a ∧ H a = some (.lst ys) ∧ DRs K g H ys xs) ∨ (G.vw M d = d) := by
  cases h with
  | @ref n a q =>
    cases hM : cellL M[n]? with
    | none => exact .inr (by simp [G.vw, hM])
    | some xs =>
      have c := r.cell n a _ q (cellL_some hM)
      cases c with
      | lst s z q => exact .inl ⟨n, xs, a, _, rfl, by simp [G.vw, hM], rfl, s, q⟩
  | _ => exact .inr rfl
mutual
theorem DR.py : ∀ {v : V} {d : D} {p : PyData}, DR K g H v d → pyOf d = some p → Dp K H v p ∧ p.canLay0 = true
  | _, _, _, .non, e => by simp only [pyOf] at e; cases e; exact ⟨.non, rfl⟩
  | _, _, _, .bl b, e => by simp only [pyOf] at e; cases e; exact ⟨.bl b, rfl⟩
  | _, _, _, .int i, e => by simp only [pyOf] at e; cases e; exact ⟨.int i, rfl⟩
  | _, _, _, .str x s, e => by simp only [pyOf] at e; cases e; exact ⟨.str x, by simpa [PyData.canLay0] using s⟩
  | _, _, _, .tup (ds := ds) s z r, e => by
    simp only [pyOf] at e
    cases q : pyAll ds with
    | none => rw [q] at e; cases e
    | some ps =>
      rw [q] at e; cases e
      obtain ⟨h1, h2⟩ := DRs.py r q
      exact ⟨.tup s h1, by simpa [PyData.canLay0] using h2⟩
  | _, _, _, .lst (ds := ds) f s z r, e => by
    simp only [pyOf] at e
    cases q : pyAll ds with
    | none => rw [q] at e; cases e
    | some ps =>
      rw [q] at e; cases e
      obtain ⟨h1, h2⟩ := DRs.py r q
      exact ⟨.lst (.of s) h1, by simpa [PyData.canLay0] using h2⟩
  | _, _, _, .ref _, e => by simp [pyOf] at e
  | _, _, _, .raw _, e => by simp [pyOf] at e
  | _, _, _, .arg _ _, e => by simp [pyOf] at e
theorem DRs.py : ∀ {vs : List V} {ds : List D} {ps : List PyData}, DRs K g H vs ds → pyAll ds = some ps → DpAll K H vs ps ∧ PyData.canLayAll0 ps = true
  | _, _, _, .nil, e => by simp only [pyAll] at e; cases e; exact ⟨.nil, rfl⟩
  | _, _, _, .cons (d := d) (ds := ds) a b, e => by
    simp only [pyAll] at e
    cases q : pyOf d with
    | none => rw [q] at e; cases e
    | some p => cases q2 : pyAll ds with
      | none => rw [q, q2] at e; cases e
      | some ps =>
        rw [q, q2] at e; cases e
        obtain ⟨h1, h2⟩ := DR.py a q
        obtain ⟨h3, h4⟩ := DRs.py b q2
        exact ⟨.cons h1 h3, by simp [PyData.canLayAll0, h2, h4]⟩
end
theorem DR.pyV (h : DR K g H v d) (r : RelH K g M H) {p : PyData} (e : pyOf (G.vw M d) = some p) : Dp K H v p ∧ p.canLay0 = true := by
  rcases h.vw r e with ⟨n, xs, a, ys, rfl, e1, rfl, hs, hr⟩ | e1
  · rw [e1] at e
    simp only [pyOf] at e
    cases q : pyAll xs with
    | none => rw [q] at e; cases e
    | some ps =>
      rw [q] at e; cases e
      obtain ⟨h1, h2⟩ := hr.py q
      exact ⟨.lst (.of hs) h1, by simpa [PyData.canLay0] using h2⟩
  · rw [e1] at e
    exact h.py e
end

/-! ### what operators do -/
def OpS (K : PySem.W.Frag) (r : R2) (f : D → D → Mem → Res D) : Prop :=
  ∀ (E : XK) (g : Gh) (H : Hp) (M : Mem) (v w : V) (d e : D) (Q : VK), RelH K g M H → DR K g H v d → DR K g H w e → Pg K E (repV K) g H (f d e M) Q → r v w H Q
def UnS (K : PySem.W.Frag) (r : V → Hp → VK → Prop) (f : D → Mem → Res D) : Prop :=
  ∀ (E : XK) (g : Gh) (H : Hp) (M : Mem) (v : V) (d : D) (Q : VK), RelH K g M H → DR K g H v d → Pg K E (repV K) g H (f d M) Q → r v H Q
def CallS (K : PySem.W.Frag) (r : List V → Hp → VK → Prop) (f : List D → Mem → Res D) : Prop :=
  ∀ (E : XK) (g : Gh) (H : Hp) (M : Mem) (vs : List V) (ds : List D) (Q : VK), RelH K g M H → DRs K g H vs ds → Pg K E (repV K) g H (f ds M) Q → r vs H Q

def eLoc (i : Nat) : Ev := fun ρ M => match ρ[i]? with
  | some (some d) => .ok d M
  | _ => .stuck
def eC (d : D) : Ev := fun _ M => .ok d M
def eBin (op : D → D → Mem → Res D) (a b : Ev) : Ev := fun ρ M => (a ρ M).bind fun x M1 => (b ρ M1).bind fun y M2 => op x y M2
def eUn (op : D → Mem → Res D) (a : Ev) : Ev := fun ρ M => (a ρ M).bind fun x M1 => op x M1
def aNil : EvA := fun _ M => .ok [] M
def aCons (a : Ev) (as : EvA) : EvA := fun ρ M => (a ρ M).bind fun x M1 => (as ρ M1).bind fun xs M2 => .ok (x :: xs) M2
def eCB (f : List D → Mem → Res D) (as : EvA) : Ev := fun ρ M => (as ρ M).bind f
def eAnd (a b : Ev) : Ev := fun ρ M => (a ρ M).bind fun x M1 => match x with
  | .bl true => b ρ M1
  | .bl false => .ok (.bl false) M1
  | _ => .stuck
def eOr (a b : Ev) : Ev := fun ρ M => (a ρ M).bind fun x M1 => match x with
  | .bl true => .ok (.bl true) M1
  | .bl false => b ρ M1
  | _ => .stuck
def eNot (a : Ev) : Ev := fun ρ M => (a ρ M).bind fun x M1 => match x with
  | .bl c => .ok (.bl (!c)) M1
  | _ => .stuck
def tOf (a : Ev) : EvT := fun ρ M => (a ρ M).bind fun x M1 => match x with
  | .bl c => .ok c M1
  | _ => .stuck
def tAndG (a b : EvT) : EvT := fun ρ M => (a ρ M).bind fun x M1 => if x = true then b ρ M1 else .ok false M1
def tOrG (a b : EvT) : EvT := fun ρ M => (a ρ M).bind fun x M1 => if x = true then .ok true M1 else b ρ M1
def tNotG (a : EvT) : EvT := fun ρ M => (a ρ M).bind fun x M1 => .ok (!x) M1
def eIf (c : EvT) (a b : Ev) : Ev := fun ρ M => (c ρ M).bind fun x M1 => if x = true then a ρ M1 else b ρ M1
/-- truth -/
def truth (M : Mem) : D → Option Bool
  | .non => some false
  | .bl b => some b
  | .int i => some (i != 0)
  | .str x => if x.length ≤ 1000000 then some ((x.length : Int) != 0) else none
  | .tup xs => some (!xs.isEmpty)
  | d => (lstOf M d).map fun xs => !xs.isEmpty
def tTru (a : Ev) : EvT := fun ρ M => (a ρ M).bind fun x M1 => opt (truth M1 x) fun b => .ok b M1

section
variable {X : Cx} {E : XK} {a b c e : Expr} {es : List Expr} {fa fb fc : Ev} {fas : EvA} {ga gb gc : EvT} {pos : Pos}
theorem ge_loc (i : Nat) {x : Str} (hN : X.N[i]? = some x := by rfl) (hv : Vis X.env.scope x := by first | exact Or.inl rfl | exact Or.inr (Or.inl rfl) | exact Or.inr (Or.inr rfl)) (hd : (x == ("__debug__" : Str)) = false := by decide)
    (hcd : (x == ("__classdict__" : Str)) = false := by decide) : GE X E (.Name x pos) (eLoc i) :=
  ⟨PE.weak (pe_var hN hv hd hcd) fun σ H Q ⟨g, ρ, M, r, h⟩ => by
    unfold eLoc at h
    split at h
    · rename_i d q
      obtain ⟨v, e1, e2⟩ := r.s i d q
      exact ⟨v, e1, h g H v .refl r.h e2⟩
    · exact h.elim⟩
theorem ge_c {d : D} {v : V} (h : PE X e (tC v)) (hr : ∀ g H, DR X.K g H v d) : GE X E e (eC d) :=
  ⟨PE.weak h fun σ H Q ⟨g, ρ, M, r, h⟩ => h g H v .refl r.h (hr g H)⟩
theorem ge_int {i : Int} {j} : GE X E (.Constant (.int i) j pos) (eC (.int i)) := ge_c pe_int fun _ _ => .int i
theorem ge_bl {i : Bool} {j} : GE X E (.Constant (.bool i) j pos) (eC (.bl i)) := ge_c pe_bl fun _ _ => .bl i
theorem ge_non {j} : GE X E (.Constant .none j pos) (eC .non) := ge_c pe_non fun _ _ => .non
theorem ge_str {x : Str} {j} (h : PyData.strOk x = true := by decide +kernel) : GE X E (.Constant (.str x) j pos) (eC (.str x)) := ge_c pe_str fun _ _ => .str x h

theorem RD.bin {K : PySem.W.Frag} {op : D → D → Mem → Res D} {r : R2} (hs : OpS K r op) {σ : St} {H : Hp} {Q : VK} (h : RD K E (eBin op fa fb) σ H Q) : tOp r (RD K E fa) (RD K E fb) σ H Q := by
  obtain ⟨g, ρ, M, rl, h⟩ := h
  refine ⟨g, ρ, M, rl, Pg.bind h fun d M1 g1 H1 v _ gr rh dv h => ?_⟩
  refine ⟨g1, ρ, M1, rl.grow gr rh, Pg.bind h fun d2 M2 g2 H2 w _ gr2 rh2 dw h => ?_⟩
  exact hs E g2 H2 M2 v w d d2 Q rh2 (dv.grow gr2 rh.nF) dw h
theorem ge_bin {op : Operator} {f : D → D → Mem → Res D} {r : R2} (hs : OpS X.K r f) (ho : OpR X (binaryOp op) r) (ha : GE X E a fa) (hb : GE X E b fb) : GE X E (.BinOp a op b pos) (eBin f fa fb) :=
  ⟨PE.weak (pe_op ho ha.pe hb.pe) fun σ H Q h => RD.bin hs h⟩
theorem ge_un {op : UnaryOp} {f : D → Mem → Res D} {r : V → Hp → VK → Prop} (hs : UnS X.K r f) (ho : UnR X (unaryOp op) r) (ha : GE X E a fa) : GE X E (.UnaryOp op a pos) (eUn f fa) :=
  ⟨PE.weak (pe_un ho ha.pe) fun σ H Q ⟨g, ρ, M, rl, h⟩ => ⟨g, ρ, M, rl, Pg.bind h fun d M1 g1 H1 v _ gr rh dv h => hs E g1 H1 M1 v d Q rh dv h⟩⟩
theorem ge_cmp {op : CmpOp} {f : D → D → Mem → Res D} {r : R2} (hs : OpS X.K r f) (ho : OpR X (compareOp op) r) (ha : GE X E a fa) (hb : GE X E b fb) (hm : behindInMarks op b = false := by first | exact nomark _ | rfl) : GE X E (.Compare a [op] [b] pos) (eBin f fa fb) :=
  ⟨PE.weak (pe_cmpR ho ha.pe hb.pe hm) fun σ H Q h => RD.bin hs h⟩
theorem gt_cmp {op : CmpOp} {f : D → D → Mem → Res D} {r : R2} (hs : OpS X.K r f) (ho : OpR X (compareOp op) r) (ha : GE X E a fa) (hb : GE X E b fb) (hm : behindInMarks op b = false := by first | exact nomark _ | rfl) : GT X E (.Compare a [op] [b] pos) (tOf (eBin f fa fb)) :=
  ⟨PT.weak (pt_cmpR ho ha.pe hb.pe hm) fun σ H Q ⟨g, ρ, M, rl, h⟩ => RD.bin hs ⟨g, ρ, M, rl, Pg.bind h fun d M1 g1 H1 v _ gr rh dv h => by
    cases dv with
    | bl k => exact ⟨k, rfl, h g1 H1 k .refl rh rfl⟩
    | _ => exact h.elim⟩⟩
/-- a chain of two -/
def eChain (f f' : D → D → Mem → Res D) (a b c : Ev) : Ev := fun ρ M => (a ρ M).bind fun x M1 => (b ρ M1).bind fun y M2 => (f x y M2).bind fun z M3 => match z with
  | .bl true => (c ρ M3).bind fun w M4 => f' y w M4
  | .bl false => .ok (.bl false) M3
  | _ => .stuck
end
end G
/-! G2: operators, subscripts, slices, displays, built-ins by name. -/
namespace G
open PySem L2
section
variable {K : PySem.W.Frag} {g g' : Gh} {H H' : Hp} {M : Mem} {v w : V} {d e : D} {vs : List V} {ds : List D} {E : XK} {Q : VK}
/-- a new tuple's end, a new frozen list's, a new cell's -/
theorem Pg.tup {xs : List D} {ys : List V} {p : Addr} (h : Pg K E (repV K) g H (.ok (.tup xs) M) Q) (r : RelH K g M H) (n : H p = none) (z : ys.length ≤ sizeLine) (q : DRs K g H ys xs) : Q (.ref p) (upd H p (.tup ys)) :=
  h g _ _ (Grw.new n) (r.new n) (.tup (.of upd_same) z (q.grow (Grw.new n) r.nF))
theorem Pg.lstF {xs : List D} {ys : List V} {p : Addr} (h : Pg K E (repV K) g H (.ok (.lst xs) M) Q) (r : RelH K g M H) (n : H p = none) (z : ys.length ≤ sizeLine) (q : DRs K g H ys xs) : Q (.ref p) (upd H p (.lst ys)) :=
  h (g.frz p) _ _ (Grw.frz n) (r.frz n) (.lst (.inl rfl) upd_same z (q.grow (Grw.frz n) r.nF))
theorem Pg.lstC {xs : List D} {ys : List V} {p : Addr} (h : Pg K E (repV K) g H (.ok (.ref M.length) (M ++ [.lst xs])) Q) (r : RelH K g M H) (n : H p = none) (z : ys.length ≤ sizeLine) (q : DRs K g H ys xs) : Q (.ref p) (upd H p (.lst ys)) :=
  h (g.add p) _ _ (Grw.add n) (r.add n (.lst upd_same z (q.grow (Grw.add n) r.nF))) (.ref r.last)
/-- a new list: frozen, or a cell -/
def newL (c : Bool) (xs : List D) (M : Mem) : Res D := if c = true then .ok (.ref M.length) (M ++ [.lst xs]) else .ok (.lst xs) M
@[simp] theorem newL_t (xs : List D) (M : Mem) : newL true xs M = .ok (.ref M.length) (M ++ [.lst xs]) := rfl
@[simp] theorem newL_f (xs : List D) (M : Mem) : newL false xs M = .ok (.lst xs) M := rfl
theorem Pg.lst {c : Bool} {xs : List D} {ys : List V} {p : Addr} (h : Pg K E (repV K) g H (newL c xs M) Q) (r : RelH K g M H) (n : H p = none) (z : ys.length ≤ sizeLine) (q : DRs K g H ys xs) : Q (.ref p) (upd H p (.lst ys)) := by
  cases c with
  | true => exact Pg.lstC h r n z q
  | false => exact Pg.lstF h r n z q
theorem lim_line {n : Nat} (h : n ≤ 1000000) : n ≤ sizeLine := by rw [sizeLine_eq]; omega
theorem lim_lt {n : Nat} (h : n < 1000000) : n < sizeLine := by rw [sizeLine_eq]; omega
theorem Pg.stk {α β : Type} {rep : Gh → Hp → α → β → Prop} {Q : α → Hp → Prop} (h : Pg K E rep g H (.stuck : Res β) Q) : False := h
theorem Pg.ite {α β : Type} {rep : Gh → Hp → α → β → Prop} {Q : α → Hp → Prop} {c : Prop} [Decidable c] {a : Res β} (h : Pg K E rep g H (if c then a else .stuck) Q) : c ∧ Pg K E rep g H a Q := by
  by_cases q : c
  · rw [if_pos q] at h; exact ⟨q, h⟩
  · rw [if_neg q] at h; exact h.elim
theorem Pg.opt {α β γ : Type} {rep : Gh → Hp → α → β → Prop} {Q : α → Hp → Prop} {o : Option γ} {f : γ → Res β} (h : Pg K E rep g H (opt o f) Q) : ∃ x, o = some x ∧ Pg K E rep g H (f x) Q := by
  cases o with
  | none => exact h.elim
  | some x => exact ⟨x, rfl, h⟩

/-! ### whole numbers -/
def numOp (C : Int → Int → Bool) (f : Int → Int → Int) : D → D → Mem → Res D
  | .int i, .int j, M => if C i j = true then .ok (.int (f i j)) M else .stuck
  | _, _, _ => .stuck
theorem numS {C : Int → Int → Bool} {C' : Int → Int → Prop} {f : Int → Int → Int} (hc : ∀ i j, C i j = true → C' i j) : OpS K (rI C' fun i j => .int (f i j)) (numOp C f) := by
  intro E g H M v w d e Q r dv dw h
  cases dv with
  | int i => cases dw with
    | int j =>
      obtain ⟨c, h⟩ := Pg.ite h
      exact ⟨i, j, rfl, rfl, hc _ _ c, h g H _ .refl r (.int _)⟩
    | _ => exact h.elim
  | _ => exact (Pg.stk (by cases dw <;> exact h)).elim
def subD : D → D → Mem → Res D := numOp (fun _ _ => true) fun i j => i - j
def fdivD : D → D → Mem → Res D := numOp (fun _ j => decide (0 < j ∧ j < 2 ^ 64)) fun i j => i / j
def modD : D → D → Mem → Res D := numOp (fun _ j => decide (0 < j)) fun i j => i % j
def okMul (i j : Int) : Bool := decide ((-(2 ^ 64) < i ∧ i < 2 ^ 64) ∨ (-(2 ^ 64) < j ∧ j < 2 ^ 64))
theorem okMul_ok {i j : Int} (h : okMul i j = true) : CMul i j := by
  unfold okMul at h
  unfold CMul
  exact of_decide_eq_true h
theorem subS : OpS K (rI0 fun i j => .int (i - j)) subD := fun E g H M v w d e Q r dv dw h => by
  obtain ⟨i, j, e1, e2, _, q⟩ := numS (C' := fun _ _ => True) (fun _ _ _ => trivial) E g H M v w d e Q r dv dw h
  exact ⟨i, j, e1, e2, q⟩
theorem fdivS : OpS K (rI CDivW fun i j => .int (i / j)) fdivD := numS fun i j c => by
  have c := of_decide_eq_true c
  exact wide_div (b := 64) c.1 (by omega) (by decide) (by decide)
theorem modS : OpS K (rI (fun _ j => 0 < j) fun i j => .int (i % j)) modD := numS fun i j c => of_decide_eq_true c
def negD : D → Mem → Res D
  | .int i, M => .ok (.int (-i)) M
  | _, _ => .stuck
theorem negS : UnS K (rU fun i => .int (-i)) negD := by
  intro E g H M v d Q r dv h
  cases dv with
  | int i => exact ⟨i, rfl, h g H _ .refl r (.int _)⟩
  | _ => exact h.elim

/-! ### + and * -/
def addD (c : Bool) : D → D → Mem → Res D
  | .int i, .int j, M => .ok (.int (i + j)) M
  | .str x, .str y, M => if x.length + y.length ≤ 1000000 then .ok (.str (x ++ y)) M else .stuck
  | .tup xs, .tup ys, M => if xs.length + ys.length ≤ 1000000 then .ok (.tup (xs ++ ys)) M else .stuck
  | d, e, M => opt (lstOf M d) fun xs => opt (lstOf M e) fun ys => if xs.length + ys.length ≤ 1000000 then newL c (xs ++ ys) M else .stuck
def rAddStr : R2 := fun x y H Q => ∃ i j, x = .str i ∧ y = .str j ∧ i.length + j.length ≤ sizeLine ∧ Q (.str (i ++ j)) H
def rAddG (K : PySem.W.Frag) : R2 := fun x y H Q => (rI0 fun i j => .int (i + j)) x y H Q ∨ (rAddStr x y H Q ∨ (rCatA K x y H Q ∨ rCat x y H Q))
theorem op_addG {X : Cx} : OpR X (binaryOp .Add) (rAddG X.K) := op_add.or (op_add_str.or (op_catA.or op_cat))
theorem strOk_app {x y : Str} (h : PyData.strOk x = true) (h' : PyData.strOk y = true) : PyData.strOk (x ++ y) = true := by
  have e : (x ++ y).cps = x.cps ++ y.cps := rfl
  unfold PyData.strOk at *
  rw [e, Array.all_append, h, h']
  rfl
theorem addL {c : Bool} (r : RelH K g M H) (dv : DR K g H v d) (dw : DR K g H w e) (h : Pg K E (repV K) g H (opt (lstOf M d) fun xs => opt (lstOf M e) fun ys => if xs.length + ys.length ≤ 1000000 then newL c (xs ++ ys) M else .stuck) Q) : rCat v w H Q := by
  obtain ⟨xs, e1, h⟩ := Pg.opt h
  obtain ⟨ys, e2, h⟩ := Pg.opt h
  obtain ⟨z, h⟩ := Pg.ite h
  obtain ⟨a, us, rfl, s1, z1, q1⟩ := dv.lstOf r e1
  obtain ⟨b, ws, rfl, s2, z2, q2⟩ := dw.lstOf r e2
  have hz : us.length + ws.length ≤ sizeLine := by rw [q1.length, q2.length]; exact lim_line z
  exact ⟨a, b, us, ws, rfl, rfl, s1, s2, hz, fun p n => Pg.lst h r n (by rw [List.length_append]; exact hz) (q1.append q2)⟩
theorem addS {c : Bool} : OpS K (rAddG K) (addD c) := by
  intro E g H M v w d e Q r dv dw h
  cases d with
  | int i => cases e with
    | int j =>
      cases dv; cases dw
      exact .inl ⟨i, j, rfl, rfl, h g H _ .refl r (.int _)⟩
    | _ => exact h.elim
  | str x => cases e with
    | str y =>
      cases dv with | str _ s1 => cases dw with | str _ s2 =>
      obtain ⟨z, h⟩ := Pg.ite h
      exact .inr (.inl ⟨x, y, rfl, rfl, lim_line z, h g H _ .refl r (.str _ (strOk_app s1 s2))⟩)
    | _ => exact h.elim
  | tup xs => cases e with
    | tup ys =>
      cases dv with | tup s1 z1 q1 => cases dw with | tup s2 z2 q2 =>
      obtain ⟨z, h⟩ := Pg.ite h
      have hz := lim_line z
      rw [← q1.length, ← q2.length] at hz
      refine .inr (.inr (.inl ⟨_, _, _, _, rfl, rfl, s1, s2, hz, fun e => ?_, fun _ e => ?_, fun _ _ p n => ?_⟩))
      · subst e
        cases q1
        exact h g H _ .refl r (.tup s2 z2 q2)
      · subst e
        cases q2
        rw [List.append_nil] at h
        exact h g H _ .refl r (.tup s1 z1 q1)
      · exact Pg.tup h r n (by rw [List.length_append]; exact hz) (q1.append q2)
    | _ => exact h.elim
  | lst xs => exact .inr (.inr (.inr (addL r dv dw h)))
  | ref n => exact .inr (.inr (.inr (addL r dv dw h)))
  | non => exact h.elim
  | bl _ => exact h.elim
  | raw _ => exact h.elim
  | arg _ => exact h.elim
theorem DRs.rep (h : DRs K g H vs ds) : ∀ k : Nat, DRs K g H (List.replicate k vs).flatten (List.replicate k ds).flatten
  | 0 => .nil
  | k + 1 => by
    rw [List.replicate_succ, List.replicate_succ, List.flatten_cons, List.flatten_cons]
    exact h.append (DRs.rep h k)
theorem rep_len {α : Type} (xs : List α) : ∀ k : Nat, (List.replicate k xs).flatten.length = xs.length * k
  | 0 => by simp
  | k + 1 => by rw [List.replicate_succ, List.flatten_cons, List.length_append, rep_len xs k, Nat.mul_succ, Nat.add_comm]
def repD {α : Type} (xs : List α) (k : Int) : List α := (List.replicate k.toNat xs).flatten
def mulD (c : Bool) : D → D → Mem → Res D
  | .int i, .int j, M => if okMul i j = true then .ok (.int (i * j)) M else .stuck
  | .tup xs, .int k, M => if xs ≠ [] ∧ 2 ≤ k ∧ k ≤ 1000 ∧ xs.length ≤ 1000 then .ok (.tup (repD xs k)) M else .stuck
  | d, .int k, M => opt (lstOf M d) fun xs => if -1000000 ≤ k ∧ k ≤ 1000000 ∧ xs.length * k.toNat ≤ 1000000 then newL c (repD xs k) M else .stuck
  | _, _, _ => .stuck
def rMulG (K : PySem.W.Frag) : R2 := fun x y H Q => (rI CMul fun i j => .int (i * j)) x y H Q ∨ (rRepT K x y H Q ∨ rRep x y H Q)
theorem op_mulG {X : Cx} : OpR X (binaryOp .Mult) (rMulG X.K) := op_mul.or (op_repT.or op_rep)
theorem mulL {c : Bool} {k : Int} (r : RelH K g M H) (dv : DR K g H v d) (h : Pg K E (repV K) g H (opt (lstOf M d) fun xs => if -1000000 ≤ k ∧ k ≤ 1000000 ∧ xs.length * k.toNat ≤ 1000000 then newL c (repD xs k) M else .stuck) Q) : rRep v (.int k) H Q := by
  obtain ⟨xs, e1, h⟩ := Pg.opt h
  obtain ⟨⟨z1, z2, z3⟩, h⟩ := Pg.ite h
  obtain ⟨a, us, rfl, s1, z4, q1⟩ := dv.lstOf r e1
  have hz : us.length * k.toNat ≤ sizeLine := by rw [q1.length]; exact lim_line z3
  exact ⟨a, k, us, rfl, rfl, s1, by omega, by omega, hz, fun p n => Pg.lst h r n (by rw [rep_len]; exact hz) (q1.rep _)⟩
theorem mulS {c : Bool} : OpS K (rMulG K) (mulD c) := by
  intro E g H M v w d e Q r dv dw h
  cases e with
  | int k =>
    cases dw
    cases d with
    | int i =>
      cases dv
      obtain ⟨z, h⟩ := Pg.ite h
      have z' : CMul i k := okMul_ok z
      exact .inl ⟨i, k, rfl, rfl, z', h g H _ .refl r (.int _)⟩
    | tup xs =>
      cases dv with | tup s1 z1 q1 =>
      obtain ⟨⟨c1, c2, c3, c4⟩, h⟩ := Pg.ite h
      refine .inr (.inl ⟨_, k, _, rfl, rfl, s1, fun e => c1 ?_, c2, c3, by rw [q1.length]; exact c4, fun p n => Pg.tup h r n ?_ (q1.rep _)⟩)
      · have := q1.length
        rw [e] at this
        exact List.eq_nil_of_length_eq_zero this.symm
      · rw [rep_len]
        have : _ ≤ 1000 := c4
        rw [← q1.length] at this
        have h2 := Nat.mul_le_mul this (show k.toNat ≤ 1000 by omega)
        exact lim_line h2
    | lst xs => exact .inr (.inr (mulL r dv h))
    | ref n => exact .inr (.inr (mulL r dv h))
    | non => exact h.elim
    | bl _ => exact h.elim
    | str _ => exact h.elim
    | raw _ => exact h.elim
    | arg _ => exact h.elim
  | _ => exact (Pg.stk (by cases d <;> exact h)).elim

/-! ### comparisons -/
def cmpI (f : Int → Int → Bool) : D → D → Mem → Res D
  | .int i, .int j, M => .ok (.bl (f i j)) M
  | _, _, _ => .stuck
theorem cmpS {f : Int → Int → Bool} : OpS K (rI0 fun i j => .bl (f i j)) (cmpI f) := by
  intro E g H M v w d e Q r dv dw h
  cases dv with
  | int i => cases dw with
    | int j => exact ⟨i, j, rfl, rfl, h g H _ .refl r (.bl _)⟩
    | _ => exact h.elim
  | _ => exact (Pg.stk (by cases dw <;> exact h)).elim
def ltD := cmpI fun i j => decide (i < j)
def leD := cmpI fun i j => decide (i ≤ j)
def gtD := cmpI fun i j => decide (j < i)
def geD := cmpI fun i j => decide (j ≤ i)
def eqP (M : Mem) (d e : D) : Option Bool := match pyOf (vw M d), pyOf (vw M e) with
  | some p, some q => if min p.depth q.depth ≤ 60 then some (PyData.eqv p q) else none
  | _, _ => none
def eqD (d e : D) (M : Mem) : Res D := opt (eqP M d e) fun b => .ok (.bl b) M
def neD (d e : D) (M : Mem) : Res D := opt (eqP M d e) fun b => .ok (.bl (!b)) M
def rEqG (K : PySem.W.Frag) (neg : Bool) : R2 := fun x y H Q => ∃ d e, Dp K H x d ∧ Dp K H y e ∧ d.canLay0 = true ∧ e.canLay0 = true ∧ min d.depth e.depth ≤ 60 ∧ Q (.bl (if neg then !PyData.eqv d e else PyData.eqv d e)) H
theorem op_eqG {X : Cx} (hu : X.A.units + 64 < cLine) : OpR X (compareOp .Eq) (rEqG X.K false) := by
  intro pins s σ H x y v u Q I rx ry h
  obtain ⟨d, e, hd, he, sd, se, z, q⟩ := h
  obtain ⟨as, r1⟩ := Dp.reads I d x v hd rx
  obtain ⟨bs, r2⟩ := Dp.reads I e y u he ry
  exact SeqAt.compareEq_reads r1 r2 sd se (by omega) ⟨.bl _, H, I, rfl, q⟩
theorem op_neG {X : Cx} (hu : X.A.units + 64 < cLine) : OpR X (compareOp .NotEq) (rEqG X.K true) := by
  intro pins s σ H x y v u Q I rx ry h
  obtain ⟨d, e, hd, he, sd, se, z, q⟩ := h
  obtain ⟨as, r1⟩ := Dp.reads I d x v hd rx
  obtain ⟨bs, r2⟩ := Dp.reads I e y u he ry
  exact SeqAt.compareNe_reads r1 r2 sd se (by omega) ⟨.bl _, H, I, rfl, q⟩
theorem eqP_some {b : Bool} (h : eqP M d e = some b) : ∃ p q, pyOf (vw M d) = some p ∧ pyOf (vw M e) = some q ∧ min p.depth q.depth ≤ 60 ∧ b = PyData.eqv p q := by
  unfold eqP at h
  split at h
  · rename_i p q e1 e2
    split at h
    · cases h; exact ⟨p, q, e1, e2, by assumption, rfl⟩
    · cases h
  · cases h
theorem eqS : OpS K (rEqG K false) eqD := by
  intro E g H M v w d e Q r dv dw h
  obtain ⟨b, e1, h⟩ := Pg.opt h
  obtain ⟨p, q, e2, e3, z, rfl⟩ := eqP_some e1
  obtain ⟨h1, h2⟩ := dv.pyV r e2
  obtain ⟨h3, h4⟩ := dw.pyV r e3
  exact ⟨p, q, h1, h3, h2, h4, z, h g H _ .refl r (.bl _)⟩
theorem neS : OpS K (rEqG K true) neD := by
  intro E g H M v w d e Q r dv dw h
  obtain ⟨b, e1, h⟩ := Pg.opt h
  obtain ⟨p, q, e2, e3, z, rfl⟩ := eqP_some e1
  obtain ⟨h1, h2⟩ := dv.pyV r e2
  obtain ⟨h3, h4⟩ := dw.pyV r e3
  exact ⟨p, q, h1, h3, h2, h4, z, h g H _ .refl r (.bl _)⟩
/-- is None, is True, is False -/
def isNon : D → Option Bool
  | .non => some true
  | .raw _ => none
  | _ => some false
def isD : D → D → Mem → Res D
  | d, .non, M => opt (isNon d) fun b => .ok (.bl b) M
  | .bl a, .bl b, M => .ok (.bl (decide (a = b))) M
  | _, _, _ => .stuck
def isntD : D → D → Mem → Res D
  | d, .non, M => opt (isNon d) fun b => .ok (.bl (!b)) M
  | .bl a, .bl b, M => .ok (.bl (!decide (a = b))) M
  | _, _, _ => .stuck
theorem isNon_of {b : Bool} (h : DR K g H v d) (e : isNon d = some b) : decide (v = .non) = b := by
  cases h <;> first | (cases e; rfl) | cases e
def rIsG (neg : Bool) : R2 := fun x y H Q => (y = .non ∧ Q (.bl (if neg then !decide (x = .non) else decide (x = .non))) H) ∨ ∃ a b, x = .bl a ∧ y = .bl b ∧ Q (.bl (if neg then !decide (a = b) else decide (a = b))) H
theorem op_isG {X : Cx} : OpR X (compareOp .Is) (rIsG false) := op_isN.or op_is_bl
theorem op_isntG {X : Cx} : OpR X (compareOp .IsNot) (rIsG true) := op_notN.or op_isnot_bl
theorem isS : OpS K (rIsG false) isD := by
  intro E g H M v w d e Q r dv dw h
  cases e with
  | non =>
    cases dw
    have h : Pg K E (repV K) g H (opt (isNon d) fun b => .ok (.bl b) M) Q := by cases d <;> exact h
    obtain ⟨b, e1, h⟩ := Pg.opt h
    refine .inl ⟨rfl, ?_⟩
    show Q (.bl (decide (v = .non))) H
    rw [isNon_of dv e1]
    exact h g H _ .refl r (.bl _)
  | bl b =>
    cases dw
    cases d with
    | bl a => cases dv; exact .inr ⟨a, b, rfl, rfl, h g H _ .refl r (.bl _)⟩
    | _ => exact h.elim
  | _ => exact (Pg.stk (by cases d <;> exact h)).elim
theorem isntS : OpS K (rIsG true) isntD := by
  intro E g H M v w d e Q r dv dw h
  cases e with
  | non =>
    cases dw
    have h : Pg K E (repV K) g H (opt (isNon d) fun b => .ok (.bl (!b)) M) Q := by cases d <;> exact h
    obtain ⟨b, e1, h⟩ := Pg.opt h
    refine .inl ⟨rfl, ?_⟩
    show Q (.bl (!decide (v = .non))) H
    rw [isNon_of dv e1]
    exact h g H _ .refl r (.bl _)
  | bl b =>
    cases dw
    cases d with
    | bl a => cases dv; exact .inr ⟨a, b, rfl, rfl, h g H _ .refl r (.bl _)⟩
    | _ => exact h.elim
  | _ => exact (Pg.stk (by cases d <;> exact h)).elim
end
end G
/-! G3: subscripts, slices, displays, built-ins by name, methods of lists. -/
namespace G
open PySem L2
section
variable {K : PySem.W.Frag} {g g' : Gh} {H H' : Hp} {M : Mem} {v w : V} {d e : D} {vs : List V} {ds : List D} {E : XK} {Q : VK}
theorem DRs.at (h : DRs K g H vs ds) {i : Int} (e : atI ds i = some d) : ∃ v, atI vs i = some v ∧ DR K g H v d := by
  unfold atI at e ⊢
  rw [h.length]
  cases q : ixN ds.length i with
  | none => rw [q] at e; cases e
  | some j => rw [q] at e; exact h.get e
theorem cps_ok {z : Str} (h : PyData.strOk z = true) {c : Nat} (m : c ∈ z.cps.toList) : PyData.strOk (⟨#[c]⟩ : Str) = true := by
  unfold PyData.strOk at *
  rw [← Array.all_toList] at *
  have := List.all_eq_true.mp h c m
  simpa using this
theorem atI_mem {α : Type} {xs : List α} {i : Int} {x : α} (h : atI xs i = some x) : x ∈ xs := by
  unfold atI at h
  cases q : ixN xs.length i with
  | none => rw [q] at h; cases h
  | some j => rw [q] at h; exact List.mem_of_getElem? h

/-! ### a[i] -/
def ixD : D → D → Mem → Res D
  | .str z, .int i, M => opt (atI z.cps.toList i) fun c => if z.length ≤ 1000000 then .ok (.str ⟨#[c]⟩) M else .stuck
  | d, .int i, M => opt (seqOf M d) fun xs => opt (atI xs i) fun x => .ok x M
  | _, _, _ => .stuck
theorem ixS : OpS K (rIx K) ixD := by
  intro E g H M v w d e Q r dv dw h
  cases e with
  | int i =>
    cases dw
    by_cases hz : ∃ z, d = .str z
    · obtain ⟨z, rfl⟩ := hz
      cases dv with | str _ s =>
      obtain ⟨c, e1, h⟩ := Pg.opt h
      obtain ⟨z1, h⟩ := Pg.ite h
      exact .inr (.inr ⟨z, i, c, rfl, rfl, lim_line z1, e1, h g H _ .refl r (.str _ (cps_ok s (atI_mem e1)))⟩)
    · have h : Pg K E (repV K) g H (opt (seqOf M d) fun xs => opt (atI xs i) fun x => .ok x M) Q := by
        cases d with
        | str z => exact absurd ⟨z, rfl⟩ hz
        | _ => exact h
      obtain ⟨xs, e1, h⟩ := Pg.opt h
      obtain ⟨x, e2, h⟩ := Pg.opt h
      obtain ⟨a, us, rfl, s, z, q⟩ := dv.seqOf r e1
      obtain ⟨u, e3, q3⟩ := q.at e2
      rcases s with s | s
      · exact .inl ⟨a, us, i, u, rfl, rfl, s, e3, h g H _ .refl r q3⟩
      · exact .inr (.inl ⟨a, us, i, u, rfl, rfl, s, e3, h g H _ .refl r q3⟩)
  | _ => exact (Pg.stk (by cases d <;> exact h)).elim
theorem ge_ix {X : Cx} {a b : Expr} {fa fb : Ev} {pos : Pos} (ha : GE X E a fa) (hb : GE X E b fb) (hs : PlainIx b := by exact fun _ _ => rfl) : GE X E (.Subscript a b pos) (eBin ixD fa fb) :=
  ⟨PE.weak (pe_ix ix_seq ha.pe hb.pe hs) fun σ H Q h => RD.bin ixS h⟩

/-! ### a[lo:hi] -/
abbrev EvO := Slots → Mem → Res (Option Int)
def RO (K : PySem.W.Frag) (E : XK) (f : EvO) : TO := fun σ H Q => ∃ g ρ M, Rel K g ρ M σ H ∧ Pg K E (fun _ _ o o' => o = o') g H (f ρ M) Q
structure GO (X : Cx) (E : XK) (e : Option Expr) (f : EvO) : Prop where
  po : PO X e (RO X.K E f)
theorem PO.weak {X : Cx} {e : Option Expr} {t t' : TO} (h : PO X e t) (w : ∀ σ H Q, t' σ H Q → t σ H Q) : PO X e t' := ⟨fun pins s σ H Q I q => h.run pins s σ H Q I (w σ H Q q)⟩
def oNone : EvO := fun _ M => .ok none M
def oSome (a : Ev) : EvO := fun ρ M => (a ρ M).bind fun x M1 => match x with
  | .int i => .ok (some i) M1
  | _ => .stuck
theorem go_none {X : Cx} : GO X E none oNone := ⟨PO.weak po_none fun σ H Q ⟨g, ρ, M, rl, h⟩ => h g H none .refl rl.h rfl⟩
theorem go_some {X : Cx} {a : Expr} {fa : Ev} (ha : GE X E a fa) : GO X E (some a) (oSome fa) := ⟨PO.weak (po_some ha.pe) fun σ H Q ⟨g, ρ, M, rl, h⟩ => ⟨g, ρ, M, rl, Pg.bind h fun d M1 g1 H1 v _ gr rh dv h => by
  cases dv with
  | int i => exact ⟨i, rfl, h g1 H1 _ .refl rh rfl⟩
  | _ => exact h.elim⟩⟩
/-- the items of xs[lo:hi] -/
def cutG {α : Type} (xs : List α) (lo hi : Option Int) : List α := (xs.drop (HT.sIx xs.length 0 lo)).take (HT.sIx xs.length xs.length hi - HT.sIx xs.length 0 lo)
theorem cutG_length {α : Type} (xs : List α) (lo hi : Option Int) : (cutG xs lo hi).length ≤ xs.length := by
  unfold cutG
  rw [List.length_take, List.length_drop]
  omega
theorem DRs.cut (h : DRs K g H vs ds) (lo hi : Option Int) : DRs K g H (cutV vs lo hi) (cutG ds lo hi) := by
  unfold cutV cutG
  rw [h.length]
  exact (h.drop _).take _
def slD (c : Bool) (d : D) (lo hi : Option Int) (M : Mem) : Res D := match d with
  | .tup xs => .ok (.tup (cutG xs lo hi)) M
  | .str z => if z.length ≤ 1000000 then .ok (.str (cutS z lo hi)) M else .stuck
  | .arg ns => newL c (cutG (ns.map D.int) lo hi) M
  | d => opt (lstOf M d) fun xs => newL c (cutG xs lo hi) M
def eSl (c : Bool) (a : Ev) (lo hi : EvO) : Ev := fun ρ M => (a ρ M).bind fun x M1 => (lo ρ M1).bind fun l M2 => (hi ρ M2).bind fun u M3 => slD c x l u M3
def rSlG (K : PySem.W.Frag) : V → Option Int → Option Int → Hp → VK → Prop := fun x lo hi H Q => rSlL K x lo hi H Q ∨ (rSlA K x lo hi H Q ∨ rSlS x lo hi H Q)
theorem sl_G {X : Cx} : SlR X (rSlG X.K) := sl_list.or (sl_tupA.or sl_str)
theorem cutV_all {xs : List V} {lo hi : Option Int} (h : HT.sIx xs.length 0 lo = 0 ∧ HT.sIx xs.length xs.length hi = xs.length) : cutV xs lo hi = xs := by
  unfold cutV
  rw [h.1, h.2, List.drop_zero, Nat.sub_zero, List.take_length]
theorem cutG_all {α : Type} {xs : List α} {lo hi : Option Int} (h : HT.sIx xs.length 0 lo = 0 ∧ HT.sIx xs.length xs.length hi = xs.length) : cutG xs lo hi = xs := by
  unfold cutG
  rw [h.1, h.2, List.drop_zero, Nat.sub_zero, List.take_length]
theorem strOk_cut {z : Str} {lo hi : Option Int} (h : PyData.strOk z = true) : PyData.strOk (cutS z lo hi) = true := by
  unfold PyData.strOk at *
  rw [← Array.all_toList, List.all_eq_true] at *
  intro x hx
  unfold cutS at hx
  refine h x ?_
  simp only [List.toList_toArray] at hx
  exact List.mem_of_mem_drop (List.mem_of_mem_take hx)
theorem slS {c : Bool} {lo hi : Option Int} (r : RelH K g M H) (dv : DR K g H v d) (h : Pg K E (repV K) g H (slD c d lo hi M) Q) : rSlG K v lo hi H Q := by
  have key : (h : Pg K E (repV K) g H (opt (lstOf M d) fun xs => newL c (cutG xs lo hi) M) Q) → rSlG K v lo hi H Q := fun h => by
    obtain ⟨xs, e1, h⟩ := Pg.opt h
    obtain ⟨a, us, rfl, s, z, q⟩ := dv.lstOf r e1
    exact .inl ⟨a, us, rfl, .of s, fun p n => Pg.lst h r n (Nat.le_trans (cutV_length us lo hi) z) (q.cut lo hi)⟩
  cases d with
  | tup xs =>
    cases dv with | tup s z q =>
    refine .inr (.inl ⟨_, _, rfl, s, fun hw => ?_, fun _ p n => Pg.tup h r n (Nat.le_trans (cutV_length _ lo hi) z) (q.cut lo hi)⟩)
    have hw' := hw
    rw [q.length] at hw'
    have h : Pg K E (repV K) g H (.ok (.tup (cutG xs lo hi)) M) Q := h
    rw [cutG_all hw'] at h
    exact h g H _ .refl r (.tup s z q)
  | str z =>
    cases dv with | str _ s =>
    obtain ⟨z1, h⟩ := Pg.ite h
    exact .inr (.inr ⟨z, rfl, lim_line z1, h g H _ .refl r (.str _ (strOk_cut s))⟩)
  | arg ns =>
    cases dv with | arg q z =>
    exact .inl ⟨_, _, rfl, q.sq, fun p n => Pg.lst h r n (Nat.le_trans (cutV_length _ lo hi) (by rw [List.length_map]; exact z)) ((DRs.of_ints ns).cut lo hi)⟩
  | _ => exact key h
theorem ge_sl (c : Bool) {X : Cx} {a : Expr} {lo hi : Option Expr} {fa : Ev} {fl fh : EvO} {p2 pos : Pos} (ha : GE X E a fa) (hl : GO X E lo fl) (hh : GO X E hi fh) : GE X E (.Subscript a (.Slice lo hi none p2) pos) (eSl c fa fl fh) :=
  ⟨PE.weak (pe_slice sl_G ha.pe hl.po hh.po) fun σ H Q ⟨g, ρ, M, rl, h⟩ => ⟨g, ρ, M, rl, Pg.bind h fun d M1 g1 H1 v _ gr rh dv h => ⟨g1, ρ, M1, rl.grow gr rh, Pg.bind h fun l M2 g2 H2 l' _ gr2 rh2 el h => by
    subst el
    exact ⟨g2, ρ, M2, (rl.grow gr rh).grow gr2 rh2, Pg.bind h fun u M3 g3 H3 u' _ gr3 rh3 eu h => by
      subst eu
      exact slS rh3 ((dv.grow gr2 rh.nF).grow gr3 rh2.nF) h⟩⟩⟩⟩

/-! ### displays -/
def eTup (as : EvA) : Ev := fun ρ M => (as ρ M).bind fun xs M1 => if xs.length ≤ 1000000 then .ok (.tup xs) M1 else .stuck
def eLst (c : Bool) (as : EvA) : Ev := fun ρ M => (as ρ M).bind fun xs M1 => if xs.length ≤ 1000000 then newL c xs M1 else .stuck
theorem ga_nil {X : Cx} : GA X E [] aNil := ⟨PA.weak pa_nil fun σ H Q ⟨g, ρ, M, rl, h⟩ => h g H [] .refl rl.h .nil⟩
theorem ga_cons {X : Cx} {a : Expr} {as : List Expr} {fa : Ev} {fas : EvA} (ha : GE X E a fa) (has : GA X E as fas) (hs : starEach (a :: as) X.env = (false, eval a X.env) :: starEach as X.env := by rfl) : GA X E (a :: as) (aCons fa fas) :=
  ⟨PA.weak (pa_cons ha.pe has.pa hs) fun σ H Q ⟨g, ρ, M, rl, h⟩ => ⟨g, ρ, M, rl, Pg.bind h fun d M1 g1 H1 v _ gr rh dv h => ⟨g1, ρ, M1, rl.grow gr rh, Pg.bind h fun ds M2 g2 H2 vs _ gr2 rh2 dvs h =>
    h g2 H2 _ .refl rh2 (.cons (dv.grow gr2 rh.nF) dvs)⟩⟩⟩
theorem ge_tup {X : Cx} {as : List Expr} {fas : EvA} {x1} {pos : Pos} (ha : GA X E as fas) : GE X E (.Tuple as x1 pos) (eTup fas) :=
  ⟨PE.weak (pe_tup ha.pa) fun σ H Q ⟨g, ρ, M, rl, h⟩ => ⟨g, ρ, M, rl, Pg.bind h fun ds M1 g1 H1 vs _ gr rh dvs h => by
    obtain ⟨z, h⟩ := Pg.ite h
    have hz : vs.length ≤ sizeLine := by rw [dvs.length]; exact lim_line z
    exact ⟨hz, fun p n => Pg.tup h rh n hz dvs⟩⟩⟩
theorem ge_lst (c : Bool) {X : Cx} {as : List Expr} {fas : EvA} {pos : Pos} (ha : GA X E as fas) : GE X E (.List as pos) (eLst c fas) :=
  ⟨PE.weak (pe_lst ha.pa) fun σ H Q ⟨g, ρ, M, rl, h⟩ => ⟨g, ρ, M, rl, Pg.bind h fun ds M1 g1 H1 vs _ gr rh dvs h => by
    obtain ⟨z, h⟩ := Pg.ite h
    have hz : vs.length ≤ sizeLine := by rw [dvs.length]; exact lim_line z
    exact ⟨hz, fun p n => Pg.lst h rh n hz dvs⟩⟩⟩

/-! ### and, or, not, tests -/
theorem ge_one {X : Cx} {op} {a : Expr} {fa : Ev} {pos : Pos} (ha : GE X E a fa) : GE X E (.BoolOp op [a] pos) fa := ⟨pe_one ha.pe⟩
theorem ge_and {X : Cx} {a b : Expr} {rest : List Expr} {fa fb : Ev} {pos : Pos} (ha : GE X E a fa) (hb : GE X E (.BoolOp .And (b :: rest) pos) fb) : GE X E (.BoolOp .And (a :: b :: rest) pos) (eAnd fa fb) :=
  ⟨PE.weak (pe_and ha.pe hb.pe) fun σ H Q ⟨g, ρ, M, rl, h⟩ => ⟨g, ρ, M, rl, Pg.bind h fun d M1 g1 H1 v _ gr rh dv h => by
    cases dv with
    | bl k => cases k with
      | true => exact ⟨true, rfl, (if_pos rfl).symm ▸ ⟨g1, ρ, M1, rl.grow gr rh, h⟩⟩
      | false => exact ⟨false, rfl, (if_neg Bool.false_ne_true).symm ▸ h g1 H1 _ .refl rh (.bl _)⟩
    | _ => exact h.elim⟩⟩
theorem ge_or {X : Cx} {a b : Expr} {rest : List Expr} {fa fb : Ev} {pos : Pos} (ha : GE X E a fa) (hb : GE X E (.BoolOp .Or (b :: rest) pos) fb) : GE X E (.BoolOp .Or (a :: b :: rest) pos) (eOr fa fb) :=
  ⟨PE.weak (pe_or ha.pe hb.pe) fun σ H Q ⟨g, ρ, M, rl, h⟩ => ⟨g, ρ, M, rl, Pg.bind h fun d M1 g1 H1 v _ gr rh dv h => by
    cases dv with
    | bl k => cases k with
      | true => exact ⟨true, rfl, (if_pos rfl).symm ▸ h g1 H1 _ .refl rh (.bl _)⟩
      | false => exact ⟨false, rfl, (if_neg Bool.false_ne_true).symm ▸ ⟨g1, ρ, M1, rl.grow gr rh, h⟩⟩
    | _ => exact h.elim⟩⟩
theorem ge_not {X : Cx} {a : Expr} {fa : Ev} {pos : Pos} (ha : GE X E a fa) : GE X E (.UnaryOp .Not a pos) (eNot fa) :=
  ⟨PE.weak (pe_not ha.pe) fun σ H Q ⟨g, ρ, M, rl, h⟩ => ⟨g, ρ, M, rl, Pg.bind h fun d M1 g1 H1 v _ gr rh dv h => by
    cases dv with
    | bl k => exact ⟨k, rfl, h g1 H1 _ .refl rh (.bl _)⟩
    | _ => exact h.elim⟩⟩
theorem ge_if {X : Cx} {c a b : Expr} {fc : EvT} {fa fb : Ev} {pos : Pos} (hc : GT X E c fc) (ha : GE X E a fa) (hb : GE X E b fb) : GE X E (.IfExp c a b pos) (eIf fc fa fb) :=
  ⟨PE.weak (pe_ifExp hc.pt ha.pe hb.pe) fun σ H Q ⟨g, ρ, M, rl, h⟩ => ⟨g, ρ, M, rl, Pg.bind h fun d M1 g1 H1 v _ gr rh dv h => by
    subst dv
    cases v with
    | true => exact (if_pos rfl).symm ▸ ⟨g1, ρ, M1, rl.grow gr rh, (if_pos rfl : (if true = true then fa ρ M1 else fb ρ M1) = _) ▸ h⟩
    | false => exact (if_neg Bool.false_ne_true).symm ▸ ⟨g1, ρ, M1, rl.grow gr rh, (if_neg Bool.false_ne_true : (if false = true then fa ρ M1 else fb ρ M1) = _) ▸ h⟩⟩⟩
/-- a test: its truth -/
theorem truth_ok {b : Bool} (dv : DR K g H v d) (r : RelH K g M H) (e : truth M d = some b) : TruV K v H b := by
  have key : ∀ {n : Nat}, (lstOf M d).map (fun xs => !xs.isEmpty) = some b → TruV K v H b := fun {n} e => by
    cases q : lstOf M d with
    | none => rw [q] at e; cases e
    | some xs =>
      rw [q] at e
      obtain ⟨a, us, rfl, s, z, q⟩ := dv.lstOf r q
      refine .inl ⟨us, .of s, ?_⟩
      have e : (!xs.isEmpty) = b := by simpa using e
      rw [← e]
      have := q.length
      cases us <;> cases xs <;> simp_all
  cases dv with
  | non => cases e; rfl
  | bl k => cases e; rfl
  | int i => cases e; rfl
  | str x s =>
    have e : (if x.length ≤ 1000000 then some ((x.length : Int) != 0) else none) = some b := e
    split at e
    · rename_i z
      exact ⟨lim_line z, (Option.some.inj e).symm⟩
    · cases e
  | tup s z q =>
    cases e
    refine .inr (.inl ⟨_, s, ?_⟩)
    have := q.length
    rename_i xs ds
    cases xs <;> cases ds <;> simp_all
  | lst f s z q => exact key (n := 0) e
  | ref q => exact key (n := 0) e
  | raw v => cases e
  | arg _ _ => cases e
theorem gt_val {X : Cx} {a : Expr} {fa : Ev} (ha : GE X E a fa) (he : ∀ whole, isTrue a X.env whole = (do let v ← whole; standAt a.pos; holding [v] (truthy v)) := by intro _; rfl) : GT X E a (tOf fa) :=
  ⟨PT.weak (pt_val ha.pe he) fun σ H Q ⟨g, ρ, M, rl, h⟩ => ⟨g, ρ, M, rl, Pg.bind h fun d M1 g1 H1 v _ gr rh dv h => by
    cases dv with
    | bl k => exact ⟨k, rfl, h g1 H1 _ .refl rh rfl⟩
    | _ => exact h.elim⟩⟩
theorem gt_tru {X : Cx} {a : Expr} {fa : Ev} (ha : GE X E a fa) (he : ∀ whole, isTrue a X.env whole = (do let v ← whole; standAt a.pos; holding [v] (truthy v)) := by intro _; rfl) : GT X E a (tTru fa) :=
  ⟨PT.weak (pt_truth ha.pe he) fun σ H Q ⟨g, ρ, M, rl, h⟩ => ⟨g, ρ, M, rl, Pg.bind h fun d M1 g1 H1 v _ gr rh dv h => by
    obtain ⟨b, e, h⟩ := Pg.opt h
    exact ⟨b, truth_ok dv rh e, h g1 H1 _ .refl rh rfl⟩⟩⟩
structure GW (X : Cx) (E : XK) (e : Expr) (f : EvT) : Prop where
  pw : PW X e (RT X.K E f)
theorem PW.weak {X : Cx} {e : Expr} {t t' : TT} (h : PW X e t) (w : ∀ σ H Q, t' σ H Q → t σ H Q) : PW X e t' := ⟨fun wh pins s σ H Q I q => h.run wh pins s σ H Q I (w σ H Q q)⟩
theorem GW.gt {X : Cx} {e : Expr} {f : EvT} (h : GW X E e f) : GT X E e f := ⟨h.pw.pt⟩
theorem gw_and1 {X : Cx} {a : Expr} {f : EvT} {pos : Pos} (h : GT X E a f) : GW X E (.BoolOp .And [a] pos) f := ⟨pw_and1 h.pt⟩
theorem gw_or1 {X : Cx} {a : Expr} {f : EvT} {pos : Pos} (h : GT X E a f) : GW X E (.BoolOp .Or [a] pos) f := ⟨pw_or1 h.pt⟩
theorem gw_and {X : Cx} {a b : Expr} {rest : List Expr} {fa fb : EvT} {pos : Pos} (ha : GT X E a fa) (hb : GW X E (.BoolOp .And (b :: rest) pos) fb) : GW X E (.BoolOp .And (a :: b :: rest) pos) (tAndG fa fb) :=
  ⟨PW.weak (pw_and ha.pt hb.pw) fun σ H Q ⟨g, ρ, M, rl, h⟩ => ⟨g, ρ, M, rl, Pg.bind h fun d M1 g1 H1 v _ gr rh dv h => by
    subst dv
    cases v with
    | true => exact (if_pos rfl).symm ▸ ⟨g1, ρ, M1, rl.grow gr rh, (if_pos rfl : (if true = true then fb ρ M1 else .ok false M1) = _) ▸ h⟩
    | false => exact (if_neg Bool.false_ne_true).symm ▸ (((if_neg Bool.false_ne_true : (if false = true then fb ρ M1 else .ok false M1) = _) ▸ h : Pg X.K E repB g1 H1 (.ok false M1) Q)) g1 H1 _ .refl rh rfl⟩⟩
theorem gw_or {X : Cx} {a b : Expr} {rest : List Expr} {fa fb : EvT} {pos : Pos} (ha : GT X E a fa) (hb : GW X E (.BoolOp .Or (b :: rest) pos) fb) : GW X E (.BoolOp .Or (a :: b :: rest) pos) (tOrG fa fb) :=
  ⟨PW.weak (pw_or ha.pt hb.pw) fun σ H Q ⟨g, ρ, M, rl, h⟩ => ⟨g, ρ, M, rl, Pg.bind h fun d M1 g1 H1 v _ gr rh dv h => by
    subst dv
    cases v with
    | true => exact (if_pos rfl).symm ▸ (((if_pos rfl : (if true = true then .ok true M1 else fb ρ M1) = _) ▸ h : Pg X.K E repB g1 H1 (.ok true M1) Q)) g1 H1 _ .refl rh rfl
    | false => exact (if_neg Bool.false_ne_true).symm ▸ ⟨g1, ρ, M1, rl.grow gr rh, (if_neg Bool.false_ne_true : (if false = true then .ok true M1 else fb ρ M1) = _) ▸ h⟩⟩⟩
theorem gt_not {X : Cx} {a : Expr} {fa : EvT} {pos : Pos} (ha : GT X E a fa) : GT X E (.UnaryOp .Not a pos) (tNotG fa) :=
  ⟨PT.weak (pt_not ha.pt) fun σ H Q ⟨g, ρ, M, rl, h⟩ => ⟨g, ρ, M, rl, Pg.bind h fun d M1 g1 H1 v _ gr rh dv h => by
    subst dv
    exact h g1 H1 _ .refl rh rfl⟩⟩

/-! ### chains -/
theorem RD.chain {f f' : D → D → Mem → Res D} {r r' : R2} {fa fb fc : Ev} (hs : OpS K r f) (hs' : OpS K r' f') {σ : St} {H : Hp} {Q : VK} (h : RD K E (eChain f f' fa fb fc) σ H Q) : tChain r r' (RD K E fa) (RD K E fb) (RD K E fc) σ H Q := by
  obtain ⟨g, ρ, M, rl, h⟩ := h
  refine ⟨g, ρ, M, rl, Pg.bind h fun d M1 g1 H1 v _ gr rh dv h => ?_⟩
  refine ⟨g1, ρ, M1, rl.grow gr rh, Pg.bind h fun d2 M2 g2 H2 w _ gr2 rh2 dw h => ?_⟩
  refine hs E g2 H2 M2 v w d d2 _ rh2 (dv.grow gr2 rh.nF) dw (Pg.pre h fun z M3 g3 H3 u _ gr3 rh3 dz h => ?_)
  cases dz with
  | bl k => cases k with
    | true => exact ⟨true, rfl, (if_pos rfl).symm ▸ ⟨g3, ρ, M3, ((rl.grow gr rh).grow gr2 rh2).grow gr3 rh3, Pg.bind h fun e M4 g4 H4 y _ gr4 rh4 dy h => hs' E g4 H4 M4 w y d2 e Q rh4 ((dw.grow gr3 rh2.nF).grow gr4 rh3.nF) dy h⟩⟩
    | false => exact ⟨false, rfl, (if_neg Bool.false_ne_true).symm ▸ h g3 H3 _ .refl rh3 (.bl _)⟩
  | _ => exact h.elim
theorem ge_chain {X : Cx} {op op' : CmpOp} {f f' : D → D → Mem → Res D} {r r' : R2} {a b c : Expr} {fa fb fc : Ev} {pos : Pos} (hs : OpS X.K r f) (ho : OpR X (compareOp op) r) (hs' : OpS X.K r' f') (ho' : OpR X (compareOp op') r')
    (ha : GE X E a fa) (hb : GE X E b fb) (hc : GE X E c fc) (hm : lastMarks [op, op'] [b, c] = false := by with_unfolding_all rfl) : GE X E (.Compare a [op, op'] [b, c] pos) (eChain f f' fa fb fc) :=
  ⟨PE.weak (pe_chain ho ho' ha.pe hb.pe hc.pe hm) fun σ H Q h => RD.chain hs hs' h⟩
theorem gt_chain {X : Cx} {op op' : CmpOp} {f f' : D → D → Mem → Res D} {r r' : R2} {a b c : Expr} {fa fb fc : Ev} {pos : Pos} (hs : OpS X.K r f) (ho : OpR X (compareOp op) r) (hs' : OpS X.K r' f') (ho' : OpR X (compareOp op') r')
    (ha : GE X E a fa) (hb : GE X E b fb) (hc : GE X E c fc) (hm : lastMarks [op, op'] [b, c] = false := by with_unfolding_all rfl) : GT X E (.Compare a [op, op'] [b, c] pos) (tOf (eChain f f' fa fb fc)) :=
  ⟨PT.weak (pt_chain ho ho' ha.pe hb.pe hc.pe hm) fun σ H Q ⟨g, ρ, M, rl, h⟩ => RD.chain (E := E) hs hs' ⟨g, ρ, M, rl, Pg.bind h fun d M1 g1 H1 v _ gr rh dv h => by
    cases dv with
    | bl k => exact ⟨k, rfl, h g1 H1 k .refl rh rfl⟩
    | _ => exact h.elim⟩⟩
end
end G
/-! G4: built-ins by name, methods of lists. -/
namespace G
open PySem L2
section
variable {K : PySem.W.Frag} {g g' : Gh} {H H' : Hp} {M : Mem} {v w : V} {d e : D} {vs : List V} {ds : List D} {E : XK} {Q : VK}
theorem ge_callB {X : Cx} {x : Str} {p pos : Pos} {e : Expr} {es : List Expr} {fas : EvA} {id : String} {r : List V → Hp → VK → Prop} {f : List D → Mem → Res D} (hs : CallS X.K r f) (hc : CallR X (.builtin id) r) (hg : Gl X x) (hm : X.mg x = none) (hv : bootBuiltins x = some (.builtin id)) (ha : GA X E (e :: es) fas)
    (hn : x ≠ "__name__" := by decide) (hdb : (x == ("__debug__" : Str)) = false := by decide)
    (he : starEach (e :: es) X.env = (false, eval e X.env) :: starEach es X.env := by rfl) (hpl : (backTo pos (starEach es X.env)).any (·.1) = false := by rfl) : GE X E (.Call (.Name x p) (e :: es) [] pos) (eCB f fas) :=
  ⟨PE.weak (pe_callB hc hg hm hv ha.pa hn hdb he hpl) fun σ H Q ⟨g, ρ, M, rl, h⟩ => ⟨g, ρ, M, rl, Pg.bind h fun ds M1 g1 H1 vs _ gr rh dvs h => hs E g1 H1 M1 vs ds Q rh dvs h⟩⟩
theorem ge_callTy {X : Cx} {x : Str} {p pos : Pos} {e : Expr} {es : List Expr} {fas : EvA} {T : String} {r : List V → Hp → VK → Prop} {f : List D → Mem → Res D} (hs : CallS X.K r f) (hc : CallR X (.type T) r) (hg : Gl X x) (hm : X.mg x = none) (hv : bootBuiltins x = some (.type T)) (ha : GA X E (e :: es) fas)
    (hn : x ≠ "__name__" := by decide) (hdb : (x == ("__debug__" : Str)) = false := by decide)
    (he : starEach (e :: es) X.env = (false, eval e X.env) :: starEach es X.env := by rfl) (hpl : (backTo pos (starEach es X.env)).any (·.1) = false := by rfl) : GE X E (.Call (.Name x p) (e :: es) [] pos) (eCB f fas) :=
  ⟨PE.weak (pe_callTy hc hg hm hv ha.pa hn hdb he hpl) fun σ H Q ⟨g, ρ, M, rl, h⟩ => ⟨g, ρ, M, rl, Pg.bind h fun ds M1 g1 H1 vs _ gr rh dvs h => hs E g1 H1 M1 vs ds Q rh dvs h⟩⟩
theorem DRs.one_of (h : DRs K g H vs [d]) : ∃ v, vs = [v] ∧ DR K g H v d := by
  cases h with | cons a b => cases b; exact ⟨_, rfl, a⟩
theorem DRs.two_of (h : DRs K g H vs [d, e]) : ∃ v w, vs = [v, w] ∧ DR K g H v d ∧ DR K g H w e := by
  cases h with | cons a b => cases b with | cons b c => cases c; exact ⟨_, _, rfl, a, b⟩

def len1 : D → Mem → Res D
  | .str z, M => if z.length ≤ 1000000 then .ok (.int z.length) M else .stuck
  | .arg ns, M => .ok (.int ns.length) M
  | d, M => opt (seqOf M d) fun xs => .ok (.int xs.length) M
def lenD : List D → Mem → Res D
  | [d], M => len1 d M
  | _, _ => .stuck
abbrev rLen (K : PySem.W.Frag) : List V → Hp → VK → Prop := fun xs H Q => ∃ x n, xs = [x] ∧ LenV K x H n ∧ Q (.int n) H
theorem lenS : CallS K (rLen K) lenD := by
  intro E g H M vs ds Q r dvs h
  match ds, h with
  | [], h => exact h.elim
  | [d], h =>
    obtain ⟨v, rfl, dv⟩ := dvs.one_of
    by_cases hz : ∃ z, d = .str z
    · obtain ⟨z, rfl⟩ := hz
      cases dv with | str _ s =>
      obtain ⟨z1, h⟩ := Pg.ite h
      exact ⟨_, _, rfl, ⟨lim_line z1, rfl⟩, h g H _ .refl r (.int _)⟩
    · by_cases ha : ∃ ns, d = .arg ns
      · obtain ⟨ns, rfl⟩ := ha
        cases dv with | arg q z =>
        exact ⟨_, (ns.map V.int).length, rfl, .inl ⟨_, q.sq, rfl⟩, by rw [List.length_map]; exact h g H _ .refl r (.int _)⟩
      have h : Pg K E (repV K) g H (opt (seqOf M d) fun xs => .ok (.int xs.length) M) Q := by
        cases d with
        | str z => exact absurd ⟨z, rfl⟩ hz
        | arg ns => exact absurd ⟨ns, rfl⟩ ha
        | _ => exact h
      obtain ⟨xs, e1, h⟩ := Pg.opt h
      obtain ⟨a, us, rfl, s, z, q⟩ := dv.seqOf r e1
      refine ⟨_, us.length, rfl, ?_, ?_⟩
      · rcases s with s | s
        · exact .inl ⟨us, s, rfl⟩
        · exact .inr ⟨us, s, rfl⟩
      · rw [q.length]; exact h g H _ .refl r (.int _)
  | _ :: _ :: _, h => exact h.elim
def absD : List D → Mem → Res D
  | [.int i], M => .ok (.int (if i < 0 then -i else i)) M
  | _, _ => .stuck
theorem absS : CallS K (fun xs H Q => ∃ i, xs = [.int i] ∧ Q (.int (if i < 0 then -i else i)) H) absD := by
  intro E g H M vs ds Q r dvs h
  unfold absD at h
  split at h
  · obtain ⟨v, rfl, dv⟩ := dvs.one_of
    cases dv
    exact ⟨_, rfl, h g H _ .refl r (.int _)⟩
  · exact h.elim
def max2D : List D → Mem → Res D
  | [.int i, .int j], M => .ok (.int (if j > i then j else i)) M
  | _, _ => .stuck
theorem max2S : CallS K (fun xs H Q => ∃ i j, xs = [.int i, .int j] ∧ Q (.int (if j > i then j else i)) H) max2D := by
  intro E g H M vs ds Q r dvs h
  unfold max2D at h
  split at h
  · obtain ⟨v, w, rfl, dv, dw⟩ := dvs.two_of
    cases dv; cases dw
    exact ⟨_, _, rfl, h g H _ .refl r (.int _)⟩
  · exact h.elim
def min2D : List D → Mem → Res D
  | [.int i, .int j], M => .ok (.int (if j < i then j else i)) M
  | _, _ => .stuck
theorem min2S : CallS K (fun xs H Q => ∃ i j, xs = [.int i, .int j] ∧ Q (.int (if j < i then j else i)) H) min2D := by
  intro E g H M vs ds Q r dvs h
  unfold min2D at h
  split at h
  · obtain ⟨v, w, rfl, dv, dw⟩ := dvs.two_of
    cases dv; cases dw
    exact ⟨_, _, rfl, h g H _ .refl r (.int _)⟩
  · exact h.elim
def intD : List D → Mem → Res D
  | [.int i], M => .ok (.int i) M
  | [.bl b], M => .ok (.int (if b then 1 else 0)) M
  | _, _ => .stuck
theorem intS : CallS K (fun xs H Q => (∃ i, xs = [.int i] ∧ Q (.int i) H) ∨ ∃ k, xs = [.bl k] ∧ Q (.int (if k then 1 else 0)) H) intD := by
  intro E g H M vs ds Q r dvs h
  unfold intD at h
  split at h
  · obtain ⟨v, rfl, dv⟩ := dvs.one_of
    cases dv
    exact .inl ⟨_, rfl, h g H _ .refl r (.int _)⟩
  · obtain ⟨v, rfl, dv⟩ := dvs.one_of
    cases dv
    exact .inr ⟨_, rfl, h g H _ .refl r (.int _)⟩
  · exact h.elim
def listD (c : Bool) : List D → Mem → Res D
  | [d], M => opt (seqOf M d) fun xs => newL c xs M
  | _, _ => .stuck
abbrev rListOf (K : PySem.W.Frag) : List V → Hp → VK → Prop := fun xs H Q => ∃ p ys, xs = [.ref p] ∧ (SqL K H p ys ∨ SqT K H p ys) ∧ ∀ l, H l = none → Q (.ref l) (upd H l (.lst ys))
theorem listS {c : Bool} : CallS K (rListOf K) (listD c) := by
  intro E g H M vs ds Q r dvs h
  match ds, h with
  | [], h => exact h.elim
  | [d], h =>
    obtain ⟨v, rfl, dv⟩ := dvs.one_of
    obtain ⟨xs, e1, h⟩ := Pg.opt h
    obtain ⟨a, us, rfl, s, z, q⟩ := dv.seqOf r e1
    exact ⟨a, us, rfl, s, fun p n => Pg.lst h r n z q⟩
  | _ :: _ :: _, h => exact h.elim
def tupleD : List D → Mem → Res D
  | [d], M => opt (seqOf M d) fun xs => .ok (.tup xs) M
  | _, _ => .stuck
abbrev rTupleOf (K : PySem.W.Frag) : List V → Hp → VK → Prop := fun xs H Q => ∃ p ys, xs = [.ref p] ∧ ((SqL K H p ys ∧ ∀ l, H l = none → Q (.ref l) (upd H l (.tup ys))) ∨ (SqT K H p ys ∧ Q (.ref p) H))
theorem tupleS : CallS K (rTupleOf K) tupleD := by
  intro E g H M vs ds Q r dvs h
  match ds, h with
  | [], h => exact h.elim
  | [d], h =>
    obtain ⟨v, rfl, dv⟩ := dvs.one_of
    obtain ⟨xs, e1, h⟩ := Pg.opt h
    obtain ⟨a, us, rfl, s, z, q⟩ := dv.seqOf r e1
    rcases s with s | s
    · exact ⟨a, us, rfl, .inl ⟨s, fun p n => Pg.tup h r n z q⟩⟩
    · exact ⟨a, us, rfl, .inr ⟨s, h g H _ .refl r (.tup s z q)⟩⟩
  | _ :: _ :: _, h => exact h.elim
/-! ### lists of whole numbers, of truths -/
def intsOf : List D → Option (List Int)
  | [] => some []
  | .int i :: xs => (intsOf xs).map (i :: ·)
  | _ :: _ => none
def blsOf : List D → Option (List Bool)
  | [] => some []
  | .bl i :: xs => (blsOf xs).map (i :: ·)
  | _ :: _ => none
theorem intsOf_some : ∀ {xs : List D} {ns : List Int}, intsOf xs = some ns → xs = ns.map D.int
  | [], ns, h => by cases h; rfl
  | .int i :: xs, ns, h => by
    unfold intsOf at h
    cases q : intsOf xs with
    | none => rw [q] at h; cases h
    | some ms => rw [q] at h; cases h; rw [intsOf_some q]; rfl
  | .non :: _, _, h => by cases h
  | .bl _ :: _, _, h => by cases h
  | .str _ :: _, _, h => by cases h
  | .tup _ :: _, _, h => by cases h
  | .lst _ :: _, _, h => by cases h
  | .ref _ :: _, _, h => by cases h
  | .raw _ :: _, _, h => by cases h
  | .arg _ :: _, _, h => by cases h
theorem blsOf_some : ∀ {xs : List D} {ns : List Bool}, blsOf xs = some ns → xs = ns.map D.bl
  | [], ns, h => by cases h; rfl
  | .bl i :: xs, ns, h => by
    unfold blsOf at h
    cases q : blsOf xs with
    | none => rw [q] at h; cases h
    | some ms => rw [q] at h; cases h; rw [blsOf_some q]; rfl
  | .non :: _, _, h => by cases h
  | .int _ :: _, _, h => by cases h
  | .str _ :: _, _, h => by cases h
  | .tup _ :: _, _, h => by cases h
  | .lst _ :: _, _, h => by cases h
  | .ref _ :: _, _, h => by cases h
  | .raw _ :: _, _, h => by cases h
  | .arg _ :: _, _, h => by cases h
@[simp] theorem intsOf_map (ns : List Int) : intsOf (ns.map D.int) = some ns := by
  induction ns with
  | nil => rfl
  | cons n ns ih => simp [intsOf, ih]
@[simp] theorem blsOf_map (ns : List Bool) : blsOf (ns.map D.bl) = some ns := by
  induction ns with
  | nil => rfl
  | cons n ns ih => simp [blsOf, ih]
theorem DRs.bls {ns : List Bool} (h : DRs K g H vs (ns.map D.bl)) : vs = ns.map V.bl := by
  induction vs generalizing ns with
  | nil => cases ns with | nil => rfl | cons _ _ => cases h
  | cons v vs ih => cases ns with
    | nil => cases h
    | cons n ns => cases h with | cons a b => cases a; rw [List.map_cons, ih b]
def maxI : List Int → Option Int
  | [] => none
  | x :: xs => some (xs.foldl (fun a b => if a < b then b else a) x)
def minI : List Int → Option Int
  | [] => none
  | x :: xs => some (xs.foldl (fun a b => if b < a then b else a) x)
theorem maxI_spec {ns : List Int} {m m' : Int} (e : maxI ns = some m') (h1 : m ∈ ns) (h2 : ∀ y, y ∈ ns → y ≤ m) : m = m' := by
  cases ns with
  | nil => cases h1
  | cons x xs =>
    have key : ∀ (xs : List Int) (x : Int), (xs.foldl (fun a b => if a < b then b else a) x ∈ x :: xs) ∧ ∀ y ∈ x :: xs, y ≤ xs.foldl (fun a b => if a < b then b else a) x := by
      intro xs
      induction xs with
      | nil => intro x; simp
      | cons z zs ih =>
        intro x
        obtain ⟨i1, i2⟩ := ih (if x < z then z else x)
        rw [List.foldl_cons]
        refine ⟨?_, fun y hy => ?_⟩
        · rcases List.mem_cons.mp i1 with q | q
          · rw [q]; split <;> simp
          · exact List.mem_cons_of_mem _ (List.mem_cons_of_mem _ q)
        · have i3 := i2 _ List.mem_cons_self
          rcases List.mem_cons.mp hy with q | q
          · exact Int.le_trans (by rw [q]; split <;> omega) i3
          · rcases List.mem_cons.mp q with q | q
            · exact Int.le_trans (by rw [q]; split <;> omega) i3
            · exact i2 y (List.mem_cons_of_mem _ q)
    obtain ⟨k1, k2⟩ := key xs x
    cases e
    have := h2 _ k1
    have := k2 _ h1
    omega
theorem minI_spec {ns : List Int} {m m' : Int} (e : minI ns = some m') (h1 : m ∈ ns) (h2 : ∀ y, y ∈ ns → m ≤ y) : m = m' := by
  cases ns with
  | nil => cases h1
  | cons x xs =>
    have key : ∀ (xs : List Int) (x : Int), (xs.foldl (fun a b => if b < a then b else a) x ∈ x :: xs) ∧ ∀ y ∈ x :: xs, xs.foldl (fun a b => if b < a then b else a) x ≤ y := by
      intro xs
      induction xs with
      | nil => intro x; simp
      | cons z zs ih =>
        intro x
        obtain ⟨i1, i2⟩ := ih (if z < x then z else x)
        rw [List.foldl_cons]
        refine ⟨?_, fun y hy => ?_⟩
        · rcases List.mem_cons.mp i1 with q | q
          · rw [q]; split <;> simp
          · exact List.mem_cons_of_mem _ (List.mem_cons_of_mem _ q)
        · have i3 := i2 _ List.mem_cons_self
          rcases List.mem_cons.mp hy with q | q
          · exact Int.le_trans i3 (by rw [q]; split <;> omega)
          · rcases List.mem_cons.mp q with q | q
            · exact Int.le_trans i3 (by rw [q]; split <;> omega)
            · exact i2 y (List.mem_cons_of_mem _ q)
    obtain ⟨k1, k2⟩ := key xs x
    cases e
    have := h2 _ k1
    have := k2 _ h1
    omega
def maxD : List D → Mem → Res D
  | [d], M => opt (lstOf M d) fun xs => opt (intsOf xs) fun ns => opt (maxI ns) fun m => .ok (.int m) M
  | _, _ => .stuck
def minD : List D → Mem → Res D
  | [d], M => opt (lstOf M d) fun xs => opt (intsOf xs) fun ns => opt (minI ns) fun m => .ok (.int m) M
  | _, _ => .stuck
def sumD : List D → Mem → Res D
  | [d], M => opt (lstOf M d) fun xs => opt (intsOf xs) fun ns => .ok (.int ns.sum) M
  | _, _ => .stuck
def anyD : List D → Mem → Res D
  | [d], M => opt (lstOf M d) fun xs => opt (blsOf xs) fun ns => .ok (.bl (ns.any id)) M
  | _, _ => .stuck
def allD : List D → Mem → Res D
  | [d], M => opt (lstOf M d) fun xs => opt (blsOf xs) fun ns => .ok (.bl (ns.all id)) M
  | _, _ => .stuck
theorem DR.intL {xs : List D} {ns : List Int} (dv : DR K g H v d) (r : RelH K g M H) (e : G.lstOf M d = some xs) (e2 : intsOf xs = some ns) : ∃ a, v = .ref a ∧ SqL K H a (ns.map V.int) := by
  obtain ⟨a, us, rfl, s, z, q⟩ := dv.lstOf r e
  rw [intsOf_some e2] at q
  rw [q.ints] at s
  exact ⟨a, rfl, .of s⟩
theorem DR.blL {xs : List D} {ns : List Bool} (dv : DR K g H v d) (r : RelH K g M H) (e : G.lstOf M d = some xs) (e2 : blsOf xs = some ns) : ∃ a, v = .ref a ∧ SqL K H a (ns.map V.bl) := by
  obtain ⟨a, us, rfl, s, z, q⟩ := dv.lstOf r e
  rw [blsOf_some e2] at q
  rw [q.bls] at s
  exact ⟨a, rfl, .of s⟩
theorem sumS : CallS K (rSum K) sumD := by
  intro E g H M vs ds Q r dvs h
  match ds, h with
  | [], h => exact h.elim
  | [d], h =>
    obtain ⟨v, rfl, dv⟩ := dvs.one_of
    obtain ⟨xs, e1, h⟩ := Pg.opt h
    obtain ⟨ns, e2, h⟩ := Pg.opt h
    obtain ⟨a, rfl, s⟩ := dv.intL r e1 e2
    exact ⟨a, ns, rfl, s, h g H _ .refl r (.int _)⟩
  | _ :: _ :: _, h => exact h.elim
theorem maxS : CallS K (rMax K) maxD := by
  intro E g H M vs ds Q r dvs h
  match ds, h with
  | [], h => exact h.elim
  | [d], h =>
    obtain ⟨v, rfl, dv⟩ := dvs.one_of
    obtain ⟨xs, e1, h⟩ := Pg.opt h
    obtain ⟨ns, e2, h⟩ := Pg.opt h
    obtain ⟨m, e3, h⟩ := Pg.opt h
    obtain ⟨a, rfl, s⟩ := dv.intL r e1 e2
    refine ⟨a, ns, rfl, s, by cases ns with | nil => cases e3 | cons _ _ => exact Nat.succ_pos _, fun m' h1 h2 => ?_⟩
    rw [maxI_spec e3 h1 h2]
    exact h g H _ .refl r (.int _)
  | _ :: _ :: _, h => exact h.elim
theorem minS : CallS K (rMin K) minD := by
  intro E g H M vs ds Q r dvs h
  match ds, h with
  | [], h => exact h.elim
  | [d], h =>
    obtain ⟨v, rfl, dv⟩ := dvs.one_of
    obtain ⟨xs, e1, h⟩ := Pg.opt h
    obtain ⟨ns, e2, h⟩ := Pg.opt h
    obtain ⟨m, e3, h⟩ := Pg.opt h
    obtain ⟨a, rfl, s⟩ := dv.intL r e1 e2
    refine ⟨a, ns, rfl, s, by cases ns with | nil => cases e3 | cons _ _ => exact Nat.succ_pos _, fun m' h1 h2 => ?_⟩
    rw [minI_spec e3 h1 h2]
    exact h g H _ .refl r (.int _)
  | _ :: _ :: _, h => exact h.elim
theorem anyS : CallS K (rAny K) anyD := by
  intro E g H M vs ds Q r dvs h
  match ds, h with
  | [], h => exact h.elim
  | [d], h =>
    obtain ⟨v, rfl, dv⟩ := dvs.one_of
    obtain ⟨xs, e1, h⟩ := Pg.opt h
    obtain ⟨ns, e2, h⟩ := Pg.opt h
    obtain ⟨a, rfl, s⟩ := dv.blL r e1 e2
    exact ⟨a, ns, rfl, s, h g H _ .refl r (.bl _)⟩
  | _ :: _ :: _, h => exact h.elim
theorem allS : CallS K (rAll K) allD := by
  intro E g H M vs ds Q r dvs h
  match ds, h with
  | [], h => exact h.elim
  | [d], h =>
    obtain ⟨v, rfl, dv⟩ := dvs.one_of
    obtain ⟨xs, e1, h⟩ := Pg.opt h
    obtain ⟨ns, e2, h⟩ := Pg.opt h
    obtain ⟨a, rfl, s⟩ := dv.blL r e1 e2
    exact ⟨a, ns, rfl, s, h g H _ .refl r (.bl _)⟩
  | _ :: _ :: _, h => exact h.elim

/-! ### methods of lists that are cells -/
def MtS (K : PySem.W.Frag) (T : String) (r : V → List V → Hp → VK → Prop) (f : D → List D → Mem → Res D) : Prop :=
  ∀ (E : XK) (g : Gh) (H : Hp) (M : Mem) (v : V) (vs : List V) (d : D) (ds : List D) (Q : VK), RelH K g M H → DR K g H v d → DRs K g H vs ds → Pg K E (repV K) g H (f d ds M) Q → r v vs H Q
/-- that the receiver is of the type, ahead of the arguments -/
def isLst (M : Mem) (d : D) : Bool := (lstOf M d).isSome
def eMt (ty : Mem → D → Bool) (f : D → List D → Mem → Res D) (o : Ev) (as : EvA) : Ev := fun ρ M => (o ρ M).bind fun x M1 => if ty M1 x = true then (as ρ M1).bind fun xs M2 => f x xs M2 else .stuck
theorem isLst_ok (dv : DR K g H v d) (r : RelH K g M H) (e : isLst M d = true) : tyV K "list" v H := by
  unfold isLst at e
  obtain ⟨xs, e⟩ := Option.isSome_iff_exists.mp e
  obtain ⟨a, us, rfl, s, z, q⟩ := dv.lstOf r e
  exact .inl ⟨rfl, us, .of s⟩
theorem ge_bm {X : Cx} {T : String} {id : String} {name : Str} {r : V → List V → Hp → VK → Prop} {f : D → List D → Mem → Res D} {ty : Mem → D → Bool} {o e : Expr} {es : List Expr} {fo : Ev} {fas : EvA} {apos cpos : Pos}
    (hs : MtS X.K T r f) (hty' : ∀ {g : Gh} {H : Hp} {M : Mem} {v : V} {d : D}, DR X.K g H v d → RelH X.K g M H → ty M d = true → tyV X.K T v H)
    (pa : PlainAttrs T) (slot : Slot T name id) (hty : typeOf (.builtin id) = pure (.type "method_descriptor")) (hm : MtR X id r) (ho : GE X E o fo) (ha : GA X E (e :: es) fas)
    (hbase : attributeBase o name X.env (eval o X.env) = eval o X.env := by rfl)
    (hfew : ((backTo cpos (starEach (e :: es) X.env)).all (fun x => !x.1) && (backToKw cpos (keywordEach [] X.env)).all (fun x => x.1.isSome)
      && decide ((e :: es).length + ([] : List Keyword).length + (if ([] : List Keyword).isEmpty then 0 else 1) < 30)) = true := by rfl)
    (hline : (apos.endLine == cpos.line) = true := by rfl) (hst : starEach (e :: es) X.env = (false, eval e X.env) :: starEach es X.env := by rfl) (hplain : (backTo cpos (starEach es X.env)).any (·.1) = false := by rfl) :
    GE X E (.Call (.Attribute o name apos) (e :: es) [] cpos) (eMt ty f fo fas) :=
  ⟨PE.weak (pe_bm pa slot hty hm ho.pe ha.pa hbase hfew hline hst hplain) fun σ H Q ⟨g, ρ, M, rl, h⟩ => ⟨g, ρ, M, rl, Pg.bind h fun d M1 g1 H1 v _ gr rh dv h => by
    obtain ⟨t, h⟩ := Pg.ite h
    exact ⟨hty' dv rh t, g1, ρ, M1, rl.grow gr rh, Pg.bind h fun ds M2 g2 H2 vs _ gr2 rh2 dvs h => hs E g2 H2 M2 v vs d ds Q rh2 (dv.grow gr2 rh.nF) dvs h⟩⟩⟩
theorem ge_bm0 {X : Cx} {T : String} {id : String} {name : Str} {r : V → List V → Hp → VK → Prop} {f : D → List D → Mem → Res D} {ty : Mem → D → Bool} {o : Expr} {fo : Ev} {apos cpos : Pos}
    (hs : MtS X.K T r f) (hty' : ∀ {g : Gh} {H : Hp} {M : Mem} {v : V} {d : D}, DR X.K g H v d → RelH X.K g M H → ty M d = true → tyV X.K T v H)
    (pa : PlainAttrs T) (slot : Slot T name id) (hty : typeOf (.builtin id) = pure (.type "method_descriptor")) (hm : MtR X id r) (ho : GE X E o fo)
    (hbase : attributeBase o name X.env (eval o X.env) = eval o X.env := by rfl) (hline : (apos.endLine == cpos.line) = true := by rfl) : GE X E (.Call (.Attribute o name apos) [] [] cpos) (eMt ty f fo aNil) :=
  ⟨PE.weak (pe_bm0 pa slot hty hm ho.pe hbase hline) fun σ H Q ⟨g, ρ, M, rl, h⟩ => ⟨g, ρ, M, rl, Pg.bind h fun d M1 g1 H1 v _ gr rh dv h => by
    obtain ⟨t, h⟩ := Pg.ite h
    exact ⟨hty' dv rh t, hs E g1 H1 M1 v [] d [] Q rh dv .nil h⟩⟩⟩
/-- a cell that is a list -/
def cellOf (M : Mem) : D → Option (Nat × List D)
  | .ref n => (cellL M[n]?).map fun xs => (n, xs)
  | _ => none
theorem DR.cell {n : Nat} {xs : List D} (dv : DR K g H v d) (r : RelH K g M H) (e : cellOf M d = some (n, xs)) : ∃ a us, v = .ref a ∧ g.io[n]? = some a ∧ H a = some (.lst us) ∧ us.length ≤ sizeLine ∧ DRs K g H us xs := by
  cases dv with
  | @ref m a q =>
    have e : (cellL M[m]?).map (fun xs => (m, xs)) = some (n, xs) := e
    cases hM : cellL M[m]? with
    | none => rw [hM] at e; cases e
    | some ys =>
      rw [hM] at e
      cases e
      have c := r.cell _ a _ q (cellL_some hM)
      cases c with
      | lst s z p => exact ⟨a, _, rfl, q, s, z, p⟩
  | _ => cases e
theorem Pg.put {n : Nat} {a : Addr} {ys : List D} {us ws : List V} {dr : D} {vr : V} (h : Pg K E (repV K) g H (.ok dr (M.set n (.lst ys))) Q) (r : RelH K g M H) (m : g.io[n]? = some a) (s : H a = some (.lst us)) (z : ws.length ≤ sizeLine) (q : DRs K g H ws ys) (dv : DR K g H vr dr) :
    Q vr (upd H a (.lst ws)) := by
  have gr : Grw K g H g (upd H a (.lst ws)) := Grw.put (List.mem_of_getElem? m) s (fun _ e => by cases e) (fun _ _ e => by cases e)
  exact h g _ _ gr (r.put m s (fun _ e => by cases e) (fun _ _ e => by cases e) (.lst upd_same z (q.grow gr r.nF))) (dv.grow gr r.nF)
def appendD : D → List D → Mem → Res D
  | d, [e], M => opt (cellOf M d) fun p => if p.2.length < 1000000 then .ok .non (M.set p.1 (.lst (p.2 ++ [e]))) else .stuck
  | _, _, _ => .stuck
theorem appendS : MtS K "list" rAppend appendD := by
  intro E g H M v vs d ds Q r dv dvs h
  match ds, h with
  | [], h => exact h.elim
  | [e], h =>
    obtain ⟨w, rfl, dw⟩ := dvs.one_of
    obtain ⟨⟨n, xs⟩, e1, h⟩ := Pg.opt h
    obtain ⟨z1, h⟩ := Pg.ite h
    obtain ⟨a, us, rfl, m, s, z, q⟩ := dv.cell r e1
    have hz : us.length < sizeLine := by rw [q.length]; exact lim_lt z1
    exact ⟨a, us, w, rfl, rfl, s, hz, Pg.put h r m s (by rw [List.length_append]; exact hz) (q.append (.one dw)) .non⟩
  | _ :: _ :: _, h => exact h.elim
def extendD : D → List D → Mem → Res D
  | d, [e], M => opt (cellOf M d) fun p => opt (lstOf M e) fun ys => if p.2.length + ys.length ≤ 1000000 then .ok .non (M.set p.1 (.lst (p.2 ++ ys))) else .stuck
  | _, _, _ => .stuck
theorem extendS : MtS K "list" rExtend extendD := by
  intro E g H M v vs d ds Q r dv dvs h
  match ds, h with
  | [], h => exact h.elim
  | [e], h =>
    obtain ⟨w, rfl, dw⟩ := dvs.one_of
    obtain ⟨⟨n, xs⟩, e1, h⟩ := Pg.opt h
    obtain ⟨ys, e2, h⟩ := Pg.opt h
    obtain ⟨z1, h⟩ := Pg.ite h
    obtain ⟨a, us, rfl, m, s, z, q⟩ := dv.cell r e1
    obtain ⟨b, ws, rfl, s2, z2, q2⟩ := dw.lstOf r e2
    have hz : us.length + ws.length ≤ sizeLine := by rw [q.length, q2.length]; exact lim_line z1
    exact ⟨a, b, us, ws, rfl, rfl, s, s2, hz, Pg.put h r m s (by rw [List.length_append]; exact hz) (q.append q2) .non⟩
  | _ :: _ :: _, h => exact h.elim
theorem DRs.eraseIdx (h : DRs K g H vs ds) (i : Nat) : DRs K g H (vs.eraseIdx i) (ds.eraseIdx i) := by
  induction vs generalizing ds i with
  | nil => cases h; simp; exact .nil
  | cons v vs ih => cases h with | cons a b => cases i with
    | zero => exact b
    | succ i => exact .cons a (ih b i)
def popAtD : D → List D → Mem → Res D
  | d, [.int i], M => opt (cellOf M d) fun p => opt (ixN p.2.length i) fun k => opt p.2[k]? fun x => if p.2.length ≤ 1000000 then .ok x (M.set p.1 (.lst (p.2.eraseIdx k))) else .stuck
  | _, _, _ => .stuck
theorem popAtS : MtS K "list" rPopAt popAtD := by
  intro E g H M v vs d ds Q r dv dvs h
  unfold popAtD at h
  split at h
  · rename_i i
    obtain ⟨w, rfl, dw⟩ := dvs.one_of
    cases dw
    obtain ⟨⟨n, xs⟩, e1, h⟩ := Pg.opt h
    obtain ⟨k, e2, h⟩ := Pg.opt h
    obtain ⟨x, e3, h⟩ := Pg.opt h
    obtain ⟨z1, h⟩ := Pg.ite h
    obtain ⟨a, us, rfl, m, s, z, q⟩ := dv.cell r e1
    obtain ⟨u, e4, du⟩ := q.get e3
    obtain ⟨s1, s2, s3, s4⟩ := ixN_seq e2
    have hl := q.length
    refine ⟨a, us, i, k, u, rfl, rfl, s, ?_, ?_, ?_, e4, Pg.put h r m s (Nat.le_trans (len_erase us k) z) (q.eraseIdx k) du⟩
    · simp only at s3 z1; omega
    · simp only at s4 z1; omega
    · rw [hl]; exact s1
  · exact h.elim
end
end G
/-! G5: statements, targets, loops, comprehensions. -/
namespace G
open PySem L2

inductive Out where
  | nx (ρ : Slots) (M : Mem) | ret (d : D) (M : Mem) | brk (ρ : Slots) (M : Mem) | cnt (ρ : Slots) (M : Mem) | exc (C : Addr) (fs : Option (List (Str × D))) (M : Mem) | stuck
abbrev Sv := Slots → Mem → Out
def Res.out {α : Type} (r : Res α) (k : α → Mem → Out) : Out := match r with
  | .ok a M => k a M
  | .exc C fs M => .exc C fs M
  | .stuck => .stuck
@[simp] theorem Res.out_ok {α : Type} (a : α) (M : Mem) (k : α → Mem → Out) : (Res.ok a M).out k = k a M := rfl
@[simp] theorem Res.out_exc {α : Type} (C : Addr) (fs) (M : Mem) (k : α → Mem → Out) : (Res.exc C fs M : Res α).out k = .exc C fs M := rfl
@[simp] theorem Res.out_stuck {α : Type} (k : α → Mem → Out) : (Res.stuck : Res α).out k = .stuck := rfl
section
variable {K : PySem.W.Frag} {g g' : Gh} {H H' : Hp} {M : Mem} {v w : V} {d e : D} {vs : List V} {ds : List D} {E : XK} {Q : VK}
def PgS (K : PySem.W.Frag) (E : XK) (g : Gh) (H : Hp) (o : Out) (D : Ends) : Prop := match o with
  | .nx ρ M => ∀ g' H' σ, Grw K g H g' H' → Rel K g' ρ M σ H' → D.nx σ H'
  | .brk ρ M => ∀ g' H' σ, Grw K g H g' H' → Rel K g' ρ M σ H' → D.bk σ H'
  | .cnt ρ M => ∀ g' H' σ, Grw K g H g' H' → Rel K g' ρ M σ H' → D.ct σ H'
  | .ret d M => ∀ g' H' v, Grw K g H g' H' → RelH K g' M H' → DR K g' H' v d → D.rt v H'
  | .exc C fs M => XP K E g H C fs M
  | .stuck => False
theorem PgS.base {o : Out} {D : Ends} (h : PgS K E g H o D) (gr : Grw K g H g' H') : PgS K E g' H' o D := by
  cases o with
  | nx ρ M => exact fun g2 H2 σ a b => h g2 H2 σ (gr.trans a) b
  | brk ρ M => exact fun g2 H2 σ a b => h g2 H2 σ (gr.trans a) b
  | cnt ρ M => exact fun g2 H2 σ a b => h g2 H2 σ (gr.trans a) b
  | ret d M => exact fun g2 H2 σ a b c => h g2 H2 σ (gr.trans a) b c
  | exc C fs M => exact XP.base h gr
  | stuck => exact h
theorem PgS.out {α β : Type} {rep : Gh → Hp → α → β → Prop} {r : Res β} {k : β → Mem → Out} {D : Ends} {Q1 : α → Hp → Prop} (h : PgS K E g H (r.out k) D)
    (step : ∀ d M1 g1 H1 v, r = .ok d M1 → Grw K g H g1 H1 → RelH K g1 M1 H1 → rep g1 H1 v d → PgS K E g1 H1 (k d M1) D → Q1 v H1) : Pg K E rep g H r Q1 := by
  cases r with
  | ok d M' => exact fun g2 H2 v a b c => step d M' g2 H2 v rfl a b c (PgS.base h a)
  | exc C fs M' => exact h
  | stuck => exact h
def RS (K : PySem.W.Frag) (E : XK) (f : Sv) : TS := fun D σ H => ∃ g ρ M, Rel K g ρ M σ H ∧ PgS K E g H (f ρ M) D
end
structure GS (X : Cx) (E : XK) (st : Stmt) (f : Sv) : Prop where
  ps : PS X st (RS X.K E f)
structure GSs (X : Cx) (E : XK) (st : List Stmt) (f : Sv) : Prop where
  pss : PSs X st (RS X.K E f)

def sNil : Sv := fun ρ M => .nx ρ M
def sSeq (a b : Sv) : Sv := fun ρ M => match a ρ M with
  | .nx ρ' M' => b ρ' M'
  | o => o
def sExpr (e : Ev) : Sv := fun ρ M => (e ρ M).out fun _ M1 => .nx ρ M1
def sRet (e : Ev) : Sv := fun ρ M => (e ρ M).out fun d M1 => .ret d M1
def sRetN : Sv := fun _ M => .ret .non M
def sBreak : Sv := fun ρ M => .brk ρ M
def sCont : Sv := fun ρ M => .cnt ρ M
def sIf (c : EvT) (a b : Sv) : Sv := fun ρ M => (c ρ M).out fun x M1 => if x = true then a ρ M1 else b ρ M1
section
variable {X : Cx} {E : XK}
theorem gs_nil : GSs X E [] sNil := ⟨PSs.weak pss_nil fun D σ H ⟨g, ρ, M, rl, h⟩ => h g H σ .refl rl⟩
theorem gs_cons {st : Stmt} {rest : List Stmt} {a b : Sv} (ha : GS X E st a) (hb : GSs X E rest b) : GSs X E (st :: rest) (sSeq a b) :=
  ⟨PSs.weak (pss_cons ha.ps hb.pss) fun D σ H ⟨g, ρ, M, rl, h⟩ => by
    refine ⟨g, ρ, M, rl, ?_⟩
    unfold sSeq at h
    cases q : a ρ M with
    | nx ρ' M' => rw [q] at h; exact fun g1 H1 σ1 gr rl1 => ⟨g1, ρ', M', rl1, PgS.base h gr⟩
    | brk ρ' M' => rw [q] at h; exact h
    | cnt ρ' M' => rw [q] at h; exact h
    | ret d M' => rw [q] at h; exact h
    | exc C fs M' => rw [q] at h; exact h
    | stuck => rw [q] at h; exact h⟩
theorem gs_one {st : Stmt} {a : Sv} (ha : GS X E st a) : GSs X E [st] a := ⟨pss_one ha.ps⟩
theorem gs_expr {e : Expr} {f : Ev} {pos : Pos} (he : GE X E e f) (hs : swapsWith e none pos.line X.env = pure false := by rfl) : GS X E (.Expr e pos) (sExpr f) :=
  ⟨PS.weak (ps_expr he.pe hs) fun D σ H ⟨g, ρ, M, rl, h⟩ => ⟨g, ρ, M, rl, PgS.out h fun d M1 g1 H1 v _ gr rh dv h => h g1 H1 σ .refl (rl.grow gr rh)⟩⟩
theorem gs_ret {e : Expr} {f : Ev} {pos : Pos} (he : GE X E e f) : GS X E (.Return (some e) pos) (sRet f) :=
  ⟨PS.weak (ps_ret he.pe) fun D σ H ⟨g, ρ, M, rl, h⟩ => ⟨g, ρ, M, rl, PgS.out h fun d M1 g1 H1 v _ gr rh dv h => h g1 H1 v .refl rh dv⟩⟩
theorem gs_retN {pos : Pos} : GS X E (.Return none pos) sRetN := ⟨PS.weak ps_retN fun D σ H ⟨g, ρ, M, rl, h⟩ => h g H _ .refl rl.h .non⟩
theorem gs_pass {pos : Pos} : GS X E (.Pass pos) sNil := ⟨PS.weak ps_pass fun D σ H ⟨g, ρ, M, rl, h⟩ => h g H σ .refl rl⟩
theorem gs_break {pos : Pos} : GS X E (.Break pos) sBreak := ⟨PS.weak ps_break fun D σ H ⟨g, ρ, M, rl, h⟩ => h g H σ .refl rl⟩
theorem gs_cont {pos : Pos} : GS X E (.Continue pos) sCont := ⟨PS.weak ps_continue fun D σ H ⟨g, ρ, M, rl, h⟩ => h g H σ .refl rl⟩
theorem gs_if {c : Expr} {a b : List Stmt} {fc : EvT} {fa fb : Sv} {pos : Pos} (hc : GT X E c fc) (ha : GSs X E a fa) (hb : GSs X E b fb) : GS X E (.If c a b pos) (sIf fc fa fb) :=
  ⟨PS.weak (ps_if hc.pt ha.pss hb.pss) fun D σ H ⟨g, ρ, M, rl, h⟩ => ⟨g, ρ, M, rl, PgS.out h fun x M1 g1 H1 v _ gr rh dv h => by
    subst dv
    cases v with
    | true => exact (if_pos rfl).symm ▸ ⟨g1, ρ, M1, rl.grow gr rh, (if_pos rfl : (if true = true then fa ρ M1 else fb ρ M1) = _) ▸ h⟩
    | false => exact (if_neg Bool.false_ne_true).symm ▸ ⟨g1, ρ, M1, rl.grow gr rh, (if_neg Bool.false_ne_true : (if false = true then fa ρ M1 else fb ρ M1) = _) ▸ h⟩⟩⟩

/-! ### names that are bound -/
abbrev Bn := D → Slots → Mem → Option Slots
/-- names are bound to the parts of a value; is: their slots -/
structure GB (X : Cx) (tg : Expr) (is : List Nat) (b : Bn) : Prop where
  ok : ∃ t : TG, PG X tg t ∧ ∀ (g : Gh) (H : Hp) (M : Mem) (σ : St) (ρ ρ' : Slots) (v : V) (d : D) (Q : St → Hp → Prop), Rel X.K g ρ M σ H → DR X.K g H v d → b d ρ M = some ρ' →
    (∀ σ', Rel X.K g ρ' M σ' H → (∀ j, j ∉ is → σ'[j]? = σ[j]?) → σ'.length = σ.length → Q σ' H) → t v σ H Q
def bName (i : Nat) : Bn := fun d ρ _ => some (ρ.set i (some d))
theorem gb_name {i : Nat} {x : Str} {pos : Pos} (hN : X.N.Nodup) (hi : X.N[i]? = some x := by rfl) (hx : Loc X.env.scope x := by first | exact Or.inl rfl | exact Or.inr rfl) (hf : X.fn x = true ∨ X.env.scope.names.lookup x = some .local := by first | exact .inl rfl | exact .inr rfl) :
    GB X (.Name x pos) [i] (bName i) :=
  ⟨gName i, pg_name hN hi hx hf, fun g H M σ ρ ρ' v d Q rl dv e k => by
    cases e
    exact k _ (rl.set i dv) (fun j hj => List.getElem?_set_ne (fun q => hj (by simp [q]))) List.length_set⟩
abbrev Bns := List D → Slots → Mem → Option Slots
structure GBs (X : Cx) (tg : List Expr) (is : List Nat) (b : Bns) : Prop where
  ok : ∃ t : TGs, PGs X tg t ∧ ∀ (g : Gh) (H : Hp) (M : Mem) (σ : St) (ρ ρ' : Slots) (vs : List V) (ds : List D) (Q : St → Hp → Prop), Rel X.K g ρ M σ H → DRs X.K g H vs ds → b ds ρ M = some ρ' →
    (∀ σ', Rel X.K g ρ' M σ' H → (∀ j, j ∉ is → σ'[j]? = σ[j]?) → σ'.length = σ.length → Q σ' H) → t vs σ H Q
def bNil : Bns := fun ds ρ _ => match ds with
  | [] => some ρ
  | _ => none
def bCons (b : Bn) (bs : Bns) : Bns := fun ds ρ M => match ds with
  | [] => none
  | d :: ds => (b d ρ M).bind fun ρ' => bs ds ρ' M
theorem gbs_nil : GBs X [] [] bNil := ⟨gNil, pgs_nil, fun g H M σ ρ ρ' vs ds Q rl dv e k => by
  cases ds with
  | nil => cases dv; cases e; exact ⟨rfl, k σ rl (fun _ _ => rfl) rfl⟩
  | cons _ _ => cases e⟩
theorem gbs_cons {e : Expr} {es : List Expr} {is js : List Nat} {b : Bn} {bs : Bns} (h : GB X e is b) (hs : GBs X es js bs) (ha : (assignEach (e :: es) X.env).map (·.2) = assign e X.env :: (assignEach es X.env).map (·.2) := by rfl) : GBs X (e :: es) (is ++ js) (bCons b bs) := by
  obtain ⟨t, h1, h2⟩ := h.ok
  obtain ⟨ts, k1, k2⟩ := hs.ok
  refine ⟨gCons t ts, pgs_cons h1 k1 ha, fun g H M σ ρ ρ' vs ds Q rl dvs e k => ?_⟩
  cases ds with
  | nil => cases e
  | cons d ds =>
    cases dvs with | cons dv dvs =>
    have e : (b d ρ M).bind (fun ρ' => bs ds ρ' M) = some ρ' := e
    cases q : b d ρ M with
    | none => rw [q] at e; cases e
    | some ρ1 =>
      rw [q] at e
      refine ⟨_, _, rfl, h2 g H M σ ρ ρ1 _ d _ rl dv q fun σ1 rl1 f1 l1 => ?_⟩
      refine k2 g H M σ1 ρ1 ρ' _ ds _ rl1 dvs e fun σ2 rl2 f2 l2 => k σ2 rl2 (fun j hj => ?_) (l2.trans l1)
      rw [f2 j fun m => hj (List.mem_append_right _ m), f1 j fun m => hj (List.mem_append_left _ m)]
def bTup (n : Nat) (bs : Bns) : Bn := fun d ρ M => match d with
  | .tup xs => if xs.length = n then bs xs ρ M else none
  | _ => none
theorem gb_tup {es : List Expr} {is : List Nat} {k : Nat} {bs : Bns} {n : Nat} {x1} {pos : Pos} (h : GBs X es is bs) (hp : ∀ t : TGs, PGs X es t → PG X (.Tuple es x1 pos) (gTup X.K n t)) : GB X (.Tuple es x1 pos) is (bTup n bs) := by
  obtain ⟨t, h1, h2⟩ := h.ok
  refine ⟨gTup X.K n t, hp t h1, fun g H M σ ρ ρ' v d Q rl dv e k => ?_⟩
  unfold bTup at e
  split at e
  · rename_i xs
    split at e
    · rename_i hn
      cases dv with | tup s z q =>
      exact ⟨_, _, rfl, s, by rw [q.length]; exact hn, h2 g H M σ ρ ρ' _ xs Q rl q e k⟩
    · cases e
  · cases e
/-- an assignment to names -/
def sAsg (e : Ev) (b : Bn) : Sv := fun ρ M => (e ρ M).out fun d M1 => match b d ρ M1 with
  | some ρ' => .nx ρ' M1
  | none => .stuck
theorem gs_asg {tg e : Expr} {is : List Nat} {f : Ev} {b : Bn} {pos : Pos} (he : GE X E e f) (hb : GB X tg is b) (hs : swapsWithSole [tg] e pos.line X.env = pure false := by rfl) (hw : swappedStores [tg] e X.env = pure none := by rfl) (ha : (assignEach [tg] X.env).map (·.2) = [assign tg X.env] := by rfl) : GS X E (.Assign [tg] e pos) (sAsg f b) := by
  obtain ⟨t, h1, h2⟩ := hb.ok
  refine ⟨PS.weak (ps_asg he.pe h1 hs hw ha) fun D σ H ⟨g, ρ, M, rl, h⟩ => ⟨g, ρ, M, rl, PgS.out h fun d M1 g1 H1 v _ gr rh dv h => ?_⟩⟩
  cases q : b d ρ M1 with
  | none => rw [q] at h; exact h.elim
  | some ρ' =>
    rw [q] at h
    exact h2 g1 H1 M1 σ ρ ρ' v d _ (rl.grow gr rh) dv q fun σ' rl' _ _ => h g1 H1 σ' .refl rl'
def sSet (i : Nat) (e : Ev) : Sv := fun ρ M => (e ρ M).out fun d M1 => .nx (ρ.set i (some d)) M1
theorem gs_set {i : Nat} {x : Str} {e : Expr} {f : Ev} {pos pos' : Pos} (hN : X.N.Nodup) (he : GE X E e f) (hi : X.N[i]? = some x := by rfl) (hx : Loc X.env.scope x := by first | exact Or.inl rfl | exact Or.inr rfl)
    (hf : X.fn x = true ∨ X.env.scope.names.lookup x = some .local := by first | exact .inl rfl | exact .inr rfl) (hs : swapsWithSole [.Name x pos'] e pos.line X.env = pure false := by rfl) (hw : swappedStores [.Name x pos'] e X.env = pure none := by rfl) : GS X E (.Assign [.Name x pos'] e pos) (sSet i f) :=
  ⟨PS.weak (ps_asg he.pe (pg_name hN hi hx hf) hs hw) fun D σ H ⟨g, ρ, M, rl, h⟩ => ⟨g, ρ, M, rl, PgS.out h fun d M1 g1 H1 v _ gr rh dv h => h g1 H1 _ .refl ((rl.grow gr rh).set i dv)⟩⟩
/-- a, b = e1, e2 where no tuple is made -/
def sPar (i j : Nat) (as : EvA) : Sv := fun ρ M => (as ρ M).out fun ds M1 => match ds with
  | [d, e] => .nx ((ρ.set i (some d)).set j (some e)) M1
  | _ => .stuck
def sPar3 (i j l : Nat) (as : EvA) : Sv := fun ρ M => (as ρ M).out fun ds M1 => match ds with
  | [d, e, f] => .nx (((ρ.set i (some d)).set j (some e)).set l (some f)) M1
  | _ => .stuck

/-! ### stores into a list that is a cell -/
def setLD (o i v : D) (M : Mem) : Res Unit := match i with
  | .int k => opt (cellOf M o) fun p => opt (ixN p.2.length k) fun j => .ok () (M.set p.1 (.lst (p.2.set j v)))
  | _ => .stuck
def sSub (o i e : Ev) : Sv := fun ρ M => (e ρ M).out fun d M1 => (o ρ M1).out fun x M2 => (i ρ M2).out fun k M3 => (setLD x k d M3).out fun _ M4 => .nx ρ M4
theorem Vals.len_set {xs : List V} {j : Nat} {v : V} : (xs.set j v).length = xs.length := List.length_set
theorem gs_sub {o i e : Expr} {fo fi fe : Ev} {p1 pos : Pos} {px : Pos} (he : GE X E e fe) (ho : GE X E o fo) (hi : GE X E i fi)
    (hg : ∀ {to ti : TE} {t : TSet}, PE X o to → PE X i ti → PSet X t → PG X (.Subscript o i p1) (gSub to ti t) := by exact fun ho hi hs => pg_sub ho hi hs)
    (hs : swapsWithSole [.Subscript o i p1] e pos.line X.env = pure false := by rfl) (hw : swappedStores [.Subscript o i p1] e X.env = pure none := by rfl) : GS X E (.Assign [.Subscript o i p1] e pos) (sSub fo fi fe) :=
  ⟨PS.weak (ps_asg he.pe (hg ho.pe hi.pe set_list) hs hw) fun D σ H ⟨g, ρ, M, rl, h⟩ => ⟨g, ρ, M, rl, PgS.out h fun d M1 g1 H1 v _ gr rh dv h => by
    have rl1 := rl.grow gr rh
    refine ⟨g1, ρ, M1, rl1, PgS.out h fun x M2 g2 H2 u _ gr2 rh2 dx h => ?_⟩
    have rl2 := rl1.grow gr2 rh2
    refine ⟨g2, ρ, M2, rl2, PgS.out h fun k M3 g3 H3 u3 _ gr3 rh3 dk h => ?_⟩
    have rl3 := rl2.grow gr3 rh3
    have dv3 := (dv.grow gr2 rh.nF).grow gr3 rh2.nF
    have dx3 := dx.grow gr3 rh2.nF
    cases dk with
    | int k =>
      unfold setLD at h
      simp only at h
      cases q1 : cellOf M3 x with
      | none => rw [q1] at h; exact h.elim
      | some p =>
        obtain ⟨n, xs⟩ := p
        rw [q1] at h
        cases q2 : ixN xs.length k with
        | none => simp only [opt_some, q2, opt_none] at h; exact h.elim
        | some j =>
          simp only [opt_some, q2, Res.out_ok] at h
          obtain ⟨a, us, rfl, m, s, z, q⟩ := dx3.cell rh3 q1
          have gr4 : Grw X.K g3 H3 g3 (upd H3 a (.lst (us.set j v))) := Grw.put (List.mem_of_getElem? m) s (fun _ e => by cases e) (fun _ _ e => by cases e)
          have rh4 := rh3.put (o' := .lst (us.set j v)) (c := .lst (xs.set j d)) m s (fun _ e => by cases e) (fun _ _ e => by cases e) (.lst upd_same (by rw [List.length_set]; exact z) ((q.set j dv3).grow gr4 rh3.nF))
          exact ⟨a, us, k, j, rfl, rfl, s, by rw [q.length]; exact q2, h g3 _ σ gr4 (rl3.grow gr4 rh4)⟩
    | _ => exact h.elim⟩⟩

/-! ### while -/
def whileF (c : EvT) (b : Sv) : Nat → Sv
  | 0 => fun _ _ => .stuck
  | n + 1 => fun ρ M => (c ρ M).out fun x M1 => if x = true then (match b ρ M1 with
    | .nx ρ' M' => whileF c b n ρ' M'
    | .cnt ρ' M' => whileF c b n ρ' M'
    | .brk ρ' M' => .nx ρ' M'
    | o => o) else .nx ρ M1
/-- enough turns, if there are enough -/
noncomputable def sWhile (c : EvT) (b : Sv) : Sv := fun ρ M => whileF c b (Classical.epsilon fun n => whileF c b n ρ M ≠ .stuck) ρ M
theorem whileF_more {c : EvT} {b : Sv} : ∀ {n : Nat} {ρ : Slots} {M : Mem}, whileF c b n ρ M ≠ .stuck → ∀ m, n ≤ m → whileF c b m ρ M = whileF c b n ρ M
  | 0, _, _, h, _, _ => absurd rfl h
  | n + 1, ρ, M, h, 0, hm => absurd hm (by omega)
  | n + 1, ρ, M, h, m + 1, hm => by
    unfold whileF at h ⊢
    cases q : c ρ M with
    | ok x M1 =>
      rw [q] at h
      simp only [Res.out_ok] at h ⊢
      cases x with
      | false => rfl
      | true =>
        simp only [if_true] at h ⊢
        cases q2 : b ρ M1 with
        | nx ρ' M' => rw [q2] at h; exact whileF_more h m (by omega)
        | cnt ρ' M' => rw [q2] at h; exact whileF_more h m (by omega)
        | _ => rfl
    | exc C fs M' => rfl
    | stuck => rfl
theorem sWhile_of {c : EvT} {b : Sv} {n : Nat} {ρ : Slots} {M : Mem} (h : whileF c b n ρ M ≠ .stuck) : sWhile c b ρ M = whileF c b n ρ M := by
  unfold sWhile
  have e := Classical.epsilon_spec (p := fun n => whileF c b n ρ M ≠ .stuck) ⟨n, h⟩
  rcases Nat.le_total n (Classical.epsilon fun n => whileF c b n ρ M ≠ .stuck) with l | l
  · exact whileF_more h _ l
  · exact (whileF_more e _ l).symm
/-- one turn -/
theorem sWhile_eq (c : EvT) (b : Sv) (ρ : Slots) (M : Mem) : sWhile c b ρ M = (c ρ M).out fun x M1 => if x = true then (match b ρ M1 with
    | .nx ρ' M' => sWhile c b ρ' M'
    | .cnt ρ' M' => sWhile c b ρ' M'
    | .brk ρ' M' => .nx ρ' M'
    | o => o) else .nx ρ M1 := by
  have one : ∀ n, whileF c b (n + 1) ρ M = (c ρ M).out fun x M1 => if x = true then (match b ρ M1 with
    | .nx ρ' M' => whileF c b n ρ' M'
    | .cnt ρ' M' => whileF c b n ρ' M'
    | .brk ρ' M' => .nx ρ' M'
    | o => o) else .nx ρ M1 := fun n => rfl
  by_cases hs : ∃ n, whileF c b n ρ M ≠ .stuck
  · obtain ⟨n, hn⟩ := hs
    have h2 := sWhile_of hn
    cases n with
    | zero => exact absurd rfl hn
    | succ n =>
      rw [h2, one]
      rw [one] at hn
      cases q : c ρ M with
      | ok x M1 =>
        rw [q] at hn
        simp only [Res.out_ok] at hn ⊢
        cases x with
        | false => rfl
        | true =>
          simp only [if_true] at hn ⊢
          cases q2 : b ρ M1 with
          | nx ρ' M' => rw [q2] at hn; exact (sWhile_of hn).symm
          | cnt ρ' M' => rw [q2] at hn; exact (sWhile_of hn).symm
          | _ => rfl
      | exc C fs M' => rfl
      | stuck => rfl
  · have all : ∀ n, whileF c b n ρ M = .stuck := fun n => Classical.byContradiction fun z => hs ⟨n, z⟩
    have e : sWhile c b ρ M = .stuck := all _
    rw [e]
    cases q : c ρ M with
    | ok x M1 =>
      simp only [Res.out_ok]
      cases x with
      | false => have := all 1; rw [one, q] at this; exact this.symm
      | true =>
        simp only [if_true]
        cases q2 : b ρ M1 with
        | nx ρ' M' =>
          have a2 : ∀ n, whileF c b n ρ' M' = .stuck := fun n => by have := all (n + 1); rw [one, q] at this; simpa [q2] using this
          exact (a2 _).symm
        | cnt ρ' M' =>
          have a2 : ∀ n, whileF c b n ρ' M' = .stuck := fun n => by have := all (n + 1); rw [one, q] at this; simpa [q2] using this
          exact (a2 _).symm
        | brk ρ' M' => have := all 1; rw [one, q] at this; simpa [q2] using this.symm
        | ret d M' => have := all 1; rw [one, q] at this; simpa [q2] using this.symm
        | exc C fs M' => have := all 1; rw [one, q] at this; simpa [q2] using this.symm
        | stuck => rfl
    | exc C fs M' => have := all 1; rw [one, q] at this; exact this.symm
    | stuck => rfl
theorem gs_while {c : Expr} {body : List Stmt} {fc : EvT} {fb : Sv} {pos : Pos} (hc : GT X E c fc) (hb : GSs X E body fb) (hp : PassesOwn (model X.prog X.w) X.A X.env X.xe) : GS X E (.While c body [] pos) (sWhile fc fb) :=
  ⟨PS.weak (ps_while hp hc.pt hb.pss) fun D σ H ⟨g, ρ, M, rl, h⟩ => by
    refine ⟨fun n σ H => ∃ g ρ M, Rel X.K g ρ M σ H ∧ PgS X.K E g H (whileF fc fb n ρ M) D, ⟨_, g, ρ, M, rl, h⟩, ?_⟩
    rintro n σ H ⟨g, ρ, M, rl, h⟩
    cases n with
    | zero => exact h.elim
    | succ n =>
      refine ⟨g, ρ, M, rl, PgS.out h fun x M1 g1 H1 v _ gr rh dv h => ?_⟩
      subst dv
      have rl1 := rl.grow gr rh
      cases v with
      | false => exact (if_neg Bool.false_ne_true).symm ▸ (show PgS X.K E g1 H1 (.nx ρ M1) D from h) g1 H1 σ .refl rl1
      | true =>
        refine (if_pos rfl).symm ▸ ⟨fun σ' H' => ∃ g ρ M, Rel X.K g ρ M σ' H' ∧ PgS X.K E g H' (whileF fc fb n ρ M) D, fun σ' H' q => ⟨n, Nat.lt_succ_self _, q⟩, g1, ρ, M1, rl1, ?_⟩
        have h : PgS X.K E g1 H1 (match fb ρ M1 with
          | .nx ρ' M' => whileF fc fb n ρ' M'
          | .cnt ρ' M' => whileF fc fb n ρ' M'
          | .brk ρ' M' => .nx ρ' M'
          | o => o) D := h
        cases q : fb ρ M1 with
        | nx ρ' M' => rw [q] at h; exact fun g2 H2 σ2 gr2 rl2 => ⟨g2, ρ', M', rl2, PgS.base h gr2⟩
        | cnt ρ' M' => rw [q] at h; exact fun g2 H2 σ2 gr2 rl2 => ⟨g2, ρ', M', rl2, PgS.base h gr2⟩
        | brk ρ' M' => rw [q] at h; exact h
        | ret d M' => rw [q] at h; exact h
        | exc C fs M' => rw [q] at h; exact h
        | stuck => rw [q] at h; exact h⟩
end
end G
/-! G6: parallel stores, op=, what is walked, for, list comprehensions. -/
namespace G
open PySem L2
section
variable {X : Cx} {E : XK}
theorem gs_par {i j : Nat} {x y : Str} {a b : Expr} {fas : EvA} {px py pt pos : Pos} {kt k2 pt2} (hN : X.N.Nodup) (hc : X.calm = true) (ha : GA X E [a, b] fas) (hij : i ≠ j := by decide)
    (hi : X.N[i]? = some x := by rfl) (hj : X.N[j]? = some y := by rfl) (hx : X.env.scope.names.lookup x = some .local := by rfl) (hy : X.env.scope.names.lookup y = some .local := by rfl)
    (hw : swappedStores [.Tuple [.Name x px, .Name y py] kt pt] (.Tuple [a, b] k2 pt2) X.env = pure (some [x, y]) := by rfl)
    (hs : swapsWithSole [.Tuple [.Name x px, .Name y py] kt pt] (.Tuple [a, b] k2 pt2) pos.line X.env = pure false := by rfl) :
    GS X E (.Assign [.Tuple [.Name x px, .Name y py] kt pt] (.Tuple [a, b] k2 pt2) pos) (sPar i j fas) :=
  ⟨PS.weak (ps_par hc hN hi hj hij hx hy ha.pa hw hs) fun D σ H ⟨g, ρ, M, rl, h⟩ => ⟨g, ρ, M, rl, PgS.out h fun ds M1 g1 H1 vs _ gr rh dvs h => by
    match ds, h with
    | [d, e], h =>
      obtain ⟨v, w, rfl, dv, dw⟩ := dvs.two_of
      exact ⟨v, w, rfl, h g1 H1 _ .refl (((rl.grow gr rh).set i dv).set j dw)⟩
    | [], h => exact h.elim
    | [_], h => exact h.elim
    | _ :: _ :: _ :: _, h => exact h.elim⟩⟩
theorem gs_par3 {i j l : Nat} {x y z : Str} {a b c : Expr} {fas : EvA} {px py pz pt pos : Pos} {kt k2 pt2} (hN : X.N.Nodup) (hc : X.calm = true) (ha : GA X E [a, b, c] fas) (hij : i ≠ j := by decide) (hil : i ≠ l := by decide) (hjl : j ≠ l := by decide)
    (hi : X.N[i]? = some x := by rfl) (hj : X.N[j]? = some y := by rfl) (hl : X.N[l]? = some z := by rfl) (hx : X.env.scope.names.lookup x = some .local := by rfl) (hy : X.env.scope.names.lookup y = some .local := by rfl) (hz : X.env.scope.names.lookup z = some .local := by rfl)
    (hw : swappedStores [.Tuple [.Name x px, .Name y py, .Name z pz] kt pt] (.Tuple [a, b, c] k2 pt2) X.env = pure (some [x, y, z]) := by rfl)
    (hs : swapsWithSole [.Tuple [.Name x px, .Name y py, .Name z pz] kt pt] (.Tuple [a, b, c] k2 pt2) pos.line X.env = pure false := by rfl) :
    GS X E (.Assign [.Tuple [.Name x px, .Name y py, .Name z pz] kt pt] (.Tuple [a, b, c] k2 pt2) pos) (sPar3 i j l fas) :=
  ⟨PS.weak (ps_par3 hc hN hi hj hl hij hil hjl hx hy hz ha.pa hw hs) fun D σ H ⟨g, ρ, M, rl, h⟩ => ⟨g, ρ, M, rl, PgS.out h fun ds M1 g1 H1 vs _ gr rh dvs h => by
    match ds, h with
    | [d, e, f], h =>
      cases dvs with | cons dv dvs =>
      obtain ⟨v, w, rfl, dw, dx⟩ := dvs.two_of
      exact ⟨_, v, w, rfl, h g1 H1 _ .refl ((((rl.grow gr rh).set i dv).set j dw).set l dx)⟩
    | [], h => exact h.elim
    | [_], h => exact h.elim
    | [_, _], h => exact h.elim
    | _ :: _ :: _ :: _ :: _, h => exact h.elim⟩⟩
/-! ### op= at a name -/
def sAug (i : Nat) (f : D → D → Mem → Res D) (e : Ev) : Sv := fun ρ M => match ρ[i]? with
  | some (some x) => (e ρ M).out fun y M1 => (f x y M1).out fun z M2 => .nx (ρ.set i (some z)) M2
  | _ => .stuck
theorem gs_aug {i : Nat} {x : Str} {e : Expr} {fe : Ev} {op : Operator} {r : R2} {f : D → D → Mem → Res D} {pos pos' : Pos} (hN : X.N.Nodup) (hs : OpS X.K r f) (ho : OpR X (inplaceOp op) r) (he : GE X E e fe)
    (hi : X.N[i]? = some x := by rfl) (hx : Loc X.env.scope x := by first | exact Or.inl rfl | exact Or.inr rfl) (hf : X.fn x = true ∨ X.env.scope.names.lookup x = some .local := by first | exact .inl rfl | exact .inr rfl) :
    GS X E (.AugAssign (.Name x pos') op e pos) (sAug i f fe) :=
  ⟨PS.weak (ps_aug hN hi hx he.pe ho hf) fun D σ H ⟨g, ρ, M, rl, h⟩ => by
    unfold sAug at h
    split at h
    · rename_i d q
      obtain ⟨v, e1, dv⟩ := rl.s i d q
      refine ⟨v, e1, g, ρ, M, rl, PgS.out h fun y M1 g1 H1 w _ gr rh dw h => ?_⟩
      have rl1 := rl.grow gr rh
      refine hs E g1 H1 M1 v w d y _ rh (dv.grow gr rl.h.nF) dw (PgS.out h fun z M2 g2 H2 u _ gr2 rh2 dz h => ?_)
      exact h g2 H2 _ .refl ((rl1.grow gr2 rh2).set i dz)
    · exact h.elim⟩

/-! ### what is walked -/
structure Itm where
  src : List (Nat × List D)
  xs : List D
abbrev EvI := Slots → Mem → Res Itm
def srcOk (it : Itm) (M : Mem) : Prop := ∀ p, p ∈ it.src → cellL M[p.1]? = some p.2
@[simp] theorem srcOk_none (xs : List D) (M : Mem) : srcOk ⟨[], xs⟩ M := fun _ e => by simp at e
def WalkOk (K : PySem.W.Frag) (g : Gh) (H : Hp) (J : It) (it : Itm) : Prop := ∀ (g2 : Gh) (H2 : Hp) (M2 : Mem) (i : Nat), Grw K g H g2 H2 → RelH K g2 M2 H2 → srcOk it M2 →
  (i < it.xs.length → J.go i H2 ∧ ∀ x H3, J.yld i H2 x H3 → ∃ d g3, it.xs[i]? = some d ∧ Grw K g2 H2 g3 H3 ∧ RelH K g3 M2 H3 ∧ DR K g3 H3 x d) ∧ (it.xs.length ≤ i → J.stop i H2)
def RI (K : PySem.W.Frag) (E : XK) (f : EvI) : TI := fun σ H R => ∃ g ρ M, Rel K g ρ M σ H ∧ Pg K E (WalkOk K) g H (f ρ M) R
structure GI (X : Cx) (E : XK) (tg iter : Expr) (f : EvI) : Prop where
  pi : PI X tg iter (RI X.K E f)
theorem PI.weak {tg iter : Expr} {t t' : TI} (h : PI X tg iter t) (w : ∀ σ H R, t' σ H R → t σ H R) : PI X tg iter t' := ⟨fun pins s σ H R I q => h.run pins s σ H R I (w σ H R q)⟩
theorem SqL.inj {K : PySem.W.Frag} {H : Hp} {a : Addr} {xs ys : List V} (h : H a = some (.lst xs)) (h' : SqL K H a ys) (hk : K.lookup a = none) : ys = xs := by
  rcases h' with (h' | ⟨o, h'⟩) | ⟨o, its, n, k, _⟩
  · rw [h] at h'; cases h'; rfl
  · rw [h] at h'; cases h'
  · rw [hk] at k; cases k
/-- a list or a tuple -/
def iSeq (K : PySem.W.Frag) (tl : TE) : TI := fun σ H R => tl σ H fun x H1 => ∃ a, x = .ref a ∧ ((∃ xs, SqL K H1 a xs ∧ R (Itl K a) H1) ∨ ∃ xs, SqT K H1 a xs ∧ R (Itt K a) H1)
theorem pi_seq {tg l : Expr} {tl : TE} (hl : PE X l tl) : PI X tg l (iSeq X.K tl) := by
  refine ⟨fun pins s σ H R I h => ?_⟩
  refine thn (hl.run pins s σ H _ I h) fun v s1 ⟨x, H1, I1, r1, q1⟩ => ?_
  obtain ⟨a, e, q⟩ := q1
  subst e
  cases r1
  rcases q with ⟨xs, hq, q⟩ | ⟨xs, hq, q⟩
  · obtain ⟨its, rv, p, hz⟩ := I1.list hq
    refine wpAny_pyIter_list p.isList ?_
    refine ⟨s1.heap.objs.size, [s1.heap.objs.size], _, _, H1, rfl, I1.kept (t' := s1.toks) fun b o e => Heap.get?_push_of_some _ e, turn_list a _, ⟨_, Heap.get?_push_size _ rfl, rfl, rfl⟩, fun b hb => ?_, q⟩
    have e : b = s1.heap.objs.size := by simpa using hb
    subst e
    exact I1.fpOk (Nat.le_refl _) (I1.hok.fresh (Nat.le_refl _))
  · obtain ⟨its, rv, p, hz⟩ := I1.tuple hq
    refine wpAny_pyIter_tuple (show s1.heap.IsTuple a its.toArray from p) ?_
    refine ⟨s1.heap.objs.size, [s1.heap.objs.size], _, _, H1, rfl, I1.kept (t' := s1.toks) fun b o e => Heap.get?_push_of_some _ e, turn_tuple a _, ⟨_, Heap.get?_push_size _ rfl, rfl, rfl⟩, fun b hb => ?_, q⟩
    have e : b = s1.heap.objs.size := by simpa using hb
    subst e
    exact I1.fpOk (Nat.le_refl _) (I1.hok.fresh (Nat.le_refl _))
def srcOf (d : D) (xs : List D) : List (Nat × List D) := match d with
  | .ref n => [(n, xs)]
  | _ => []
def iSeqG (e : Ev) : EvI := fun ρ M => (e ρ M).bind fun d M1 => opt (seqOf M1 d) fun xs => .ok ⟨srcOf d xs, xs⟩ M1
theorem RelH.srcL {K : PySem.W.Frag} {g g2 : Gh} {H H2 : Hp} {M M2 : Mem} {d : D} {ds : List D} {v : V} (r : RelH K g M H) (dv : DR K g H v d) (e : lstOf M d = some ds) (gr : Grw K g H g2 H2) (r2 : RelH K g2 M2 H2) (so : ∀ p, p ∈ srcOf d ds → cellL M2[p.1]? = some p.2)
    {a : Addr} {us : List V} (hv : v = .ref a) (hs : H a = some (.lst us)) (hq : DRs K g H us ds) : ∃ ws, H2 a = some (.lst ws) ∧ DRs K g2 H2 ws ds := by
  cases dv with
  | lst f s z q =>
    cases hv
    rw [s] at hs; cases hs
    cases e
    exact ⟨_, gr.frm _ _ s (fun m => r.nF _ m f), q.grow gr r.nF⟩
  | @ref n a' q =>
    cases hv
    have e2 : cellL M2[n]? = some ds := so (n, ds) (by simp [srcOf])
    have c := r2.cell n _ _ (gr.ext n _ q) (cellL_some e2)
    cases c with
    | lst s z p => exact ⟨_, s, p⟩
  | non => cases hv
  | bl _ => cases hv
  | int _ => cases hv
  | str _ _ => cases hv
  | tup _ _ _ => cases e
  | raw _ => cases e
  | arg _ _ => cases e
theorem gi_seq {tg l : Expr} {f : Ev} (hl : GE X E l f) : GI X E tg l (iSeqG f) :=
  ⟨PI.weak (pi_seq hl.pe) fun σ H R ⟨g, ρ, M, rl, h⟩ => ⟨g, ρ, M, rl, Pg.bind h fun d M1 g1 H1 v _ gr rh dv h => by
    obtain ⟨ds, e1, h⟩ := Pg.opt h
    obtain ⟨a, us, rfl, s, z, q⟩ := dv.seqOf rh e1
    by_cases ht : ∃ xs, d = .tup xs
    · obtain ⟨xs, rfl⟩ := ht
      cases e1
      have ⟨us', s', q'⟩ : ∃ us', SqT X.K H1 a us' ∧ DRs X.K g1 H1 us' ds := by cases dv with | tup s z q => exact ⟨_, s, q⟩
      refine ⟨a, rfl, .inr ⟨us', s', h g1 H1 _ .refl rh fun g2 H2 M2 i gr2 rh2 so => ?_⟩⟩
      have s2 := gr2.sq _ _ s'
      have q2 := q'.grow gr2 rh.nF
      refine ⟨fun hi => ⟨⟨us', us'[i]'(by rw [q'.length]; exact hi), s2, by simp⟩, fun x H3 y => ?_⟩, fun hi => ⟨us', s2, by rw [q'.length]; exact hi⟩⟩
      obtain ⟨e, y⟩ := y
      subst e
      obtain ⟨d, e3, dd⟩ := q2.getV (y us' s2)
      exact ⟨d, g2, e3, .refl, rh2, dd⟩
    · have e1' : lstOf M1 d = some ds := by
        cases d with
        | tup xs => exact absurd ⟨xs, rfl⟩ ht
        | _ => exact e1
      obtain ⟨a', us', e4, s', z', q'⟩ := dv.lstOf rh e1'
      cases e4
      refine ⟨a, rfl, .inl ⟨us', .of s', h g1 H1 _ .refl rh fun g2 H2 M2 i gr2 rh2 so => ?_⟩⟩
      obtain ⟨ws, s2, q2⟩ := rh.srcL dv e1' gr2 rh2 so rfl s' q'
      refine ⟨fun hi => ⟨⟨ws, ws[i]'(by rw [q2.length]; exact hi), .of s2, by simp⟩, fun x H3 y => ?_⟩, fun hi => ⟨ws, .of s2, by rw [q2.length]; exact hi⟩⟩
      obtain ⟨e, y⟩ := y
      subst e
      obtain ⟨d, e3, dd⟩ := q2.getV (y ws (.of s2))
      exact ⟨d, g2, e3, .refl, rh2, dd⟩⟩⟩
/-! ### ranges -/
def rangeL (lo : Int) (n : Nat) : List D := (List.range n).map fun (i : Nat) => D.int (lo + (i : Int))
theorem rangeL_get {lo : Int} {n i : Nat} (h : i < n) : (rangeL lo n)[i]? = some (.int (lo + i)) := by simp [rangeL, h]
@[simp] theorem rangeL_length (lo : Int) (n : Nat) : (rangeL lo n).length = n := by simp [rangeL]
def iR1 (a : Ev) : EvI := fun ρ M => (a ρ M).bind fun d M1 => match d with
  | .int j => if -(2 ^ 60) ≤ j ∧ j < 2 ^ 60 then .ok ⟨[], rangeL 0 j.toNat⟩ M1 else .stuck
  | _ => .stuck
def iR2 (a b : Ev) : EvI := fun ρ M => (a ρ M).bind fun d M1 => (b ρ M1).bind fun e M2 => match d, e with
  | .int i, .int j => if -(2 ^ 60) ≤ i ∧ i < 2 ^ 60 ∧ -(2 ^ 60) ≤ j ∧ j < 2 ^ 60 then .ok ⟨[], rangeL i (j - i).toNat⟩ M2 else .stuck
  | _, _ => .stuck
theorem walk_range {K : PySem.W.Frag} {g : Gh} {H : Hp} (lo : Int) (n : Nat) : WalkOk K g H (Itr lo n) ⟨[], rangeL lo n⟩ := fun g2 H2 M2 i gr2 rh2 so =>
  ⟨fun hi => by
    have hi : i < n := by simpa using hi
    refine ⟨hi, fun x H3 y => ?_⟩
    obtain ⟨e, y⟩ := y
    subst e y
    exact ⟨_, g2, rangeL_get hi, .refl, rh2, .int _⟩, fun hi => (by simpa using hi : n ≤ i)⟩
theorem gi_range1 {tg a : Expr} {f : Ev} {p pos : Pos} (ha : GE X E a f) (hm : X.mg "range" = none) (hg : Gl X "range" := by rfl) (hs : starEach [a] X.env = [(false, eval a X.env)] := by rfl) : GI X E tg (.Call (.Name "range" p) [a] [] pos) (iR1 f) :=
  ⟨PI.weak (pi_range1 hg hm (pa_cons ha.pe pa_nil (by rw [hs]; rfl)) hs) fun σ H R ⟨g, ρ, M, rl, h⟩ => ⟨g, ρ, M, rl, Pg.bind h fun d M1 g1 H1 v _ gr rh dv h => by
    cases dv with
    | int j =>
      obtain ⟨⟨c1, c2⟩, h⟩ := Pg.ite h
      exact ⟨j, rfl, by omega, by omega, h g1 H1 _ .refl rh (walk_range 0 j.toNat)⟩
    | _ => exact h.elim⟩⟩
theorem gi_range2 {tg a b : Expr} {f f' : Ev} {p pos : Pos} (ha : GE X E a f) (hb : GE X E b f') (hm : X.mg "range" = none) (hg : Gl X "range" := by rfl) (hs : starEach [a, b] X.env = [(false, eval a X.env), (false, eval b X.env)] := by rfl) (hs2 : starEach [b] X.env = [(false, eval b X.env)] := by rfl) :
    GI X E tg (.Call (.Name "range" p) [a, b] [] pos) (iR2 f f') :=
  ⟨PI.weak (pi_range2 hg hm (pa_cons ha.pe (pa_cons hb.pe pa_nil (by rw [hs2]; rfl)) (by rw [hs, hs2])) hs hs2) fun σ H R ⟨g, ρ, M, rl, h⟩ => ⟨g, ρ, M, rl, Pg.bind h fun d M1 g1 H1 v _ gr rh dv h => ⟨g1, ρ, M1, rl.grow gr rh, Pg.bind h fun e M2 g2 H2 w _ gr2 rh2 dw h => by
    have dv2 := dv.grow gr2 rh.nF
    cases dv2 with
    | int i => cases dw with
      | int j =>
        obtain ⟨⟨c1, c2, c3, c4⟩, h⟩ := Pg.ite h
        exact ⟨i, j, rfl, by omega, h g2 H2 _ .refl rh2 (walk_range i (j - i).toNat)⟩
      | _ => exact h.elim
    | _ => exact (Pg.stk (by cases e <;> exact h)).elim⟩⟩⟩

/-! ### for -/
open Classical in
noncomputable def forL (b : Bn) (body : Sv) (it : Itm) : List D → Sv
  | [], ρ, M => if srcOk it M then .nx ρ M else .stuck
  | d :: ds, ρ, M => if srcOk it M then (match b d ρ M with
    | some ρ1 => (match body ρ1 M with
      | .nx ρ' M' => forL b body it ds ρ' M'
      | .cnt ρ' M' => forL b body it ds ρ' M'
      | .brk ρ' M' => .nx ρ' M'
      | o => o)
    | none => .stuck) else .stuck
noncomputable def sFor (i : EvI) (b : Bn) (body : Sv) : Sv := fun ρ M => (i ρ M).out fun it M1 => forL b body it it.xs ρ M1
theorem PgS.ite {K : PySem.W.Frag} {g : Gh} {H : Hp} {c : Prop} {_ : Decidable c} {a : Out} {D : Ends} (h : PgS K E g H (if c then a else .stuck) D) : c ∧ PgS K E g H a D := by
  by_cases q : c
  · rw [if_pos q] at h; exact ⟨q, h⟩
  · rw [if_neg q] at h; exact h.elim
theorem gs_for {tg iter : Expr} {body : List Stmt} {fi : EvI} {is : List Nat} {b : Bn} {fb : Sv} {pos : Pos} (hi : GI X E tg iter fi) (ht : GB X tg is b) (hb : GSs X E body fb) (hp : PassesOwn (model X.prog X.w) X.A X.env X.xe) (hc : X.calm = true)
    (hs : ∀ x, foldedSetIterable iter X.env x = pure x := by intro _; rfl) : GS X E (.For tg iter body [] pos) (sFor fi b fb) := by
  obtain ⟨t, h1, h2⟩ := ht.ok
  refine ⟨PS.weak (ps_for hp hc hi.pi h1 hb.pss hs) fun D σ H ⟨g, ρ, M, rl, h⟩ => ⟨g, ρ, M, rl, PgS.out h fun it M1 g1 H1 J _ gr rh wk h => ?_⟩⟩
  refine ⟨fun i m σ H => m = it.xs.length - i ∧ ∃ g2 ρ M, Grw X.K g1 H1 g2 H ∧ Rel X.K g2 ρ M σ H ∧ PgS X.K E g2 H (forL b fb it (it.xs.drop i) ρ M) D, ⟨_, rfl, g1, ρ, M1, .refl, rl.grow gr rh, h⟩, ?_⟩
  rintro i m σ H ⟨rfl, g2, ρ, M, gr2, rl2, h⟩
  by_cases hl : i < it.xs.length
  · rw [List.drop_eq_getElem_cons hl] at h
    unfold forL at h
    obtain ⟨so, h⟩ := PgS.ite h
    obtain ⟨go, yl⟩ := (wk g2 H M i gr2 rl2.h so).1 hl
    refine .inr ⟨go, fun σ' H' => ∃ g3 ρ M, Grw X.K g1 H1 g3 H' ∧ Rel X.K g3 ρ M σ' H' ∧ PgS X.K E g3 H' (forL b fb it (it.xs.drop (i + 1)) ρ M) D, fun σ' H' q => ⟨it.xs.length - (i + 1), by omega, rfl, q⟩, fun x H3 y => ?_⟩
    obtain ⟨d, g3, ed, gr3, rh3, dd⟩ := yl x H3 y
    have ed' : d = it.xs[i] := by rw [List.getElem?_eq_getElem hl] at ed; exact (Option.some.inj ed).symm
    subst ed'
    have h := PgS.base h gr3
    have rl3 := rl2.grow gr3 rh3
    cases q : b it.xs[i] ρ M with
    | none => rw [q] at h; exact h.elim
    | some ρ1 =>
      rw [q] at h
      refine h2 g3 H3 M σ ρ ρ1 x _ _ rl3 dd q fun σ4 rl4 _ _ => ⟨g3, ρ1, M, rl4, ?_⟩
      simp only at h
      cases q2 : fb ρ1 M with
      | nx ρ' M' => rw [q2] at h; exact fun g5 H5 σ5 gr5 rl5 => ⟨g5, ρ', M', (gr2.trans gr3).trans gr5, rl5, PgS.base h gr5⟩
      | cnt ρ' M' => rw [q2] at h; exact fun g5 H5 σ5 gr5 rl5 => ⟨g5, ρ', M', (gr2.trans gr3).trans gr5, rl5, PgS.base h gr5⟩
      | brk ρ' M' => rw [q2] at h; exact h
      | ret d M' => rw [q2] at h; exact h
      | exc C fs M' => rw [q2] at h; exact h
      | stuck => rw [q2] at h; exact h
  · rw [List.drop_eq_nil_of_le (by omega)] at h
    unfold forL at h
    obtain ⟨so, h⟩ := PgS.ite h
    exact .inl ⟨(wk g2 H M i gr2 rl2.h so).2 (by omega), h g2 H σ .refl rl2⟩

/-! ### list comprehensions -/
/-- while it is made, the new list stands apart: no cell, not frozen -/
theorem upd_sqT {K : PySem.W.Frag} {H : Hp} {p : Addr} {o : HO} {us : List V} (e : H p = some (.lst us)) {a : Addr} {xs : List V} (s : SqT K H a xs) : SqT K (upd H p o) a xs := by
  rcases s with (s | ⟨o', s⟩) | s
  · exact .inl (.inl (by rw [upd_ne (ne_of s e (fun q => by cases q))]; exact s))
  · exact .inl (.inr ⟨o', by rw [upd_ne (ne_of s e (fun q => by cases q))]; exact s⟩)
  · exact .inr s
theorem apart_grw {K : PySem.W.Frag} {g g' : Gh} {H H' : Hp} {p : Addr} {us : List V} {o : HO} (gr : Grw K g H g' H') (n : H p = none) (e : H' p = some (.lst us)) : Grw K g H g' (upd H' p o) where
  sq := fun a xs s => upd_sqT e (gr.sq a xs s)
  frm := fun a o' q m => by rw [upd_ne (ne_of_none q n)]; exact gr.frm a o' q m
  trk := fun a o' q => by rw [upd_ne (ne_of_none q n)]; exact gr.trk a o' q
  ext := gr.ext
  newI := gr.newI
  F := gr.F
  newF := gr.newF
theorem apart_arg {K : PySem.W.Frag} {F : Addr → Prop} {H : Hp} {p : Addr} {us : List V} {o : HO} (e : H p = some (.lst us)) (nf : ¬ F p) {a : Addr} {xs : List V} (q : ArgL K F H a xs) : ArgL K F (upd H p o) a xs := by
  rcases q with ⟨f, o', q⟩ | q
  · exact .inl ⟨f, o', by rw [upd_ne (fun z => nf (by rw [← z]; exact f))]; exact q⟩
  · exact .inr q
theorem ArgL.mono {K : PySem.W.Frag} {F F' : Addr → Prop} {H : Hp} {a : Addr} {xs : List V} (h : ∀ a, F a → F' a) (q : ArgL K F H a xs) : ArgL K F' H a xs := by
  rcases q with ⟨f, o', q⟩ | q
  · exact .inl ⟨h _ f, o', q⟩
  · exact .inr q
mutual
theorem apart_dr {K : PySem.W.Frag} {g : Gh} {H : Hp} {p : Addr} {us : List V} {o : HO} (e : H p = some (.lst us)) (nf : ¬ g.F p) : ∀ {v : V} {d : D}, DR K g H v d → DR K g (upd H p o) v d
  | _, _, .non => .non
  | _, _, .bl b => .bl b
  | _, _, .int i => .int i
  | _, _, .str x q => .str x q
  | _, _, .tup s z r => .tup (upd_sqT e s) z (apart_drs e nf r)
  | _, _, .lst f s z r => .lst f (by rw [upd_ne (fun q => nf (by rw [← q]; exact f))]; exact s) z (apart_drs e nf r)
  | _, _, .ref q => .ref q
  | _, _, .raw v => .raw v
  | _, _, .arg q z => .arg (apart_arg e nf q) z
theorem apart_drs {K : PySem.W.Frag} {g : Gh} {H : Hp} {p : Addr} {us : List V} {o : HO} (e : H p = some (.lst us)) (nf : ¬ g.F p) : ∀ {vs : List V} {ds : List D}, DRs K g H vs ds → DRs K g (upd H p o) vs ds
  | _, _, .nil => .nil
  | _, _, .cons a b => .cons (apart_dr e nf a) (apart_drs e nf b)
end
theorem apart_fr {K : PySem.W.Frag} {g : Gh} {H : Hp} {p : Addr} {us : List V} {o : HO} (e : H p = some (.lst us)) (nf : ¬ g.F p) {vs ds} (r : FR K g H vs ds) : FR K g (upd H p o) vs ds := by
  induction r with
  | nil => exact .nil
  | cons a _ ih => exact .cons (apart_dr e nf a) ih
theorem apart_kr {K : PySem.W.Frag} {g : Gh} {H : Hp} {p : Addr} {us : List V} {o : HO} (e : H p = some (.lst us)) (nf : ¬ g.F p) {vs ds} (r : KR K g H vs ds) : KR K g (upd H p o) vs ds := by
  induction r with
  | nil => exact .nil
  | cons h s a _ ih => exact .cons h s (apart_dr e nf a) ih
theorem apart_rel {K : PySem.W.Frag} {g : Gh} {M : Mem} {H : Hp} {p : Addr} {us : List V} {o : HO} (r : RelH K g M H) (e : H p = some (.lst us)) (nf : ¬ g.F p) (ni : p ∉ g.io) : RelH K g M (upd H p o) where
  len := r.len
  nd := r.nd
  cell := fun n a c e1 e2 => by
    have ne : a ≠ p := fun q => ni (by rw [← q]; exact List.mem_of_getElem? e1)
    cases r.cell n a c e1 e2 with
    | lst s z q => exact .lst (by rw [upd_ne ne]; exact s) z (apart_drs e nf q)
    | dct s z q => exact .dct (by rw [upd_ne ne]; exact s) z (apart_kr e nf q)
    | ins s q => exact .ins (by rw [upd_ne ne]; exact s) (apart_fr e nf q)
  nF := r.nF
  wF := fun a f => by
    obtain ⟨u, q⟩ := r.wF a f
    exact ⟨u, by rw [upd_ne (fun z => nf (by rw [← z]; exact f))]; exact q⟩
structure GTs (X : Cx) (E : XK) (ifs : List Expr) (f : EvT) : Prop where
  pts : PTs X ifs (RT X.K E f)
def tYesG : EvT := fun _ M => .ok true M
theorem gts_nil : GTs X E [] tYesG := ⟨⟨fun pins s σ H Q I ⟨g, ρ, M, rl, h⟩ => pts_nil.run pins s σ H Q I (h g H true .refl rl.h rfl)⟩⟩
theorem gts_one {c : Expr} {f : EvT} (h : GT X E c f) : GTs X E [c] f := ⟨pts_one h.pt⟩
def Res.nox {α : Type} (r : Res α) : Res α := match r with
  | .ok a M => .ok a M
  | _ => .stuck
@[simp] theorem Res.nox_ok {α : Type} (a : α) (M : Mem) : (Res.ok a M).nox = .ok a M := rfl
open Classical in
noncomputable def lcL (b : Bn) (tt : EvT) (te : Ev) (it : Itm) (ρ : Slots) : List D → List D → Mem → Res (List D)
  | [], acc, M => if srcOk it M then .ok acc M else .stuck
  | d :: ds, acc, M => if srcOk it M then (opt (b d ρ M) fun ρ1 => (tt ρ1 M).nox.bind fun k M1 => if k = true then (te ρ1 M1).nox.bind fun y M2 => if acc.length < 1000000 then lcL b tt te it ρ ds (acc ++ [y]) M2 else .stuck else lcL b tt te it ρ ds acc M1) else .stuck
def wipeG (ρ : Slots) : List Nat → Slots
  | [] => ρ
  | v :: vs => (wipeG ρ vs).set v none
noncomputable def eLc (c : Bool) (i : EvI) (b : Bn) (tt : EvT) (te : Ev) (vs : List Nat) : Ev := fun ρ M => (i ρ M).bind fun it M1 => (lcL b tt te it (wipeG ρ vs) it.xs [] M1).bind fun xs M2 => newL c xs M2
theorem Rel.wipe {K : PySem.W.Frag} {g : Gh} {ρ : Slots} {M : Mem} {σ : St} {H : Hp} (r : Rel K g ρ M σ H) : ∀ vs : List Nat, Rel K g (wipeG ρ vs) M (wipe σ vs) H
  | [] => r
  | v :: vs => (Rel.wipe r vs).unset v none
theorem wipe_ext {σ τ : St} {vs : List Nat} (h : ∀ j, j ∉ vs → σ[j]? = τ[j]?) (hl : σ.length = τ.length) : wipe σ vs = wipe τ vs := by
  have get : ∀ (σ : St) (vs : List Nat) (j : Nat), (wipe σ vs)[j]? = if j ∈ vs then (if j < σ.length then some none else none) else σ[j]? := by
    intro σ vs
    induction vs with
    | nil => intro j; simp [L2.wipe]
    | cons v vs ih =>
      intro j
      show ((wipe σ vs).set v none)[j]? = _
      by_cases hj : v = j
      · subst hj
        by_cases hv : v < σ.length
        · rw [List.getElem?_set_self (by rw [wipe_length]; exact hv)]
          simp [hv]
        · rw [List.getElem?_eq_none (by rw [List.length_set, wipe_length]; omega)]
          simp [hv]
      · rw [List.getElem?_set_ne hj, ih]
        have : (j ∈ v :: vs) ↔ j ∈ vs := by simp [Ne.symm hj]
        simp only [this]
  refine List.ext_getElem? fun j => ?_
  rw [get, get]
  by_cases hj : j ∈ vs
  · simp [hj, hl]
  · simp [hj, h j hj]
theorem wipe_wipe (σ : St) (vs : List Nat) : wipe (wipe σ vs) vs = wipe σ vs := wipe_ext (fun j hj => by
  have : ∀ (vs : List Nat), j ∉ vs → (wipe σ vs)[j]? = σ[j]? := by
    intro vs
    induction vs with
    | nil => intro _; rfl
    | cons v vs ih => intro h; show ((wipe σ vs).set v none)[j]? = _; rw [List.getElem?_set_ne (fun q => h (by simp [q]))]; exact ih fun m => h (List.mem_cons_of_mem _ m)
  exact this vs hj) (wipe_length σ vs)
mutual
theorem frz_dr {K : PySem.W.Frag} {g : Gh} {H : Hp} {p : Addr} : ∀ {v : V} {d : D}, DR K g H v d → DR K (g.frz p) H v d
  | _, _, .non => .non
  | _, _, .bl b => .bl b
  | _, _, .int i => .int i
  | _, _, .str x q => .str x q
  | _, _, .tup s z r => .tup s z (frz_drs r)
  | _, _, .lst f s z r => .lst (.inr f) s z (frz_drs r)
  | _, _, .ref q => .ref q
  | _, _, .raw v => .raw v
  | _, _, .arg q z => .arg (ArgL.mono (fun _ f => .inr f) q) z
theorem frz_drs {K : PySem.W.Frag} {g : Gh} {H : Hp} {p : Addr} : ∀ {vs : List V} {ds : List D}, DRs K g H vs ds → DRs K (g.frz p) H vs ds
  | _, _, .nil => .nil
  | _, _, .cons a b => .cons (frz_dr a) (frz_drs b)
end
theorem frz_fr {K : PySem.W.Frag} {g : Gh} {H : Hp} {p : Addr} {vs ds} (r : FR K g H vs ds) : FR K (g.frz p) H vs ds := by
  induction r with
  | nil => exact .nil
  | cons a _ ih => exact .cons (frz_dr a) ih
theorem frz_kr {K : PySem.W.Frag} {g : Gh} {H : Hp} {p : Addr} {vs ds} (r : KR K g H vs ds) : KR K (g.frz p) H vs ds := by
  induction r with
  | nil => exact .nil
  | cons h s a _ ih => exact .cons h s (frz_dr a) ih
theorem frz_cr {K : PySem.W.Frag} {g : Gh} {H : Hp} {p a : Addr} {c : Cell} (r : CR K g H a c) : CR K (g.frz p) H a c := by
  cases r with
  | lst s z q => exact .lst s z (frz_drs q)
  | dct s z q => exact .dct s z (frz_kr q)
  | ins s q => exact .ins s (frz_fr q)
mutual
theorem add_dr {K : PySem.W.Frag} {g : Gh} {H : Hp} {p : Addr} : ∀ {v : V} {d : D}, DR K g H v d → DR K (g.add p) H v d
  | _, _, .non => .non
  | _, _, .bl b => .bl b
  | _, _, .int i => .int i
  | _, _, .str x q => .str x q
  | _, _, .tup s z r => .tup s z (add_drs r)
  | _, _, .lst f s z r => .lst f s z (add_drs r)
  | _, _, .ref (n := n) (a := a) q => .ref (show (g.io ++ [p])[n]? = some a by rw [List.getElem?_append_left (List.getElem?_eq_some_iff.mp q).1]; exact q)
  | _, _, .raw v => .raw v
  | _, _, .arg q z => .arg q z
theorem add_drs {K : PySem.W.Frag} {g : Gh} {H : Hp} {p : Addr} : ∀ {vs : List V} {ds : List D}, DRs K g H vs ds → DRs K (g.add p) H vs ds
  | _, _, .nil => .nil
  | _, _, .cons a b => .cons (add_dr a) (add_drs b)
end
theorem add_fr {K : PySem.W.Frag} {g : Gh} {H : Hp} {p : Addr} {vs ds} (r : FR K g H vs ds) : FR K (g.add p) H vs ds := by
  induction r with
  | nil => exact .nil
  | cons a _ ih => exact .cons (add_dr a) ih
theorem add_kr {K : PySem.W.Frag} {g : Gh} {H : Hp} {p : Addr} {vs ds} (r : KR K g H vs ds) : KR K (g.add p) H vs ds := by
  induction r with
  | nil => exact .nil
  | cons h s a _ ih => exact .cons h s (add_dr a) ih
theorem add_cr {K : PySem.W.Frag} {g : Gh} {H : Hp} {p a : Addr} {c : Cell} (r : CR K g H a c) : CR K (g.add p) H a c := by
  cases r with
  | lst s z q => exact .lst s z (add_drs q)
  | dct s z q => exact .dct s z (add_kr q)
  | ins s q => exact .ins s (add_fr q)
theorem lc_read {i : EvI} {is : List Nat} {b : Bn} {t : TG} {tt : EvT} {te : Ev} {vs : List Nat} {c : Bool} {σ : L2.St} {H : Hp} {Q : VK} (h2 : ∀ (g : Gh) (H : Hp) (M : Mem) (σ : L2.St) (ρ ρ' : Slots) (v : V) (d : D) (Q : L2.St → Hp → Prop), Rel X.K g ρ M σ H → DR X.K g H v d → b d ρ M = some ρ' →
    (∀ σ', Rel X.K g ρ' M σ' H → (∀ j, j ∉ is → σ'[j]? = σ[j]?) → σ'.length = σ.length → Q σ' H) → t v σ H Q) (hv : ∀ j, j ∈ is → j ∈ vs) (h : RD X.K E (eLc c i b tt te vs) σ H Q) : tLc (RI X.K E i) t (RT X.K E0 tt) (RD X.K E0 te) vs σ H Q := by
  obtain ⟨g, ρ, M, rl, h⟩ := h
  refine ⟨g, ρ, M, rl, Pg.bind h fun it M1 g1 H1 J _ gr rh wk h D hD => ?_⟩
  have rl1 := (rl.grow gr rh).wipe vs
  refine ⟨fun i m H => m = it.xs.length - i ∧ ∃ g2 M acc us, Grw X.K g1 H1 g2 H ∧ RelH X.K g2 M H ∧ H D = some (.lst us) ∧ us.length ≤ sizeLine ∧ DRs X.K g2 H us acc ∧ ¬ g2.F D ∧ D ∉ g2.io ∧
    Pg X.K E (repV X.K) g1 H1 ((lcL b tt te it (wipeG ρ vs) (it.xs.drop i) acc M).bind fun xs M2 => newL c xs M2) Q, ⟨_, rfl, g1, M1, [], [], Grw.new hD, rh.new hD, upd_same, Nat.zero_le _, .nil, fun f => ?_, fun m => ?_, h⟩, ?_⟩
  · obtain ⟨u, q⟩ := rh.wF D f
    rw [hD] at q; cases q
  · obtain ⟨u, q⟩ := rh.there m
    rw [hD] at q; cases q
  rintro i m H ⟨rfl, g2, M, acc, us, gr2, rh2, hl, hz, hq, nf, ni, h⟩
  by_cases hi : i < it.xs.length
  · rw [List.drop_eq_getElem_cons hi] at h
    unfold lcL at h
    by_cases so : srcOk it M
    · rw [if_pos so] at h
      obtain ⟨go, yl⟩ := (wk g2 H M i gr2 rh2 so).1 hi
      refine .inr ⟨go, fun H' => ∃ g2 M acc us, Grw X.K g1 H1 g2 H' ∧ RelH X.K g2 M H' ∧ H' D = some (.lst us) ∧ us.length ≤ sizeLine ∧ DRs X.K g2 H' us acc ∧ ¬ g2.F D ∧ D ∉ g2.io ∧
        Pg X.K E (repV X.K) g1 H1 ((lcL b tt te it (wipeG ρ vs) (it.xs.drop (i + 1)) acc M).bind fun xs M2 => newL c xs M2) Q, fun H' q => ⟨it.xs.length - (i + 1), by omega, rfl, q⟩, fun x H3 y => ?_⟩
      obtain ⟨d, g3, ed, gr3, rh3, dd⟩ := yl x H3 y
      have ed' : d = it.xs[i] := by rw [List.getElem?_eq_getElem hi] at ed; exact (Option.some.inj ed).symm
      subst ed'
      have apart : ∀ {ga gb : Gh} {Ha Hb : Hp}, Grw X.K ga Ha gb Hb → Ha D = some (.lst us) → ¬ ga.F D → D ∉ ga.io → Hb D = some (.lst us) ∧ ¬ gb.F D ∧ D ∉ gb.io := fun gg e f n =>
        ⟨gg.frm D _ e n, fun z => (gg.newF D z).elim f fun q => (by rw [e] at q; cases q), fun z => (gg.newI D z).elim n fun q => (by rw [e] at q; cases q)⟩
      obtain ⟨hl3, nf3, ni3⟩ := apart gr3 hl nf ni
      have hq3 := hq.grow gr3 rh2.nF
      cases q : b it.xs[i] (wipeG ρ vs) M with
      | none => rw [q] at h; exact h.elim
      | some ρ1 =>
        rw [q] at h
        have rl3 : Rel X.K g3 (wipeG ρ vs) M (wipe σ vs) H3 := rl1.grow (gr2.trans gr3) rh3
        refine h2 g3 H3 M (wipe σ vs) (wipeG ρ vs) ρ1 x _ _ rl3 dd q fun σ4 rl4 f4 l4 => ⟨?_, g3, ρ1, M, rl4, ?_⟩
        · rw [← wipe_wipe σ vs]
          exact wipe_ext (fun j hj => f4 j fun m => hj (hv j m)) l4
        · cases q3 : tt ρ1 M with
          | ok k M3 =>
            simp only [opt_some, q3, Res.nox_ok, Res.bind_ok] at h
            intro g4 H4 k' gr4 rh4 ek
            have ek : k' = k := ek
            subst ek
            obtain ⟨hl4, nf4, ni4⟩ := apart gr4 hl3 nf3 ni3
            have hq4 := hq3.grow gr4 rh3.nF
            cases k' with
            | false =>
              rw [if_neg Bool.false_ne_true] at h ⊢
              exact ⟨g4, M3, acc, us, (gr2.trans gr3).trans gr4, rh4, hl4, hz, hq4, nf4, ni4, h⟩
            | true =>
              rw [if_pos rfl] at h ⊢
              refine ⟨g4, ρ1, M3, rl4.grow gr4 rh4, ?_⟩
              cases q5 : te ρ1 M3 with
              | ok y M5 =>
                simp only [q5, Res.nox_ok, Res.bind_ok] at h
                by_cases hlen : acc.length < 1000000
                · rw [if_pos hlen] at h
                  intro g5 H5 v gr5 rh5 dv
                  obtain ⟨hl5, nf5, ni5⟩ := apart gr5 hl4 nf4 ni4
                  have hq5 := hq4.grow gr5 rh4.nF
                  have hz5 : us.length < sizeLine := by rw [hq.length]; exact lim_lt hlen
                  refine ⟨us, hl5, hz5, g5, M5, acc ++ [y], us ++ [v], apart_grw (((gr2.trans gr3).trans gr4).trans gr5) hD hl5, apart_rel rh5 hl5 nf5 ni5, upd_same, by rw [List.length_append]; exact hz5, apart_drs hl5 nf5 (hq5.append (.one dv)), nf5, ni5, h⟩
                · rw [if_neg hlen] at h; exact h.elim
              | exc C fs M5 => simp only [q5] at h; exact h.elim
              | stuck => simp only [q5] at h; exact h.elim
          | exc C fs M3 => simp only [opt_some, q3] at h; exact h.elim
          | stuck => simp only [opt_some, q3] at h; exact h.elim
    · rw [if_neg so] at h; exact h.elim
  · rw [List.drop_eq_nil_of_le (by omega)] at h
    unfold lcL at h
    by_cases so : srcOk it M
    · rw [if_pos so] at h
      refine .inl ⟨(wk g2 H M i gr2 rh2 so).2 (by omega), ?_⟩
      have h : Pg X.K E (repV X.K) g1 H1 (newL c acc M) Q := h
      have tr : ∀ a, g2.F a → a ≠ D := fun a f q => nf (by rw [← q]; exact f)
      cases c with
      | false =>
        have gF : Grw X.K g1 H1 (g2.frz D) H := ⟨gr2.sq, gr2.frm, gr2.trk, gr2.ext, gr2.newI, fun a f => .inr (gr2.F a f), fun a f => f.elim (fun e => .inr (by rw [e]; exact hD)) (gr2.newF a)⟩
        have g0 : Grw X.K g2 H (g2.frz D) H → True := fun _ => trivial
        have up : ∀ {v d}, DR X.K g2 H v d → DR X.K (g2.frz D) H v d := fun r => frz_dr r
        refine h (g2.frz D) H _ gF ⟨rh2.len, rh2.nd, fun n a c e1 e2 => frz_cr (rh2.cell n a c e1 e2), fun a m f => f.elim (fun e => ni (by rw [← e]; exact m)) (rh2.nF a m), fun a f => f.elim (fun e => ⟨_, e ▸ hl⟩) (rh2.wF a)⟩ (.lst (.inl rfl) hl hz (frz_drs hq))
      | true =>
        have gF : Grw X.K g1 H1 (g2.add D) H := ⟨gr2.sq, gr2.frm, gr2.trk, fun n a e => by
            have e := gr2.ext n a e
            show (g2.io ++ [D])[n]? = some a
            rw [List.getElem?_append_left (List.getElem?_eq_some_iff.mp e).1]; exact e, fun a m => (List.mem_append.mp m).elim (gr2.newI a) (fun e => .inr (by rw [show a = D by simpa using e]; exact hD)), gr2.F, gr2.newF⟩
        refine h (g2.add D) H _ gF ⟨?_, ?_, fun n a c e1 e2 => ?_, fun a m f => ?_, rh2.wF⟩ (.ref rh2.last)
        · show (g2.io ++ [D]).length = _; simp [rh2.len]
        · show (g2.io ++ [D]).Nodup
          refine List.nodup_append.mpr ⟨rh2.nd, by simp, fun a m b m' e => ?_⟩
          have eb : b = D := by simpa using m'
          exact ni (by rw [← eb, ← e]; exact m)
        · have e1 : (g2.io ++ [D])[n]? = some a := e1
          by_cases hn : n < g2.io.length
          · rw [List.getElem?_append_left hn] at e1
            rw [List.getElem?_append_left (by rw [← rh2.len]; exact hn)] at e2
            exact add_cr (rh2.cell n a c e1 e2)
          · have hn' : n = g2.io.length := by
              have := (List.getElem?_eq_some_iff.mp e1).1
              simp at this; omega
            rw [hn', List.getElem?_append_right (Nat.le_refl _)] at e1
            rw [hn', rh2.len, List.getElem?_append_right (Nat.le_refl _)] at e2
            simp at e1 e2
            subst e1 e2
            exact .lst hl hz (add_drs hq)
        · rcases List.mem_append.mp m with m | m
          · exact rh2.nF a m f
          · have : a = D := by simpa using m
            exact nf (by rw [← this]; exact f)
    · rw [if_neg so] at h; exact h.elim
theorem ge_lc (c : Bool) (own : List (Str × Nat)) {elt tg iter : Expr} {ifs : List Expr} {scope : Scope} {pos : Pos} {fi : EvI} {is : List Nat} {b : Bn} {ft : EvT} {fe : Ev} (hN : X.N.Nodup) (hc : X.calm = true) (hi : GI X E tg iter fi) (ok : BlkOk X.N X.env.scope scope own)
    (hg : ∃ t : TG, (∀ (s : Shared) (H : Hp) (C : Addr) (cl : List (Str × Addr)) (fp : List Addr), PG (X.blk s H scope (compEnvC scope cl C X.env) fp) tg t) ∧ ∀ (g : Gh) (H : Hp) (M : Mem) (σ : L2.St) (ρ ρ' : Slots) (v : V) (d : D) (Q : L2.St → Hp → Prop), Rel X.K g ρ M σ H → DR X.K g H v d → b d ρ M = some ρ' →
      (∀ σ', Rel X.K g ρ' M σ' H → (∀ j, j ∉ is → σ'[j]? = σ[j]?) → σ'.length = σ.length → Q σ' H) → t v σ H Q)
    (ht : ∀ (s : Shared) (H : Hp) (C : Addr) (cl : List (Str × Addr)) (fp : List Addr), GTs (X.blk s H scope (compEnvC scope cl C X.env) fp) E0 ifs ft)
    (he : ∀ (s : Shared) (H : Hp) (C : Addr) (cl : List (Str × Addr)) (fp : List Addr), GE (X.blk s H scope (compEnvC scope cl C X.env) fp) E0 elt fe) (hv : (is.all fun j => (own.map (·.2)).contains j) = true := by decide) (hs : ∀ x, foldedSetIterable iter X.env x = pure x := by intro _; rfl) :
    GE X E (.ListComp elt [⟨tg, iter, ifs, 0⟩] scope pos) (eLc c fi b ft fe (own.map (·.2))) := by
  obtain ⟨t, h1, h2⟩ := hg
  exact ⟨PE.weak (pe_lc hc hN hi.pi ok h1 (fun s H C cl fp => (ht s H C cl fp).pts) (fun s H C cl fp => (he s H C cl fp).pe) hs) fun σ H Q h => lc_read h2 (fun j hj => by
    have := List.all_eq_true.mp hv j hj
    simpa using this) h⟩
theorem gs_setLc (c : Bool) (own : List (Str × Nat)) {i : Nat} {y : Str} {py : Pos} {elt tg iter : Expr} {ifs : List Expr} {scope : Scope} {pos spos : Pos} {fi : EvI} {is : List Nat} {b : Bn} {ft : EvT} {fe : Ev} (hN : X.N.Nodup) (hc : X.calm = true) (hi : GI X E tg iter fi) (ok : BlkOk X.N X.env.scope scope own)
    (hg : ∃ t : TG, (∀ (s : Shared) (H : Hp) (C : Addr) (cl : List (Str × Addr)) (fp : List Addr), PG (X.blk s H scope (compEnvC scope cl C X.env) fp) tg t) ∧ ∀ (g : Gh) (H : Hp) (M : Mem) (σ : L2.St) (ρ ρ' : Slots) (v : V) (d : D) (Q : L2.St → Hp → Prop), Rel X.K g ρ M σ H → DR X.K g H v d → b d ρ M = some ρ' →
      (∀ σ', Rel X.K g ρ' M σ' H → (∀ j, j ∉ is → σ'[j]? = σ[j]?) → σ'.length = σ.length → Q σ' H) → t v σ H Q)
    (ht : ∀ (s : Shared) (H : Hp) (C : Addr) (cl : List (Str × Addr)) (fp : List Addr), GTs (X.blk s H scope (compEnvC scope cl C X.env) fp) E0 ifs ft)
    (he : ∀ (s : Shared) (H : Hp) (C : Addr) (cl : List (Str × Addr)) (fp : List Addr), GE (X.blk s H scope (compEnvC scope cl C X.env) fp) E0 elt fe) (hy : X.N[i]? = some y := by rfl) (hyl : X.env.scope.names.lookup y = some .local := by rfl)
    (hsw : swapsWith (.ListComp elt [⟨tg, iter, ifs, 0⟩] scope pos) (some (.Name y py)) spos.line X.env = pure true := by exact sw_true rfl rfl rfl (by decide +kernel)) (hv : (is.all fun j => (own.map (·.2)).contains j) = true := by decide) (hs : ∀ x, foldedSetIterable iter X.env x = pure x := by intro _; rfl) :
    GS X E (.Assign [.Name y py] (.ListComp elt [⟨tg, iter, ifs, 0⟩] scope pos) spos) (sSet i (eLc c fi b ft fe (own.map (·.2)))) := by
  obtain ⟨t, h1, h2⟩ := hg
  refine ⟨PS.weak (ps_setLc (te := RD X.K E0 fe) (tt := RT X.K E0 ft) hc hN hy hyl hsw hi.pi ok h1 (fun s H C cl fp => (ht s H C cl fp).pts) (fun s H C cl fp => (he s H C cl fp).pe) hs) fun D σ H ⟨g, ρ, M, rl, h⟩ => ?_⟩
  refine lc_read (c := c) h2 (fun j hj => by
    have := List.all_eq_true.mp hv j hj
    simpa using this) ⟨g, ρ, M, rl, PgS.out h fun d M1 g1 H1 v _ gr rh dv h => ?_⟩
  exact h g1 H1 _ .refl ((rl.grow gr rh).set i dv)
theorem Pg.iteP {K : PySem.W.Frag} {g : Gh} {H : Hp} {α β : Type} {rep : Gh → Hp → α → β → Prop} {Q : α → Hp → Prop} {c : Prop} {_ : Decidable c} {a : Res β} (h : Pg K E rep g H (if c then a else .stuck) Q) : c ∧ Pg K E rep g H a Q := by
  by_cases q : c
  · rw [if_pos q] at h; exact ⟨q, h⟩
  · rw [if_neg q] at h; exact h.elim
end
end G
/-! G7: defs: what a def's body makes of its arguments; calls. -/
namespace G
open PySem L2
/-- a function, by its arguments and the memory -/
abbrev Fv := List D → Mem → Res D
def runB (n N : Nat) (s : Sv) : Fv := fun ds M => if ds.length = n then (match s (ds.map some ++ List.replicate (N - n) none) M with
  | .nx _ M' => .ok .non M'
  | .ret d M' => .ok d M'
  | .exc C fs M' => .exc C fs M'
  | _ => .stuck) else .stuck
def spG (K : PySem.W.Frag) (F : Fv) : Sp := fun vs H Q E => ∃ g M ds, RelH K g M H ∧ DRs K g H vs ds ∧ Pg K E (repV K) g H (F ds M) Q
section
variable {P : Program} {w : World} {K : PySem.W.Frag} {mg : Str → Option Value} {base : Heap}
theorem start_rel {g : Gh} {M : Mem} {H : Hp} {vs : List V} {ds : List D} {N : List Str} {n : Nat} (r : RelH K g M H) (q : DRs K g H vs ds) (hn : ds.length = n) : Rel K g (ds.map some ++ List.replicate (N.length - n) none) M (L2.start N vs) H := by
  subst hn
  refine ⟨r, fun i d e => ?_, ?_⟩
  · by_cases hi : i < ds.length
    · rw [List.getElem?_append_left (by simpa using hi), List.getElem?_map] at e
      cases q2 : ds[i]? with
      | none => rw [q2] at e; cases e
      | some d' =>
        rw [q2] at e
        cases e
        obtain ⟨v, e1, dv⟩ := q.get q2
        refine ⟨v, ?_, dv⟩
        unfold L2.start
        rw [List.getElem?_append_left (by rw [List.length_map, q.length]; exact hi), List.getElem?_map, e1]
        rfl
    · rw [List.getElem?_append_right (by simpa using hi), List.getElem?_replicate] at e
      split at e <;> cases e
  · unfold L2.start
    simp [q.length]
theorem fn_g {CX : CXT} {x qual : Str} {params : Arguments} {body : List Stmt} {scope : Scope} {dvs : List V} {kws : List (Str × V)} {f : Addr} {fd : FuncData} {N ps : List Str} {k n : Nat} {s : Sv} (F : FunD K x qual params body scope dvs kws f fd) (S : FnScope N ps scope) (hn : ps.length = n)
    (hb : ∀ (cdv : Value) (A : Around) (outer : List Env) (s' : Shared) (H : Hp) (E : XK), Room k (A.deeper (PyProof.Rows.envOfC qual scope s'.heap.objs.size f cdv)) → GSs (cxOf CX P w K mg base N qual scope f cdv A outer s' H E) E body s) :
    FnOk P w K mg base CX (k + 1) f fd ps (spG K (runB n N.length s)) := by
  refine F.ok S (fun vs H Q E ⟨g, M, ds, r, q, h⟩ => ?_) (fun cdv A outer s' H vs Q E hr ⟨g, M, ds, r, q, h⟩ => ⟨_, (hb cdv A outer s' H E hr).pss, ?_⟩)
  · obtain ⟨e, _⟩ := Pg.ite h
    rw [q.length, e, hn]
  · obtain ⟨e, h⟩ := Pg.ite h
    refine ⟨g, _, M, start_rel r q e, ?_⟩
    show PgS K E g H (s _ M) _
    cases q2 : s (ds.map some ++ List.replicate (N.length - n) none) M with
    | nx ρ M' => rw [q2] at h; exact fun g' H' σ gr rl => h g' H' _ gr rl.h .non
    | ret d M' => rw [q2] at h; exact h
    | exc C fs M' => rw [q2] at h; exact h
    | brk ρ M' => rw [q2] at h; exact h.elim
    | cnt ρ M' => rw [q2] at h; exact h.elim
    | stuck => rw [q2] at h; exact h.elim

/-! ### functions of data alone -/
mutual
def noRef : D → Bool
  | .ref _ => false
  | .tup xs => noRefs xs
  | .lst xs => noRefs xs
  | _ => true
def noRefs : List D → Bool
  | [] => true
  | x :: xs => noRef x && noRefs xs
end
theorem noRefs_all (xs : List D) : noRefs xs = xs.all noRef := by
  induction xs with
  | nil => simp [noRefs]
  | cons x xs ih => simp [noRefs, ih]
def frzM (f : D → Option D) : List D → Option (List D)
  | [] => some []
  | x :: xs => match f x, frzM f xs with
    | some y, some ys => some (y :: ys)
    | _, _ => none
def frzD (M : Mem) : Nat → D → Option D
  | 0, d => if noRef d = true then some d else none
  | n + 1, d => if noRef d = true then some d else (match d with
    | .ref k => (cellL M[k]?).bind fun xs => (frzM (frzD M n) xs).map .lst
    | .tup xs => (frzM (frzD M n) xs).map .tup
    | .lst xs => (frzM (frzD M n) xs).map .lst
    | _ => none)
@[simp] theorem frzD_noRef {M : Mem} {n : Nat} {d : D} (h : noRef d = true) : frzD M n d = some d := by
  cases n with
  | zero => unfold frzD; rw [if_pos h]
  | succ n => unfold frzD; rw [if_pos h]
theorem frzM_noRef {M : Mem} {n : Nat} {xs : List D} (h : noRefs xs = true) : frzM (frzD M n) xs = some xs := by
  induction xs with
  | nil => rfl
  | cons x xs ih =>
    simp only [noRefs, Bool.and_eq_true] at h
    simp [frzM, frzD_noRef h.1, ih h.2]
mutual
theorem noRef_dr {g g' : Gh} {H : Hp} (hF : ∀ a, g.F a → g'.F a) : ∀ {v : V} {d : D}, noRef d = true → DR K g H v d → DR K g' H v d
  | _, _, _, .non => .non
  | _, _, _, .bl b => .bl b
  | _, _, _, .int i => .int i
  | _, _, _, .str x q => .str x q
  | _, _, h, .tup s z r => .tup s z (noRef_drs hF (by simpa [noRef] using h) r)
  | _, _, h, .lst f s z r => .lst (hF _ f) s z (noRef_drs hF (by simpa [noRef] using h) r)
  | _, _, h, .ref q => by simp [noRef] at h
  | _, _, _, .raw v => .raw v
  | _, _, _, .arg q z => .arg (ArgL.mono hF q) z
theorem noRef_drs {g g' : Gh} {H : Hp} (hF : ∀ a, g.F a → g'.F a) : ∀ {vs : List V} {ds : List D}, noRefs ds = true → DRs K g H vs ds → DRs K g' H vs ds
  | _, _, _, .nil => .nil
  | _, _, h, .cons a b => by
    simp only [noRefs, Bool.and_eq_true] at h
    exact .cons (noRef_dr hF h.1 a) (noRef_drs hF h.2 b)
end
/-- the cells frozen -/
def Gh.all (g : Gh) (io : List Addr) : Gh := ⟨io, fun a => g.F a ∨ a ∈ g.io⟩
theorem frzD_dr {g : Gh} {M : Mem} {H : Hp} (io : List Addr) (r : RelH K g M H) : ∀ (n : Nat) {v : V} {d d' : D}, DR K g H v d → frzD M n d = some d' → DR K (g.all io) H v d' := by
  intro n
  induction n with
  | zero =>
    intro v d d' q e
    unfold frzD at e
    split at e
    · cases e; exact noRef_dr (g := g) (g' := g.all io) (fun _ f => Or.inl f) (by assumption) q
    · cases e
  | succ n ih =>
    have all : ∀ {vs : List V} {xs ys : List D}, DRs K g H vs xs → frzM (frzD M n) xs = some ys → DRs K (g.all io) H vs ys := by
      intro vs xs
      induction xs generalizing vs with
      | nil => intro ys q e; cases q; cases e; exact .nil
      | cons x xs ih2 =>
        intro ys q e
        cases q with | cons a b =>
        unfold frzM at e
        split at e
        · rename_i y ys' e1 e2
          cases e
          exact .cons (ih a e1) (ih2 b e2)
        · cases e
    intro v d d' q e
    unfold frzD at e
    split at e
    · cases e; exact noRef_dr (g := g) (g' := g.all io) (fun _ f => Or.inl f) (by assumption) q
    · cases q with
      | @ref k a m =>
        have e : (cellL M[k]?).bind (fun xs => (frzM (frzD M n) xs).map .lst) = some d' := e
        cases q1 : cellL M[k]? with
        | none => rw [q1] at e; cases e
        | some xs =>
          rw [q1] at e
          have e : (frzM (frzD M n) xs).map .lst = some d' := e
          cases q2 : frzM (frzD M n) xs with
          | none => rw [q2] at e; cases e
          | some ys =>
            rw [q2] at e
            cases e
            cases r.cell k a _ m (cellL_some q1) with
            | lst s z q => exact .lst (.inr (List.mem_of_getElem? m)) s z (all q q2)
      | @tup a us xs s z q =>
        have e : (frzM (frzD M n) xs).map .tup = some d' := e
        cases q2 : frzM (frzD M n) xs with
        | none => rw [q2] at e; cases e
        | some ys => rw [q2] at e; cases e; exact .tup s z (all q q2)
      | @lst a us xs f s z q =>
        have e : (frzM (frzD M n) xs).map .lst = some d' := e
        cases q2 : frzM (frzD M n) xs with
        | none => rw [q2] at e; cases e
        | some ys => rw [q2] at e; cases e; exact .lst (.inl f) s z (all q q2)
      | _ => cases e
def noRefF : Option (List (Str × D)) → Bool
  | none => true
  | some fs => fs.all fun p => noRef p.2
theorem noRef_fr {K : PySem.W.Frag} {g g' : Gh} {H : Hp} (hF : ∀ a, g.F a → g'.F a) {vs : List (Str × V)} {fs : List (Str × D)} (hf : noRefF (some fs) = true) (r : FR K g H vs fs) : FR K g' H vs fs := by
  have hf : (fs.all fun p => noRef p.2) = true := hf
  induction r with
  | nil => exact .nil
  | cons a _ ih =>
    simp only [List.all_cons, Bool.and_eq_true] at hf
    exact .cons (noRef_dr hF hf.1 a) (ih (by simpa [noRefF] using hf.2) (by simpa using hf.2))
/-- on data alone: the callee's own memory begins empty, and its lists are frozen at its end -/
def pureF (F : Fv) : Fv := fun ds M => if noRefs ds = true then (match F ds [] with
  | .ok d M' => opt (frzD M' 4 d) fun d' => .ok d' M
  | .exc C fs _ => if noRefF fs = true then .exc C fs M else .stuck
  | .stuck => .stuck) else .stuck
theorem pure_gh {g : Gh} {M : Mem} {H : Hp} {g1 : Gh} {M1 : Mem} {H1 : Hp} (r : RelH K g M H) (gr : Grw K ⟨[], g.F⟩ H g1 H1) (r1 : RelH K g1 M1 H1) : Grw K g H (g1.all g.io) H1 ∧ RelH K (g1.all g.io) M H1 := by
  have gr' : Grw K g H (g1.all g.io) H1 := ⟨gr.sq, fun a o e _ => gr.frm a o e (by simp), gr.trk, fun _ _ e => e, fun a m => .inl m, fun a f => .inl (gr.F a f), fun a f => f.elim (gr.newF a) fun m => .inr ((gr.newI a m).elim (fun z => by simp at z) id)⟩
  have old : ∀ a, a ∈ g.io → H1 a = H a := fun a m => by
    obtain ⟨o, e⟩ := r.there m
    rw [e]; exact gr.frm a o e (by simp)
  refine ⟨gr', r.len, r.nd, fun n a c e1 e2 => ?_, fun a m f => ?_, fun a f => ?_⟩
  · exact (r.cell n a c e1 e2).grow gr' r.nF (old a (List.mem_of_getElem? e1))
  · obtain ⟨o, e⟩ := r.there m
    rcases f with f | f
    · rcases gr.newF a f with f | f
      · exact r.nF a m f
      · rw [e] at f; cases f
    · rcases gr.newI a f with f | f
      · simp at f
      · rw [e] at f; cases f
  · rcases f with f | f
    · exact r1.wF a f
    · exact r1.there f
theorem FnOk.pure {CX : CXT} {k : Nat} {f : Addr} {fd : FuncData} {ps : List Str} {F : Fv} (h : FnOk P w K mg base CX k f fd ps (spG K F)) : FnOk P w K mg base CX k f fd ps (spG K (pureF F)) := by
  refine FnOk.imp h fun vs H Q E ⟨g, M, ds, r, q, h⟩ => ?_
  obtain ⟨hn, h⟩ := Pg.ite h
  have r0 : RelH K ⟨[], g.F⟩ [] H := ⟨rfl, List.nodup_nil, fun n a c e => by simp at e, fun a m => by simp at m, r.wF⟩
  refine ⟨⟨[], g.F⟩, [], ds, r0, noRef_drs (g := g) (g' := ⟨[], g.F⟩) (fun _ f => f) hn q, ?_⟩
  cases e : F ds [] with
  | ok d M' =>
    rw [e] at h
    obtain ⟨d', e2, h⟩ := Pg.opt h
    intro g1 H1 v gr r1 dv
    obtain ⟨gr', r'⟩ := pure_gh r gr r1
    exact h _ _ _ gr' r' (frzD_dr g.io r1 4 dv e2)
  | exc C fs M' =>
    rw [e] at h
    obtain ⟨hf, h⟩ := Pg.ite h
    intro g1 H1 gr r1
    obtain ⟨gr', r'⟩ := pure_gh r gr r1
    have h := h _ _ gr' r'
    cases fs with
    | none => exact h
    | some fs =>
      intro dx us e3 q3
      refine h dx us e3 ?_
      exact noRef_fr (g := g1) (g' := g1.all g.io) (fun _ f => Or.inl f) hf q3
  | stuck => rw [e] at h; exact h.elim
/-- by a function that says no more -/
theorem FnOk.le {CX : CXT} {k : Nat} {f : Addr} {fd : FuncData} {ps : List Str} {F F' : Fv} (h : FnOk P w K mg base CX k f fd ps (spG K F)) (e : ∀ ds M, F' ds M ≠ .stuck → F ds M = F' ds M) : FnOk P w K mg base CX k f fd ps (spG K F') :=
  FnOk.imp h fun vs H Q E ⟨g, M, ds, r, q, h⟩ => ⟨g, M, ds, r, q, by
    rw [e ds M fun z => by rw [z] at h; exact h.elim]; exact h⟩
end
/-! ### calls -/
def eCall (F : Fv) (as : EvA) : Ev := fun ρ M => (as ρ M).bind F
section
variable {X : Cx} {E : XK}
theorem passA {X : Cx} {E : XK} : Passes CX0 X E := fun _ _ _ _ _ _ _ h => h.elim
theorem ge_call {CX : CXT} {k : Nat} {f : Addr} {fd : FuncData} {ps : List Str} {F : Fv} {x : Str} {p pos : Pos} {e : Expr} {es : List Expr} {fas : EvA} (fo : FnOk X.prog X.w X.K X.mg X.base CX k f fd ps (spG X.K F)) (hr : Room k X.A) (hm : X.mg x = some (.ref f)) (hk : PySem.W.keepIn X.K (.ref f) = true)
    (hb : Binds X.K fd ps []) (hx : Passes CX X E) (ha : GA X E (e :: es) fas) (hg : Gl X x := by rfl) (hdb : (x == ("__debug__" : Str)) = false := by decide) (he : starEach (e :: es) X.env = (false, eval e X.env) :: starEach es X.env := by rfl) (hpl : (backTo pos (starEach es X.env)).any (·.1) = false := by rfl) :
    GE X E (.Call (.Name x p) (e :: es) [] pos) (eCall F fas) :=
  ⟨PE.weak (pe_call fo hr hg hm hk hb .nil hx ha.pa hdb he hpl) fun σ H Q ⟨g, ρ, M, rl, h⟩ => ⟨g, ρ, M, rl, Pg.bind h fun ds M1 g1 H1 vs _ gr rh dvs h => ⟨g1, M1, ds, rh, by rw [List.append_nil]; exact dvs, h⟩⟩⟩
end
end G
/-! G8: isinstance, sorted, the module's constants. -/
namespace G
open PySem L2 PySem.W
section
variable {K : PySem.W.Frag} {g g' : Gh} {H H' : Hp} {M : Mem} {v w : V} {d e : D} {vs : List V} {ds : List D} {E : XK} {Q : VK}
/-! ### isinstance -/
def tyName (M : Mem) : D → Option String
  | .non => some "NoneType"
  | .bl _ => some "bool"
  | .int _ => some "int"
  | .str _ => some "str"
  | .tup _ => some "tuple"
  | .lst _ => some "list"
  | .ref n => match M[n]? with
    | some (.lst _) => some "list"
    | some (.dct _) => some "dict"
    | _ => none
  | .raw _ => none
  | .arg _ => none
def subTy (t n : String) : Bool := t == n || (t == "bool" && n == "int")
def isiD : List D → Mem → Res D
  | [d, .raw (.ty n)], M => opt (tyName M d) fun t => if (["int", "bool", "str", "tuple", "list", "dict"].contains n) = true then .ok (.bl (subTy t n)) M else .stuck
  | _, _ => .stuck
theorem kit_all : (["NoneType", "bool", "int", "str", "tuple", "list", "dict"].all fun t => ["int", "bool", "str", "tuple", "list", "dict"].all fun n => decide (kitB t n = some (subTy t n))) = true := by decide +kernel
theorem tyName_ok {t : String} (r : RelH K g M H) (dv : DR K g H v d) (e : tyName M d = some t) : TyX K H v (.type t) ∧ t ∈ ["NoneType", "bool", "int", "str", "tuple", "list", "dict"] := by
  cases dv with
  | non => cases e; exact ⟨.base .non, by simp⟩
  | bl b => cases e; exact ⟨.base (.bl b), by simp⟩
  | int i => cases e; exact ⟨.base (.int i), by simp⟩
  | str x _ => cases e; exact ⟨.base (.str x), by simp⟩
  | tup s z q =>
    cases e
    refine ⟨?_, by simp⟩
    rcases s with (s | ⟨o, s⟩) | ⟨o, its, n, k, c, _⟩
    · exact .base (.tup s)
    · exact .fTuple s
    · exact .kTuple k c
  | lst f s z q => cases e; exact ⟨.base (.lst s), by simp⟩
  | @ref n a q =>
    have e : (match M[n]? with
      | some (.lst _) => some "list"
      | some (.dct _) => some "dict"
      | _ => none) = some t := e
    split at e
    · rename_i xs hM
      cases e
      cases r.cell n a _ q hM with
      | lst s z q => exact ⟨.base (.lst s), by simp⟩
    · rename_i xs hM
      cases e
      cases r.cell n a _ q hM with
      | dct s z q => exact ⟨.base (.dK s), by simp⟩
    · cases e
  | raw v => cases e
  | arg _ _ => cases e
theorem isiS : CallS K (rIsi K) isiD := by
  intro E g H M vs ds Q r dvs h
  unfold isiD at h
  split at h
  · rename_i d n
    obtain ⟨v, w, rfl, dv, dw⟩ := dvs.two_of
    cases dw
    obtain ⟨t, e1, h⟩ := Pg.opt h
    obtain ⟨hn, h⟩ := Pg.ite h
    obtain ⟨ty, ht⟩ := tyName_ok r dv e1
    have k := List.all_eq_true.mp (List.all_eq_true.mp kit_all t ht) n (by simpa using hn)
    exact ⟨v, .ty n, _, _, _, rfl, .ty n, ty, kit_ty (of_decide_eq_true k), h g H _ .refl r (.bl _)⟩
  · exact h.elim

/-! ### order -/
def pyD (d : D) : PyData := (pyOf d).getD .none
def ltDat (d e : D) : Bool := dataLt (pyD d) (pyD e)
/-- data that can be sorted -/
structure SortOk (ds : List D) : Prop where
  py : ∀ d, d ∈ ds → (pyOf d).isSome = true ∧ (pyD d).depth ≤ 50
  al : AllAlike (ds.map pyD)
  so : Sortable (ds.map pyD)
def leDat (d e : D) : Bool := !ltDat e d
open Classical in
noncomputable def sortedD (c : Bool) : List D → Mem → Res D
  | [d], M => opt (lstOf M d) fun xs => if SortOk xs then newL c (xs.mergeSort leDat) M else .stuck
  | _, _ => .stuck
/-- sorted(xs): which of the items stand where -/
def rSortD (K : PySem.W.Frag) : List V → Hp → VK → Prop := fun vs H Q => ∃ (a : Addr) (bs : List (V × D)), vs = [V.ref a] ∧ SqL K H a (bs.map (·.1)) ∧ bs.length ≤ sizeLine ∧ (∀ b, b ∈ bs → Dp K H b.1 (pyD b.2) ∧ (pyD b.2).depth ≤ 50) ∧
  AllAlike (bs.map fun b => pyD b.2) ∧ Sortable (bs.map fun b => pyD b.2) ∧ ∀ p, H p = none → Q (.ref p) (upd H p (.lst ((bs.mergeSort fun x y => leDat x.2 y.2).map (·.1))))
theorem each_vals {R : V × D → Prop} : ∀ {bs : List (V × D)} {us : List Value}, Vals (bs.map (·.1)) us → EachIs (fun u b => RelV b.1 u ∧ b ∈ bs) us bs := by
  have key : ∀ (all bs : List (V × D)) (us : List Value), (∀ b, b ∈ bs → b ∈ all) → Vals (bs.map (·.1)) us → EachIs (fun u b => RelV b.1 u ∧ b ∈ all) us bs := by
    intro all bs
    induction bs with
    | nil => intro us _ r; cases r; exact .nil
    | cons b bs ih =>
      intro us hm r
      rw [List.map_cons] at r
      cases r with
      | cons r rr => exact .cons ⟨r, hm b List.mem_cons_self⟩ (ih _ (fun c m => hm c (List.mem_cons_of_mem _ m)) rr)
  exact fun {bs us} r => key bs bs us (fun _ m => m) r
theorem vals_each : ∀ {bs : List (V × D)} {us : List Value}, EachIs (fun u b => RelV b.1 u) us bs → Vals (bs.map (·.1)) us
  | [], [], .nil => .nil
  | _ :: _, _ :: _, .cons a b => .cons a (vals_each b)
theorem dataLe_leDat : (dataLe false fun b : V × D => pyD b.2) = fun x y => leDat x.2 y.2 := dataLe_eq false _
theorem cr_sortD {X : Cx} (hu : X.A.units + 64 < cLine) : CallR X (.builtin "sorted") (rSortD X.K) := by
  intro pins s σ H vs us Q I r h
  obtain ⟨a, bs, rfl, hs, hz, hp, hal, hk, q⟩ := h
  obtain ⟨its, rv, hl, _⟩ := I.list hs
  rw [Vals.ref1 r]
  have e1 := each_vals (R := fun _ => True) rv
  refine sorted_data (enc := fun b : V × D => pyD b.2) (R := fun u b => RelV b.1 u) hl.isList (e1.mono fun _ _ h => h.1) (e1.mono fun u b h => Dp.reads I _ _ _ (hp b h.2).1 h.1) hal hk hz (fun b m => by have := (hp b m).2; omega) fun out h1 h2 => ?_
  rw [dataLe_leDat] at h2
  obtain ⟨ep, he'⟩ := PyProof.Rows.sortedAll_at s.heap its out.toArray
  have hlen : ((bs.mergeSort fun x y => leDat x.2 y.2).map (·.1)).length ≤ sizeLine := by rw [List.length_map, List.length_mergeSort]; exact hz
  exact ⟨.ref _, upd H (s.heap.objs.size + 1) (.lst _), I.laid (t' := s.toks) (fun _ _ => PyProof.Rows.sortedAll_old) (Nat.le_succ _) ⟨hlen, out, ep, vals_each h2, he'⟩, rfl, q _ (I.hok.fresh (Nat.le_succ _))⟩
theorem DRs.zip_all (q : DRs K g H vs ds) : ∀ b, b ∈ vs.zip ds → DR K g H b.1 b.2 := by
  induction vs generalizing ds with
  | nil => intro b m; simp at m
  | cons v vs ih => cases q with | cons a r =>
    intro b m
    rcases List.mem_cons.mp m with m | m
    · rw [m]; exact a
    · exact ih r b m
theorem DRs.of_pairs : ∀ {bs : List (V × D)}, (∀ b, b ∈ bs → DR K g H b.1 b.2) → DRs K g H (bs.map (·.1)) (bs.map (·.2))
  | [], _ => .nil
  | b :: bs, h => .cons (h b List.mem_cons_self) (DRs.of_pairs fun c m => h c (List.mem_cons_of_mem _ m))
theorem sort_pairs {bs : List (V × D)} : (bs.mergeSort fun x y => leDat x.2 y.2).map (·.2) = (bs.map (·.2)).mergeSort leDat :=
  List.map_mergeSort fun _ _ _ _ => rfl
theorem zip_fst {α β : Type} : ∀ {xs : List α} {ys : List β}, xs.length = ys.length → (xs.zip ys).map (·.1) = xs ∧ (xs.zip ys).map (·.2) = ys
  | [], [], _ => ⟨rfl, rfl⟩
  | x :: xs, y :: ys, h => by
    obtain ⟨h1, h2⟩ := zip_fst (xs := xs) (ys := ys) (by simpa using h)
    simp [h1, h2]
  | [], _ :: _, h => by simp at h
  | _ :: _, [], h => by simp at h
theorem pyD_ok (dv : DR K g H v d) (h : (pyOf d).isSome = true) : Dp K H v (pyD d) := by
  obtain ⟨p, e⟩ := Option.isSome_iff_exists.mp h
  unfold pyD
  rw [e]
  exact (dv.py e).1
theorem sortS {c : Bool} : CallS K (rSortD K) (sortedD c) := by
  intro E g H M vs ds Q r dvs h
  match ds, h with
  | [], h => exact h.elim
  | [d], h =>
    obtain ⟨v, rfl, dv⟩ := dvs.one_of
    obtain ⟨xs, e1, h⟩ := Pg.opt h
    obtain ⟨so, h⟩ := Pg.iteP h
    obtain ⟨a, us, rfl, s, z, q⟩ := dv.lstOf r e1
    obtain ⟨z1, z2⟩ := zip_fst q.length
    have hb := q.zip_all
    have hm : ∀ b, b ∈ us.zip xs → b.2 ∈ xs := fun b m => by rw [← z2]; exact List.mem_map_of_mem m
    have hmp : (us.zip xs).map (fun b => pyD b.2) = xs.map pyD := by rw [← congrArg (List.map pyD) z2, List.map_map]; rfl
    refine ⟨a, us.zip xs, rfl, by rw [z1]; exact .of s, ?_, fun b m => ⟨pyD_ok (hb b m) (so.py _ (hm b m)).1, (so.py _ (hm b m)).2⟩, by rw [hmp]; exact so.al, by rw [hmp]; exact so.so, fun p n => ?_⟩
    · rw [← List.length_map (f := (·.1)), z1]; exact z
    · have hq : DRs K g H (((us.zip xs).mergeSort fun x y => leDat x.2 y.2).map (·.1)) (xs.mergeSort leDat) := by
        have := DRs.of_pairs (K := K) (g := g) (H := H) (bs := (us.zip xs).mergeSort fun x y => leDat x.2 y.2) fun b m => hb b ((List.mergeSort_perm _ _).mem_iff.mp m)
        rw [sort_pairs, z2] at this
        exact this
      exact Pg.lst h r n (by rw [hq.length, List.length_mergeSort, ← q.length]; exact z) hq
  | _ :: _ :: _, h => exact h.elim
end
/-! ### the module's constants -/
section
variable {X : Cx} {E : XK}
theorem ge_gint {x : Str} {i : Int} {pos : Pos} (hm : ∃ t, X.mg x = some (.int i t)) (hg : Gl X x := by rfl) (hd : (x == ("__debug__" : Str)) = false := by decide) : GE X E (.Name x pos) (eC (.int i)) := by
  obtain ⟨t, hm⟩ := hm
  exact ge_c (pe_glob (v := .int i) hg hm ⟨t, rfl⟩ hd) fun _ _ => .int i
theorem ge_gref {x : Str} {a : Addr} {d : D} {pos : Pos} (hm : X.mg x = some (.ref a)) (hr : ∀ g H, DR X.K g H (.ref a) d) (hg : Gl X x := by rfl) (hd : (x == ("__debug__" : Str)) = false := by decide) : GE X E (.Name x pos) (eC d) :=
  ge_c (pe_glob (v := .ref a) hg hm rfl hd) hr
theorem ge_gstr {x z : Str} {pos : Pos} (hm : ∃ t, X.mg x = some (.str z t)) (hz : PyData.strOk z = true := by decide +kernel) (hg : Gl X x := by rfl) (hd : (x == ("__debug__" : Str)) = false := by decide) : GE X E (.Name x pos) (eC (.str z)) := by
  obtain ⟨t, hm⟩ := hm
  exact ge_c (pe_glob (v := .str z) hg hm ⟨t, rfl⟩ hd) fun _ _ => .str z hz
/-- a built-in class as a value -/
theorem ge_ty {x : Str} {n : String} {pos : Pos} (hm : X.mg x = none) (hv : bootBuiltins x = some (.type n)) (hg : Gl X x := by rfl) (hn : x ≠ "__name__" := by decide) (hd : (x == ("__debug__" : Str)) = false := by decide) : GE X E (.Name x pos) (eC (.raw (.ty n))) :=
  ge_c (pe_bltn (v := .ty n) hg hm hv rfl hn hd) fun _ _ => .raw _
end
end G
/-! G9: enumerate, zip. -/
namespace PySem
open Sem (wp)
open AutoSeq1 (wpAny_loadPart')
theorem meets_enumerate_newT (l : Addr) (items : Array Value) (n : Nat) (dct : Option Addr) (sl : Array (Option Value)) :
    Meets (Builtin.«enumerate.__new__» ⟨[.type "enumerate", .ref l], []⟩) (fun _ R s => s.heap.get? l = some { cls := .type "tuple", dict := dct, data := .seq items n, slots := sl } ∧
      R (.ok (.ret (.ref (s.heap.push { cls := .type "tuple_iterator", data := .fields #[.ref l, .int 0 0] }).objs.size)))
        { s with heap := (s.heap.push { cls := .type "tuple_iterator", data := .fields #[.ref l, .int 0 0] }).push { cls := .type "enumerate", data := .fields #[.none, .bool false, .ref s.heap.objs.size, rawInt 0, .none, .none] } }) :=
  .of_wp fun prog w A R s h => by
    obtain ⟨hp, g, d, tk, os⟩ := s; obtain ⟨hl, h⟩ := h
    have hsub := sub_enumerate
    have hL : Heap.IsTuple (Shared.heap ⟨hp, g, d, tk, os⟩) l items := ⟨_, hl, rfl, n, rfl⟩
    wp_walk using wpAny_loadPart' hl
    refine wpAny_stack_any fun st => wpAny_pure ?_
    split
    · rename_i c _ _ _ _ _
      cases (c == Value.type "enumerate")
      · wp_walk using wpAny_loadPart' hl, wpAny_pyIter_tuple hL
        exact ⟨_, rfl, h⟩
      · wp_walk using wpAny_loadPart' hl, wpAny_pyIter_tuple hL
        exact ⟨_, rfl, h⟩
    · wp_walk using wpAny_loadPart' hl, wpAny_pyIter_tuple hL
      exact ⟨_, rfl, h⟩
theorem call_enumerate_tuple {prog : Program} {w : World} {A : Around} {E : Value → Shared → Prop} {s : Shared} {l : Addr} {items : Array Value} {Q : Value → Shared → Prop} (hL : s.heap.IsTuple l items)
    (h : ∀ h', IsEnum h' (s.heap.objs.size + 1) s.heap.objs.size 0 .none → h'.IsTupleIter s.heap.objs.size l 0 → h'.objs.size = s.heap.objs.size + 2 →
      (∀ b o, s.heap.get? b = some o → h'.get? b = some o) → Q (.ref (s.heap.objs.size + 1)) { s with heap := h' }) :
    wpAny (model prog w) A (call (.type "enumerate") [.ref l]) Q E s := by
  obtain ⟨⟨c, dct, dt, sl⟩, hl, hc, n, hd⟩ := hL
  replace hc : c = .type "tuple" := hc
  replace hd : dt = .seq items n := hd
  subst hc hd
  refine callType_new F.called_enumerate (by decide) (F.typeCall_enumerate_1 _) (F.newCall_enumerate_1 _) (fun obj => F.args_object_init_2 obj _) F.entry_enumerate_new
    (meets_enumerate_newT l items n dct sl) ⟨hl, ?_⟩
  have hz : (s.heap.push { cls := .type "tuple_iterator", data := .fields #[.ref l, .int 0 0] }).objs.size = s.heap.objs.size + 1 := Heap.size_push ..
  show _ ∧ _
  rw [hz]
  have he : IsEnum ((s.heap.push { cls := .type "tuple_iterator", data := .fields #[.ref l, .int 0 0] }).push
      { cls := .type "enumerate", data := .fields #[.none, .bool false, .ref s.heap.objs.size, rawInt 0, .none, .none] }) (s.heap.objs.size + 1) s.heap.objs.size 0 .none := by
    have := Heap.get?_push_size (s.heap.push { cls := .type "tuple_iterator", data := .fields #[.ref l, .int 0 0] })
      (o := { cls := .type "enumerate", data := .fields #[.none, .bool false, .ref s.heap.objs.size, rawInt 0, .none, .none] }) rfl
    rw [hz] at this; exact this
  refine ⟨⟨_, he, rfl⟩, h _ he ⟨_, Heap.get?_push_of_some _ (Heap.get?_push_size _ rfl), rfl, rfl⟩ (by rw [Heap.size_push, hz]) fun b o x => Heap.get?_push_of_some _ (Heap.get?_push_of_some _ x)⟩
end PySem
namespace G
open PySem L2 PyProof.Rows
/-- the tuple at a, each item in a new pair -/
def IteT (K : PySem.W.Frag) (a : Addr) : It :=
  ⟨fun i H => ∃ (xs : List V) (x : V), SqT K H a xs ∧ xs[i]? = some x, fun i H v H' => ∃ T x, v = .ref T ∧ H T = none ∧ H' = upd H T (.tup [.int (i : Nat), x]) ∧ ∀ xs, SqT K H a xs → xs[i]? = some x, fun i H => ∃ xs : List V, SqT K H a xs ∧ xs.length ≤ i⟩
theorem turn_enumT {P : Program} {w : World} {K : PySem.W.Frag} {elts : List Expr} {kk : Nat} {tpos : Pos} (a e it : Addr) :
    Turn P w K (.Tuple elts kk tpos) (IteT K a) [e, it] e (fun i h => (∃ old, IsEnum h e it ((i : Nat) : Int) old) ∧ h.IsTupleIter it a i ∧ e ≠ it ∧ a ≠ it) where
  mem := by simp
  obj := fun i h st b hb => by
    obtain ⟨⟨old, he⟩, ⟨o, ho, hc, hd⟩, _⟩ := st
    have e' : b = e ∨ b = it := by simpa using hb
    rcases e' with z | z
    · rw [z]; exact ⟨_, he, fun v q => nomatch q⟩
    · rw [z]; exact ⟨o, ho, fun v q => by rw [hd] at q; cases q⟩
  keep := fun i h h' st k => let ⟨⟨old, he⟩, hi, hne⟩ := st; ⟨⟨old, k e (by simp) _ he⟩, hi.at fun o q => k it (by simp) o q, hne⟩
  item := by
    intro X hP hw hK hc i pins s σ H E I hf st hg
    subst hP hw hK
    obtain ⟨⟨old, he⟩, hit, hne, hai⟩ := st
    obtain ⟨xs, x, hq, hx⟩ := hg
    obtain ⟨its, rv, p, hz⟩ := I.tuple hq
    obtain ⟨u, hu, ru⟩ := rv.get hx
    have hel : e < s.heap.objs.size := Heap.lt_size he
    have hil : it < s.heap.objs.size := by obtain ⟨_, q, _⟩ := hit; exact Heap.lt_size q
    have hae : a ≠ e := by
      rintro rfl
      obtain ⟨o, ho, hc', _⟩ := p
      rw [he] at ho
      cases ho
      have z : Value.type "enumerate" = Value.type "tuple" := hc'
      injection z with z
      exact absurd z (by decide)
    have hD := Draws.tuple (prog := X.prog) (w := X.w) (A := X.A.in1) (I.ok.hd hc) it a hai its.toArray
    have hp : s.heap.IsTuple a its.toArray := p
    have hi' : i < its.toArray.size := by
      have := (List.getElem?_eq_some_iff.mp hu).1
      simpa using this
    refine wpAny_pyNext_enum_itemD hD he ⟨hit, hp⟩ hi' hne (by simp [hne, Ne.symm hae]) fun u' h' tk pu ho hst hT hsz hk => ?_
    have eu : u' = u := by
      have pu : its.toArray[i]? = some u' := pu
      rw [List.getElem?_toArray, hu] at pu
      exact (Option.some.inj pu).symm
    subst eu
    refine ⟨_, rfl, wpAny_letOwnedTupleGo_enum (s := { s with heap := h', toks := tk + 1 }) ho fun h'' he' sb => ?_⟩
    have hT2 : h''.get? s.heap.objs.size = some { cls := .type "tuple", data := .seq #[.int i tk, u'] } := (sb.2 _ (Nat.ne_of_gt hel)).trans hT
    have new : ObjOk X.prog X.w (upd H s.heap.objs.size (.tup [.int (i : Nat), x])) h'' s.heap.objs.size (.tup [.int (i : Nat), x]) :=
      ⟨by show 2 ≤ sizeLine; decide, [.int i tk, u'], .cons ⟨_, rfl⟩ (.cons ru .nil), ⟨_, hT2, rfl, _, rfl⟩⟩
    have I1 : Inv X pins σ (upd H s.heap.objs.size (.tup [.int (i : Nat), x])) { s with heap := h'', toks := tk + 1 } :=
      I.turnedNew (ch := [e, it]) (fun b ob hb q => (sb.2 b (fun z => hb (by simp [z]))).trans (hk b ob (fun z => hb (by simp [z])) (fun z => hb (by simp [z])) q)) hf (Nat.le_refl _) new
    refine ⟨.ref s.heap.objs.size, _, I1, rfl, ⟨_, x, rfl, I.hok.fresh (Nat.le_refl _), rfl, fun ys hy => by rw [I.tuple_inj hy hq]; exact hx⟩, ⟨⟨u', ?_⟩, hst.1.at fun o q => (sb.2 it (Ne.symm hne)).trans q, hne, hai⟩, fun b hb => ?_⟩
    · have e1 : ((i + 1 : Nat) : Int) = (i : Int) + 1 := by omega
      rw [e1]; exact he'
    · have hb' : b < s.heap.objs.size := by
        have e' : b = e ∨ b = it := by simpa using hb
        rcases e' with z | z
        · rw [z]; exact hel
        · rw [z]; exact hil
      rw [upd_ne (Nat.ne_of_lt hb')]
      exact (hf b hb).1
  done := by
    intro X hP hw hK hc i pins s σ H E I hf st hg
    subst hP hw hK
    obtain ⟨⟨old, he⟩, hit, hne, hai⟩ := st
    obtain ⟨xs, hq, hx⟩ := hg
    obtain ⟨its, rv, p, hz⟩ := I.tuple hq
    obtain ⟨f0, f1, f2, f3, f4, f5⟩ := hf it (by simp)
    have hl := rv.length
    have hp : s.heap.IsTuple a its.toArray := p
    have D0 := Draws.tuple (prog := X.prog) (w := X.w) (A := X.A.in1) (I.ok.hd hc) it a hai its.toArray
    -- the end at any place at or beyond the size
    have hD : Draws X.prog X.w X.A.in1 it [it, a] i (fun _ _ => True) (fun j h => j = i ∧ h.IsTupleIter it a j ∧ h.IsTuple a its.toArray) :=
      { live := fun j h st => D0.live j h st.2, frame := fun j h h' st hk => ⟨st.1, D0.frame j h h' st.2 hk⟩,
        item := fun j s Q E hj st hQ => absurd hj (by rw [st.1]; exact Nat.lt_irrefl _),
        done := fun s Q E st hE => wpAny_nextOf_tuple_end (I.ok.hd hc) st.2.1 st.2.2 (by simp; omega) hE }
    exact wpAny_pyNext_enum_endD hD he ⟨rfl, hit, hp⟩ fun h' eb => ⟨rfl, I.turned (t' := s.toks) (fun b o hb q => eb b o hb q) f0 f1 f3 f4 f5⟩
  self := fun A i s Q E st h => let ⟨⟨_, he⟩, _⟩ := st; wpAny_pyIter_enum he h
def iEnumA (K : PySem.W.Frag) (ta : TA) : TI := fun σ H R => ta σ H fun vs H1 => ∃ a, vs = [.ref a] ∧ ((∃ xs, SqL K H1 a xs ∧ R (Ite K a) H1) ∨ ∃ xs, SqT K H1 a xs ∧ R (IteT K a) H1)
theorem pi_enumA {X : Cx} {e : Expr} {ta : TA} {p pos tpos : Pos} {elts : List Expr} {kk : Nat} (hg : Gl X "enumerate") (hm : X.mg "enumerate" = none) (ha : PA X [e] ta) (hs : starEach [e] X.env = [(false, eval e X.env)] := by rfl) :
    PI X (.Tuple elts kk tpos) (.Call (.Name "enumerate" p) [e] [] pos) (iEnumA X.K ta) := by
  refine ⟨fun pins s σ H R I h => ?_⟩
  refine Call_ (ld_blt I hg hm boot_enumerate (PyProof.Rows.callWith_type1 (thn (ha.run pos pins s σ H _ I h) fun us s1 ⟨vs, H1, I1, r1, q1⟩ => ?_) hs rfl))
  obtain ⟨a, ex, q⟩ := q1
  subst ex
  cases r1 with
  | cons r rr =>
    cases rr
    cases r
    have fin : ∀ {b : Addr}, b = s1.heap.objs.size + 1 ∨ b = s1.heap.objs.size → s1.heap.objs.size ≤ b := fun e' => by
      rcases e' with z | z
      · rw [z]; exact Nat.le_add_right _ _
      · rw [z]; exact Nat.le_refl _
    rcases q with ⟨xs, hq, q⟩ | ⟨xs, hq, q⟩
    · obtain ⟨its, rv, p', hz⟩ := I1.list hq
      refine call_enumerate_list p'.isList fun h' he hit hsz hk => wpAny_pyIter_enum he ?_
      have I2 : Inv X pins σ H1 { s1 with heap := h' } := I1.kept (t' := s1.toks) hk
      refine ⟨s1.heap.objs.size + 1, [s1.heap.objs.size + 1, s1.heap.objs.size], _, _, H1, rfl, I2, turn_enum a (s1.heap.objs.size + 1) s1.heap.objs.size, ⟨⟨.none, he⟩, hit, Nat.succ_ne_self _⟩, fun b hb => ?_, q⟩
      have hle := fin (b := b) (by simpa using hb)
      exact I1.fpOk hle (I1.hok.fresh hle)
    · obtain ⟨its, rv, p', hz⟩ := I1.tuple hq
      refine call_enumerate_tuple (show s1.heap.IsTuple a its.toArray from p') fun h' he hit hsz hk => wpAny_pyIter_enum he ?_
      have I2 : Inv X pins σ H1 { s1 with heap := h' } := I1.kept (t' := s1.toks) hk
      have hlt : a < s1.heap.objs.size := p'.lt
      refine ⟨s1.heap.objs.size + 1, [s1.heap.objs.size + 1, s1.heap.objs.size], _, _, H1, rfl, I2, turn_enumT a (s1.heap.objs.size + 1) s1.heap.objs.size, ⟨⟨.none, he⟩, hit, Nat.succ_ne_self _, Nat.ne_of_lt hlt⟩, fun b hb => ?_, q⟩
      have hle := fin (b := b) (by simpa using hb)
      exact I1.fpOk hle (I1.hok.fresh hle)
section
variable {X : Cx} {E : XK}
def enumL : Nat → List D → List D
  | _, [] => []
  | i, d :: ds => .tup [.int i, d] :: enumL (i + 1) ds
theorem enumL_length : ∀ (i : Nat) (ds : List D), (enumL i ds).length = ds.length
  | _, [] => rfl
  | i, _ :: ds => by simp [enumL, enumL_length (i + 1) ds]
theorem enumL_get : ∀ (k : Nat) (ds : List D) (i : Nat) (d : D), ds[i]? = some d → (enumL k ds)[i]? = some (.tup [.int ((k + i : Nat) : Int), d])
  | _, [], _, _, h => by simp at h
  | k, d :: ds, 0, e, h => by simp at h; subst h; simp [enumL]
  | k, d :: ds, i + 1, e, h => by
    have := enumL_get (k + 1) ds i e (by simpa using h)
    simp only [enumL, List.getElem?_cons_succ]
    rw [this, show k + 1 + i = k + (i + 1) by omega]
def iEnumG (e : Ev) : EvI := fun ρ M => (e ρ M).bind fun d M1 => opt (seqOf M1 d) fun xs => .ok ⟨srcOf d xs, enumL 0 xs⟩ M1
theorem new_pair {K : PySem.W.Frag} {g : Gh} {M : Mem} {H : Hp} {T : Addr} {v w : V} {d e : D} (r : RelH K g M H) (n : H T = none) (dv : DR K g H v d) (dw : DR K g H w e) : Grw K g H g (upd H T (.tup [v, w])) ∧ RelH K g M (upd H T (.tup [v, w])) ∧ DR K g (upd H T (.tup [v, w])) (.ref T) (.tup [d, e]) :=
  ⟨Grw.new n, r.new n, .tup (.of upd_same) (by show 2 ≤ sizeLine; decide) (.cons (dv.grow (Grw.new n) r.nF) (.one (dw.grow (Grw.new n) r.nF)))⟩
theorem gi_enum {l : Expr} {f : Ev} {p pos tpos : Pos} {elts : List Expr} {kk : Nat} (hl : GE X E l f) (hm : X.mg "enumerate" = none) (hg : Gl X "enumerate" := by rfl) (hs : starEach [l] X.env = [(false, eval l X.env)] := by rfl) :
    GI X E (.Tuple elts kk tpos) (.Call (.Name "enumerate" p) [l] [] pos) (iEnumG f) :=
  ⟨PI.weak (pi_enumA hg hm (pa_cons hl.pe pa_nil (by rw [hs]; rfl)) hs) fun σ H R ⟨g, ρ, M, rl, h⟩ => ⟨g, ρ, M, rl, Pg.bind h fun d M1 g1 H1 v _ gr rh dv h => by
    obtain ⟨ds, e1, h⟩ := Pg.opt h
    obtain ⟨a, us, rfl, s, z, q⟩ := dv.seqOf rh e1
    by_cases ht : ∃ xs, d = .tup xs
    · obtain ⟨xs, rfl⟩ := ht
      cases e1
      have ⟨us', s', q'⟩ : ∃ us', SqT X.K H1 a us' ∧ DRs X.K g1 H1 us' ds := by cases dv with | tup s z q => exact ⟨_, s, q⟩
      refine ⟨a, rfl, .inr ⟨us', s', h g1 H1 _ .refl rh fun g2 H2 M2 i gr2 rh2 so => ?_⟩⟩
      have s2 := gr2.sq _ _ s'
      have q2 := q'.grow gr2 rh.nF
      simp only [enumL_length]
      refine ⟨fun hi => ⟨⟨us', us'[i]'(by rw [q'.length]; exact hi), s2, by simp⟩, fun x H3 y => ?_⟩, fun hi => ⟨us', s2, by rw [q'.length]; exact hi⟩⟩
      obtain ⟨T, x', e, n, e', y⟩ := y
      subst e e'
      obtain ⟨d, e3, dd⟩ := q2.getV (y us' s2)
      obtain ⟨k1, k2, k3⟩ := new_pair rh2 n (.int (i : Nat)) dd
      exact ⟨_, g2, by rw [enumL_get 0 ds i d e3, Nat.zero_add], k1, k2, k3⟩
    · have e1' : lstOf M1 d = some ds := by
        cases d with
        | tup xs => exact absurd ⟨xs, rfl⟩ ht
        | _ => exact e1
      obtain ⟨a', us', e4, s', z', q'⟩ := dv.lstOf rh e1'
      cases e4
      refine ⟨a, rfl, .inl ⟨us', .of s', h g1 H1 _ .refl rh fun g2 H2 M2 i gr2 rh2 so => ?_⟩⟩
      obtain ⟨ws, s2, q2⟩ := rh.srcL dv e1' gr2 rh2 so rfl s' q'
      simp only [enumL_length]
      refine ⟨fun hi => ⟨⟨ws, ws[i]'(by rw [q2.length]; exact hi), .of s2, by simp⟩, fun x H3 y => ?_⟩, fun hi => ⟨ws, .of s2, by rw [q2.length]; exact hi⟩⟩
      obtain ⟨T, x', e, n, e', y⟩ := y
      subst e e'
      obtain ⟨d, e3, dd⟩ := q2.getV (y ws (.of s2))
      obtain ⟨k1, k2, k3⟩ := new_pair rh2 n (.int (i : Nat)) dd
      exact ⟨_, g2, by rw [enumL_get 0 ds i d e3, Nat.zero_add], k1, k2, k3⟩⟩⟩
end
end G
/-! G10: objects: attributes, methods, new instances; targets that change the memory; `in`. -/
namespace G
open PySem L2
section
variable {K : PySem.W.Frag} {g g' : Gh} {H H' : Hp} {M : Mem} {v w : V} {d e : D} {vs : List V} {ds : List D} {E : XK} {Q : VK}
def cellI : Option Cell → Option (Addr × List (Str × D))
  | some (.ins C fs) => some (C, fs)
  | _ => none
def insOf (M : Mem) : D → Option (Nat × Addr × List (Str × D))
  | .ref n => (cellI M[n]?).map fun p => (n, p)
  | _ => none
theorem cellI_some {c : Option Cell} {p : Addr × List (Str × D)} (h : cellI c = some p) : c = some (.ins p.1 p.2) := by
  cases c with
  | none => cases h
  | some c => cases c with
    | ins C fs => cases h; rfl
    | _ => cases h
theorem DR.ins {n : Nat} {C : Addr} {fs : List (Str × D)} (dv : DR K g H v d) (r : RelH K g M H) (e : insOf M d = some (n, C, fs)) : ∃ a dx us, v = .ref a ∧ g.io[n]? = some a ∧ H a = some (.ins C dx us) ∧ FR K g H us fs := by
  cases dv with
  | @ref m a q =>
    have e : (cellI M[m]?).map (fun p => (m, p)) = some (n, C, fs) := e
    cases hM : cellI M[m]? with
    | none => rw [hM] at e; cases e
    | some p =>
      rw [hM] at e
      cases e
      have c := r.cell _ a _ q (cellI_some hM)
      cases c with
      | ins s p => exact ⟨a, _, _, rfl, q, s, p⟩
  | _ => cases e
theorem FR.lookup {us : List (Str × V)} {fs : List (Str × D)} (h : FR K g H us fs) {f : Str} : (fs.lookup f = none → us.lookup f = none) ∧ ∀ d, fs.lookup f = some d → ∃ v, us.lookup f = some v ∧ DR K g H v d := by
  induction h with
  | nil => exact ⟨fun _ => rfl, fun d e => by cases e⟩
  | @cons x v d vs ds a _ ih =>
    simp only [List.lookup]
    by_cases q : (f == x) = true
    · simp only [q]
      exact ⟨fun e => by simp at e, fun d' e => ⟨v, rfl, by cases e; exact a⟩⟩
    · have q : (f == x) = false := by simpa using q
      simp only [q]
      exact ih
theorem FR.length {us : List (Str × V)} {fs : List (Str × D)} (h : FR K g H us fs) : us.length = fs.length := by
  induction h with
  | nil => rfl
  | cons _ _ ih => simp [ih]
def putD (f : Str) (v : D) : List (Str × D) → List (Str × D)
  | [] => [(f, v)]
  | (g, x) :: r => if g = f then (g, v) :: r else (g, x) :: putD f v r
theorem FR.put {us : List (Str × V)} {fs : List (Str × D)} (h : FR K g H us fs) {f : Str} (x : DR K g H v d) : FR K g H (putF f v us) (putD f d fs) := by
  induction h with
  | nil => exact .cons x .nil
  | @cons y u e us es a r ih =>
    unfold putF putD
    by_cases q : y = f
    · rw [if_pos q, if_pos q]; exact .cons x r
    · rw [if_neg q, if_neg q]; exact .cons a ih

/-! ### attributes -/
def fldD (C : Addr) (f : Str) : D → Mem → Res D := fun d M => opt (insOf M d) fun p => if p.2.1 = C then opt (p.2.2.lookup f) fun x => .ok x M else .stuck
theorem ge_fld (C : Addr) {X : Cx} {e : Expr} {f : Str} {fe : Ev} {pos : Pos} (he : GE X E e fe) (c : Cls X.K C) (n : NoAttr X.K C f) (hb : attributeBase e f X.env (eval e X.env) = eval e X.env := by rfl) : GE X E (.Attribute e f pos) (eUn (fldD C f) fe) :=
  ⟨PE.weak (pe_fld he.pe hb) fun σ H Q ⟨g, ρ, M, rl, h⟩ => ⟨g, ρ, M, rl, Pg.bind h fun d M1 g1 H1 v _ gr rh dv h => by
    obtain ⟨⟨k, C', fs⟩, e1, h5⟩ := Pg.opt h
    obtain ⟨ec, h6⟩ := Pg.ite h5
    have ec : C' = C := ec
    subst ec
    obtain ⟨x, e2, h⟩ := Pg.opt h6
    obtain ⟨a, dx, us, rfl, m, s, q⟩ := dv.ins rh e1
    obtain ⟨u, e3, du⟩ := q.lookup.2 x e2
    exact ⟨a, C', dx, us, u, rfl, s, c, n, e3, h g1 H1 u .refl rh du⟩⟩⟩
def setFD (C : Addr) (f : Str) (v o : D) (M : Mem) : Res Unit := opt (insOf M o) fun p => if p.2.1 = C ∧ p.2.2.length < 1000 then .ok () (M.set p.1 (.ins C (putD f v p.2.2))) else .stuck
theorem setF_step {C dx a : Addr} {n : Nat} {us : List (Str × V)} {fs : List (Str × D)} {f : Str} (r : RelH K g M H) (m : g.io[n]? = some a) (s : H a = some (.ins C dx us)) (q : FR K g H us fs) (dv : DR K g H v d) :
    Grw K g H g (upd H a (.ins C dx (putF f v us))) ∧ RelH K g (M.set n (.ins C (putD f d fs))) (upd H a (.ins C dx (putF f v us))) := by
  have gr : Grw K g H g (upd H a (.ins C dx (putF f v us))) := Grw.put (List.mem_of_getElem? m) s (fun _ e => by cases e) (fun _ _ e => by cases e)
  exact ⟨gr, r.put m s (fun _ e => by cases e) (fun _ _ e => by cases e) (.ins upd_same ((q.put dv).grow gr r.nF))⟩
def sFldS (C : Addr) (f : Str) (o e : Ev) : Sv := fun ρ M => (e ρ M).out fun d M1 => (o ρ M1).out fun x M2 => (setFD C f d x M2).out fun _ M3 => .nx ρ M3
theorem gs_fld (C : Addr) {X : Cx} {o e : Expr} {f : Str} {fo fe : Ev} {pos pos' : Pos} (he : GE X E e fe) (ho : GE X E o fo) (c : Cls X.K C) (n : NoAttr X.K C f) (hs : swapsWith e (some (.Attribute o f pos')) pos.line X.env = pure false := by rfl) :
    GS X E (.Assign [.Attribute o f pos'] e pos) (sFldS C f fo fe) :=
  ⟨PS.weak (ps_fld ho.pe he.pe hs) fun D σ H ⟨g, ρ, M, rl, h⟩ => ⟨g, ρ, M, rl, PgS.out h fun d M1 g1 H1 v _ gr rh dv h => by
    have rl1 := rl.grow gr rh
    refine ⟨g1, ρ, M1, rl1, PgS.out h fun x M2 g2 H2 u _ gr2 rh2 dx h => ?_⟩
    have rl2 := rl1.grow gr2 rh2
    have dv2 := dv.grow gr2 rh.nF
    unfold setFD at h
    cases q1 : insOf M2 x with
    | none => rw [q1] at h; exact h.elim
    | some p =>
      obtain ⟨k, C', fs⟩ := p
      rw [q1] at h
      simp only [opt_some] at h
      by_cases hc : C' = C ∧ fs.length < 1000
      · rw [if_pos hc] at h
        obtain ⟨rfl, hl⟩ := hc
        obtain ⟨a, dx', us, rfl, m, s, q⟩ := dx.ins rh2 q1
        obtain ⟨gr3, rh3⟩ := setF_step (f := f) rh2 m s q dv2
        exact ⟨a, C', dx', us, rfl, s, c, n, by rw [q.length]; exact hl, h g2 _ σ gr3 (rl2.grow gr3 rh3)⟩
      · rw [if_neg hc] at h; exact h.elim⟩⟩
/-- o.f += e, whole numbers -/
def sFldA (C : Addr) (f : Str) (op : D → D → Mem → Res D) (o e : Ev) : Sv := fun ρ M => (o ρ M).out fun x M1 => (fldD C f x M1).out fun y M1' => (e ρ M1').out fun d M2 => (op y d M2).out fun z M3 => (setFD C f z x M3).out fun _ M4 => .nx ρ M4
theorem gs_fldaug (C : Addr) {X : Cx} {o e : Expr} {f : Str} {fo fe : Ev} {op : Operator} {r : R2} {fop : D → D → Mem → Res D} {pos pos' : Pos} (ho : GE X E o fo) (he : GE X E e fe) (hs : OpS X.K r fop) (hop : InOp X op r) (c : Cls X.K C) (n : NoAttr X.K C f) :
    GS X E (.AugAssign (.Attribute o f pos') op e pos) (sFldA C f fop fo fe) :=
  ⟨PS.weak (ps_fldaug ho.pe he.pe hop) fun D σ H ⟨g, ρ, M, rl, h⟩ => ⟨g, ρ, M, rl, PgS.out h fun x M1 g1 H1 u _ gr rh dx h => by
    have rl1 := rl.grow gr rh
    unfold fldD at h
    cases q1 : insOf M1 x with
    | none => rw [q1] at h; exact h.elim
    | some p =>
      obtain ⟨k, C', fs⟩ := p
      rw [q1] at h
      simp only [opt_some] at h
      by_cases hc : C' = C
      · rw [if_pos hc] at h
        subst hc
        cases q2 : fs.lookup f with
        | none => rw [q2] at h; exact h.elim
        | some y =>
          rw [q2] at h
          simp only [opt_some, Res.out_ok] at h
          obtain ⟨a, dx', us, rfl, m, s, q⟩ := dx.ins rh q1
          obtain ⟨u2, e3, du⟩ := q.lookup.2 y q2
          refine ⟨a, C', dx', us, u2, rfl, s, c, n, e3, g1, ρ, M1, rl1, PgS.out h fun d M2 g2 H2 w _ gr2 rh2 dw h => ?_⟩
          refine hs E g2 H2 M2 u2 w y d _ rh2 (du.grow gr2 rh.nF) dw (PgS.out h fun z M3 g3 H3 vz _ gr3 rh3 dz h => ?_)
          have rl3 := (rl1.grow gr2 rh2).grow gr3 rh3
          have dx3 := (dx.grow gr2 rh.nF).grow gr3 rh2.nF
          unfold setFD at h
          cases q3 : insOf M3 x with
          | none => rw [q3] at h; exact h.elim
          | some p =>
            obtain ⟨k3, C3, fs3⟩ := p
            rw [q3] at h
            simp only [opt_some] at h
            by_cases hc : C3 = C' ∧ fs3.length < 1000
            · rw [if_pos hc] at h
              obtain ⟨rfl, hl⟩ := hc
              obtain ⟨a3, dx3', us3, ea, m3, s3, q4⟩ := dx3.ins rh3 q3
              cases ea
              obtain ⟨gr4, rh4⟩ := setF_step (f := f) rh3 m3 s3 q4 dz
              exact ⟨dx3', us3, s3, by rw [q4.length]; exact hl, h g3 _ σ gr4 (rl3.grow gr4 rh4)⟩
            · rw [if_neg hc] at h; exact h.elim
      · rw [if_neg hc] at h; exact h.elim⟩⟩
def addI : D → D → Mem → Res D := numOp (fun _ _ => true) fun i j => i + j
theorem addIS : OpS K rAdd addI := fun E g H M v w d e Q r dv dw h => by
  obtain ⟨i, j, e1, e2, _, q⟩ := numS (C' := fun _ _ => True) (fun _ _ _ => trivial) E g H M v w d e Q r dv dw h
  exact ⟨i, j, e1, e2, q⟩
theorem subIS : OpS K rSub subD := fun E g H M v w d e Q r dv dw h => by
  obtain ⟨i, j, e1, e2, _, q⟩ := numS (C' := fun _ _ => True) (fun _ _ _ => trivial) E g H M v w d e Q r dv dw h
  exact ⟨i, j, e1, e2, q⟩

/-! ### methods, new instances -/
def eMeth (C : Addr) (m : Str) (F : Fv) (o : Ev) (as : EvA) : Ev := fun ρ M => (o ρ M).bind fun x M1 => opt (insOf M1 x) fun p => if p.2.1 = C ∧ (p.2.2.lookup m).isNone = true then (as ρ M1).bind fun ds M2 => F (x :: ds) M2 else .stuck
theorem meth_step {C : Addr} {m : Str} {x : D} {α β : Type} {rep : Gh → Hp → α → β → Prop} {Q : α → Hp → Prop} {r : Res β} (dx : DR K g H v x) (rh : RelH K g M H) (h : Pg K E rep g H (opt (insOf M x) fun p => if p.2.1 = C ∧ (p.2.2.lookup m).isNone = true then r else .stuck) Q) :
    ∃ a dx' fs, v = .ref a ∧ H a = some (.ins C dx' fs) ∧ fs.lookup m = none ∧ Pg K E rep g H r Q := by
  obtain ⟨⟨k, C', fs⟩, e1, h5⟩ := Pg.opt h
  obtain ⟨⟨ec, en⟩, h6⟩ := Pg.ite h5
  have ec : C' = C := ec
  subst ec
  obtain ⟨a, dx', us, rfl, m, s, q⟩ := dx.ins rh e1
  exact ⟨a, dx', us, rfl, s, q.lookup.1 (by simpa using en), h6⟩
theorem ge_meth {X : Cx} {CX : CXT} {k : Nat} {C f : Addr} {fd : FuncData} {ps : List Str} {F : Fv} {m : Str} {pl : Sem Bool} {o e : Expr} {es : List Expr} {fo : Ev} {fas : EvA} {apos pos : Pos} (c : Cls X.K C) (hm : Meth X.K C m f) (fo' : FnOk X.prog X.w X.K X.mg X.base CX k f fd ps (spG X.K F)) (hr : Room k X.A)
    (hb : Binds X.K fd ps []) (hx : Passes CX X E) (ho : GE X E o fo) (ha : GA X E (e :: es) fas)
    (hst : starEach (e :: es) X.env = (false, eval e X.env) :: starEach es X.env := by rfl) (hpl : (backTo pos (starEach es X.env)).any (·.1) = false := by rfl)
    (ht : eval (.Call (.Attribute o m apos) (e :: es) [] pos) X.env = (do
      let ov ← eval o X.env
      standAt apos.atName
      let (f, first) ← holding [ov] (getMethod ov m pl)
      callWith pos f first (backTo pos (starEach (e :: es) X.env)) (backToKw pos (keywordEach [] X.env))) := by rfl) :
    GE X E (.Call (.Attribute o m apos) (e :: es) [] pos) (eMeth C m F fo fas) :=
  ⟨PE.weak (pe_meth (pl := pl) ho.pe c hm fo' hr hb .nil hx ha.pa hst hpl ht) fun σ H Q ⟨g, ρ, M, rl, h⟩ => ⟨g, ρ, M, rl, Pg.bind h fun d M1 g1 H1 v _ gr rh dv h => by
    obtain ⟨a, dx, fs, rfl, s, hl, h⟩ := meth_step dv rh h
    exact ⟨a, dx, fs, rfl, s, hl, g1, ρ, M1, rl.grow gr rh, Pg.bind h fun ds M2 g2 H2 vs _ gr2 rh2 dvs h => ⟨g2, M2, d :: ds, rh2, by rw [List.append_nil]; exact .cons (dv.grow gr2 rh.nF) dvs, h⟩⟩⟩⟩
theorem ge_meth0 {X : Cx} {CX : CXT} {k : Nat} {C f : Addr} {fd : FuncData} {ps : List Str} {F : Fv} {m : Str} {pl : Sem Bool} {o : Expr} {fo : Ev} {apos pos : Pos} (c : Cls X.K C) (hm : Meth X.K C m f) (fo' : FnOk X.prog X.w X.K X.mg X.base CX k f fd ps (spG X.K F)) (hr : Room k X.A)
    (hb : Binds X.K fd ps []) (hx : Passes CX X E) (ho : GE X E o fo)
    (ht : eval (.Call (.Attribute o m apos) [] [] pos) X.env = (do
      let ov ← eval o X.env
      standAt apos.atName
      let (f, first) ← holding [ov] (getMethod ov m pl)
      callWith pos f first (backTo pos (starEach [] X.env)) (backToKw pos (keywordEach [] X.env))) := by rfl) :
    GE X E (.Call (.Attribute o m apos) [] [] pos) (eMeth C m F fo aNil) :=
  ⟨PE.weak (pe_meth0 (pl := pl) ho.pe c hm fo' hr hb .nil hx ht) fun σ H Q ⟨g, ρ, M, rl, h⟩ => ⟨g, ρ, M, rl, Pg.bind h fun d M1 g1 H1 v _ gr rh dv h => by
    obtain ⟨a, dx, fs, rfl, s, hl, h⟩ := meth_step dv rh h
    exact ⟨a, dx, fs, rfl, s, hl, g1, M1, [d], rh, .one dv, h⟩⟩⟩
/-- behind a new instance: its own cell -/
def mkIns (C : Addr) (F : Fv) (ds : List D) (M : Mem) : Res D := (F (.ref M.length :: ds) (M ++ [.ins C []])).bind fun r M2 => match r with
  | .non => .ok (.ref M.length) M2
  | _ => .stuck
def eMake (C : Addr) (F : Fv) (as : EvA) : Ev := fun ρ M => (as ρ M).bind (mkIns C F)
theorem make_step {C : Addr} {F : Fv} (rh : RelH K g M H) (dvs : DRs K g H vs ds) (h : Pg K E (repV K) g H (mkIns C F ds M) Q) : ∀ x dx, H x = none → H dx = none → dx ≠ x →
    spG K F (.ref x :: vs) (upd (upd H dx (.own x)) x (.ins C dx [])) (fun v H2 => v = .non ∧ Q (.ref x) H2) E := fun x dx nx ndx ne => by
  have n2 : upd H dx (.own x) x = none := by rw [upd_ne (Ne.symm ne)]; exact nx
  have gr1 : Grw K g H g (upd H dx (.own x)) := Grw.new ndx
  have rh1 : RelH K g M (upd H dx (.own x)) := rh.new ndx
  have gr2 : Grw K g (upd H dx (.own x)) (g.add x) (upd (upd H dx (.own x)) x (.ins C dx [])) := Grw.add n2
  have rh2 := rh1.add (c := .ins C []) (o := .ins C dx []) n2 (.ins upd_same .nil)
  refine ⟨g.add x, _, .ref M.length :: ds, rh2, .cons (.ref rh.last) (dvs.grow (gr1.trans gr2) rh.nF), ?_⟩
  refine Pg.bind (Pg.base h (gr1.trans gr2)) fun d M1 g1 H1 v _ gr r1 dv h => ?_
  cases dv with
  | non => exact ⟨rfl, h g1 H1 _ .refl r1 (.ref (gr.ext _ _ rh.last))⟩
  | _ => exact h.elim
theorem ge_make {X : Cx} {CX : CXT} {k : Nat} {C f : Addr} {fd : FuncData} {ps : List Str} {F : Fv} {x : Str} {p pos : Pos} {e : Expr} {es : List Expr} {fas : EvA} (mk : Mk X.K C f) (fo : FnOk X.prog X.w X.K X.mg X.base CX k f fd ps (spG X.K F)) (hr : Room (k + 1) X.A) (hm : X.mg x = some (.ref C))
    (hb : Binds X.K fd ps []) (hx : Passes CX X E) (ha : GA X E (e :: es) fas) (hg : Gl X x := by rfl) (hdb : (x == ("__debug__" : Str)) = false := by decide) (he : starEach (e :: es) X.env = (false, eval e X.env) :: starEach es X.env := by rfl) (hpl : (backTo pos (starEach es X.env)).any (·.1) = false := by rfl) :
    GE X E (.Call (.Name x p) (e :: es) [] pos) (eMake C F fas) :=
  ⟨PE.weak (pe_make mk fo hr hg hm hb .nil hx ha.pa hdb he hpl) fun σ H Q ⟨g, ρ, M, rl, h⟩ => ⟨g, ρ, M, rl, Pg.bind h fun ds M1 g1 H1 vs _ gr rh dvs h => by rw [List.append_nil]; exact make_step rh dvs h⟩⟩
theorem ge_make0 {X : Cx} {CX : CXT} {k : Nat} {C f : Addr} {fd : FuncData} {ps : List Str} {F : Fv} {x : Str} {p pos : Pos} (mk : Mk X.K C f) (fo : FnOk X.prog X.w X.K X.mg X.base CX k f fd ps (spG X.K F)) (hr : Room (k + 1) X.A) (hm : X.mg x = some (.ref C))
    (hb : Binds X.K fd ps []) (hx : Passes CX X E) (hg : Gl X x := by rfl) (hdb : (x == ("__debug__" : Str)) = false := by decide) :
    GE X E (.Call (.Name x p) [] [] pos) (eMake C F aNil) :=
  ⟨PE.weak (pe_make0 mk fo hr hg hm hb .nil hx hdb) fun σ H Q ⟨g, ρ, M, rl, h⟩ => make_step rl.h .nil h⟩
theorem ge_call0 {X : Cx} {CX : CXT} {k : Nat} {f : Addr} {fd : FuncData} {ps : List Str} {F : Fv} {x : Str} {p pos : Pos} (fo : FnOk X.prog X.w X.K X.mg X.base CX k f fd ps (spG X.K F)) (hr : Room k X.A) (hm : X.mg x = some (.ref f)) (hk : PySem.W.keepIn X.K (.ref f) = true)
    (hb : Binds X.K fd ps []) (hx : Passes CX X E) (hg : Gl X x := by rfl) (hdb : (x == ("__debug__" : Str)) = false := by decide) :
    GE X E (.Call (.Name x p) [] [] pos) (eCall F aNil) :=
  ⟨PE.weak (pe_call0 fo hr hg hm hk hb .nil hx hdb) fun σ H Q ⟨g, ρ, M, rl, h⟩ => ⟨g, M, [], rl.h, .nil, h⟩⟩

/-! ### targets that change the memory -/
abbrev Bm := D → Slots → Mem → Res Slots
def repS (K : PySem.W.Frag) : Gh → Hp → St → Slots → Prop := fun g H σ ρ => (∀ (i : Nat) (d : D), ρ[i]? = some (some d) → ∃ v, σ[i]? = some (some v) ∧ DR K g H v d) ∧ ρ.length = σ.length
structure GM (X : Cx) (E : XK) (tg : Expr) (b : Bm) : Prop where
  ok : ∃ t : TG, PG X tg t ∧ ∀ (g : Gh) (H : Hp) (M : Mem) (σ : St) (ρ : Slots) (v : V) (d : D) (Q : St → Hp → Prop), Rel X.K g ρ M σ H → DR X.K g H v d → Pg X.K E (repS X.K) g H (b d ρ M) Q → t v σ H Q
abbrev Bms := List D → Slots → Mem → Res Slots
structure GMs (X : Cx) (E : XK) (tg : List Expr) (b : Bms) : Prop where
  ok : ∃ t : TGs, PGs X tg t ∧ ∀ (g : Gh) (H : Hp) (M : Mem) (σ : St) (ρ : Slots) (vs : List V) (ds : List D) (Q : St → Hp → Prop), Rel X.K g ρ M σ H → DRs X.K g H vs ds → Pg X.K E (repS X.K) g H (b ds ρ M) Q → t vs σ H Q
def mName (i : Nat) : Bm := fun d ρ M => .ok (ρ.set i (some d)) M
theorem gm_name {X : Cx} {i : Nat} {x : Str} {pos : Pos} (hN : X.N.Nodup) (hi : X.N[i]? = some x := by rfl) (hx : Loc X.env.scope x := by first | exact Or.inl rfl | exact Or.inr rfl) (hf : X.fn x = true ∨ X.env.scope.names.lookup x = some .local := by first | exact .inl rfl | exact .inr rfl) :
    GM X E (.Name x pos) (mName i) :=
  ⟨gName i, pg_name hN hi hx hf, fun g H M σ ρ v d Q rl dv h => by
    have r2 := rl.set i dv
    exact h g H _ .refl r2.h ⟨r2.s, r2.len⟩⟩
def gFld (K : PySem.W.Frag) (ta : TE) (f : Str) : TG := fun v σ H Q => ta σ H fun x H1 => ∃ a C dx fs, x = .ref a ∧ H1 a = some (.ins C dx fs) ∧ Cls K C ∧ NoAttr K C f ∧ fs.length < 1000 ∧ Q σ (upd H1 a (.ins C dx (putF f v fs)))
theorem pg_fld {X : Cx} {o : Expr} {f : Str} {ta : TE} {pos : Pos} (ho : PE X o ta) : PG X (.Attribute o f pos) (gFld X.K ta f) := by
  refine ⟨fun pins s σ H v u Q I r h => ?_⟩
  rw [PySem.arm_assign_Attribute]
  refine wpAny_bind (wpAny_holding (thn (ho.run pins s σ H _ I h) fun ov s1 ⟨x, H1, I1, r1, a, C, dx, fs, ex, ea, c, n, l, q⟩ => ?_))
  subst ex
  obtain rfl : ov = Value.ref a := r1
  refine wpAny_bind (wpAny_standAt (wpAny_bind (wpAny_holding (setattr_ok I1 ea c n l r fun s3 I3 => ?_))))
  exact wpAny_release ⟨σ, _, I3, q⟩
def mFld (C : Addr) (f : Str) (o : Ev) : Bm := fun d ρ M => (o ρ M).bind fun x M1 => (setFD C f d x M1).bind fun _ M2 => .ok ρ M2
theorem gm_fld (C : Addr) {X : Cx} {o : Expr} {f : Str} {fo : Ev} {pos : Pos} (ho : GE X E o fo) (c : Cls X.K C) (n : NoAttr X.K C f) : GM X E (.Attribute o f pos) (mFld C f fo) :=
  ⟨_, pg_fld ho.pe, fun g H M σ ρ v d Q rl dv h => ⟨g, ρ, M, rl, Pg.bind h fun x M1 g1 H1 u _ gr rh dx h => by
    have rl1 := rl.grow gr rh
    have dv1 := dv.grow gr rl.h.nF
    unfold setFD at h
    cases q1 : insOf M1 x with
    | none => rw [q1] at h; exact h.elim
    | some p =>
      obtain ⟨k, C', fs⟩ := p
      rw [q1] at h
      simp only [opt_some] at h
      by_cases hc : C' = C ∧ fs.length < 1000
      · rw [if_pos hc] at h
        obtain ⟨rfl, hl⟩ := hc
        obtain ⟨a, dx', us, rfl, m, s, q⟩ := dx.ins rh q1
        obtain ⟨gr3, rh3⟩ := setF_step (f := f) rh m s q dv1
        have rl3 := rl1.grow gr3 rh3
        exact ⟨a, C', dx', us, rfl, s, c, n, by rw [q.length]; exact hl, h g1 _ σ gr3 rh3 ⟨rl3.s, rl3.len⟩⟩
      · rw [if_neg hc] at h; exact h.elim⟩⟩
def mSub (o i : Ev) : Bm := fun d ρ M => (o ρ M).bind fun x M1 => (i ρ M1).bind fun k M2 => (setLD x k d M2).bind fun _ M3 => .ok ρ M3
theorem gm_sub {X : Cx} {o i : Expr} {fo fi : Ev} {p1 : Pos} (ho : GE X E o fo) (hi : GE X E i fi) (hg : ∀ {to ti : TE} {t : TSet}, PE X o to → PE X i ti → PSet X t → PG X (.Subscript o i p1) (gSub to ti t) := by exact fun ho hi hs => pg_sub ho hi hs) : GM X E (.Subscript o i p1) (mSub fo fi) :=
  ⟨_, hg ho.pe hi.pe set_list, fun g H M σ ρ v d Q rl dv h => ⟨g, ρ, M, rl, Pg.bind h fun x M2 g2 H2 u _ gr2 rh2 dx h => by
    have rl2 := rl.grow gr2 rh2
    refine ⟨g2, ρ, M2, rl2, Pg.bind h fun k M3 g3 H3 u3 _ gr3 rh3 dk h => ?_⟩
    have rl3 := rl2.grow gr3 rh3
    have dv3 := (dv.grow gr2 rl.h.nF).grow gr3 rh2.nF
    have dx3 := dx.grow gr3 rh2.nF
    cases dk with
    | int k =>
      unfold setLD at h
      simp only at h
      cases q1 : cellOf M3 x with
      | none => rw [q1] at h; exact h.elim
      | some p =>
        obtain ⟨n, xs⟩ := p
        rw [q1] at h
        cases q2 : ixN xs.length k with
        | none => simp only [opt_some, q2, opt_none] at h; exact h.elim
        | some j =>
          simp only [opt_some, q2, Res.bind_ok] at h
          obtain ⟨a, us, rfl, m, s, z, q⟩ := dx3.cell rh3 q1
          have gr4 : Grw X.K g3 H3 g3 (upd H3 a (.lst (us.set j v))) := Grw.put (List.mem_of_getElem? m) s (fun _ e => by cases e) (fun _ _ e => by cases e)
          have rh4 := rh3.put (o' := .lst (us.set j v)) (c := .lst (xs.set j d)) m s (fun _ e => by cases e) (fun _ _ e => by cases e) (.lst upd_same (by rw [List.length_set]; exact z) ((q.set j dv3).grow gr4 rh3.nF))
          have rl4 := rl3.grow gr4 rh4
          exact ⟨a, us, k, j, rfl, rfl, s, by rw [q.length]; exact q2, h g3 _ σ gr4 rh4 ⟨rl4.s, rl4.len⟩⟩
    | _ => exact h.elim⟩⟩
def mNil : Bms := fun ds ρ M => match ds with
  | [] => .ok ρ M
  | _ => .stuck
def mCons (b : Bm) (bs : Bms) : Bms := fun ds ρ M => match ds with
  | [] => .stuck
  | d :: ds => (b d ρ M).bind fun ρ' M' => bs ds ρ' M'
theorem gms_nil {X : Cx} : GMs X E [] mNil := ⟨gNil, pgs_nil, fun g H M σ ρ vs ds Q rl dv h => by
  cases ds with
  | nil => cases dv; exact ⟨rfl, h g H σ .refl rl.h ⟨rl.s, rl.len⟩⟩
  | cons _ _ => exact h.elim⟩
theorem gms_cons {X : Cx} {e : Expr} {es : List Expr} {b : Bm} {bs : Bms} (h : GM X E e b) (hs : GMs X E es bs) (ha : (assignEach (e :: es) X.env).map (·.2) = assign e X.env :: (assignEach es X.env).map (·.2) := by rfl) : GMs X E (e :: es) (mCons b bs) := by
  obtain ⟨t, h1, h2⟩ := h.ok
  obtain ⟨ts, k1, k2⟩ := hs.ok
  refine ⟨gCons t ts, pgs_cons h1 k1 ha, fun g H M σ ρ vs ds Q rl dvs h => ?_⟩
  cases ds with
  | nil => exact h.elim
  | cons d ds =>
    cases dvs with | cons dv dvs =>
    refine ⟨_, _, rfl, h2 g H M σ ρ _ d _ rl dv (Pg.bind h fun ρ' M1 g1 H1 σ' _ gr rh rs h => ?_)⟩
    exact k2 g1 H1 M1 σ' ρ' _ ds _ ⟨rh, rs.1, rs.2⟩ (dvs.grow gr rl.h.nF) h
def mTup (n : Nat) (bs : Bms) : Bm := fun d ρ M => match d with
  | .tup xs => if xs.length = n then bs xs ρ M else .stuck
  | d => opt (lstOf M d) fun xs => if xs.length = n then bs xs ρ M else .stuck
theorem gm_tup {X : Cx} {es : List Expr} {k : Nat} {bs : Bms} {n : Nat} {pos : Pos} (h : GMs X E es bs) (hc : X.calm = true) (hn : (assignEach es X.env).length = n := by rfl) (hst : (assignEach es X.env).findIdx? (·.1) = none := by rfl) : GM X E (.Tuple es k pos) (mTup n bs) := by
  obtain ⟨t, h1, h2⟩ := h.ok
  have both : PG X (.Tuple es k pos) (fun v σ H Q => gTup X.K n t v σ H Q ∨ gUnl X.K n t v σ H Q) := ⟨fun pins s σ H v u Q I r q => q.elim (fun q => (pg_tup hc h1 hn hst).run pins s σ H v u Q I r q) fun q => (pg_unl hc h1 hn hst).run pins s σ H v u Q I r q⟩
  refine ⟨_, both, fun g H M σ ρ v d Q rl dv h => ?_⟩
  have key : Pg X.K E (repS X.K) g H (opt (lstOf M d) fun xs => if xs.length = n then bs xs ρ M else .stuck) Q → gTup X.K n t v σ H Q ∨ gUnl X.K n t v σ H Q := fun h => by
    obtain ⟨xs, e1, h⟩ := Pg.opt h
    obtain ⟨e2, h⟩ := Pg.ite h
    obtain ⟨a, us, rfl, s, z, q⟩ := dv.lstOf rl.h e1
    exact .inr ⟨a, us, rfl, .of s, by rw [q.length]; exact e2, h2 g H M σ ρ us xs Q rl q h⟩
  cases d with
  | tup xs =>
    obtain ⟨e2, h⟩ := Pg.ite h
    cases dv with | tup s z q =>
    exact .inl ⟨_, _, rfl, s, by rw [q.length]; exact e2, h2 g H M σ ρ _ xs Q rl q h⟩
  | _ => exact key h
def sAsgM (e : Ev) (b : Bm) : Sv := fun ρ M => (e ρ M).out fun d M1 => (b d ρ M1).out fun ρ' M2 => .nx ρ' M2
theorem gs_asgm {X : Cx} {tg e : Expr} {f : Ev} {b : Bm} {pos : Pos} (he : GE X E e f) (hb : GM X E tg b) (hs : swapsWithSole [tg] e pos.line X.env = pure false := by rfl) (hw : swappedStores [tg] e X.env = pure none := by rfl) (ha : (assignEach [tg] X.env).map (·.2) = [assign tg X.env] := by rfl) : GS X E (.Assign [tg] e pos) (sAsgM f b) := by
  obtain ⟨t, h1, h2⟩ := hb.ok
  refine ⟨PS.weak (ps_asg he.pe h1 hs hw ha) fun D σ H ⟨g, ρ, M, rl, h⟩ => ⟨g, ρ, M, rl, PgS.out h fun d M1 g1 H1 v _ gr rh dv h => ?_⟩⟩
  exact h2 g1 H1 M1 σ ρ v d _ (rl.grow gr rh) dv (PgS.out h fun ρ' M2 g2 H2 σ' _ gr2 rh2 rs h => h g2 H2 σ' .refl ⟨rh2, rs.1, rs.2⟩)

/-! ### x in l -/
def inP (M : Mem) (d e : D) : Option Bool := match pyOf (vw M d), lstOf M e with
  | some p, some xs => match pyAll xs with
    | some ps => if p.depth ≤ 60 ∧ PyData.depthAll ps ≤ 60 then some (ps.any fun z => PyData.eqv z p) else none
    | none => none
  | _, _ => none
def inD (d e : D) (M : Mem) : Res D := opt (inP M d e) fun b => .ok (.bl b) M
def ninD (d e : D) (M : Mem) : Res D := opt (inP M d e) fun b => .ok (.bl (!b)) M
theorem inP_ok {b : Bool} (r : RelH K g M H) (dv : DR K g H v d) (dw : DR K g H w e) (h : inP M d e = some b) : ∃ p ps, Dp K H v p ∧ Dp K H w (.list ps) ∧ SeqAt.shaped p = true ∧ SeqAt.shaped (.list ps) = true ∧ b = ps.any fun z => PyData.eqv z p := by
  unfold inP at h
  split at h
  · rename_i p xs e1 e2
    split at h
    · rename_i ps e3
      split at h
      · rename_i hz
        cases h
        obtain ⟨h1, h2⟩ := dv.pyV r e1
        obtain ⟨a, us, rfl, s, z, q⟩ := dw.lstOf r e2
        obtain ⟨h3, h4⟩ := q.py e3
        refine ⟨p, ps, h1, .lst (.of s) h3, ?_, ?_, rfl⟩
        · unfold SeqAt.shaped
          rw [h2]
          simp; omega
        · unfold SeqAt.shaped
          have hd : (PyData.list ps).depth = PyData.depthAll ps + 1 := rfl
          simp only [PyData.canLay0, h4, hd, Bool.true_and, decide_eq_true_eq]
          omega
      · cases h
    · cases h
  · cases h
theorem inS : OpS K (rInD K) inD := by
  intro E g H M v w d e Q r dv dw h
  obtain ⟨b, e1, h⟩ := Pg.opt h
  obtain ⟨p, ps, h1, h2, h3, h4, rfl⟩ := inP_ok r dv dw e1
  exact ⟨p, ps, h1, h2, h3, h4, h g H _ .refl r (.bl _)⟩
theorem ninS : OpS K (rNotInD K) ninD := by
  intro E g H M v w d e Q r dv dw h
  obtain ⟨b, e1, h⟩ := Pg.opt h
  obtain ⟨p, ps, h1, h2, h3, h4, rfl⟩ := inP_ok r dv dw e1
  exact ⟨p, ps, h1, h2, h3, h4, h g H _ .refl r (.bl _)⟩
end
end G
/-! G11: sorted(set(xs)) of whole numbers. The proof of call_set_listI is a turn of HandS.SetFor's call_set_tupI from tuples to lists. -/
namespace L2
open PySem PySem.Spec PyProof.Rows
section
variable {P : Program} {w : World} {A : Around} {E : Value → Shared → Prop} {s : Shared} {a : Addr}
set_option maxHeartbeats 3200000 in
theorem call_set_listI {l : Addr} {items : Array Value} (ns : List Int) {Q : Value → Shared → Prop} (hh : A.handled = none) (hl : s.heap.IsList l items) (hit : IntsAre items.toList ns) (hb : ns.length + 1 < scanBound)
    (h : ∀ (h' : Heap) (tk c : Nat), SetR w h' s.heap.objs.size (fun j => decide (j ∈ ns)) c → c ≤ ns.length → (∀ b o, s.heap.get? b = some o → h'.get? b = some o) → Q (.ref s.heap.objs.size) { s with heap := h', toks := tk }) :
    wpAny (model P w) A (call (.type "set") [.ref l]) Q E s := by
  have hisz : items.size = ns.length := by
    have q := IntsAre.length hit
    rw [Array.length_toList] at q
    exact q
  obtain ⟨c, tl, hmro⟩ := F.called_set.mro
  have hmade := F.called_set.made
  have hsub := F.called_set.sub
  refine wpAny_call (codeAny_of_tree ?_)
  show wpAny _ _ (callAny (.type "set") _) _ _ _
  refine wpAny_pure ⟨Code.quiet_builtin _ (by decide +kernel), codeAny_builtin F.entry_type_call ?_⟩
  rw [Around.under_plain (weight_type_call_type "set" [.ref l] []) rfl]
  have h1 := F.called_set.notType
  have h2 := F.called_set.canCreate
  have hct := F.typeCall_set_1 (.ref l)
  repeat (any_goals (first | assumption | wp_step))

  refine codeAny_mono (code_set_led1 (.ref l) (E := E) (Q₁ := fun obj s₁ => obj = .ref s.heap.objs.size ∧ s₁ = { s with heap := s.heap.push { cls := .type "set", dict := none, data := .set #[] 0 (.fresh 0 0 (!w.params.followText "set-order")) } }) ⟨rfl, rfl⟩) fun r s₁ hr => ?_
  cases r with
  | error e => exact hr
  | ok fl =>
    cases fl with
    | ret obj =>
      obtain ⟨rfl, rfl⟩ := hr
      have hS : (s.heap.push { cls := .type "set", dict := none, data := .set #[] 0 (.fresh 0 0 (!w.params.followText "set-order")) }).get? s.heap.objs.size = some { cls := .type "set", dict := none, data := .set #[] 0 (.fresh 0 0 (!w.params.followText "set-order")) } := Heap.get?_push_size _ rfl
      have hT : Shared.TypeIs { s with heap := s.heap.push { cls := .type "set", dict := none, data := .set #[] 0 (.fresh 0 0 (!w.params.followText "set-order")) } } (.ref s.heap.objs.size) "set" := ⟨_, hS, rfl⟩
      have hli := F.called_set.init.lookup
      have hbi := F.called_set.init.bind (.ref s.heap.objs.size)
      repeat (any_goals (first | assumption | wp_step))

      refine codeAny_mono (codeAny_call_builtin (R := wants (fun r s₂ => r = .none ∧ ∃ h' tk c, s₂ = { s with heap := h', toks := tk } ∧ SetR w h' s.heap.objs.size (fun j => decide (j ∈ ns)) c ∧ c ≤ ns.length ∧
          (∀ b o, s.heap.get? b = some o → h'.get? b = some o)) E) F.called_set.init.plain F.entry_set_init (check_set_init_1 hT ?_)) fun r₂ s₂ hr₂ => ?_
      · obtain ⟨ol, hol, hcl, nl, hdl⟩ := hl
        obtain ⟨ocls, odict, odata, oslots⟩ := ol
        simp only at hcl hdl
        subst hcl; subst hdl
        have hol' : (s.heap.push { cls := .type "set", dict := none, data := .set #[] 0 (.fresh 0 0 (!w.params.followText "set-order")) }).get? l = some { cls := .type "list", dict := odict, data := .seq items nl, slots := oslots } := Heap.get?_push_of_some _ hol
        have hsls := F.sub_list_set
        have hslf := F.sub_list_frozenset
        have hne : (Value.type "list" == Value.type "dict") = false := by decide
        have hl1 : (s.heap.push { cls := .type "set", dict := none, data := .set #[] 0 (.fresh 0 0 (!w.params.followText "set-order")) }).IsList l items := ⟨_, hol', rfl, nl, rfl⟩
        unfold Builtin.«set.__init__» noKeywords Builtin.Frozenset.updateFrom
        generalize hPI : pyIter = PI
        wp_walk
        subst hPI

        refine wpAny_pyIter_list hl1 ?_
        refine wpAny_bind (wpAny_runValue ?_)
        have hlS : l < s.heap.objs.size := Heap.lt_size hol
        have hh3 : A.in1.in1.in1.handled = none := by simp [hh]
        have hz1 : (s.heap.push { cls := .type "set", dict := none, data := .set #[] 0 (.fresh 0 0 (!w.params.followText "set-order")) }).objs.size = s.heap.objs.size + 1 := Heap.size_push ..
        have hneI : l ≠ (s.heap.push { cls := .type "set", dict := none, data := .set #[] 0 (.fresh 0 0 (!w.params.followText "set-order")) }).objs.size := by
          rw [Heap.size_push]; exact Nat.ne_of_lt (Nat.lt_succ_of_lt hlS)
        have hSf : s.heap.objs.size ∉ [(s.heap.push { cls := .type "set", dict := none, data := .set #[] 0 (.fresh 0 0 (!w.params.followText "set-order")) }).objs.size, l] := by
          rw [Heap.size_push]; simp only [List.mem_cons, List.mem_singleton, List.not_mem_nil, or_false, not_or]
          exact ⟨Nat.ne_of_lt (Nat.lt_succ_self _), Nat.ne_of_gt hlS⟩
        have hval : ∀ (i : Nat) (v : Value), items[i]? = some v → ∃ k t, ns[i]? = some k ∧ v = .int k t := fun i v hv => by
          have hi : i < ns.length := by rw [← hisz]; exact (Array.getElem?_eq_some_iff.mp hv).1
          obtain ⟨t, e⟩ := PyProof.Rows.IntsAre.int_at hit i v (by rw [Array.getElem?_toList]; exact hv)
          refine ⟨ns[i], t, List.getElem?_eq_getElem hi, ?_⟩
          rw [e, List.getD_eq_getElem?_getD, List.getElem?_eq_getElem hi] <;> rfl
        refine set_update_ints ((Walks.list hh3 _ l hneI items).toS) s.heap.objs.size
          hSf ns hisz hb hval (items.size - 0) 0 _ (by omega) (Nat.zero_le _)
          ⟨⟨_, Heap.get?_push_size _ rfl, rfl, rfl⟩, (hl1.push _)⟩ ?hS0 ?hR
        case hS0 =>
          have hget : ((s.heap.push { cls := .type "set", dict := none, data := .set #[] 0 (.fresh 0 0 (!w.params.followText "set-order")) }).push { cls := .type "list_iterator", data := .fields #[.ref l, .int 0 0] }).get? s.heap.objs.size
              = some { cls := .type "set", dict := none, data := .set #[] 0 (.fresh 0 0 (!w.params.followText "set-order")) } := Heap.get?_push_of_some _ hS
          exact ⟨0, Nat.le_refl 0, setR_new_at hget⟩
        case hR =>
          intro s' c' hm hc' hS'
          obtain ⟨h', g2, d', tk', os'⟩ := s'
          have eg : g2 = s.gens := hm.gens
          have ed : d' = s.drawn := hm.drawn
          have eo : os' = s.os := hm.os
          subst eg; subst ed; subst eo
          show wpAny _ _ _ _ _ _
          refine wpAny_pure ?_
          show wpAny _ _ (ret Value.none) _ _ _
          rw [hisz] at hc'
          refine wpAny_pure ⟨rfl, h', tk', c', rfl, hS', hc', fun b o e => ?_⟩
          have hb0 : b < s.heap.objs.size := Heap.lt_size e
          have hb1 : b ≠ s.heap.objs.size := Nat.ne_of_lt hb0
          have hb2 : b ≠ (s.heap.push { cls := .type "set", dict := none, data := .set #[] 0 (.fresh 0 0 (!w.params.followText "set-order")) }).objs.size := by
            rw [Heap.size_push]; exact Nat.ne_of_lt (Nat.lt_succ_of_lt hb0)
          exact hm.heap b o (by simp only [List.mem_cons, List.mem_singleton, List.not_mem_nil, or_false, not_or]; exact ⟨hb1, hb2⟩) (Heap.get?_push_of_some _ (Heap.get?_push_of_some _ e))

      · cases r₂ with
        | error e => exact hr₂
        | ok fl₂ =>
          cases fl₂ with
          | ret r =>
            obtain ⟨rfl, h', tk, c', rfl, hS', hc', hk'⟩ := hr₂
            repeat (any_goals (first | assumption | wp_step))
            exact h _ _ _ hS' hc' hk'
          | _ => exact hr₂.elim
    | _ => exact hr.elim

theorem sorted_setN {S : Int → Bool} {n : Nat} {Q : Value → Shared → Prop} (R : SetR w s.heap a S n) (hh : A.handled = none)
    (hQ : ∀ s' p (out : Array Value) (c : Nat) (ns : List Int), (∀ b o, s.heap.get? b = some o → s'.heap.get? b = some o) → s'.gens = s.gens → s'.os = s.os → s.heap.objs.size ≤ p →
      s'.heap.get? p = some (seqObj "list" out c) → IntsAre out.toList ns → ns.Pairwise (· < ·) → (∀ k, k ∈ ns ↔ S k = true) → ns.length = n → Q (.ref p) s') :
    wpAny (model P w) A (call (.builtin "sorted") [.ref a]) Q E s := by
  obtain ⟨o, es, ep, t, ho, hex, hd, g, nd, hm, hb, hf, hn, hr, hl⟩ := R
  refine Calls.call_function_entry kind_sorted plain_sorted entry_sorted (args_sorted1 _) ?_
  unfold Builtin.«sorted»
  refine wpAny_bind (m := checkCount "sorted" 1 1 _) (wpAny_pure ?_)
  refine wpAny_bind (collect_set (A := A.in1) hh ⟨o, ho, hex.1, hd⟩ hf hb hr hl fun s1 vs k1 hz g1 o1 pm => ?_)
  have hvl : vs.length = n := by rw [pm.length_eq, List.length_map, Array.length_toList]; exact hn
  have hvs : vs.length ≤ sizeLine := by
    rw [pm.length_eq, List.length_map, Array.length_toList, sizeLine_eq]
    unfold scanBound at hb
    omega
  have hI : IntsAre vs (vs.map Builtin.Re.reRawOf) := ints_of vs fun v hv => by
    obtain ⟨e, he, q⟩ := List.mem_map.mp (pm.mem_iff.mp hv)
    obtain ⟨k, tk, h1, _⟩ := g e he
    exact ⟨k, tk, by rw [← q]; exact h1⟩
  have pk : (vs.map Builtin.Re.reRawOf).Perm (es.toList.map keyOf) := by
    have q := pm.map Builtin.Re.reRawOf
    rw [List.map_map] at q
    exact q
  refine wpAny_bind (wpAny_newList ?_ hvs)
  have hoL : (s1.heap.push (seqObj "list" vs.toArray 0)).get? s1.heap.objs.size = some (seqObj "list" vs.toArray 0) := Heap.get?_push_size _ rfl
  refine wpAny_bind (wpAny_holding (wpAny_call_entry slot_list_sort ⟨_, hoL, rfl⟩ entry_list_sort (SrtO.list_sort_ord SrtO.swo_int hoL hvs (fun h2 => SrtO.ints_sortable hI h2) fun out b1 b2 => ⟨_, rfl, ?_⟩) (args_list_sort _)))
  obtain ⟨a1, a2, a3⟩ := SrtO.ints_out hI b1 b2
  obtain ⟨c, hc⟩ := sortedHeap_at (vs := vs) (out := out.toArray) hoL
  have pn : (out.map SrtO.iv).Perm (es.toList.map keyOf) := a2.trans pk
  refine wpAny_pure ⟨_, rfl, hQ _ s1.heap.objs.size out.toArray c (out.map SrtO.iv) (fun b u e => ?_) g1 o1 hz hc a1 (lt_of_le_nodup _ a3 (pn.nodup_iff.mpr nd)) (fun k => by rw [pn.mem_iff, ← hm k]) ?_⟩
  · have q := k1 b u e
    have hlt := Heap.lt_size q
    show (sortedHeap (s1.heap.push (seqObj "list" vs.toArray 0)) s1.heap.objs.size vs out.toArray).get? b = some u
    rw [sortedHeap_old (Nat.ne_of_lt hlt) (by rw [size_push']; exact Nat.lt_succ_of_lt hlt)]
    exact Heap.get?_push_of_some _ q
  · rw [pn.length_eq, List.length_map, Array.length_toList]; exact hn
end
section
variable {X : Cx}
theorem sortSet_run {pins : List (Addr × Obj)} {σ : St} {H : Hp} {s : Shared} {Q : VK} {a : Addr} {S : Int → Bool} {n : Nat} (I : Inv X pins σ H s) (R : SetR X.w s.heap a S n) (hh : X.A.handled = none)
    (q : ∀ (ns' : List Int) (p : Addr), ns'.Pairwise (· < ·) → (∀ k, k ∈ ns' ↔ S k = true) → H p = none → ns'.length = n → Q (.ref p) (upd H p (.lst (ns'.map V.int)))) :
    wpAny (model X.prog X.w) X.A (call (.builtin "sorted") [.ref a]) (EP X pins σ Q) X.xe s := by
  have hn4 : n < scanBound := by obtain ⟨o, es, ep, t, ho, hex, hd, g, nd, hm, hb, hf, hn, hr, hl⟩ := R; omega
  refine sorted_setN R hh fun s' p out c' ns' k2 g o hp hgt hI hpw hmem hlen => ?_
  have hn : H p = none := I.hok.fresh hp
  have hv : Vals (ns'.map V.int) out.toList := vals_of_ints hI
  have hsz : (ns'.map V.int).length ≤ sizeLine := by rw [List.length_map, hlen, sizeLine_eq]; unfold scanBound at hn4; omega
  have J : Inv X pins σ (upd H p (.lst (ns'.map V.int))) { s with heap := s'.heap, gens := s'.gens, drawn := s'.drawn, toks := s'.toks } :=
    I.call (ch := []) (Un.laid k2 hp hn) (I.hok.laid k2 hp ⟨hsz, out.toList, c', hv, hgt⟩) (by rw [g]; exact I.bare) (fun _ z => nomatch z)
  have e : s' = { s with heap := s'.heap, gens := s'.gens, drawn := s'.drawn, toks := s'.toks } := by
    cases s'
    cases s
    cases o
    rfl
  rw [e]
  exact ⟨.ref p, _, J, rfl, q ns' p hpw hmem hn hlen⟩
/-- sorted(set(xs)), whole numbers -/
def tSortSetI (K : PySem.W.Frag) (ta : TE) : TE := fun σ H Q => ta σ H fun x H1 => ∃ (l : Addr) (ns : List Int), x = V.ref l ∧ SqL K H1 l (ns.map V.int) ∧ ns.length ≤ 4000 ∧
  ∀ (ns' : List Int) (b p : Addr), ns'.Pairwise (· < ·) → (∀ k, k ∈ ns' ↔ k ∈ ns) → H1 p = none → ns'.length ≤ ns.length → Q (.ref p) (upd H1 p (.lst (ns'.map V.int)))
theorem pe_sortSetI {a : Expr} {ta : TE} {p p2 q pos : Pos} (hc : X.calm = true) (hg : Gl X "sorted") (hm : X.mg "sorted" = none) (hg2 : Gl X "set") (hm2 : X.mg "set" = none) (ha : PE X a ta)
    (na : starEach [a] X.env = (false, eval a X.env) :: starEach [] X.env := by rfl) : PE X (.Call (.Name "sorted" p) [.Call (.Name "set" p2) [a] [] q] [] pos) (tSortSetI X.K ta) := by
  refine ⟨fun pins s σ H Q I h => ?_⟩
  refine Call_ (ld_blt I hg hm PyProof.Rows.boot_sorted ?_)
  refine PyProof.Rows.callWith_builtin1 (PyProof.Rows.args_cons ?_ rfl) rfl rfl
  refine Call_ (ld_blt I hg2 hm2 PyProof.Rows.boot_set ?_)
  refine PyProof.Rows.callWith_type1 (PyProof.Rows.args_cons (thn (ha.run pins s σ H _ I h) fun v s1 ⟨x, H1, I1, r1, q1⟩ => PyProof.Rows.args_nil ?_) na) na rfl
  obtain ⟨l, ns, rfl, hq, h1, q1⟩ := q1
  cases r1
  obtain ⟨its, r, pl, hz⟩ := I1.list hq
  have hhd := I1.ok.hd hc
  refine call_set_listI ns hhd (show s1.heap.IsList l its.toArray from pl.isList) (ints_of_vals r) (by unfold scanBound; omega) fun h' tk c R hcn k => ?_
  refine PyProof.Rows.args_nil ?_
  have I2 : Inv X pins σ H1 { s1 with heap := h', toks := tk } := I1.kept fun b o e => k b o e
  exact sortSet_run I2 R hhd fun ns' p hpw hmem hn hlen => q1 ns' p p hpw (fun k => by rw [hmem k]; simp) hn (by rw [hlen]; exact hcn)
end
end L2
namespace G
open PySem L2
section
variable {X : Cx} {E : XK}
def uniqI : List Int → List Int
  | [] => []
  | [x] => [x]
  | x :: y :: r => if x = y then uniqI (y :: r) else x :: uniqI (y :: r)
def dedupI (ns : List Int) : List Int := uniqI (ns.mergeSort (fun a b => decide (a ≤ b)))
theorem sorted_uniq : ∀ {xs ys : List Int}, xs.Pairwise (· < ·) → ys.Pairwise (· < ·) → (∀ k, k ∈ xs ↔ k ∈ ys) → xs = ys
  | [], [], _, _, _ => rfl
  | [], y :: ys, _, _, h => absurd ((h y).mpr List.mem_cons_self) (by simp)
  | x :: xs, [], _, _, h => absurd ((h x).mp List.mem_cons_self) (by simp)
  | x :: xs, y :: ys, hx, hy, h => by
    obtain ⟨hx1, hx2⟩ := List.pairwise_cons.mp hx
    obtain ⟨hy1, hy2⟩ := List.pairwise_cons.mp hy
    have exy : x = y := by
      rcases List.mem_cons.mp ((h x).mp List.mem_cons_self) with q | q
      · exact q
      · rcases List.mem_cons.mp ((h y).mpr List.mem_cons_self) with q2 | q2
        · exact q2.symm
        · have := hy1 x q; have := hx1 y q2; omega
    subst exy
    rw [sorted_uniq hx2 hy2 fun k => ?_]
    constructor
    · intro m
      rcases List.mem_cons.mp ((h k).mp (List.mem_cons_of_mem _ m)) with q | q
      · have := hx1 k m; omega
      · exact q
    · intro m
      rcases List.mem_cons.mp ((h k).mpr (List.mem_cons_of_mem _ m)) with q | q
      · have := hy1 k m; omega
      · exact q
theorem dedupI_spec (ns : List Int) : (dedupI ns).Pairwise (· < ·) ∧ ∀ k, k ∈ dedupI ns ↔ k ∈ ns := by
  have h1 : (ns.mergeSort (fun a b => decide (a ≤ b))).Pairwise (· ≤ ·) := by
    have := List.pairwise_mergeSort (le := fun a b : Int => decide (a ≤ b)) (fun a b c h1 h2 => by simp at *; omega) (fun a b => by simp; omega) ns
    exact this.imp fun h => by simpa using h
  have h2 : ∀ k, k ∈ ns.mergeSort (fun a b => decide (a ≤ b)) ↔ k ∈ ns := fun k => (List.mergeSort_perm _ _).mem_iff
  unfold dedupI
  generalize ns.mergeSort (fun a b => decide (a ≤ b)) = l at h1 h2
  have key : ∀ (l : List Int), l.Pairwise (· ≤ ·) → (uniqI l).Pairwise (· < ·) ∧ ∀ k, k ∈ uniqI l ↔ k ∈ l := by
    intro l
    induction l with
    | nil => intro _; exact ⟨.nil, fun k => .rfl⟩
    | cons x xs ih =>
      intro h
      obtain ⟨hx1, hx2⟩ := List.pairwise_cons.mp h
      obtain ⟨i1, i2⟩ := ih hx2
      cases xs with
      | nil => exact ⟨by simp [uniqI], fun k => .rfl⟩
      | cons y ys =>
        unfold uniqI
        by_cases q : x = y
        · subst q
          rw [if_pos rfl]
          refine ⟨i1, fun k => ?_⟩
          rw [i2 k]; simp
        · rw [if_neg q]
          refine ⟨List.pairwise_cons.mpr ⟨fun k m => ?_, i1⟩, fun k => by rw [List.mem_cons, List.mem_cons, i2 k]⟩
          have m := (i2 k).mp m
          have h3 := hx1 y List.mem_cons_self
          have h4 : y ≤ k := by
            rcases List.mem_cons.mp m with q2 | q2
            · omega
            · exact (List.pairwise_cons.mp hx2).1 k q2
          omega
  obtain ⟨k1, k2⟩ := key l h1
  exact ⟨k1, fun k => by rw [k2 k, h2 k]⟩
def sortSetI (c : Bool) : D → Mem → Res D := fun d M => opt (lstOf M d) fun xs => opt (intsOf xs) fun ns => if ns.length ≤ 4000 then newL c ((dedupI ns).map D.int) M else .stuck
theorem ge_sortSetI (c : Bool) {a : Expr} {fa : Ev} {p p2 q pos : Pos} (hc : X.calm = true) (ha : GE X E a fa) (hm : X.mg "sorted" = none) (hm2 : X.mg "set" = none) (hg : Gl X "sorted" := by rfl) (hg2 : Gl X "set" := by rfl)
    (na : starEach [a] X.env = (false, eval a X.env) :: starEach [] X.env := by rfl) : GE X E (.Call (.Name "sorted" p) [.Call (.Name "set" p2) [a] [] q] [] pos) (eUn (sortSetI c) fa) :=
  ⟨PE.weak (pe_sortSetI hc hg hm hg2 hm2 ha.pe na) fun σ H Q ⟨g, ρ, M, rl, h⟩ => ⟨g, ρ, M, rl, Pg.bind h fun d M1 g1 H1 v _ gr rh dv h => by
    obtain ⟨xs, e1, h⟩ := Pg.opt h
    obtain ⟨ns, e2, h⟩ := Pg.opt h
    obtain ⟨z, h⟩ := Pg.ite h
    obtain ⟨a, rfl, s⟩ := dv.intL rh e1 e2
    refine ⟨a, ns, rfl, s, z, fun ns' b p hp hmem hn hl => ?_⟩
    have e : ns' = dedupI ns := sorted_uniq hp (dedupI_spec ns).1 fun k => by rw [hmem k, (dedupI_spec ns).2 k]
    subst e
    exact Pg.lst h rh hn (by rw [List.length_map, sizeLine_eq]; omega) (DRs.of_ints _)⟩⟩
end
end G
/-! G12: what the printed derivations lean on. -/
namespace G
open PySem L2
/-! ### targets in a comprehension -/
section
variable {X : Cx} {scope : Scope}
structure LB (X : Cx) (scope : Scope) (tg : Expr) (is : List Nat) (b : Bn) : Prop where
  ok : ∃ t : TG, (∀ (s : Shared) (H : Hp) (C : Addr) (cl : List (Str × Addr)) (fp : List Addr), PG (X.blk s H scope (compEnvC scope cl C X.env) fp) tg t) ∧ ∀ (g : Gh) (H : Hp) (M : Mem) (σ : L2.St) (ρ ρ' : Slots) (v : V) (d : D) (Q : L2.St → Hp → Prop), Rel X.K g ρ M σ H → DR X.K g H v d → b d ρ M = some ρ' →
      (∀ σ', Rel X.K g ρ' M σ' H → (∀ j, j ∉ is → σ'[j]? = σ[j]?) → σ'.length = σ.length → Q σ' H) → t v σ H Q
structure LBs (X : Cx) (scope : Scope) (tg : List Expr) (is : List Nat) (b : Bns) : Prop where
  ok : ∃ t : TGs, (∀ (s : Shared) (H : Hp) (C : Addr) (cl : List (Str × Addr)) (fp : List Addr), PGs (X.blk s H scope (compEnvC scope cl C X.env) fp) tg t) ∧ ∀ (g : Gh) (H : Hp) (M : Mem) (σ : L2.St) (ρ ρ' : Slots) (vs : List V) (ds : List D) (Q : L2.St → Hp → Prop), Rel X.K g ρ M σ H → DRs X.K g H vs ds → b ds ρ M = some ρ' →
      (∀ σ', Rel X.K g ρ' M σ' H → (∀ j, j ∉ is → σ'[j]? = σ[j]?) → σ'.length = σ.length → Q σ' H) → t vs σ H Q
theorem lb_name {i : Nat} {x : Str} {pos : Pos} (hN : X.N.Nodup) (hi : X.N[i]? = some x := by rfl) (hx : ∀ (s : Shared) (H : Hp) (C : Addr) (cl : List (Str × Addr)) (fp : List Addr), Loc (X.blk s H scope (compEnvC scope cl C X.env) fp).env.scope x := by intro _ _ _ _ _; first | exact Or.inl rfl | exact Or.inr rfl) (hf : ∀ (s : Shared) (H : Hp) (C : Addr) (cl : List (Str × Addr)) (fp : List Addr), (X.blk s H scope (compEnvC scope cl C X.env) fp).fn x = true ∨ (X.blk s H scope (compEnvC scope cl C X.env) fp).env.scope.names.lookup x = some .local := by intro _ _ _ _ _; first | exact .inl rfl | exact .inr rfl) : LB X scope (.Name x pos) [i] (bName i) :=
  ⟨gName i, fun s H C cl fp => pg_name (X := X.blk s H scope (compEnvC scope cl C X.env) fp) hN hi (hx s H C cl fp) (hf s H C cl fp), fun g H M σ ρ ρ' v d Q rl dv e k => by
    cases e
    exact k _ (rl.set i dv) (fun j hj => List.getElem?_set_ne (fun q => hj (by simp [q]))) List.length_set⟩
theorem lbs_nil : LBs X scope [] [] bNil := ⟨gNil, fun _ _ _ _ _ => pgs_nil, fun g H M σ ρ ρ' vs ds Q rl dv e k => by
  cases ds with
  | nil => cases dv; cases e; exact ⟨rfl, k σ rl (fun _ _ => rfl) rfl⟩
  | cons _ _ => cases e⟩
theorem lbs_cons {e : Expr} {es : List Expr} {is js : List Nat} {b : Bn} {bs : Bns} (h : LB X scope e is b) (hs : LBs X scope es js bs) (ha : ∀ (s : Shared) (H : Hp) (C : Addr) (cl : List (Str × Addr)) (fp : List Addr), (assignEach (e :: es) (X.blk s H scope (compEnvC scope cl C X.env) fp).env).map (·.2) = assign e (X.blk s H scope (compEnvC scope cl C X.env) fp).env :: (assignEach es (X.blk s H scope (compEnvC scope cl C X.env) fp).env).map (·.2) := by intro _ _ _ _ _; rfl) : LBs X scope (e :: es) (is ++ js) (bCons b bs) := by
  obtain ⟨t, h1, h2⟩ := h.ok
  obtain ⟨ts, k1, k2⟩ := hs.ok
  refine ⟨gCons t ts, fun s H C cl fp => pgs_cons (h1 s H C cl fp) (k1 s H C cl fp) (ha s H C cl fp), fun g H M σ ρ ρ' vs ds Q rl dvs e k => ?_⟩
  cases ds with
  | nil => cases e
  | cons d ds =>
    cases dvs with | cons dv dvs =>
    have e : (b d ρ M).bind (fun ρ' => bs ds ρ' M) = some ρ' := e
    cases q : b d ρ M with
    | none => rw [q] at e; cases e
    | some ρ1 =>
      rw [q] at e
      refine ⟨_, _, rfl, h2 g H M σ ρ ρ1 _ d _ rl dv q fun σ1 rl1 f1 l1 => ?_⟩
      refine k2 g H M σ1 ρ1 ρ' _ ds _ rl1 dvs e fun σ2 rl2 f2 l2 => k σ2 rl2 (fun j hj => ?_) (l2.trans l1)
      rw [f2 j fun m => hj (List.mem_append_right _ m), f1 j fun m => hj (List.mem_append_left _ m)]
theorem lb_tup {es : List Expr} {is : List Nat} {k : Nat} {bs : Bns} (n : Nat) {pos : Pos} (h : LBs X scope es is bs) (hc : X.calm = true) (hn : ∀ (s : Shared) (H : Hp) (C : Addr) (cl : List (Str × Addr)) (fp : List Addr), (assignEach es (X.blk s H scope (compEnvC scope cl C X.env) fp).env).length = n := by intro _ _ _ _ _; rfl)
    (hst : ∀ (s : Shared) (H : Hp) (C : Addr) (cl : List (Str × Addr)) (fp : List Addr), (assignEach es (X.blk s H scope (compEnvC scope cl C X.env) fp).env).findIdx? (·.1) = none := by intro _ _ _ _ _; rfl) : LB X scope (.Tuple es k pos) is (bTup n bs) := by
  obtain ⟨t, h1, h2⟩ := h.ok
  refine ⟨gTup X.K n t, fun s H C cl fp => pg_tup hc (h1 s H C cl fp) (hn s H C cl fp) (hst s H C cl fp), fun g H M σ ρ ρ' v d Q rl dv e k => ?_⟩
  unfold bTup at e
  split at e
  · rename_i xs
    split at e
    · rename_i hn
      cases dv with | tup s z q =>
      exact ⟨_, _, rfl, s, by rw [q.length]; exact hn, h2 g H M σ ρ ρ' _ xs Q rl q e k⟩
    · cases e
  · cases e
end
theorem gb_tupN {X : Cx} {es : List Expr} {is : List Nat} {k : Nat} {bs : Bns} (n : Nat) {pos : Pos} (h : GBs X es is bs) (hc : X.calm = true) (hn : (assignEach es X.env).length = n := by rfl) (hst : (assignEach es X.env).findIdx? (·.1) = none := by rfl) : GB X (.Tuple es k pos) is (bTup n bs) :=
  gb_tup (k := k) h fun t h => pg_tup hc h hn hst
def blkB (N : List Str) (names : List (Str × NameKind)) (scope : Scope) (own : List (Str × Nat)) : Bool :=
  decide (scope.kind = .function) && ((scope.names.all fun y => decide (scope.names.lookup y.1 = some y.2)) && ((own.all fun p => decide (N[p.2]? = some p.1)) && ((scope.names.all fun y => !decide (y.2 = .free) || decide (names.lookup y.1 = some .cell ∨ names.lookup y.1 = some .free)) &&
    scope.names.all fun y => !decide (y.2 = .local ∨ y.2 = .cell) || (decide (y.1 ∈ own.map (·.1)) || decide (y.1 ∉ N)))))
theorem blkB_ok {N : List Str} {sc scope : Scope} {own : List (Str × Nat)} (h : blkB N sc.names scope own = true) : BlkOk N sc scope own := by
  unfold blkB at h
  simp only [Bool.and_eq_true, decide_eq_true_eq, List.all_eq_true, Bool.or_eq_true, Bool.not_eq_true', decide_eq_false_iff_not] at h
  obtain ⟨h1, h2, h3, h4, h5⟩ := h
  exact ⟨h1, h2, h3, fun y m e => (h4 y m).elim (fun z => absurd e z) id, fun y m e => (h5 y m).elim (fun z => absurd e z) id⟩
section
variable {X : Cx} {E : XK}
theorem ge_lcL (c : Bool) (own : List (Str × Nat)) {elt tg iter : Expr} {ifs : List Expr} {scope : Scope} {pos : Pos} {fi : EvI} {is : List Nat} {b : Bn} {ft : EvT} {fe : Ev} (hN : X.N.Nodup) (hc : X.calm = true) (hi : GI X E tg iter fi) (hg : LB X scope tg is b)
    (ht : ∀ (s : Shared) (H : Hp) (C : Addr) (cl : List (Str × Addr)) (fp : List Addr), GTs (X.blk s H scope (compEnvC scope cl C X.env) fp) E0 ifs ft)
    (he : ∀ (s : Shared) (H : Hp) (C : Addr) (cl : List (Str × Addr)) (fp : List Addr), GE (X.blk s H scope (compEnvC scope cl C X.env) fp) E0 elt fe) (ok : BlkOk X.N X.env.scope scope own := by exact blkB_ok (by kernel_rfl)) (hv : (is.all fun j => (own.map (·.2)).contains j) = true := by decide) (hs : ∀ x, foldedSetIterable iter X.env x = pure x := by intro _; rfl) :
    GE X E (.ListComp elt [⟨tg, iter, ifs, 0⟩] scope pos) (eLc c fi b ft fe (own.map (·.2))) := ge_lc c own hN hc hi ok hg.ok ht he hv hs
theorem gs_setLcL (c : Bool) (own : List (Str × Nat)) {i : Nat} {y : Str} {py : Pos} {elt tg iter : Expr} {ifs : List Expr} {scope : Scope} {pos spos : Pos} {fi : EvI} {is : List Nat} {b : Bn} {ft : EvT} {fe : Ev} (hN : X.N.Nodup) (hc : X.calm = true) (hi : GI X E tg iter fi) (hg : LB X scope tg is b)
    (ht : ∀ (s : Shared) (H : Hp) (C : Addr) (cl : List (Str × Addr)) (fp : List Addr), GTs (X.blk s H scope (compEnvC scope cl C X.env) fp) E0 ifs ft)
    (he : ∀ (s : Shared) (H : Hp) (C : Addr) (cl : List (Str × Addr)) (fp : List Addr), GE (X.blk s H scope (compEnvC scope cl C X.env) fp) E0 elt fe) (hy : X.N[i]? = some y := by rfl) (hyl : X.env.scope.names.lookup y = some .local := by rfl)
    (hsw : swapsWith (.ListComp elt [⟨tg, iter, ifs, 0⟩] scope pos) (some (.Name y py)) spos.line X.env = pure true := by exact sw_true rfl rfl rfl (by decide +kernel)) (ok : BlkOk X.N X.env.scope scope own := by exact blkB_ok (by kernel_rfl)) (hv : (is.all fun j => (own.map (·.2)).contains j) = true := by decide) (hs : ∀ x, foldedSetIterable iter X.env x = pure x := by intro _; rfl) :
    GS X E (.Assign [.Name y py] (.ListComp elt [⟨tg, iter, ifs, 0⟩] scope pos) spos) (sSet i (eLc c fi b ft fe (own.map (·.2)))) := gs_setLc c own hN hc hi ok hg.ok ht he hy hyl hsw hv hs
end
/-! ### a def that stands -/
section
variable {P : Program} {w : World} {K : PySem.W.Frag} {mg : Str → Option Value} {base : Heap}
structure Okf (P : Program) (w : World) (K : PySem.W.Frag) (mg : Str → Option Value) (base : Heap) (k : Nat) (f : Addr) (ps : List Str) (F : Fv) : Prop where
  ex : ∃ fd, FnOk P w K mg base CX0 k f fd ps (spG K F) ∧ Binds K fd ps []
  kp : PySem.W.keepIn K (.ref f) = true
theorem Okf.pure {k : Nat} {f : Addr} {ps : List Str} {F : Fv} (o : Okf P w K mg base k f ps F) : Okf P w K mg base k f ps (pureF F) :=
  let ⟨fd, h, b⟩ := o.ex
  ⟨⟨fd, FnOk.pure h, b⟩, o.kp⟩
theorem Okf.le {k : Nat} {f : Addr} {ps : List Str} {F F' : Fv} (o : Okf P w K mg base k f ps F) (e : ∀ ds M, F' ds M ≠ .stuck → F ds M = F' ds M) : Okf P w K mg base k f ps F' :=
  let ⟨fd, h, b⟩ := o.ex
  ⟨⟨fd, FnOk.le h e, b⟩, o.kp⟩
theorem Okf.mono {j k : Nat} {f : Addr} {ps : List Str} {F : Fv} (o : Okf P w K mg base j f ps F) (h : j ≤ k) : Okf P w K mg base k f ps F :=
  let ⟨fd, q, b⟩ := o.ex
  ⟨⟨fd, q.mono h, b⟩, o.kp⟩
end
section
variable {X : Cx} {E : XK}
theorem gc {k : Nat} {f : Addr} {ps : List Str} {F : Fv} {x : Str} {p pos : Pos} {e : Expr} {es : List Expr} {fas : EvA} (o : Okf X.prog X.w X.K X.mg X.base k f ps F) (hr : Room k X.A) (hm : X.mg x = some (.ref f)) (ha : GA X E (e :: es) fas) (hg : Gl X x := by rfl) (hdb : (x == ("__debug__" : Str)) = false := by decide) (he : starEach (e :: es) X.env = (false, eval e X.env) :: starEach es X.env := by rfl) (hpl : (backTo pos (starEach es X.env)).any (·.1) = false := by rfl) :
    GE X E (.Call (.Name x p) (e :: es) [] pos) (eCall F fas) :=
  let ⟨_, h, b⟩ := o.ex
  ge_call h hr hm o.kp b passA ha hg hdb he hpl
theorem gc0 {k : Nat} {f : Addr} {ps : List Str} {F : Fv} {x : Str} {p pos : Pos} (o : Okf X.prog X.w X.K X.mg X.base k f ps F) (hr : Room k X.A) (hm : X.mg x = some (.ref f)) (hg : Gl X x := by rfl) (hdb : (x == ("__debug__" : Str)) = false := by decide) : GE X E (.Call (.Name x p) [] [] pos) (eCall F aNil) :=
  let ⟨_, h, b⟩ := o.ex
  ge_call0 h hr hm o.kp b passA hg hdb
theorem gm {k : Nat} {C f : Addr} {ps : List Str} {F : Fv} {m : Str} {pl : Sem Bool} {o e : Expr} {es : List Expr} {fo : Ev} {fas : EvA} {apos pos : Pos} (c : Cls X.K C) (hm : Meth X.K C m f) (o' : Okf X.prog X.w X.K X.mg X.base k f ps F) (hr : Room k X.A)
    (ho : GE X E o fo) (ha : GA X E (e :: es) fas)
    (hst : starEach (e :: es) X.env = (false, eval e X.env) :: starEach es X.env := by rfl) (hpl : (backTo pos (starEach es X.env)).any (·.1) = false := by rfl)
    (ht : eval (.Call (.Attribute o m apos) (e :: es) [] pos) X.env = (do
      let ov ← eval o X.env
      standAt apos.atName
      let (f, first) ← holding [ov] (getMethod ov m pl)
      callWith pos f first (backTo pos (starEach (e :: es) X.env)) (backToKw pos (keywordEach [] X.env))) := by rfl) :
    GE X E (.Call (.Attribute o m apos) (e :: es) [] pos) (eMeth C m F fo fas) :=
  let ⟨_, h, b⟩ := o'.ex
  ge_meth c hm h hr b passA ho ha hst hpl ht
theorem gm0 {k : Nat} {C f : Addr} {ps : List Str} {F : Fv} {m : Str} {pl : Sem Bool} {o : Expr} {fo : Ev} {apos pos : Pos} (c : Cls X.K C) (hm : Meth X.K C m f) (o' : Okf X.prog X.w X.K X.mg X.base k f ps F) (hr : Room k X.A)
    (ho : GE X E o fo)
    (ht : eval (.Call (.Attribute o m apos) [] [] pos) X.env = (do
      let ov ← eval o X.env
      standAt apos.atName
      let (f, first) ← holding [ov] (getMethod ov m pl)
      callWith pos f first (backTo pos (starEach [] X.env)) (backToKw pos (keywordEach [] X.env))) := by rfl) :
    GE X E (.Call (.Attribute o m apos) [] [] pos) (eMeth C m F fo aNil) :=
  let ⟨_, h, b⟩ := o'.ex
  ge_meth0 c hm h hr b passA ho ht
theorem gmk {k : Nat} {C f : Addr} {ps : List Str} {F : Fv} {x : Str} {p pos : Pos} {e : Expr} {es : List Expr} {fas : EvA} (mk : Mk X.K C f) (o : Okf X.prog X.w X.K X.mg X.base k f ps F) (hr : Room (k + 1) X.A) (hm : X.mg x = some (.ref C))
    (ha : GA X E (e :: es) fas) (hg : Gl X x := by rfl) (hdb : (x == ("__debug__" : Str)) = false := by decide) (he : starEach (e :: es) X.env = (false, eval e X.env) :: starEach es X.env := by rfl) (hpl : (backTo pos (starEach es X.env)).any (·.1) = false := by rfl) :
    GE X E (.Call (.Name x p) (e :: es) [] pos) (eMake C F fas) :=
  let ⟨_, h, b⟩ := o.ex
  ge_make mk h hr hm b passA ha hg hdb he hpl
end
end G
/-! G13: short names for the printed derivations. -/
namespace G
open PySem L2
section
variable {K : PySem.W.Frag}
theorem ltS : OpS K (rI0 fun i j => .bl (decide (i < j))) ltD := cmpS
theorem leS : OpS K (rI0 fun i j => .bl (decide (i ≤ j))) leD := cmpS
theorem gtS : OpS K (rI0 fun i j => .bl (decide (j < i))) gtD := cmpS
theorem geS : OpS K (rI0 fun i j => .bl (decide (j ≤ i))) geD := cmpS
theorem addIS0 : OpS K (rI0 fun i j => .int (i + j)) addI := fun E g H M v w d e Q r dv dw h => by
  obtain ⟨i, j, e1, e2, _, q⟩ := numS (C' := fun _ _ => True) (fun _ _ _ => trivial) E g H M v w d e Q r dv dw h
  exact ⟨i, j, e1, e2, q⟩
theorem units65 {k : Nat} {A : Around} (r : Room k A) : A.units + 65 < cLine := by have := r.un; omega
end
section
variable {P : Program} {w : World} {K : PySem.W.Frag} {mg : Str → Option Value} {base : Heap}
theorem Okf.idn {k : Nat} {f : Addr} {ps : List Str} {F : Fv} (o : Okf P w K mg base k f ps F) : Okf P w K mg base k f ps F := o
theorem okStuck {x qual : Str} {params : Arguments} {body : List Stmt} {scope : Scope} {dvs : List V} {kws : List (Str × V)} {f : Addr} {fd : FuncData} {N ps : List Str} {k : Nat} (F : FunD K x qual params body scope dvs kws f fd) (S : FnScope N ps scope) :
    FnOk P w K mg base CX0 (k + 1) f fd ps (spG K fun _ _ => .stuck) :=
  F.ok S (fun vs H Q E ⟨g, M, ds, r, q, h⟩ => h.elim) fun cdv A outer s H vs Q E hr ⟨g, M, ds, r, q, h⟩ => h.elim
end
section
variable {X : Cx} {E : XK}
theorem gs_subs {o i e : Expr} {fo fi fe : Ev} {p1 pos : Pos} (he : GE X E e fe) (ho : GE X E o fo) (hi : GE X E i fi)
    (hg : ∀ {to ti : TE} {t : TSet}, PE X o to → PE X i ti → PSet X t → PG X (.Subscript o i p1) (gSub to ti t) := by exact fun ho hi hs => pg_sub ho hi hs)
    (hs : swapsWithSole [.Subscript o i p1] e pos.line X.env = pure false := by rfl) (hw : swappedStores [.Subscript o i p1] e X.env = pure none := by rfl) : GS X E (.Assign [.Subscript o i p1] e pos) (sSub fo fi fe) :=
  gs_sub (px := pos) he ho hi hg hs hw
end
end G
/-! G14: what comprehensions and loops come to. -/
namespace G
open PySem L2
theorem lcL_filter {b : Bn} {tt : EvT} {te : Ev} {it : Itm} {ρ : Slots} {M : Mem} (bs : D → Slots) (p : D → Bool) (f : D → D) (hs : srcOk it M) : ∀ (xs acc : List D), (∀ x, x ∈ xs → b x ρ M = some (bs x)) → (∀ x, x ∈ xs → tt (bs x) M = .ok (p x) M) → (∀ x, x ∈ xs → p x = true → te (bs x) M = .ok (f x) M) →
    acc.length + xs.length ≤ 1000000 → lcL b tt te it ρ xs acc M = .ok (acc ++ (xs.filter p).map f) M
  | [], acc, _, _, _, _ => by unfold lcL; rw [if_pos hs]; simp
  | x :: xs, acc, hb, ht, he, hl => by
    unfold lcL
    rw [if_pos hs, hb x List.mem_cons_self]
    simp only [opt_some]
    rw [ht x List.mem_cons_self]
    simp only [Res.nox_ok, Res.bind_ok]
    have hl' : acc.length + (xs.length + 1) ≤ 1000000 := by simpa using hl
    cases q : p x with
    | true =>
      rw [if_pos rfl, he x List.mem_cons_self q]
      simp only [Res.nox_ok, Res.bind_ok]
      rw [if_pos (by omega), lcL_filter bs p f hs xs _ (fun y m => hb y (List.mem_cons_of_mem _ m)) (fun y m => ht y (List.mem_cons_of_mem _ m)) (fun y m => he y (List.mem_cons_of_mem _ m)) (by simp; omega)]
      simp [List.filter_cons, q]
    | false =>
      rw [if_neg Bool.false_ne_true, lcL_filter bs p f hs xs _ (fun y m => hb y (List.mem_cons_of_mem _ m)) (fun y m => ht y (List.mem_cons_of_mem _ m)) (fun y m => he y (List.mem_cons_of_mem _ m)) (by omega)]
      simp [List.filter_cons, q]
/-- [te for b in i if tt], where nothing changes the memory -/
theorem lc_filter {c : Bool} {i : EvI} {b : Bn} {tt : EvT} {te : Ev} {vs : List Nat} {ρ : Slots} {M M1 : Mem} {it : Itm} (bs : D → Slots) (p : D → Bool) (f : D → D) (hi : i ρ M = .ok it M1) (hs : srcOk it M1) (hb : ∀ x, x ∈ it.xs → b x (wipeG ρ vs) M1 = some (bs x)) (ht : ∀ x, x ∈ it.xs → tt (bs x) M1 = .ok (p x) M1)
    (he : ∀ x, x ∈ it.xs → p x = true → te (bs x) M1 = .ok (f x) M1) (hl : it.xs.length ≤ 1000000) : eLc c i b tt te vs ρ M = newL c ((it.xs.filter p).map f) M1 := by
  unfold eLc
  rw [hi]
  simp only [Res.bind_ok]
  rw [lcL_filter bs p f hs it.xs [] hb ht he (by simpa using hl)]
  simp
theorem lc_map {c : Bool} {i : EvI} {b : Bn} {te : Ev} {vs : List Nat} {ρ : Slots} {M M1 : Mem} {it : Itm} (bs : D → Slots) (f : D → D) (hi : i ρ M = .ok it M1) (hs : srcOk it M1) (hb : ∀ x, x ∈ it.xs → b x (wipeG ρ vs) M1 = some (bs x))
    (he : ∀ x, x ∈ it.xs → te (bs x) M1 = .ok (f x) M1) (hl : it.xs.length ≤ 1000000) : eLc c i b tYesG te vs ρ M = newL c (it.xs.map f) M1 := by
  rw [lc_filter bs (fun _ => true) f hi hs hb (fun _ _ => rfl) (fun x m _ => he x m) hl, List.filter_eq_self.mpr (fun _ _ => rfl)]
/-- a comprehension that changes the memory, by an invariant -/
theorem lc_inv {c : Bool} {i : EvI} {b : Bn} {te : Ev} {vs : List Nat} {ρ : Slots} {M M1 : Mem} {it : Itm} (I : Nat → List D → Mem → Prop) (hi : i ρ M = .ok it M1) (hl : it.xs.length ≤ 1000000) (h0 : I 0 [] M1)
    (hstep : ∀ k acc M2 x, I k acc M2 → it.xs[k]? = some x → ∃ ρ1 y M3, b x (wipeG ρ vs) M2 = some ρ1 ∧ te ρ1 M2 = .ok y M3 ∧ I (k + 1) (acc ++ [y]) M3) (hsrc : ∀ k acc M2, I k acc M2 → srcOk it M2) :
    ∃ ys M2, I it.xs.length ys M2 ∧ ys.length = it.xs.length ∧ eLc c i b tYesG te vs ρ M = newL c ys M2 := by
  have key : ∀ (n k : Nat) (acc : List D) (M2 : Mem), n = it.xs.length - k → k ≤ it.xs.length → acc.length = k → I k acc M2 → ∃ ys M3, I it.xs.length ys M3 ∧ ys.length = it.xs.length ∧ lcL b tYesG te it (wipeG ρ vs) (it.xs.drop k) acc M2 = .ok ys M3 := by
    intro n
    induction n with
    | zero =>
      intro k acc M2 hn hk ha hI
      have e : k = it.xs.length := by omega
      subst e
      refine ⟨acc, M2, hI, ha, ?_⟩
      rw [List.drop_eq_nil_of_le (Nat.le_refl _)]
      unfold lcL
      rw [if_pos (hsrc _ _ _ hI)]
    | succ n ih =>
      intro k acc M2 hn hk ha hI
      have hlt : k < it.xs.length := by omega
      obtain ⟨ρ1, y, M3, e1, e2, hI2⟩ := hstep k acc M2 it.xs[k] hI (List.getElem?_eq_getElem hlt)
      obtain ⟨ys, M4, h1, h2, h3⟩ := ih (k + 1) (acc ++ [y]) M3 (by omega) hlt (by simp [ha]) hI2
      refine ⟨ys, M4, h1, h2, ?_⟩
      rw [List.drop_eq_getElem_cons hlt]
      unfold lcL
      rw [if_pos (hsrc _ _ _ hI), e1]
      simp only [opt_some, tYesG, Res.nox_ok, Res.bind_ok, if_true]
      rw [e2]
      simp only [Res.nox_ok, Res.bind_ok]
      rw [if_pos (by omega), h3]
  obtain ⟨ys, M3, h1, h2, h3⟩ := key _ 0 [] M1 rfl (Nat.zero_le _) rfl h0
  refine ⟨ys, M3, h1, h2, ?_⟩
  unfold eLc
  rw [hi]
  simp only [Res.bind_ok]
  rw [List.drop_zero] at h3
  rw [h3]
  rfl
/-- a loop that runs to its end, by an invariant -/
theorem forL_inv {b : Bn} {body : Sv} {it : Itm} {ρ : Slots} {M : Mem} (I : Nat → Slots → Mem → Prop) (h0 : I 0 ρ M)
    (hstep : ∀ k ρ M x, I k ρ M → it.xs[k]? = some x → ∃ ρ1, b x ρ M = some ρ1 ∧ ∃ ρ' M', (body ρ1 M = .nx ρ' M' ∨ body ρ1 M = .cnt ρ' M') ∧ I (k + 1) ρ' M') (hsrc : ∀ k ρ M, I k ρ M → srcOk it M) :
    ∃ ρ' M', forL b body it it.xs ρ M = .nx ρ' M' ∧ I it.xs.length ρ' M' := by
  have key : ∀ (n k : Nat) (ρ : Slots) (M : Mem), n = it.xs.length - k → k ≤ it.xs.length → I k ρ M → ∃ ρ' M', forL b body it (it.xs.drop k) ρ M = .nx ρ' M' ∧ I it.xs.length ρ' M' := by
    intro n
    induction n with
    | zero =>
      intro k ρ M hn hk hI
      have e : k = it.xs.length := by omega
      subst e
      refine ⟨ρ, M, ?_, hI⟩
      rw [List.drop_eq_nil_of_le (Nat.le_refl _)]
      unfold forL
      rw [if_pos (hsrc _ _ _ hI)]
    | succ n ih =>
      intro k ρ M hn hk hI
      have hlt : k < it.xs.length := by omega
      obtain ⟨ρ1, e1, ρ2, M2, e2, hI2⟩ := hstep k ρ M it.xs[k] hI (List.getElem?_eq_getElem hlt)
      obtain ⟨ρ', M', h1, h2⟩ := ih (k + 1) ρ2 M2 (by omega) hlt hI2
      refine ⟨ρ', M', ?_, h2⟩
      rw [List.drop_eq_getElem_cons hlt]
      unfold forL
      rw [if_pos (hsrc _ _ _ hI), e1]
      simp only
      rcases e2 with e2 | e2 <;> rw [e2] <;> exact h1
  obtain ⟨ρ', M', h1, h2⟩ := key _ 0 ρ M rfl (Nat.zero_le _) h0
  exact ⟨ρ', M', by rw [List.drop_zero] at h1; exact h1, h2⟩
theorem for_inv {i : EvI} {b : Bn} {body : Sv} {ρ : Slots} {M M1 : Mem} {it : Itm} (I : Nat → Slots → Mem → Prop) (hi : i ρ M = .ok it M1) (h0 : I 0 ρ M1)
    (hstep : ∀ k ρ M x, I k ρ M → it.xs[k]? = some x → ∃ ρ1, b x ρ M = some ρ1 ∧ ∃ ρ' M', (body ρ1 M = .nx ρ' M' ∨ body ρ1 M = .cnt ρ' M') ∧ I (k + 1) ρ' M') (hsrc : ∀ k ρ M, I k ρ M → srcOk it M) :
    ∃ ρ' M', sFor i b body ρ M = .nx ρ' M' ∧ I it.xs.length ρ' M' := by
  obtain ⟨ρ', M', h1, h2⟩ := forL_inv (b := b) (body := body) I h0 hstep hsrc
  refine ⟨ρ', M', ?_, h2⟩
  unfold sFor
  rw [hi]
  exact h1
/-- a while loop, by a measure -/
theorem while_inv {c : EvT} {b : Sv} (I : Slots → Mem → Prop) (μ : Slots → Mem → Nat) (Q : Slots → Mem → Prop) (hstep : ∀ ρ M, I ρ M → (∃ M1, c ρ M = .ok false M1 ∧ Q ρ M1) ∨ ∃ M1 ρ' M', c ρ M = .ok true M1 ∧ (b ρ M1 = .nx ρ' M' ∨ b ρ M1 = .cnt ρ' M') ∧ I ρ' M' ∧ μ ρ' M' < μ ρ M) :
    ∀ ρ M, I ρ M → ∃ ρ' M', sWhile c b ρ M = .nx ρ' M' ∧ Q ρ' M' := by
  have key : ∀ n ρ M, μ ρ M = n → I ρ M → ∃ ρ' M', sWhile c b ρ M = .nx ρ' M' ∧ Q ρ' M' := by
    intro n
    induction n using Nat.strongRecOn with
    | _ n ih =>
      intro ρ M hn hI
      rw [sWhile_eq]
      rcases hstep ρ M hI with ⟨M1, e, q⟩ | ⟨M1, ρ', M', e, e2, hI2, hm⟩
      · rw [e]; exact ⟨ρ, M1, rfl, q⟩
      · rw [e]
        simp only [Res.out_ok, if_true]
        obtain ⟨ρ2, M2, h1, h2⟩ := ih _ (by omega) ρ' M' rfl hI2
        refine ⟨ρ2, M2, ?_, h2⟩
        rcases e2 with e2 | e2 <;> rw [e2] <;> exact h1
  exact fun ρ M h => key _ ρ M rfl h
/-! ### isinstance at a name -/
section
variable {M : Mem} {d : D} {t : String}
theorem isi_of {n : String} (h : tyName M d = some t) (hn : (["int", "bool", "str", "tuple", "list", "dict"].contains n) = true) : isiD [d, .raw (.ty n)] M = .ok (.bl (subTy t n)) M := by
  show opt (tyName M d) _ = _
  rw [h]
  exact if_pos hn
end
end G
/-! G15: min, max of a tuple of whole numbers. -/
namespace G
open PySem L2 PySem.Spec PyProof.Rows PySem.W
theorem dpAll_ints {K : PySem.W.Frag} {H : Hp} : ∀ ns : List Int, DpAll K H (ns.map V.int) (ns.map PyData.int)
  | [] => .nil
  | n :: ns => .cons (.int n) (dpAll_ints ns)
section
variable {X : Cx}
def rMinT (K : PySem.W.Frag) : List V → Hp → VK → Prop := fun vs H Q => ∃ (a : Addr) (n : Int) (ns : List Int), vs = [V.ref a] ∧ SqT K H a ((n :: ns).map V.int) ∧ Q (.int (minOf n ns)) H
def rMaxT (K : PySem.W.Frag) : List V → Hp → VK → Prop := fun vs H Q => ∃ (a : Addr) (n : Int) (ns : List Int), vs = [V.ref a] ∧ SqT K H a ((n :: ns).map V.int) ∧ Q (.int (maxOf n ns)) H
theorem int_reads {h : Heap} {us : List Value} {ns : List Int} {i : Nat} {v : Value} {m : Int} (hi : IntsAre us ns) (e : us[i]? = some v) (H : Holds h v m) : ∃ t, v = .int m t := by
  have hlen : i < us.length := (List.getElem?_eq_some_iff.mp e).1
  obtain ⟨t, e2⟩ := PyProof.Rows.IntsAre.int_at hi i v e
  subst e2
  obtain ⟨as, r⟩ := H
  cases r
  exact ⟨t, rfl⟩
theorem cr_minT (hc : X.calm = true) (hu : X.A.units + 64 < cLine) : CallR X (.builtin "min") (rMinT X.K) := by
  intro pins s σ H vs us Q I r h
  obtain ⟨a, n, ns, rfl, hs, q⟩ := h
  obtain ⟨its, rv, hl, _⟩ := I.tuple hs
  rw [Vals.ref1 r]
  have hI := ints_of_vals rv
  obtain ⟨as, ra⟩ := Dp.readsAll I _ _ _ (dpAll_ints (n :: ns)) rv
  refine min_tuple_datum (x := n) (xs := ns) (I.ok.hd hc) hl ⟨as, ra⟩ (by show X.A.units + 1 + 0 < cLine; omega) fun i v h' tk hi hH hk => ?_
  obtain ⟨t, rfl⟩ := int_reads hI (show its[i]? = some v by simpa using hi) hH
  exact ⟨.int _, H, I.kept hk, ⟨t, rfl⟩, q⟩
theorem cr_maxT (hc : X.calm = true) (hu : X.A.units + 64 < cLine) : CallR X (.builtin "max") (rMaxT X.K) := by
  intro pins s σ H vs us Q I r h
  obtain ⟨a, n, ns, rfl, hs, q⟩ := h
  obtain ⟨its, rv, hl, _⟩ := I.tuple hs
  rw [Vals.ref1 r]
  have hI := ints_of_vals rv
  obtain ⟨as, ra⟩ := Dp.readsAll I _ _ _ (dpAll_ints (n :: ns)) rv
  refine max_tuple_datum (x := n) (xs := ns) (I.ok.hd hc) hl ⟨as, ra⟩ (by show X.A.units + 1 + 0 < cLine; omega) fun i v h' tk hi hH hk => ?_
  obtain ⟨t, rfl⟩ := int_reads hI (show its[i]? = some v by simpa using hi) hH
  exact ⟨.int _, H, I.kept hk, ⟨t, rfl⟩, q⟩
def rMinG (K : PySem.W.Frag) : List V → Hp → VK → Prop := fun vs H Q => rMin K vs H Q ∨ rMinT K vs H Q
def rMaxG (K : PySem.W.Frag) : List V → Hp → VK → Prop := fun vs H Q => rMax K vs H Q ∨ rMaxT K vs H Q
theorem cr_minG (hc : X.calm = true) (hu : X.A.units + 64 < cLine) : CallR X (.builtin "min") (rMinG X.K) := fun pins s σ H vs us Q I r h => h.elim (cr_min hc pins s σ H vs us Q I r) (cr_minT hc hu pins s σ H vs us Q I r)
theorem cr_maxG (hc : X.calm = true) (hu : X.A.units + 64 < cLine) : CallR X (.builtin "max") (rMaxG X.K) := fun pins s σ H vs us Q I r h => h.elim (cr_max hc pins s σ H vs us Q I r) (cr_maxT hc hu pins s σ H vs us Q I r)
end
section
variable {K : PySem.W.Frag}
def minGD : List D → Mem → Res D
  | [.tup xs], M => opt (intsOf xs) fun ns => opt (minI ns) fun m => .ok (.int m) M
  | ds, M => minD ds M
def maxGD : List D → Mem → Res D
  | [.tup xs], M => opt (intsOf xs) fun ns => opt (maxI ns) fun m => .ok (.int m) M
  | ds, M => maxD ds M
theorem minOf_I (n : Int) (ns : List Int) : minI (n :: ns) = some (minOf n ns) := by
  show some (List.foldl (fun a b => if b < a then b else a) n ns) = some (List.foldl (fun a y => if DatumOrd.lt y a = true then y else a) n ns)
  have e : (fun a b : Int => if b < a then b else a) = fun a y => if DatumOrd.lt y a = true then y else a := by
    funext a y
    show _ = if decide (y < a) = true then y else a
    by_cases h : y < a <;> simp [h]
  rw [e]
theorem maxOf_I (n : Int) (ns : List Int) : maxI (n :: ns) = some (maxOf n ns) := by
  show some (List.foldl (fun a b => if a < b then b else a) n ns) = some (List.foldl (fun a y => if DatumOrd.lt a y = true then y else a) n ns)
  have e : (fun a b : Int => if a < b then b else a) = fun a y => if DatumOrd.lt a y = true then y else a := by
    funext a y
    show _ = if decide (a < y) = true then y else a
    by_cases h : a < y <;> simp [h]
  rw [e]
theorem minGS : CallS K (rMinG K) minGD := by
  intro E g H M vs ds Q r dvs h
  by_cases ht : ∃ xs, ds = [.tup xs]
  · obtain ⟨xs, rfl⟩ := ht
    obtain ⟨v, rfl, dv⟩ := dvs.one_of
    obtain ⟨ns, e2, h⟩ := Pg.opt h
    obtain ⟨m, e3, h⟩ := Pg.opt h
    cases dv with | tup s z q =>
    rw [intsOf_some e2] at q
    rw [q.ints] at s
    cases ns with
    | nil => cases e3
    | cons n ns =>
      rw [minOf_I] at e3
      cases e3
      exact .inr ⟨_, n, ns, rfl, s, h g H _ .refl r (.int _)⟩
  · refine .inl (minS E g H M vs ds Q r dvs ?_)
    unfold minGD at h
    split at h
    · exact absurd ⟨_, rfl⟩ ht
    · exact h
theorem maxGS : CallS K (rMaxG K) maxGD := by
  intro E g H M vs ds Q r dvs h
  by_cases ht : ∃ xs, ds = [.tup xs]
  · obtain ⟨xs, rfl⟩ := ht
    obtain ⟨v, rfl, dv⟩ := dvs.one_of
    obtain ⟨ns, e2, h⟩ := Pg.opt h
    obtain ⟨m, e3, h⟩ := Pg.opt h
    cases dv with | tup s z q =>
    rw [intsOf_some e2] at q
    rw [q.ints] at s
    cases ns with
    | nil => cases e3
    | cons n ns =>
      rw [maxOf_I] at e3
      cases e3
      exact .inr ⟨_, n, ns, rfl, s, h g H _ .refl r (.int _)⟩
  · refine .inl (maxS E g H M vs ds Q r dvs ?_)
    unfold maxGD at h
    split at h
    · exact absurd ⟨_, rfl⟩ ht
    · exact h
end
end G
/-! G16: what the operators make of plain values, for simp. -/
namespace G
open PySem L2
section
variable {M : Mem}
theorem ixD_tup (xs : List D) (i : Int) : ixD (.tup xs) (.int i) M = opt (atI xs i) fun x => .ok x M := rfl
theorem ixD_lst (xs : List D) (i : Int) : ixD (.lst xs) (.int i) M = opt (atI xs i) fun x => .ok x M := rfl
theorem ixD_ref {n : Nat} {xs : List D} (i : Int) (h : M[n]? = some (.lst xs)) : ixD (.ref n) (.int i) M = opt (atI xs i) fun x => .ok x M := by
  show opt (cellL M[n]?) _ = _
  rw [h]; rfl
theorem modD_ev {i j : Int} (h : 0 < j) : modD (.int i) (.int j) M = .ok (.int (i % j)) M := by
  show (if decide (0 < j) = true then _ else _) = _
  rw [if_pos (by simpa using h)]
theorem fdivD_ev {i j : Int} (h : 0 < j) (h' : j < 2 ^ 64) : fdivD (.int i) (.int j) M = .ok (.int (i / j)) M := by
  show (if decide (0 < j ∧ j < 2 ^ 64) = true then _ else _) = _
  rw [if_pos (by simpa using ⟨h, h'⟩)]
theorem subD_ev {i j : Int} : subD (.int i) (.int j) M = .ok (.int (i - j)) M := rfl
theorem addD_int {c : Bool} {i j : Int} : addD c (.int i) (.int j) M = .ok (.int (i + j)) M := rfl
theorem addI_int {i j : Int} : addI (.int i) (.int j) M = .ok (.int (i + j)) M := rfl
theorem negD_ev {i : Int} : negD (.int i) M = .ok (.int (-i)) M := rfl
theorem mulD_int {c : Bool} {i j : Int} (h : okMul i j = true) : mulD c (.int i) (.int j) M = .ok (.int (i * j)) M := by
  show (if okMul i j = true then _ else _) = _
  rw [if_pos h]
theorem okMul_l {i j : Int} (h : -(2 ^ 64) < i ∧ i < 2 ^ 64) : okMul i j = true := by unfold okMul; exact decide_eq_true (.inl h)
theorem okMul_r {i j : Int} (h : -(2 ^ 64) < j ∧ j < 2 ^ 64) : okMul i j = true := by unfold okMul; exact decide_eq_true (.inr h)
theorem addD_tup {c : Bool} {xs ys : List D} (h : xs.length + ys.length ≤ 1000000) : addD c (.tup xs) (.tup ys) M = .ok (.tup (xs ++ ys)) M := by
  show (if _ then _ else _) = _
  rw [if_pos h]
theorem addD_lst {c : Bool} {xs ys : List D} (h : xs.length + ys.length ≤ 1000000) : addD c (.lst xs) (.lst ys) M = newL c (xs ++ ys) M := by
  show (if _ then _ else _) = _
  rw [if_pos h]
theorem ltD_int {i j : Int} : ltD (.int i) (.int j) M = .ok (.bl (decide (i < j))) M := rfl
theorem leD_int {i j : Int} : leD (.int i) (.int j) M = .ok (.bl (decide (i ≤ j))) M := rfl
theorem gtD_int {i j : Int} : gtD (.int i) (.int j) M = .ok (.bl (decide (j < i))) M := rfl
theorem geD_int {i j : Int} : geD (.int i) (.int j) M = .ok (.bl (decide (j ≤ i))) M := rfl
theorem eqD_int {i j : Int} : eqD (.int i) (.int j) M = .ok (.bl (decide (i = j))) M := by
  show Res.ok (D.bl (PyData.eqv (.int i) (.int j))) M = _
  have e : PyData.eqv (.int i) (.int j) = decide (i = j) := by
    simp only [PyData.eqv]
    by_cases h : i = j <;> simp [h]
  rw [e]
theorem neD_int {i j : Int} : neD (.int i) (.int j) M = .ok (.bl (!decide (i = j))) M := by
  show Res.ok (D.bl (!PyData.eqv (.int i) (.int j))) M = _
  have e : PyData.eqv (.int i) (.int j) = decide (i = j) := by
    simp only [PyData.eqv]
    by_cases h : i = j <;> simp [h]
  rw [e]
theorem lenD_tup (xs : List D) : lenD [.tup xs] M = .ok (.int xs.length) M := rfl
theorem lenD_lst (xs : List D) : lenD [.lst xs] M = .ok (.int xs.length) M := rfl
theorem lenD_arg (xs : List Int) : lenD [.arg xs] M = .ok (.int xs.length) M := rfl
theorem lenD_ref {n : Nat} {xs : List D} (h : M[n]? = some (.lst xs)) : lenD [.ref n] M = .ok (.int xs.length) M := by
  show opt (cellL M[n]?) _ = _
  rw [h]; rfl
theorem isD_non {b : Bool} (d : D) (h : isNon d = some b) : isD d .non M = .ok (.bl b) M := by
  have e : isD d .non M = opt (isNon d) fun b => .ok (.bl b) M := by cases d <;> rfl
  rw [e, h]; rfl
theorem isD_bl (a b : Bool) : isD (.bl a) (.bl b) M = .ok (.bl (decide (a = b))) M := rfl
theorem isntD_bl (a b : Bool) : isntD (.bl a) (.bl b) M = .ok (.bl (!decide (a = b))) M := rfl
theorem intD_int (i : Int) : intD [.int i] M = .ok (.int i) M := rfl
theorem max2_int (i j : Int) : max2D [.int i, .int j] M = .ok (.int (max i j)) M := by
  show Res.ok (D.int (if j > i then j else i)) M = _
  congr 2
  by_cases h : i < j
  · rw [if_pos h]; omega
  · rw [if_neg h]; omega
theorem min2_int (i j : Int) : min2D [.int i, .int j] M = .ok (.int (min i j)) M := by
  show Res.ok (D.int (if j < i then j else i)) M = _
  congr 2
  by_cases h : j < i
  · rw [if_pos h]; omega
  · rw [if_neg h]; omega
theorem append_ref {n : Nat} {xs : List D} {e : D} (h : M[n]? = some (.lst xs)) (hl : xs.length < 1000000) : appendD (.ref n) [e] M = .ok .non (M.set n (.lst (xs ++ [e]))) := by
  show opt ((cellL M[n]?).map fun xs => (n, xs)) _ = _
  rw [h]
  show (if _ then _ else _) = _
  rw [if_pos hl]
theorem extend_lst {n : Nat} {xs ys : List D} (h : M[n]? = some (.lst xs)) (hl : xs.length + ys.length ≤ 1000000) : extendD (.ref n) [.lst ys] M = .ok .non (M.set n (.lst (xs ++ ys))) := by
  show opt ((cellL M[n]?).map fun xs => (n, xs)) _ = _
  rw [h]
  show (if _ then _ else _) = _
  rw [if_pos hl]
theorem isLst_ref {n : Nat} {xs : List D} (h : M[n]? = some (.lst xs)) : isLst M (.ref n) = true := by
  show (cellL M[n]?).isSome = true
  rw [h]; rfl
theorem tupleD_lst (xs : List D) : tupleD [.lst xs] M = .ok (.tup xs) M := rfl
theorem tupleD_tup (xs : List D) : tupleD [.tup xs] M = .ok (.tup xs) M := rfl
theorem tupleD_ref {n : Nat} {xs : List D} (h : M[n]? = some (.lst xs)) : tupleD [.ref n] M = .ok (.tup xs) M := by
  show opt (cellL M[n]?) _ = _
  rw [h]; rfl
theorem minI_of {ns : List Int} {m : Int} (h1 : m ∈ ns) (h2 : ∀ y, y ∈ ns → m ≤ y) : minI ns = some m := by
  cases h : minI ns with
  | none => cases ns with | nil => cases h1 | cons _ _ => cases h
  | some m' => rw [minI_spec h h1 h2]
theorem maxI_of {ns : List Int} {m : Int} (h1 : m ∈ ns) (h2 : ∀ y, y ∈ ns → y ≤ m) : maxI ns = some m := by
  cases h : maxI ns with
  | none => cases ns with | nil => cases h1 | cons _ _ => cases h
  | some m' => rw [maxI_spec h h1 h2]
theorem intsOf_mapf {α : Type} (p : α → Int) (xs : List α) : intsOf (xs.map fun x => D.int (p x)) = some (xs.map p) := by
  have := intsOf_map (xs.map p)
  rwa [List.map_map] at this
theorem blsOf_mapf {α : Type} (p : α → Bool) (xs : List α) : blsOf (xs.map fun x => D.bl (p x)) = some (xs.map p) := by
  have := blsOf_map (xs.map p)
  rwa [List.map_map] at this
theorem allD_map {α : Type} (p : α → Bool) (xs : List α) : allD [.lst (xs.map fun x => D.bl (p x))] M = .ok (.bl (xs.all p)) M := by
  show (opt (blsOf (xs.map fun x => D.bl (p x))) fun ns => Res.ok (D.bl (ns.all id)) M) = _
  rw [blsOf_mapf]
  simp [List.all_map, Function.comp_def]
theorem anyD_map {α : Type} (p : α → Bool) (xs : List α) : anyD [.lst (xs.map fun x => D.bl (p x))] M = .ok (.bl (xs.any p)) M := by
  show (opt (blsOf (xs.map fun x => D.bl (p x))) fun ns => Res.ok (D.bl (ns.any id)) M) = _
  rw [blsOf_mapf]
  simp [List.any_map, Function.comp_def]
theorem pureF_ok {F : Fv} {ds : List D} {M M' : Mem} {d d' : D} (h : noRefs ds = true) (e : F ds [] = .ok d M') (f : frzD M' 4 d = some d') : pureF F ds M = .ok d' M := by
  unfold pureF
  rw [if_pos h, e]
  simp only [f, opt_some]
theorem truth_bl (b : Bool) : truth M (.bl b) = some b := rfl
theorem truth_int (i : Int) : truth M (.int i) = some (i != 0) := rfl
theorem tru_lst (xs : List D) : truth M (.lst xs) = some (!xs.isEmpty) := rfl
theorem iR1_at {e : Ev} {ρ : Slots} {M1 : Mem} {j : Int} (hi : e ρ M = .ok (.int j) M1) (h : -(2 ^ 60 : Int) ≤ j ∧ j < 2 ^ 60) : iR1 e ρ M = .ok ⟨[], rangeL 0 j.toNat⟩ M1 := by
  unfold iR1
  rw [hi]
  exact if_pos h
theorem big60 {n : Nat} (h : n ≤ 1000000000) : -(2 ^ 60 : Int) ≤ (n : Int) ∧ (n : Int) < 2 ^ 60 := by
  have e : (2 ^ 60 : Int) = 1152921504606846976 := by decide
  rw [e]
  omega
theorem iR1_ev {e : Ev} {ρ : Slots} {n : Nat} {M1 : Mem} (hi : e ρ M = .ok (.int (n : Int)) M1) (hn : n ≤ 1000000000) : iR1 e ρ M = .ok ⟨[], rangeL 0 n⟩ M1 := by
  rw [iR1_at hi (big60 hn), Int.toNat_natCast]
/-- a loop over range(n), by an invariant of the number of turns done -/
theorem range_inv {b : Nat} {body : Sv} {ρ : Slots} {M M1 : Mem} {e : Ev} {n : Nat} (I : Nat → Slots → Mem → Prop) (hi : e ρ M = .ok (.int (n : Int)) M1) (hn : n ≤ 1000000000) (h0 : I 0 ρ M1)
    (hstep : ∀ k ρ M, k < n → I k ρ M → ∃ ρ' M', (body (ρ.set b (some (.int (k : Int)))) M = .nx ρ' M' ∨ body (ρ.set b (some (.int (k : Int)))) M = .cnt ρ' M') ∧ I (k + 1) ρ' M') : ∃ ρ' M', sFor (iR1 e) (bName b) body ρ M = .nx ρ' M' ∧ I n ρ' M' := by
  have hi2 : iR1 e ρ M = .ok ⟨[], rangeL 0 n⟩ M1 := iR1_ev hi hn
  have := for_inv (b := bName b) (body := body) I hi2 h0 (fun k ρ M x hI hx => by
    have hk : k < n := by
      have := (List.getElem?_eq_some_iff.mp hx).1
      simpa using this
    rw [rangeL_get hk] at hx
    cases hx
    obtain ⟨ρ', M', h1, h2⟩ := hstep k ρ M hk hI
    exact ⟨_, rfl, ρ', M', by simpa using h1, h2⟩) (fun k ρ M _ => srcOk_none _ _)
  simpa using this
theorem rangeL_nat (n : Nat) : rangeL 0 n = (List.range n).map fun k : Nat => D.int (k : Int) := by
  unfold rangeL
  congr 1
  funext i
  simp
/-- [te for k in range(n)], where nothing changes the memory -/
theorem lc_range {c : Bool} {e : Ev} {b : Nat} {te : Ev} {vs : List Nat} {ρ : Slots} {M1 : Mem} {n : Nat} (f : Nat → D) (hi : e ρ M = .ok (.int (n : Int)) M1) (hn : n ≤ 1000000) (he : ∀ k, k < n → te ((wipeG ρ vs).set b (some (.int (k : Int)))) M1 = .ok (f k) M1) :
    eLc c (iR1 e) (bName b) tYesG te vs ρ M = newL c ((List.range n).map f) M1 := by
  have := lc_map (c := c) (i := iR1 e) (b := bName b) (te := te) (vs := vs) (ρ := ρ) (M := M) (M1 := M1) (it := ⟨[], rangeL 0 n⟩) (fun x => (wipeG ρ vs).set b (some x)) (fun x => match x with | .int k => f k.toNat | _ => .non)
    (iR1_ev hi (by omega)) (srcOk_none _ _) (fun x m => rfl) (fun x m => by
      rw [rangeL_nat] at m
      obtain ⟨k, hk, rfl⟩ := List.mem_map.mp m
      have hk : k < n := List.mem_range.mp hk
      simpa using he k hk) (by simpa using hn)
  rw [this]
  congr 1
  rw [rangeL_nat, List.map_map]
  congr 1
theorem lc_rangeF {c : Bool} {e : Ev} {b : Nat} {tt : EvT} {te : Ev} {vs : List Nat} {ρ : Slots} {M1 : Mem} {n : Nat} (p : Nat → Bool) (f : Nat → D) (hi : e ρ M = .ok (.int (n : Int)) M1) (hn : n ≤ 1000000) (ht : ∀ k, k < n → tt ((wipeG ρ vs).set b (some (.int (k : Int)))) M1 = .ok (p k) M1)
    (he : ∀ k, k < n → p k = true → te ((wipeG ρ vs).set b (some (.int (k : Int)))) M1 = .ok (f k) M1) :
    eLc c (iR1 e) (bName b) tt te vs ρ M = newL c (((List.range n).filter p).map f) M1 := by
  have := lc_filter (c := c) (i := iR1 e) (b := bName b) (tt := tt) (te := te) (vs := vs) (ρ := ρ) (M := M) (M1 := M1) (it := ⟨[], rangeL 0 n⟩) (fun x => (wipeG ρ vs).set b (some x)) (fun x => match x with | .int k => p k.toNat | _ => false) (fun x => match x with | .int k => f k.toNat | _ => .non)
    (iR1_ev hi (by omega)) (srcOk_none _ _) (fun x m => rfl) (fun x m => by
      rw [rangeL_nat] at m
      obtain ⟨k, hk, rfl⟩ := List.mem_map.mp m
      have hk : k < n := List.mem_range.mp hk
      simpa using ht k hk) (fun x m hp => by
      rw [rangeL_nat] at m
      obtain ⟨k, hk, rfl⟩ := List.mem_map.mp m
      have hk : k < n := List.mem_range.mp hk
      have hp : p k = true := by simpa using hp
      simpa using he k hk hp) (by simpa using hn)
  rw [this]
  congr 1
  rw [rangeL_nat, List.filter_map, List.map_map]
  congr 1
end
end G
/-! G17: statements, step by step. -/
namespace G
open PySem L2
section
variable {ρ ρ' : Slots} {M M' M1 : Mem} {a b s : Sv} {e : Ev} {c : EvT} {d : D} {ds : List D} {n N : Nat}
theorem runB_ret (h : ds.length = n) (q : s (ds.map some ++ List.replicate (N - n) none) M = .ret d M') : runB n N s ds M = .ok d M' := by
  unfold runB
  rw [if_pos h, q]
theorem runB_nx (h : ds.length = n) (q : s (ds.map some ++ List.replicate (N - n) none) M = .nx ρ' M') : runB n N s ds M = .ok .non M' := by
  unfold runB
  rw [if_pos h, q]
theorem seq_nx {o : Out} (h : a ρ M = .nx ρ' M') (k : b ρ' M' = o) : sSeq a b ρ M = o := by
  unfold sSeq
  rw [h]; exact k
theorem seq_ret (h : a ρ M = .ret d M') : sSeq a b ρ M = .ret d M' := by
  unfold sSeq
  rw [h]
theorem set_ev {i : Nat} (h : e ρ M = .ok d M1) : sSet i e ρ M = .nx (ρ.set i (some d)) M1 := by
  unfold sSet
  rw [h]; rfl
theorem ret_ev (h : e ρ M = .ok d M1) : sRet e ρ M = .ret d M1 := by
  unfold sRet
  rw [h]; rfl
theorem expr_ev (h : e ρ M = .ok d M1) : sExpr e ρ M = .nx ρ M1 := by
  unfold sExpr
  rw [h]; rfl
theorem if_t {o : Out} (h : c ρ M = .ok true M1) (k : a ρ M1 = o) : sIf c a b ρ M = o := by
  unfold sIf
  rw [h]; exact k
theorem if_f {o : Out} (h : c ρ M = .ok false M1) (k : b ρ M1 = o) : sIf c a b ρ M = o := by
  unfold sIf
  rw [h]; exact k
theorem if_b {x : Bool} {o : Out} (h : c ρ M = .ok x M1) (k1 : x = true → a ρ M1 = o) (k2 : x = false → b ρ M1 = o) : sIf c a b ρ M = o := by
  cases x with
  | true => exact if_t h (k1 rfl)
  | false => exact if_f h (k2 rfl)
theorem par_ev {i j : Nat} {as : EvA} {d e : D} (h : as ρ M = .ok [d, e] M1) : sPar i j as ρ M = .nx ((ρ.set i (some d)).set j (some e)) M1 := by
  unfold sPar
  rw [h]; rfl
theorem asgm_ev {bm : Bm} (h : e ρ M = .ok d M1) (k : bm d ρ M1 = .ok ρ' M') : sAsgM e bm ρ M = .nx ρ' M' := by
  unfold sAsgM
  rw [h]
  show (bm d ρ M1).out _ = _
  rw [k]; rfl
theorem bin_ev {op : D → D → Mem → Res D} {x y : Ev} {u v w : D} {M2 M3 : Mem} (h1 : x ρ M = .ok u M1) (h2 : y ρ M1 = .ok v M2) (h3 : op u v M2 = .ok w M3) : eBin op x y ρ M = .ok w M3 := by
  unfold eBin
  rw [h1]
  show (y ρ M1).bind _ = _
  rw [h2]
  exact h3
theorem loc_ev {i : Nat} (h : ρ[i]? = some (some d)) : eLoc i ρ M = .ok d M := by
  unfold eLoc
  rw [h]
theorem cons_ev {as : EvA} {x : Ev} {u : D} {us : List D} {M2 : Mem} (h1 : x ρ M = .ok u M1) (h2 : as ρ M1 = .ok us M2) : aCons x as ρ M = .ok (u :: us) M2 := by
  unfold aCons
  rw [h1]
  show (as ρ M1).bind _ = _
  rw [h2]; rfl
theorem call_ev {F : Fv} {as : EvA} {us : List D} {M2 : Mem} (h1 : as ρ M = .ok us M1) (h2 : F us M1 = .ok d M2) : eCall F as ρ M = .ok d M2 := by
  unfold eCall
  rw [h1]; exact h2
theorem cb_ev {f : List D → Mem → Res D} {as : EvA} {us : List D} {M2 : Mem} (h1 : as ρ M = .ok us M1) (h2 : f us M1 = .ok d M2) : eCB f as ρ M = .ok d M2 := by
  unfold eCB
  rw [h1]; exact h2
theorem of_ev {x : Bool} (h : e ρ M = .ok (.bl x) M1) : tOf e ρ M = .ok x M1 := by
  unfold tOf
  rw [h]; rfl
theorem tru_ev {x : Bool} (h : e ρ M = .ok d M1) (k : truth M1 d = some x) : tTru e ρ M = .ok x M1 := by
  unfold tTru
  rw [h]
  show opt (truth M1 d) _ = _
  rw [k]; rfl
theorem mt_ev {ty : Mem → D → Bool} {f : D → List D → Mem → Res D} {o : Ev} {as : EvA} {x : D} {xs : List D} {M2 M3 : Mem} (h : o ρ M = .ok x M1) (t : ty M1 x = true) (h2 : as ρ M1 = .ok xs M2) (h3 : f x xs M2 = .ok d M3) : eMt ty f o as ρ M = .ok d M3 := by
  unfold eMt
  rw [h]
  show (if ty M1 x = true then (as ρ M1).bind fun xs M2 => f x xs M2 else .stuck) = _
  rw [if_pos t, h2]
  exact h3
theorem pure_ex {F : Fv} (h : noRefs ds = true) (e : ∃ M', F ds [] = .ok d M') (q : noRef d = true) : pureF F ds M = .ok d M := by
  obtain ⟨M', e⟩ := e
  exact pureF_ok h e (frzD_noRef q)
theorem for_nx {i : EvI} {b : Bn} {body : Sv} (h : ∃ ρ' M', sFor i b body ρ M = .nx ρ' M') : ∃ ρ' M', sFor i b body ρ M = .nx ρ' M' := h
end
end G
/-! G18: comprehensions over lists of any make. -/
namespace G
open PySem L2
theorem lcL_over {α : Type} {b : Bn} {tt : EvT} {te : Ev} {it : Itm} {ρ : Slots} {M : Mem} (g : α → D) (bs : α → Slots) (p : α → Bool) (f : α → D) (hs : srcOk it M) : ∀ (xs : List α) (acc : List D), (∀ x, x ∈ xs → b (g x) ρ M = some (bs x)) → (∀ x, x ∈ xs → tt (bs x) M = .ok (p x) M) → (∀ x, x ∈ xs → p x = true → te (bs x) M = .ok (f x) M) →
    acc.length + xs.length ≤ 1000000 → lcL b tt te it ρ (xs.map g) acc M = .ok (acc ++ (xs.filter p).map f) M
  | [], acc, _, _, _, _ => by
    show lcL b tt te it ρ [] acc M = _
    unfold lcL; rw [if_pos hs]; simp
  | x :: xs, acc, hb, ht, he, hl => by
    show lcL b tt te it ρ (g x :: xs.map g) acc M = _
    unfold lcL
    rw [if_pos hs, hb x List.mem_cons_self]
    simp only [opt_some]
    rw [ht x List.mem_cons_self]
    simp only [Res.nox_ok, Res.bind_ok]
    have hl' : acc.length + (xs.length + 1) ≤ 1000000 := by simpa using hl
    cases q : p x with
    | true =>
      rw [if_pos rfl, he x List.mem_cons_self q]
      simp only [Res.nox_ok, Res.bind_ok]
      rw [if_pos (by omega), lcL_over g bs p f hs xs _ (fun y m => hb y (List.mem_cons_of_mem _ m)) (fun y m => ht y (List.mem_cons_of_mem _ m)) (fun y m => he y (List.mem_cons_of_mem _ m)) (by simp; omega)]
      simp [List.filter_cons, q]
    | false =>
      rw [if_neg Bool.false_ne_true, lcL_over g bs p f hs xs _ (fun y m => hb y (List.mem_cons_of_mem _ m)) (fun y m => ht y (List.mem_cons_of_mem _ m)) (fun y m => he y (List.mem_cons_of_mem _ m)) (by omega)]
      simp [List.filter_cons, q]
/-- [te for b in i if tt], the items the g of l, where nothing changes the memory -/
theorem lc_over {α : Type} {c : Bool} {i : EvI} {b : Bn} {tt : EvT} {te : Ev} {vs : List Nat} {ρ : Slots} {M M1 : Mem} {src : List (Nat × List D)} (l : List α) (g : α → D) (bs : α → Slots) (p : α → Bool) (f : α → D) (hi : i ρ M = .ok ⟨src, l.map g⟩ M1) (hs : srcOk ⟨src, l.map g⟩ M1)
    (hb : ∀ x, x ∈ l → b (g x) (wipeG ρ vs) M1 = some (bs x)) (ht : ∀ x, x ∈ l → tt (bs x) M1 = .ok (p x) M1) (he : ∀ x, x ∈ l → p x = true → te (bs x) M1 = .ok (f x) M1) (hl : l.length ≤ 1000000) : eLc c i b tt te vs ρ M = newL c ((l.filter p).map f) M1 := by
  unfold eLc
  rw [hi]
  simp only [Res.bind_ok]
  rw [lcL_over g bs p f hs l [] hb ht he (by simpa using hl)]
  simp
theorem lc_overA {α : Type} {c : Bool} {i : EvI} {b : Bn} {te : Ev} {vs : List Nat} {ρ : Slots} {M M1 : Mem} {src : List (Nat × List D)} (l : List α) (g : α → D) (bs : α → Slots) (f : α → D) (hi : i ρ M = .ok ⟨src, l.map g⟩ M1) (hs : srcOk ⟨src, l.map g⟩ M1)
    (hb : ∀ x, x ∈ l → b (g x) (wipeG ρ vs) M1 = some (bs x)) (he : ∀ x, x ∈ l → te (bs x) M1 = .ok (f x) M1) (hl : l.length ≤ 1000000) : eLc c i b tYesG te vs ρ M = newL c (l.map f) M1 := by
  rw [lc_over l g bs (fun _ => true) f hi hs hb (fun _ _ => rfl) (fun x m _ => he x m) hl, List.filter_eq_self.mpr (fun _ _ => rfl)]
theorem iSeq_ref {e : Ev} {ρ : Slots} {M M1 : Mem} {n : Nat} {xs : List D} (h : e ρ M = .ok (.ref n) M1) (k : M1[n]? = some (.lst xs)) : iSeqG e ρ M = .ok ⟨[(n, xs)], xs⟩ M1 := by
  unfold iSeqG
  rw [h]
  show opt (cellL M1[n]?) _ = _
  rw [k]; rfl
theorem iSeq_lst {e : Ev} {ρ : Slots} {M M1 : Mem} {xs : List D} (h : e ρ M = .ok (.lst xs) M1) : iSeqG e ρ M = .ok ⟨[], xs⟩ M1 := by
  unfold iSeqG
  rw [h]; rfl
theorem iSeq_tup {e : Ev} {ρ : Slots} {M M1 : Mem} {xs : List D} (h : e ρ M = .ok (.tup xs) M1) : iSeqG e ρ M = .ok ⟨[], xs⟩ M1 := by
  unfold iSeqG
  rw [h]; rfl
theorem iEnum_ref {e : Ev} {ρ : Slots} {M M1 : Mem} {n : Nat} {xs : List D} (h : e ρ M = .ok (.ref n) M1) (k : M1[n]? = some (.lst xs)) : iEnumG e ρ M = .ok ⟨[(n, xs)], enumL 0 xs⟩ M1 := by
  unfold iEnumG
  rw [h]
  show opt (cellL M1[n]?) _ = _
  rw [k]; rfl
theorem iEnum_tup {e : Ev} {ρ : Slots} {M M1 : Mem} {xs : List D} (h : e ρ M = .ok (.tup xs) M1) : iEnumG e ρ M = .ok ⟨[], enumL 0 xs⟩ M1 := by
  unfold iEnumG
  rw [h]; rfl
theorem srcOk_ref {M : Mem} {n : Nat} {xs ys : List D} (k : M[n]? = some (.lst xs)) : srcOk ⟨[(n, xs)], ys⟩ M := fun p m => by
  have : p = (n, xs) := by simpa using m
  subst this
  show cellL M[n]? = _
  rw [k]; rfl
theorem enumL_map {α : Type} (g : α → D) : ∀ (l : List α) (k : Nat), enumL k (l.map g) = (l.zipIdx k).map fun p => D.tup [.int (p.2 : Int), g p.1]
  | [], _ => rfl
  | x :: l, k => by
    show D.tup [.int (k : Int), g x] :: enumL (k + 1) (l.map g) = _
    rw [enumL_map g l (k + 1)]
    rfl
end G
/-! G19: sorted, by the order of what the items stand for. -/
namespace G
open PySem L2 PySem.W
theorem pyD_of {d : D} {p : PyData} (h : pyOf d = some p) : pyD d = p := by unfold pyD; rw [h]; rfl
theorem sorted_lst {α β : Type} [DecidableEq α] [DatumOrd α] {c : Bool} {M : Mem} (l : List β) (f : β → D) (k : β → α) (h : ∀ b, b ∈ l → pyOf (f b) = some (Datum.toD (k b))) (hd : Datum.depth α ≤ 50) (hs : (∀ a : α, ∃ x r, Datum.toD a = .tuple (x :: r)) ∨ ∀ a : α, ∀ xs, Datum.toD a ≠ .tuple xs) :
    sortedD c [.lst (l.map f)] M = newL c ((l.mergeSort fun x y => !DatumOrd.lt (k y) (k x)).map f) M := by
  have hp : ∀ b, b ∈ l → pyD (f b) = Datum.toD (k b) := fun b m => pyD_of (h b m)
  have so : SortOk (l.map f) := by
    refine ⟨fun d hd' => ?_, fun d hd' e he => ?_, ?_⟩
    · obtain ⟨b, hb, rfl⟩ := List.mem_map.mp hd'
      refine ⟨by rw [h b hb]; rfl, ?_⟩
      rw [hp b hb]
      exact Nat.le_trans (Datum.depth_le _) hd
    · obtain ⟨d1, hd2, rfl⟩ := List.mem_map.mp hd'
      obtain ⟨e1, he2, rfl⟩ := List.mem_map.mp he
      obtain ⟨b, hb, rfl⟩ := List.mem_map.mp hd2
      obtain ⟨b', hb', rfl⟩ := List.mem_map.mp he2
      rw [hp b hb, hp b' hb']
      exact DatumOrd.alike _ _
    · rcases hs with hs | hs
      · refine .inl fun d hd' => ?_
        obtain ⟨d, hd2, rfl⟩ := List.mem_map.mp hd'
        obtain ⟨b, hb, rfl⟩ := List.mem_map.mp hd2
        rw [hp b hb]
        exact hs _
      · refine .inr fun d hd' => ?_
        obtain ⟨d, hd2, rfl⟩ := List.mem_map.mp hd'
        obtain ⟨b, hb, rfl⟩ := List.mem_map.mp hd2
        rw [hp b hb]
        exact ⟨DatumOrd.notNone _, hs _⟩
  have e1 : sortedD c [.lst (l.map f)] M = newL c ((l.map f).mergeSort leDat) M := by
    unfold sortedD
    exact if_pos so
  rw [e1]
  congr 1
  refine (List.map_mergeSort fun x hx y hy => ?_).symm
  show (!DatumOrd.lt (k y) (k x)) = leDat (f x) (f y)
  unfold leDat ltDat
  rw [hp x hx, hp y hy, DatumOrd.lt_eq]
end G
/-! printed by tr.py: the text, the defs, what they make of data. -/
namespace L37
open PySem L2 G
abbrev Pr : PySem.Program := PySem.Challenge.pw_playrolled_k37_whole_lines_at_their_boun
def top (i : Nat) : Stmt := Pr.main.body.getD i (.Pass ⟨0, 0, 0, 0⟩)
abbrev st_is_number : Stmt := top 1
def d_is_number : He.DefD := ⟨("is_number", none), "is_number", "is_number", defArgs st_is_number, defBody st_is_number, defScope st_is_number, [], []⟩
abbrev st_is_fate : Stmt := top 6
def d_is_fate : He.DefD := ⟨("is_fate", none), "is_fate", "is_fate", defArgs st_is_fate, defBody st_is_fate, defScope st_is_fate, [], []⟩
abbrev st_is_script : Stmt := top 7
def d_is_script : He.DefD := ⟨("is_script", none), "is_script", "is_script", defArgs st_is_script, defBody st_is_script, defScope st_is_script, [], []⟩
abbrev st_fate_of : Stmt := top 8
def d_fate_of : He.DefD := ⟨("fate_of", none), "fate_of", "fate_of", defArgs st_fate_of, defBody st_fate_of, defScope st_fate_of, [], []⟩
abbrev st_greatest_common : Stmt := top 9
def d_greatest_common : He.DefD := ⟨("greatest_common", none), "greatest_common", "greatest_common", defArgs st_greatest_common, defBody st_greatest_common, defScope st_greatest_common, [], []⟩
abbrev st_fates_met : Stmt := top 10
def d_fates_met : He.DefD := ⟨("fates_met", none), "fates_met", "fates_met", defArgs st_fates_met, defBody st_fates_met, defScope st_fates_met, [], []⟩
abbrev st_starved_links : Stmt := top 11
def d_starved_links : He.DefD := ⟨("starved_links", none), "starved_links", "starved_links", defArgs st_starved_links, defBody st_starved_links, defScope st_starved_links, [], []⟩
abbrev st_longest_silence : Stmt := top 12
def d_longest_silence : He.DefD := ⟨("longest_silence", none), "longest_silence", "longest_silence", defArgs st_longest_silence, defBody st_longest_silence, defScope st_longest_silence, [], []⟩
abbrev st_latest_news : Stmt := top 13
def d_latest_news : He.DefD := ⟨("latest_news", none), "latest_news", "latest_news", defArgs st_latest_news, defBody st_latest_news, defScope st_latest_news, [], []⟩
abbrev st_Line_init : Stmt := inClass (top 15) 0
def d_Line_init : He.DefD := ⟨("Line", some "__init__"), "__init__", "Line.__init__", defArgs st_Line_init, defBody st_Line_init, defScope st_Line_init, [], []⟩
abbrev st_Line_send : Stmt := inClass (top 15) 1
def d_Line_send : He.DefD := ⟨("Line", some "send"), "send", "Line.send", defArgs st_Line_send, defBody st_Line_send, defScope st_Line_send, [], []⟩
abbrev st_Line_arrived : Stmt := inClass (top 15) 2
def d_Line_arrived : He.DefD := ⟨("Line", some "arrived"), "arrived", "Line.arrived", defArgs st_Line_arrived, defBody st_Line_arrived, defScope st_Line_arrived, [], []⟩
abbrev st_Line_under_way : Stmt := inClass (top 15) 3
def d_Line_under_way : He.DefD := ⟨("Line", some "under_way"), "under_way", "Line.under_way", defArgs st_Line_under_way, defBody st_Line_under_way, defScope st_Line_under_way, [], []⟩
abbrev st_Line_count : Stmt := inClass (top 15) 4
def d_Line_count : He.DefD := ⟨("Line", some "count"), "count", "Line.count", defArgs st_Line_count, defBody st_Line_count, defScope st_Line_count, [], []⟩
abbrev st_Line_log : Stmt := inClass (top 15) 5
def d_Line_log : He.DefD := ⟨("Line", some "log"), "log", "Line.log", defArgs st_Line_log, defBody st_Line_log, defScope st_Line_log, [], []⟩
abbrev st_z_law_box : Stmt := top 17
def d_z_law_box : He.DefD := ⟨("_law_box", none), "_law_box", "_law_box", defArgs st_z_law_box, defBody st_z_law_box, defScope st_z_law_box, [], []⟩
abbrev st_z_law_load : Stmt := top 18
def d_z_law_load : He.DefD := ⟨("_law_load", none), "_law_load", "_law_load", defArgs st_z_law_load, defBody st_z_law_load, defScope st_z_law_load, [], []⟩
abbrev st_z_law_draw : Stmt := top 19
def d_z_law_draw : He.DefD := ⟨("_law_draw", none), "_law_draw", "_law_draw", defArgs st_z_law_draw, defBody st_z_law_draw, defScope st_z_law_draw, [], []⟩
abbrev st_z_law_same : Stmt := top 20
def d_z_law_same : He.DefD := ⟨("_law_same", none), "_law_same", "_law_same", defArgs st_z_law_same, defBody st_z_law_same, defScope st_z_law_same, [], []⟩
abbrev st_z_law_long_script : Stmt := top 21
def d_z_law_long_script : He.DefD := ⟨("_law_long_script", none), "_law_long_script", "_law_long_script", defArgs st_z_law_long_script, defBody st_z_law_long_script, defScope st_z_law_long_script, [], []⟩
abbrev st_z_law_link_by_sending : Stmt := top 22
def d_z_law_link_by_sending : He.DefD := ⟨("_law_link_by_sending", none), "_law_link_by_sending", "_law_link_by_sending", defArgs st_z_law_link_by_sending, defBody st_z_law_link_by_sending, defScope st_z_law_link_by_sending, [], []⟩
abbrev st_law : Stmt := top 23
def d_law : He.DefD := ⟨("law", none), "law", "law", defArgs st_law, defBody st_law, defScope st_law, [], []⟩
def fn : List He.DefD := [d_is_number, d_is_fate, d_is_script, d_fate_of, d_greatest_common, d_fates_met, d_starved_links, d_longest_silence, d_latest_news, d_Line_init, d_Line_send, d_Line_arrived, d_Line_under_way, d_Line_count, d_Line_log, d_z_law_box, d_z_law_load, d_z_law_draw, d_z_law_same, d_z_law_long_script, d_z_law_link_by_sending, d_law]
def fa : List He.Fa := [.free "int", .free "isinstance", .free "bool", .free "tuple", .free "len", .int "MOST_COPIES" (4), .int "MOST_DELAY" (100), .glo "is_number", .free "all", .int "MOST_TURNS" (64), .glo "is_fate", .glo "greatest_common", .free "range", .glo "fates_met", .glo "fate_of", .free "max", .glo "longest_silence", .free "min", .cls "Line", .noat "Line" "_count", .noat "Line" "_script", .noat "Line" "_log", .noat "Line" "_under_way", .free "enumerate", .free "sorted", .free "list", .glo "_law_load", .glo "_law_same", .free "str", .glo "_law_draw", .glo "_law_box", .glo "_law_long_script", .glo "is_script", .free "any", .glo "Line", .mkr "Line", .meth "Line" "send", .meth "Line" "arrived", .meth "Line" "count", .meth "Line" "under_way", .meth "Line" "log", .glo "_law_link_by_sending", .free "set", .glo "latest_news", .glo "starved_links", .glo "law"]
structure Wd (K : PySem.W.Frag) (mg : Str → Option Value) : Prop where
  ex : ∃ h : Heap, K.In h ∧ h.Ns mainGlobals mg
  c : He.SaysD fa fn K
section
variable {P : Program} {w : World} {K : PySem.W.Frag} {mg : Str → Option Value} {base : Heap}
theorem w_free_int (W : Wd K mg) : mg "int" = none := let ⟨_, X, G⟩ := W.ex; He.free_ok X G (W.c.fact 0 (f := .free "int") rfl)
theorem w_free_isinstance (W : Wd K mg) : mg "isinstance" = none := let ⟨_, X, G⟩ := W.ex; He.free_ok X G (W.c.fact 1 (f := .free "isinstance") rfl)
theorem w_free_bool (W : Wd K mg) : mg "bool" = none := let ⟨_, X, G⟩ := W.ex; He.free_ok X G (W.c.fact 2 (f := .free "bool") rfl)
theorem w_free_tuple (W : Wd K mg) : mg "tuple" = none := let ⟨_, X, G⟩ := W.ex; He.free_ok X G (W.c.fact 3 (f := .free "tuple") rfl)
theorem w_free_len (W : Wd K mg) : mg "len" = none := let ⟨_, X, G⟩ := W.ex; He.free_ok X G (W.c.fact 4 (f := .free "len") rfl)
theorem w_int_MOST_COPIES (W : Wd K mg) : ∃ t, mg "MOST_COPIES" = some (.int (4) t) := let ⟨_, X, G⟩ := W.ex; He.int_ok X G (W.c.fact 5 (f := .int "MOST_COPIES" (4)) rfl)
theorem w_int_MOST_DELAY (W : Wd K mg) : ∃ t, mg "MOST_DELAY" = some (.int (100) t) := let ⟨_, X, G⟩ := W.ex; He.int_ok X G (W.c.fact 6 (f := .int "MOST_DELAY" (100)) rfl)
theorem w_glo_is_number (W : Wd K mg) : mg "is_number" = some (.ref (He.ga K "is_number")) := let ⟨_, X, G⟩ := W.ex; He.glo_ok X G (W.c.fact 7 (f := .glo "is_number") rfl)
theorem w_free_all (W : Wd K mg) : mg "all" = none := let ⟨_, X, G⟩ := W.ex; He.free_ok X G (W.c.fact 8 (f := .free "all") rfl)
theorem w_int_MOST_TURNS (W : Wd K mg) : ∃ t, mg "MOST_TURNS" = some (.int (64) t) := let ⟨_, X, G⟩ := W.ex; He.int_ok X G (W.c.fact 9 (f := .int "MOST_TURNS" (64)) rfl)
theorem w_glo_is_fate (W : Wd K mg) : mg "is_fate" = some (.ref (He.ga K "is_fate")) := let ⟨_, X, G⟩ := W.ex; He.glo_ok X G (W.c.fact 10 (f := .glo "is_fate") rfl)
theorem w_glo_greatest_common (W : Wd K mg) : mg "greatest_common" = some (.ref (He.ga K "greatest_common")) := let ⟨_, X, G⟩ := W.ex; He.glo_ok X G (W.c.fact 11 (f := .glo "greatest_common") rfl)
theorem w_free_range (W : Wd K mg) : mg "range" = none := let ⟨_, X, G⟩ := W.ex; He.free_ok X G (W.c.fact 12 (f := .free "range") rfl)
theorem w_glo_fates_met (W : Wd K mg) : mg "fates_met" = some (.ref (He.ga K "fates_met")) := let ⟨_, X, G⟩ := W.ex; He.glo_ok X G (W.c.fact 13 (f := .glo "fates_met") rfl)
theorem w_glo_fate_of (W : Wd K mg) : mg "fate_of" = some (.ref (He.ga K "fate_of")) := let ⟨_, X, G⟩ := W.ex; He.glo_ok X G (W.c.fact 14 (f := .glo "fate_of") rfl)
theorem w_free_max (W : Wd K mg) : mg "max" = none := let ⟨_, X, G⟩ := W.ex; He.free_ok X G (W.c.fact 15 (f := .free "max") rfl)
theorem w_glo_longest_silence (W : Wd K mg) : mg "longest_silence" = some (.ref (He.ga K "longest_silence")) := let ⟨_, X, G⟩ := W.ex; He.glo_ok X G (W.c.fact 16 (f := .glo "longest_silence") rfl)
theorem w_free_min (W : Wd K mg) : mg "min" = none := let ⟨_, X, G⟩ := W.ex; He.free_ok X G (W.c.fact 17 (f := .free "min") rfl)
theorem w_cls_Line (W : Wd K mg) : Cls K (He.ga K "Line") := He.cls_ok (W.c.fact 18 (f := .cls "Line") rfl)
theorem w_noat_Line__count (W : Wd K mg) : NoAttr K (He.ga K "Line") "_count" := He.noat_ok (W.c.fact 19 (f := .noat "Line" "_count") rfl)
theorem w_noat_Line__script (W : Wd K mg) : NoAttr K (He.ga K "Line") "_script" := He.noat_ok (W.c.fact 20 (f := .noat "Line" "_script") rfl)
theorem w_noat_Line__log (W : Wd K mg) : NoAttr K (He.ga K "Line") "_log" := He.noat_ok (W.c.fact 21 (f := .noat "Line" "_log") rfl)
theorem w_noat_Line__under_way (W : Wd K mg) : NoAttr K (He.ga K "Line") "_under_way" := He.noat_ok (W.c.fact 22 (f := .noat "Line" "_under_way") rfl)
theorem w_free_enumerate (W : Wd K mg) : mg "enumerate" = none := let ⟨_, X, G⟩ := W.ex; He.free_ok X G (W.c.fact 23 (f := .free "enumerate") rfl)
theorem w_free_sorted (W : Wd K mg) : mg "sorted" = none := let ⟨_, X, G⟩ := W.ex; He.free_ok X G (W.c.fact 24 (f := .free "sorted") rfl)
theorem w_free_list (W : Wd K mg) : mg "list" = none := let ⟨_, X, G⟩ := W.ex; He.free_ok X G (W.c.fact 25 (f := .free "list") rfl)
theorem w_glo__law_load (W : Wd K mg) : mg "_law_load" = some (.ref (He.ga K "_law_load")) := let ⟨_, X, G⟩ := W.ex; He.glo_ok X G (W.c.fact 26 (f := .glo "_law_load") rfl)
theorem w_glo__law_same (W : Wd K mg) : mg "_law_same" = some (.ref (He.ga K "_law_same")) := let ⟨_, X, G⟩ := W.ex; He.glo_ok X G (W.c.fact 27 (f := .glo "_law_same") rfl)
theorem w_free_str (W : Wd K mg) : mg "str" = none := let ⟨_, X, G⟩ := W.ex; He.free_ok X G (W.c.fact 28 (f := .free "str") rfl)
theorem w_glo__law_draw (W : Wd K mg) : mg "_law_draw" = some (.ref (He.ga K "_law_draw")) := let ⟨_, X, G⟩ := W.ex; He.glo_ok X G (W.c.fact 29 (f := .glo "_law_draw") rfl)
theorem w_glo__law_box (W : Wd K mg) : mg "_law_box" = some (.ref (He.ga K "_law_box")) := let ⟨_, X, G⟩ := W.ex; He.glo_ok X G (W.c.fact 30 (f := .glo "_law_box") rfl)
theorem w_glo__law_long_script (W : Wd K mg) : mg "_law_long_script" = some (.ref (He.ga K "_law_long_script")) := let ⟨_, X, G⟩ := W.ex; He.glo_ok X G (W.c.fact 31 (f := .glo "_law_long_script") rfl)
theorem w_glo_is_script (W : Wd K mg) : mg "is_script" = some (.ref (He.ga K "is_script")) := let ⟨_, X, G⟩ := W.ex; He.glo_ok X G (W.c.fact 32 (f := .glo "is_script") rfl)
theorem w_free_any (W : Wd K mg) : mg "any" = none := let ⟨_, X, G⟩ := W.ex; He.free_ok X G (W.c.fact 33 (f := .free "any") rfl)
theorem w_glo_Line (W : Wd K mg) : mg "Line" = some (.ref (He.ga K "Line")) := let ⟨_, X, G⟩ := W.ex; He.glo_ok X G (W.c.fact 34 (f := .glo "Line") rfl)
theorem w_mkr_Line (W : Wd K mg) : Mk K (He.ga K "Line") (He.ma K (He.ga K "Line") "__init__") := He.mkr_ok (W.c.fact 35 (f := .mkr "Line") rfl)
theorem w_meth_Line_send (W : Wd K mg) : Meth K (He.ga K "Line") "send" (He.ma K (He.ga K "Line") "send") := He.meth_ok (W.c.fact 36 (f := .meth "Line" "send") rfl)
theorem w_meth_Line_arrived (W : Wd K mg) : Meth K (He.ga K "Line") "arrived" (He.ma K (He.ga K "Line") "arrived") := He.meth_ok (W.c.fact 37 (f := .meth "Line" "arrived") rfl)
theorem w_meth_Line_count (W : Wd K mg) : Meth K (He.ga K "Line") "count" (He.ma K (He.ga K "Line") "count") := He.meth_ok (W.c.fact 38 (f := .meth "Line" "count") rfl)
theorem w_meth_Line_under_way (W : Wd K mg) : Meth K (He.ga K "Line") "under_way" (He.ma K (He.ga K "Line") "under_way") := He.meth_ok (W.c.fact 39 (f := .meth "Line" "under_way") rfl)
theorem w_meth_Line_log (W : Wd K mg) : Meth K (He.ga K "Line") "log" (He.ma K (He.ga K "Line") "log") := He.meth_ok (W.c.fact 40 (f := .meth "Line" "log") rfl)
theorem w_glo__law_link_by_sending (W : Wd K mg) : mg "_law_link_by_sending" = some (.ref (He.ga K "_law_link_by_sending")) := let ⟨_, X, G⟩ := W.ex; He.glo_ok X G (W.c.fact 41 (f := .glo "_law_link_by_sending") rfl)
theorem w_free_set (W : Wd K mg) : mg "set" = none := let ⟨_, X, G⟩ := W.ex; He.free_ok X G (W.c.fact 42 (f := .free "set") rfl)
theorem w_glo_latest_news (W : Wd K mg) : mg "latest_news" = some (.ref (He.ga K "latest_news")) := let ⟨_, X, G⟩ := W.ex; He.glo_ok X G (W.c.fact 43 (f := .glo "latest_news") rfl)
theorem w_glo_starved_links (W : Wd K mg) : mg "starved_links" = some (.ref (He.ga K "starved_links")) := let ⟨_, X, G⟩ := W.ex; He.glo_ok X G (W.c.fact 44 (f := .glo "starved_links") rfl)
theorem w_glo_law (W : Wd K mg) : mg "law" = some (.ref (He.ga K "law")) := let ⟨_, X, G⟩ := W.ex; He.glo_ok X G (W.c.fact 45 (f := .glo "law") rfl)
end
/-! is_number -/
def N_is_number : List Str := ["value", "least", "most"]
theorem sc_is_number : FnScope N_is_number ["value", "least", "most"] (defScope st_is_number) := ⟨rfl, rfl, rfl, by decide +kernel, rfl, by decide +kernel, by decide +kernel⟩
noncomputable def S_is_number : Sv := sRet (eAnd (eCB isiD (aCons (eLoc 0) (aCons (eC (.raw (.ty "int"))) (aNil)))) (eAnd (eNot (eCB isiD (aCons (eLoc 0) (aCons (eC (.raw (.ty "bool"))) (aNil))))) (eChain leD leD (eLoc 1) (eLoc 0) (eLoc 2))))
noncomputable def F_is_number : Fv := pureF (runB 3 3 (S_is_number))
theorem ok_is_number {P : Program} {w : World} {K : PySem.W.Frag} {mg : Str → Option Value} {base : Heap} (W : Wd K mg) : Okf P w K mg base 1 (He.fAd K d_is_number.at_) ["value", "least", "most"] (F_is_number) := by
  obtain ⟨fd, F⟩ := W.c.def_ 0 (d := d_is_number) rfl
  refine Okf.pure ⟨⟨fd, fn_g (N := N_is_number) (s := S_is_number) F sc_is_number rfl fun cdv A outer s2 H2 E2 hr => ?_, F.bindsN fun _ _ _ _ _ _ us hl => match us, hl with | [_, _, _], _ => rfl⟩, F.kp⟩
  have hN := sc_is_number.nd
  exact gs_one (gs_ret (ge_and (ge_callB isiS call_isi rfl (w_free_isinstance W) PyProof.Rows.boot_isinstance (ga_cons (ge_loc 0) (ga_cons (ge_ty (w_free_int W) PyProof.Rows.boot_int) (ga_nil)))) (ge_and (ge_not (ge_callB isiS call_isi rfl (w_free_isinstance W) PyProof.Rows.boot_isinstance (ga_cons (ge_loc 0) (ga_cons (ge_ty (w_free_bool W) PyProof.Rows.boot_bool) (ga_nil))))) (ge_one (ge_chain leS op_le leS op_le (ge_loc 1) (ge_loc 0) (ge_loc 2))))))
/-! is_fate -/
def N_is_fate : List Str := ["value", "delay"]
theorem sc_is_fate : FnScope N_is_fate ["value"] (defScope st_is_fate) := ⟨rfl, rfl, rfl, by decide +kernel, rfl, by decide +kernel, by decide +kernel⟩
noncomputable def S_is_fate : Sv := sSeq (sIf (tOrG (tNotG (tTru (eCB isiD (aCons (eLoc 0) (aCons (eC (.raw (.ty "tuple"))) (aNil)))))) (tOf (eBin gtD (eCB lenD (aCons (eLoc 0) (aNil))) (eC (.int (4)))))) (sRet (eC (.bl false))) (sNil)) (sRet (eCB allD (aCons (eLc false (iSeqG (eLoc 0)) (bName 1) (tYesG) (eCall F_is_number (aCons (eLoc 1) (aCons (eC (.int (1))) (aCons (eC (.int (100))) (aNil))))) [1]) (aNil))))
noncomputable def F_is_fate : Fv := pureF (runB 1 2 (S_is_fate))
theorem ok_is_fate {P : Program} {w : World} {K : PySem.W.Frag} {mg : Str → Option Value} {base : Heap} (W : Wd K mg) : Okf P w K mg base 2 (He.fAd K d_is_fate.at_) ["value"] (F_is_fate) := by
  obtain ⟨fd, F⟩ := W.c.def_ 1 (d := d_is_fate) rfl
  refine Okf.pure ⟨⟨fd, fn_g (N := N_is_fate) (s := S_is_fate) F sc_is_fate rfl fun cdv A outer s2 H2 E2 hr => ?_, F.bindsN fun _ _ _ _ _ _ us hl => match us, hl with | [_], _ => rfl⟩, F.kp⟩
  have hN := sc_is_fate.nd
  exact gs_cons (gs_if (GW.gt (gw_or (gt_not (gt_tru (ge_callB isiS call_isi rfl (w_free_isinstance W) PyProof.Rows.boot_isinstance (ga_cons (ge_loc 0) (ga_cons (ge_ty (w_free_tuple W) PyProof.Rows.boot_tuple) (ga_nil)))))) (gw_or1 (gt_cmp gtS op_gt (ge_callB lenS call_len rfl (w_free_len W) PySem.boot_len (ga_cons (ge_loc 0) (ga_nil))) (ge_gint (w_int_MOST_COPIES W)))))) (gs_one (gs_ret (ge_bl))) (gs_nil)) (gs_one (gs_ret (ge_callB allS (cr_all rfl) rfl (w_free_all W) PyProof.Rows.boot_all (ga_cons (ge_lcL false [("delay", 1)] hN rfl (gi_seq (ge_loc 0)) (lb_name (i := 1) hN) (fun _ _ _ _ _ => gts_nil) (fun _ _ _ _ _ => gc (ok_is_number W) (hr.mono (by decide)) (w_glo_is_number W) (ga_cons (ge_loc 1) (ga_cons (ge_int) (ga_cons (ge_gint (w_int_MOST_DELAY W)) (ga_nil)))))) (ga_nil)))))
/-! is_script -/
def N_is_script : List Str := ["value", "fate"]
theorem sc_is_script : FnScope N_is_script ["value"] (defScope st_is_script) := ⟨rfl, rfl, rfl, by decide +kernel, rfl, by decide +kernel, by decide +kernel⟩
noncomputable def S_is_script : Sv := sRet (eAnd (eCB isiD (aCons (eLoc 0) (aCons (eC (.raw (.ty "tuple"))) (aNil)))) (eAnd (eChain leD leD (eC (.int (1))) (eCB lenD (aCons (eLoc 0) (aNil))) (eC (.int (64)))) (eCB allD (aCons (eLc false (iSeqG (eLoc 0)) (bName 1) (tYesG) (eCall F_is_fate (aCons (eLoc 1) (aNil))) [1]) (aNil)))))
noncomputable def F_is_script : Fv := pureF (runB 1 2 (S_is_script))
theorem ok_is_script {P : Program} {w : World} {K : PySem.W.Frag} {mg : Str → Option Value} {base : Heap} (W : Wd K mg) : Okf P w K mg base 3 (He.fAd K d_is_script.at_) ["value"] (F_is_script) := by
  obtain ⟨fd, F⟩ := W.c.def_ 2 (d := d_is_script) rfl
  refine Okf.pure ⟨⟨fd, fn_g (N := N_is_script) (s := S_is_script) F sc_is_script rfl fun cdv A outer s2 H2 E2 hr => ?_, F.bindsN fun _ _ _ _ _ _ us hl => match us, hl with | [_], _ => rfl⟩, F.kp⟩
  have hN := sc_is_script.nd
  exact gs_one (gs_ret (ge_and (ge_callB isiS call_isi rfl (w_free_isinstance W) PyProof.Rows.boot_isinstance (ga_cons (ge_loc 0) (ga_cons (ge_ty (w_free_tuple W) PyProof.Rows.boot_tuple) (ga_nil)))) (ge_and (ge_chain leS op_le leS op_le (ge_int) (ge_callB lenS call_len rfl (w_free_len W) PySem.boot_len (ga_cons (ge_loc 0) (ga_nil))) (ge_gint (w_int_MOST_TURNS W))) (ge_one (ge_callB allS (cr_all rfl) rfl (w_free_all W) PyProof.Rows.boot_all (ga_cons (ge_lcL false [("fate", 1)] hN rfl (gi_seq (ge_loc 0)) (lb_name (i := 1) hN) (fun _ _ _ _ _ => gts_nil) (fun _ _ _ _ _ => gc (ok_is_fate W) (hr.mono (by decide)) (w_glo_is_fate W) (ga_cons (ge_loc 1) (ga_nil)))) (ga_nil)))))))
/-! fate_of -/
def N_fate_of : List Str := ["script", "number"]
theorem sc_fate_of : FnScope N_fate_of ["script", "number"] (defScope st_fate_of) := ⟨rfl, rfl, rfl, by decide +kernel, rfl, by decide +kernel, by decide +kernel⟩
noncomputable def S_fate_of : Sv := sRet (eBin ixD (eLoc 0) (eBin modD (eLoc 1) (eCB lenD (aCons (eLoc 0) (aNil)))))
noncomputable def F_fate_of : Fv := pureF (runB 2 2 (S_fate_of))
theorem ok_fate_of {P : Program} {w : World} {K : PySem.W.Frag} {mg : Str → Option Value} {base : Heap} (W : Wd K mg) : Okf P w K mg base 1 (He.fAd K d_fate_of.at_) ["script", "number"] (F_fate_of) := by
  obtain ⟨fd, F⟩ := W.c.def_ 3 (d := d_fate_of) rfl
  refine Okf.pure ⟨⟨fd, fn_g (N := N_fate_of) (s := S_fate_of) F sc_fate_of rfl fun cdv A outer s2 H2 E2 hr => ?_, F.bindsN fun _ _ _ _ _ _ us hl => match us, hl with | [_, _], _ => rfl⟩, F.kp⟩
  have hN := sc_fate_of.nd
  exact gs_one (gs_ret (ge_ix (ge_loc 0) (ge_bin modS op_mod (ge_loc 1) (ge_callB lenS call_len rfl (w_free_len W) PySem.boot_len (ga_cons (ge_loc 0) (ga_nil))))))
/-! greatest_common -/
def N_greatest_common : List Str := ["one", "other"]
theorem sc_greatest_common : FnScope N_greatest_common ["one", "other"] (defScope st_greatest_common) := ⟨rfl, rfl, rfl, by decide +kernel, rfl, by decide +kernel, by decide +kernel⟩
noncomputable def S_greatest_common : Sv := sSeq (sWhile (tTru (eLoc 1)) (sPar 0 1 (aCons (eLoc 1) (aCons (eBin modD (eLoc 0) (eLoc 1)) (aNil))))) (sRet (eLoc 0))
noncomputable def F_greatest_common : Fv := pureF (runB 2 2 (S_greatest_common))
theorem ok_greatest_common {P : Program} {w : World} {K : PySem.W.Frag} {mg : Str → Option Value} {base : Heap} (W : Wd K mg) : Okf P w K mg base 1 (He.fAd K d_greatest_common.at_) ["one", "other"] (F_greatest_common) := by
  obtain ⟨fd, F⟩ := W.c.def_ 4 (d := d_greatest_common) rfl
  refine Okf.pure ⟨⟨fd, fn_g (N := N_greatest_common) (s := S_greatest_common) F sc_greatest_common rfl fun cdv A outer s2 H2 E2 hr => ?_, F.bindsN fun _ _ _ _ _ _ us hl => match us, hl with | [_, _], _ => rfl⟩, F.kp⟩
  have hN := sc_greatest_common.nd
  exact gs_cons (gs_while (gt_tru (ge_loc 1)) (gs_one (gs_par (i := 0) (j := 1) hN rfl (ga_cons (ge_loc 1) (ga_cons (ge_bin modS op_mod (ge_loc 0) (ge_loc 1)) (ga_nil))))) (passes_of rfl)) (gs_one (gs_ret (ge_loc 0)))
/-! fates_met -/
def N_fates_met : List Str := ["script", "many", "link", "step", "k"]
theorem sc_fates_met : FnScope N_fates_met ["script", "many", "link"] (defScope st_fates_met) := ⟨rfl, rfl, rfl, by decide +kernel, rfl, by decide +kernel, by decide +kernel⟩
noncomputable def S_fates_met : Sv := sSeq (sSet 3 (eCall F_greatest_common (aCons (eCB lenD (aCons (eLoc 0) (aNil))) (aCons (eLoc 1) (aNil))))) (sRet (eLc false (iR1 (eCB lenD (aCons (eLoc 0) (aNil)))) (bName 4) (tOf (eBin eqD (eBin modD (eLoc 4) (eLoc 3)) (eBin modD (eLoc 2) (eLoc 3)))) (eLoc 4) [4]))
noncomputable def F_fates_met : Fv := pureF (runB 3 5 (S_fates_met))
theorem ok_fates_met {P : Program} {w : World} {K : PySem.W.Frag} {mg : Str → Option Value} {base : Heap} (W : Wd K mg) : Okf P w K mg base 2 (He.fAd K d_fates_met.at_) ["script", "many", "link"] (F_fates_met) := by
  obtain ⟨fd, F⟩ := W.c.def_ 5 (d := d_fates_met) rfl
  refine Okf.pure ⟨⟨fd, fn_g (N := N_fates_met) (s := S_fates_met) F sc_fates_met rfl fun cdv A outer s2 H2 E2 hr => ?_, F.bindsN fun _ _ _ _ _ _ us hl => match us, hl with | [_, _, _], _ => rfl⟩, F.kp⟩
  have hN := sc_fates_met.nd
  exact gs_cons (gs_set (i := 3) hN (gc (ok_greatest_common W) (hr.mono (by decide)) (w_glo_greatest_common W) (ga_cons (ge_callB lenS call_len rfl (w_free_len W) PySem.boot_len (ga_cons (ge_loc 0) (ga_nil))) (ga_cons (ge_loc 1) (ga_nil))))) (gs_one (gs_ret (ge_lcL false [("k", 4)] hN rfl (gi_range1 (ge_callB lenS call_len rfl (w_free_len W) PySem.boot_len (ga_cons (ge_loc 0) (ga_nil))) (w_free_range W)) (lb_name (i := 4) hN) (fun _ _ _ _ _ => gts_one (gt_cmp eqS (op_eqG hr.units) (ge_bin modS op_mod (ge_loc 4) (ge_loc 3)) (ge_bin modS op_mod (ge_loc 2) (ge_loc 3)))) (fun _ _ _ _ _ => ge_loc 4))))
/-! starved_links -/
def N_starved_links : List Str := ["script", "many", "found", "link", "k"]
theorem sc_starved_links : FnScope N_starved_links ["script", "many"] (defScope st_starved_links) := ⟨rfl, rfl, rfl, by decide +kernel, rfl, by decide +kernel, by decide +kernel⟩
noncomputable def S_starved_links : Sv := sSeq (sSet 2 (eLst true (aNil))) (sSeq (sFor (iR1 (eLoc 1)) (bName 3) (sIf (tTru (eCB allD (aCons (eLc false (iSeqG (eCall F_fates_met (aCons (eLoc 0) (aCons (eLoc 1) (aCons (eLoc 3) (aNil)))))) (bName 4) (tYesG) (eBin eqD (eBin ixD (eLoc 0) (eLoc 4)) (eTup (aNil))) [4]) (aNil)))) (sExpr (eMt isLst appendD (eLoc 2) (aCons (eLoc 3) (aNil)))) (sNil))) (sRet (eCB tupleD (aCons (eLoc 2) (aNil)))))
noncomputable def F_starved_links : Fv := pureF (runB 2 5 (S_starved_links))
theorem ok_starved_links {P : Program} {w : World} {K : PySem.W.Frag} {mg : Str → Option Value} {base : Heap} (W : Wd K mg) : Okf P w K mg base 3 (He.fAd K d_starved_links.at_) ["script", "many"] (F_starved_links) := by
  obtain ⟨fd, F⟩ := W.c.def_ 6 (d := d_starved_links) rfl
  refine Okf.pure ⟨⟨fd, fn_g (N := N_starved_links) (s := S_starved_links) F sc_starved_links rfl fun cdv A outer s2 H2 E2 hr => ?_, F.bindsN fun _ _ _ _ _ _ us hl => match us, hl with | [_, _], _ => rfl⟩, F.kp⟩
  have hN := sc_starved_links.nd
  exact gs_cons (gs_set (i := 2) hN (ge_lst true (ga_nil))) (gs_cons (gs_for (gi_range1 (ge_loc 1) (w_free_range W)) (gb_name (i := 3) hN) (gs_one (gs_if (gt_tru (ge_callB allS (cr_all rfl) rfl (w_free_all W) PyProof.Rows.boot_all (ga_cons (ge_lcL false [("k", 4)] hN rfl (gi_seq (gc (ok_fates_met W) (hr.mono (by decide)) (w_glo_fates_met W) (ga_cons (ge_loc 0) (ga_cons (ge_loc 1) (ga_cons (ge_loc 3) (ga_nil)))))) (lb_name (i := 4) hN) (fun _ _ _ _ _ => gts_nil) (fun _ _ _ _ _ => ge_cmp eqS (op_eqG hr.units) (ge_ix (ge_loc 0) (ge_loc 4)) (ge_tup (ga_nil)))) (ga_nil)))) (gs_one (gs_expr (ge_bm appendS isLst_ok PySem.F.plainAttrs_list PySem.F.slot_list_append PySem.type_list_append mt_append (ge_loc 2) (ga_cons (ge_loc 3) (ga_nil))))) (gs_nil))) (passes_of rfl) rfl) (gs_one (gs_ret (ge_callTy tupleS call_tuple_of rfl (w_free_tuple W) PyProof.Rows.boot_tuple (ga_cons (ge_loc 2) (ga_nil))))))
/-! longest_silence -/
def N_longest_silence : List Str := ["script", "many", "link", "lost", "best", "run", "gone", "k"]
theorem sc_longest_silence : FnScope N_longest_silence ["script", "many", "link"] (defScope st_longest_silence) := ⟨rfl, rfl, rfl, by decide +kernel, rfl, by decide +kernel, by decide +kernel⟩
noncomputable def S_longest_silence : Sv := sSeq (sSet 3 (eLc false (iR1 (eBin (mulD false) (eC (.int (2))) (eCB lenD (aCons (eLoc 0) (aNil))))) (bName 7) (tYesG) (eBin eqD (eCall F_fate_of (aCons (eLoc 0) (aCons (eBin (addD false) (eLoc 2) (eBin (mulD false) (eLoc 1) (eLoc 7))) (aNil)))) (eTup (aNil))) [7])) (sSeq (sIf (tTru (eCB allD (aCons (eLoc 3) (aNil)))) (sRet (eC .non)) (sNil)) (sSeq (sAsgM (eTup (aCons (eC (.int (0))) (aCons (eC (.int (0))) (aNil)))) (mTup 2 (mCons (mName 4) (mCons (mName 5) (mNil))))) (sSeq (sFor (iSeqG (eLoc 3)) (bName 6) (sSeq (sSet 5 (eIf (tTru (eLoc 6)) (eBin (addD false) (eLoc 5) (eC (.int (1)))) (eC (.int (0))))) (sSet 4 (eCB max2D (aCons (eLoc 4) (aCons (eLoc 5) (aNil))))))) (sRet (eLoc 4)))))
noncomputable def F_longest_silence : Fv := pureF (runB 3 8 (S_longest_silence))
theorem ok_longest_silence {P : Program} {w : World} {K : PySem.W.Frag} {mg : Str → Option Value} {base : Heap} (W : Wd K mg) : Okf P w K mg base 2 (He.fAd K d_longest_silence.at_) ["script", "many", "link"] (F_longest_silence) := by
  obtain ⟨fd, F⟩ := W.c.def_ 7 (d := d_longest_silence) rfl
  refine Okf.pure ⟨⟨fd, fn_g (N := N_longest_silence) (s := S_longest_silence) F sc_longest_silence rfl fun cdv A outer s2 H2 E2 hr => ?_, F.bindsN fun _ _ _ _ _ _ us hl => match us, hl with | [_, _, _], _ => rfl⟩, F.kp⟩
  have hN := sc_longest_silence.nd
  exact gs_cons (gs_setLcL (i := 3) false [("k", 7)] hN rfl (gi_range1 (ge_bin (mulS (c := false)) op_mulG (ge_int) (ge_callB lenS call_len rfl (w_free_len W) PySem.boot_len (ga_cons (ge_loc 0) (ga_nil)))) (w_free_range W)) (lb_name (i := 7) hN) (fun _ _ _ _ _ => gts_nil) (fun _ _ _ _ _ => ge_cmp eqS (op_eqG hr.units) (gc (ok_fate_of W) (hr.mono (by decide)) (w_glo_fate_of W) (ga_cons (ge_loc 0) (ga_cons (ge_bin (addS (c := false)) op_addG (ge_loc 2) (ge_bin (mulS (c := false)) op_mulG (ge_loc 1) (ge_loc 7))) (ga_nil)))) (ge_tup (ga_nil)))) (gs_cons (gs_if (gt_tru (ge_callB allS (cr_all rfl) rfl (w_free_all W) PyProof.Rows.boot_all (ga_cons (ge_loc 3) (ga_nil)))) (gs_one (gs_ret (ge_non))) (gs_nil)) (gs_cons (gs_asgm (ge_tup (ga_cons (ge_int) (ga_cons (ge_int) (ga_nil)))) (gm_tup (n := 2) (gms_cons (gm_name (i := 4) hN) (gms_cons (gm_name (i := 5) hN) (gms_nil))) rfl)) (gs_cons (gs_for (gi_seq (ge_loc 3)) (gb_name (i := 6) hN) (gs_cons (gs_set (i := 5) hN (ge_if (gt_tru (ge_loc 6)) (ge_bin (addS (c := false)) op_addG (ge_loc 5) (ge_int)) (ge_int))) (gs_one (gs_set (i := 4) hN (ge_callB max2S (call_max2 rfl) rfl (w_free_max W) PyProof.Rows.boot_max (ga_cons (ge_loc 4) (ga_cons (ge_loc 5) (ga_nil))))))) (passes_of rfl) rfl) (gs_one (gs_ret (ge_loc 4))))))
/-! latest_news -/
def N_latest_news : List Str := ["script", "many", "link", "found", "begin", "waits", "k", "fate", "delay"]
theorem sc_latest_news : FnScope N_latest_news ["script", "many", "link"] (defScope st_latest_news) := ⟨rfl, rfl, rfl, by decide +kernel, rfl, by decide +kernel, by decide +kernel⟩
noncomputable def S_latest_news : Sv := sSeq (sIf (tOf (eBin isD (eCall F_longest_silence (aCons (eLoc 0) (aCons (eLoc 1) (aCons (eLoc 2) (aNil))))) (eC .non))) (sRet (eC .non)) (sNil)) (sSeq (sSet 3 (eLst true (aNil))) (sSeq (sFor (iR1 (eCB lenD (aCons (eLoc 0) (aNil)))) (bName 4) (sSeq (sSet 5 (eLst true (aNil))) (sSeq (sFor (iR1 (eCB lenD (aCons (eLoc 0) (aNil)))) (bName 6) (sSeq (sSet 7 (eCall F_fate_of (aCons (eLoc 0) (aCons (eBin (addD false) (eLoc 2) (eBin (mulD false) (eLoc 1) (eBin (addD false) (eLoc 4) (eLoc 6)))) (aNil))))) (sExpr (eMt isLst extendD (eLoc 5) (aCons (eLc false (iSeqG (eLoc 7)) (bName 8) (tYesG) (eBin (addD false) (eLoc 6) (eLoc 8)) [8]) (aNil)))))) (sExpr (eMt isLst appendD (eLoc 3) (aCons (eCB minGD (aCons (eLoc 5) (aNil))) (aNil))))))) (sRet (eCB maxGD (aCons (eLoc 3) (aNil))))))
noncomputable def F_latest_news : Fv := pureF (runB 3 9 (S_latest_news))
theorem ok_latest_news {P : Program} {w : World} {K : PySem.W.Frag} {mg : Str → Option Value} {base : Heap} (W : Wd K mg) : Okf P w K mg base 3 (He.fAd K d_latest_news.at_) ["script", "many", "link"] (F_latest_news) := by
  obtain ⟨fd, F⟩ := W.c.def_ 8 (d := d_latest_news) rfl
  refine Okf.pure ⟨⟨fd, fn_g (N := N_latest_news) (s := S_latest_news) F sc_latest_news rfl fun cdv A outer s2 H2 E2 hr => ?_, F.bindsN fun _ _ _ _ _ _ us hl => match us, hl with | [_, _, _], _ => rfl⟩, F.kp⟩
  have hN := sc_latest_news.nd
  exact gs_cons (gs_if (gt_cmp isS op_isG (gc (ok_longest_silence W) (hr.mono (by decide)) (w_glo_longest_silence W) (ga_cons (ge_loc 0) (ga_cons (ge_loc 1) (ga_cons (ge_loc 2) (ga_nil))))) (ge_non)) (gs_one (gs_ret (ge_non))) (gs_nil)) (gs_cons (gs_set (i := 3) hN (ge_lst true (ga_nil))) (gs_cons (gs_for (gi_range1 (ge_callB lenS call_len rfl (w_free_len W) PySem.boot_len (ga_cons (ge_loc 0) (ga_nil))) (w_free_range W)) (gb_name (i := 4) hN) (gs_cons (gs_set (i := 5) hN (ge_lst true (ga_nil))) (gs_cons (gs_for (gi_range1 (ge_callB lenS call_len rfl (w_free_len W) PySem.boot_len (ga_cons (ge_loc 0) (ga_nil))) (w_free_range W)) (gb_name (i := 6) hN) (gs_cons (gs_set (i := 7) hN (gc (ok_fate_of W) (hr.mono (by decide)) (w_glo_fate_of W) (ga_cons (ge_loc 0) (ga_cons (ge_bin (addS (c := false)) op_addG (ge_loc 2) (ge_bin (mulS (c := false)) op_mulG (ge_loc 1) (ge_bin (addS (c := false)) op_addG (ge_loc 4) (ge_loc 6)))) (ga_nil))))) (gs_one (gs_expr (ge_bm extendS isLst_ok PySem.F.plainAttrs_list PySem.F.slot_list_extend PySem.F.type_list_extend mt_extend (ge_loc 5) (ga_cons (ge_lcL false [("delay", 8)] hN rfl (gi_seq (ge_loc 7)) (lb_name (i := 8) hN) (fun _ _ _ _ _ => gts_nil) (fun _ _ _ _ _ => ge_bin (addS (c := false)) op_addG (ge_loc 6) (ge_loc 8))) (ga_nil)))))) (passes_of rfl) rfl) (gs_one (gs_expr (ge_bm appendS isLst_ok PySem.F.plainAttrs_list PySem.F.slot_list_append PySem.type_list_append mt_append (ge_loc 3) (ga_cons (ge_callB minGS (cr_minG rfl hr.units) rfl (w_free_min W) PyProof.Rows.boot_min (ga_cons (ge_loc 5) (ga_nil))) (ga_nil))))))) (passes_of rfl) rfl) (gs_one (gs_ret (ge_callB maxGS (cr_maxG rfl hr.units) rfl (w_free_max W) PyProof.Rows.boot_max (ga_cons (ge_loc 3) (ga_nil)))))))
/-! Line_init -/
def N_Line_init : List Str := ["self", "script"]
theorem sc_Line_init : FnScope N_Line_init ["self", "script"] (defScope st_Line_init) := ⟨rfl, rfl, rfl, by decide +kernel, rfl, by decide +kernel, by decide +kernel⟩
noncomputable def S_Line_init (K : PySem.W.Frag) : Sv := sSeq (sAsgM (eTup (aCons (eLoc 1) (aCons (eC (.int (0))) (aNil)))) (mTup 2 (mCons (mFld (He.ga K "Line") "_script" (eLoc 0)) (mCons (mFld (He.ga K "Line") "_count" (eLoc 0)) (mNil))))) (sAsgM (eTup (aCons (eLst true (aNil)) (aCons (eLst true (aNil)) (aNil)))) (mTup 2 (mCons (mFld (He.ga K "Line") "_under_way" (eLoc 0)) (mCons (mFld (He.ga K "Line") "_log" (eLoc 0)) (mNil)))))
noncomputable def F_Line_init (K : PySem.W.Frag) : Fv := (runB 2 2 (S_Line_init K))
theorem ok_Line_init {P : Program} {w : World} {K : PySem.W.Frag} {mg : Str → Option Value} {base : Heap} (W : Wd K mg) : Okf P w K mg base 1 (He.fAd K d_Line_init.at_) ["self", "script"] (F_Line_init K) := by
  obtain ⟨fd, F⟩ := W.c.def_ 9 (d := d_Line_init) rfl
  refine Okf.idn ⟨⟨fd, fn_g (N := N_Line_init) (s := S_Line_init K) F sc_Line_init rfl fun cdv A outer s2 H2 E2 hr => ?_, F.bindsN fun _ _ _ _ _ _ us hl => match us, hl with | [_, _], _ => rfl⟩, F.kp⟩
  have hN := sc_Line_init.nd
  exact gs_cons (gs_asgm (ge_tup (ga_cons (ge_loc 1) (ga_cons (ge_int) (ga_nil)))) (gm_tup (n := 2) (gms_cons (gm_fld _ (ge_loc 0) (w_cls_Line W) (w_noat_Line__script W)) (gms_cons (gm_fld _ (ge_loc 0) (w_cls_Line W) (w_noat_Line__count W)) (gms_nil))) rfl)) (gs_one (gs_asgm (ge_tup (ga_cons (ge_lst true (ga_nil)) (ga_cons (ge_lst true (ga_nil)) (ga_nil)))) (gm_tup (n := 2) (gms_cons (gm_fld _ (ge_loc 0) (w_cls_Line W) (w_noat_Line__under_way W)) (gms_cons (gm_fld _ (ge_loc 0) (w_cls_Line W) (w_noat_Line__log W)) (gms_nil))) rfl)))
/-! Line_send -/
def N_Line_send : List Str := ["self", "tick", "to", "data", "fate", "copy", "delay"]
theorem sc_Line_send : FnScope N_Line_send ["self", "tick", "to", "data"] (defScope st_Line_send) := ⟨rfl, rfl, rfl, by decide +kernel, rfl, by decide +kernel, by decide +kernel⟩
noncomputable def S_Line_send (K : PySem.W.Frag) : Sv := sSeq (sSet 4 (eCall F_fate_of (aCons (eUn (fldD (He.ga K "Line") "_script") (eLoc 0)) (aCons (eUn (fldD (He.ga K "Line") "_count") (eLoc 0)) (aNil))))) (sSeq (sFor (iEnumG (eLoc 4)) (bTup 2 (bCons (bName 5) (bCons (bName 6) (bNil)))) (sExpr (eMt isLst appendD (eUn (fldD (He.ga K "Line") "_under_way") (eLoc 0)) (aCons (eTup (aCons (eBin (addD false) (eLoc 1) (eLoc 6)) (aCons (eUn (fldD (He.ga K "Line") "_count") (eLoc 0)) (aCons (eLoc 5) (aCons (eLoc 2) (aCons (eLoc 3) (aNil))))))) (aNil))))) (sSeq (sExpr (eMt isLst appendD (eUn (fldD (He.ga K "Line") "_log") (eLoc 0)) (aCons (eTup (aCons (eLoc 1) (aCons (eLoc 2) (aCons (eLoc 4) (aNil))))) (aNil)))) (sSeq (sFldA (He.ga K "Line") "_count" addI (eLoc 0) (eC (.int (1)))) (sRet (eLoc 4)))))
noncomputable def F_Line_send (K : PySem.W.Frag) : Fv := (runB 4 7 (S_Line_send K))
theorem ok_Line_send {P : Program} {w : World} {K : PySem.W.Frag} {mg : Str → Option Value} {base : Heap} (W : Wd K mg) : Okf P w K mg base 2 (He.fAd K d_Line_send.at_) ["self", "tick", "to", "data"] (F_Line_send K) := by
  obtain ⟨fd, F⟩ := W.c.def_ 10 (d := d_Line_send) rfl
  refine Okf.idn ⟨⟨fd, fn_g (N := N_Line_send) (s := S_Line_send K) F sc_Line_send rfl fun cdv A outer s2 H2 E2 hr => ?_, F.bindsN fun _ _ _ _ _ _ us hl => match us, hl with | [_, _, _, _], _ => rfl⟩, F.kp⟩
  have hN := sc_Line_send.nd
  exact gs_cons (gs_set (i := 4) hN (gc (ok_fate_of W) (hr.mono (by decide)) (w_glo_fate_of W) (ga_cons (ge_fld _ (ge_loc 0) (w_cls_Line W) (w_noat_Line__script W)) (ga_cons (ge_fld _ (ge_loc 0) (w_cls_Line W) (w_noat_Line__count W)) (ga_nil))))) (gs_cons (gs_for (gi_enum (ge_loc 4) (w_free_enumerate W)) (gb_tupN 2 (gbs_cons (gb_name (i := 5) hN) (gbs_cons (gb_name (i := 6) hN) (gbs_nil))) rfl) (gs_one (gs_expr (ge_bm appendS isLst_ok PySem.F.plainAttrs_list PySem.F.slot_list_append PySem.type_list_append mt_append (ge_fld _ (ge_loc 0) (w_cls_Line W) (w_noat_Line__under_way W)) (ga_cons (ge_tup (ga_cons (ge_bin (addS (c := false)) op_addG (ge_loc 1) (ge_loc 6)) (ga_cons (ge_fld _ (ge_loc 0) (w_cls_Line W) (w_noat_Line__count W)) (ga_cons (ge_loc 5) (ga_cons (ge_loc 2) (ga_cons (ge_loc 3) (ga_nil))))))) (ga_nil))))) (passes_of rfl) rfl) (gs_cons (gs_expr (ge_bm appendS isLst_ok PySem.F.plainAttrs_list PySem.F.slot_list_append PySem.type_list_append mt_append (ge_fld _ (ge_loc 0) (w_cls_Line W) (w_noat_Line__log W)) (ga_cons (ge_tup (ga_cons (ge_loc 1) (ga_cons (ge_loc 2) (ga_cons (ge_loc 4) (ga_nil))))) (ga_nil)))) (gs_cons (gs_fldaug _ (ge_loc 0) (ge_int) addIS in_add (w_cls_Line W) (w_noat_Line__count W)) (gs_one (gs_ret (ge_loc 4))))))
/-! Line_arrived -/
def N_Line_arrived : List Str := ["self", "tick", "to", "here", "places", "found", "k", "row"]
theorem sc_Line_arrived : FnScope N_Line_arrived ["self", "tick", "to"] (defScope st_Line_arrived) := ⟨rfl, rfl, rfl, by decide +kernel, rfl, by decide +kernel, by decide +kernel⟩
noncomputable def S_Line_arrived (K : PySem.W.Frag) : Sv := sSeq (sSet 3 (eCB (sortedD false) (aCons (eLc false (iEnumG (eUn (fldD (He.ga K "Line") "_under_way") (eLoc 0))) (bTup 2 (bCons (bName 6) (bCons (bName 7) (bNil)))) (tAndG (tOf (eBin eqD (eBin ixD (eLoc 7) (eC (.int (3)))) (eLoc 2))) (tOf (eBin leD (eBin ixD (eLoc 7) (eC (.int (0)))) (eLoc 1)))) (eBin (addD false) (eSl false (eLoc 7) (oNone) (oSome (eC (.int (3))))) (eTup (aCons (eLoc 6) (aNil)))) [6, 7]) (aNil)))) (sSeq (sSet 4 (eLc false (iSeqG (eLoc 3)) (bName 7) (tYesG) (eBin ixD (eLoc 7) (eC (.int (3)))) [7])) (sSeq (sSet 5 (eLc false (iSeqG (eLoc 4)) (bName 6) (tYesG) (eBin ixD (eBin ixD (eUn (fldD (He.ga K "Line") "_under_way") (eLoc 0)) (eLoc 6)) (eC (.int (4)))) [6])) (sSeq (sFldS (He.ga K "Line") "_under_way" (eLoc 0) (eLc true (iEnumG (eUn (fldD (He.ga K "Line") "_under_way") (eLoc 0))) (bTup 2 (bCons (bName 6) (bCons (bName 7) (bNil)))) (tOf (eBin ninD (eLoc 6) (eLoc 4))) (eLoc 7) [6, 7])) (sRet (eLoc 5)))))
noncomputable def F_Line_arrived (K : PySem.W.Frag) : Fv := (runB 3 8 (S_Line_arrived K))
theorem ok_Line_arrived {P : Program} {w : World} {K : PySem.W.Frag} {mg : Str → Option Value} {base : Heap} (W : Wd K mg) : Okf P w K mg base 1 (He.fAd K d_Line_arrived.at_) ["self", "tick", "to"] (F_Line_arrived K) := by
  obtain ⟨fd, F⟩ := W.c.def_ 11 (d := d_Line_arrived) rfl
  refine Okf.idn ⟨⟨fd, fn_g (N := N_Line_arrived) (s := S_Line_arrived K) F sc_Line_arrived rfl fun cdv A outer s2 H2 E2 hr => ?_, F.bindsN fun _ _ _ _ _ _ us hl => match us, hl with | [_, _, _], _ => rfl⟩, F.kp⟩
  have hN := sc_Line_arrived.nd
  exact gs_cons (gs_set (i := 3) hN (ge_callB (sortS (c := false)) (cr_sortD hr.units) rfl (w_free_sorted W) PyProof.Rows.boot_sorted (ga_cons (ge_lcL false [("k", 6), ("row", 7)] hN rfl (gi_enum (ge_fld _ (ge_loc 0) (w_cls_Line W) (w_noat_Line__under_way W)) (w_free_enumerate W)) (lb_tup 2 (lbs_cons (lb_name (i := 6) hN) (lbs_cons (lb_name (i := 7) hN) (lbs_nil))) rfl) (fun _ _ _ _ _ => gts_one (GW.gt (gw_and (gt_cmp eqS (op_eqG hr.units) (ge_ix (ge_loc 7) (ge_int)) (ge_loc 2)) (gw_and1 (gt_cmp leS op_le (ge_ix (ge_loc 7) (ge_int)) (ge_loc 1)))))) (fun _ _ _ _ _ => ge_bin (addS (c := false)) op_addG (ge_sl false (ge_loc 7) (go_none) (go_some (ge_int))) (ge_tup (ga_cons (ge_loc 6) (ga_nil))))) (ga_nil)))) (gs_cons (gs_set (i := 4) hN (ge_lcL false [("row", 7)] hN rfl (gi_seq (ge_loc 3)) (lb_name (i := 7) hN) (fun _ _ _ _ _ => gts_nil) (fun _ _ _ _ _ => ge_ix (ge_loc 7) (ge_int)))) (gs_cons (gs_setLcL (i := 5) false [("k", 6)] hN rfl (gi_seq (ge_loc 4)) (lb_name (i := 6) hN) (fun _ _ _ _ _ => gts_nil) (fun _ _ _ _ _ => ge_ix (ge_ix (ge_fld _ (ge_loc 0) (w_cls_Line W) (w_noat_Line__under_way W)) (ge_loc 6)) (ge_int))) (gs_cons (gs_fld _ (ge_lcL true [("k", 6), ("row", 7)] hN rfl (gi_enum (ge_fld _ (ge_loc 0) (w_cls_Line W) (w_noat_Line__under_way W)) (w_free_enumerate W)) (lb_tup 2 (lbs_cons (lb_name (i := 6) hN) (lbs_cons (lb_name (i := 7) hN) (lbs_nil))) rfl) (fun _ _ _ _ _ => gts_one (gt_cmp ninS (op_notInD (units65 hr)) (ge_loc 6) (ge_loc 4))) (fun _ _ _ _ _ => ge_loc 7)) (ge_loc 0) (w_cls_Line W) (w_noat_Line__under_way W)) (gs_one (gs_ret (ge_loc 5))))))
/-! Line_under_way -/
def N_Line_under_way : List Str := ["self", "to", "row"]
theorem sc_Line_under_way : FnScope N_Line_under_way ["self", "to"] (defScope st_Line_under_way) := ⟨rfl, rfl, rfl, by decide +kernel, rfl, by decide +kernel, by decide +kernel⟩
noncomputable def S_Line_under_way (K : PySem.W.Frag) : Sv := sRet (eCB lenD (aCons (eLc false (iSeqG (eUn (fldD (He.ga K "Line") "_under_way") (eLoc 0))) (bName 2) (tOf (eBin eqD (eBin ixD (eLoc 2) (eC (.int (3)))) (eLoc 1))) (eLoc 2) [2]) (aNil)))
noncomputable def F_Line_under_way (K : PySem.W.Frag) : Fv := (runB 2 3 (S_Line_under_way K))
theorem ok_Line_under_way {P : Program} {w : World} {K : PySem.W.Frag} {mg : Str → Option Value} {base : Heap} (W : Wd K mg) : Okf P w K mg base 1 (He.fAd K d_Line_under_way.at_) ["self", "to"] (F_Line_under_way K) := by
  obtain ⟨fd, F⟩ := W.c.def_ 12 (d := d_Line_under_way) rfl
  refine Okf.idn ⟨⟨fd, fn_g (N := N_Line_under_way) (s := S_Line_under_way K) F sc_Line_under_way rfl fun cdv A outer s2 H2 E2 hr => ?_, F.bindsN fun _ _ _ _ _ _ us hl => match us, hl with | [_, _], _ => rfl⟩, F.kp⟩
  have hN := sc_Line_under_way.nd
  exact gs_one (gs_ret (ge_callB lenS call_len rfl (w_free_len W) PySem.boot_len (ga_cons (ge_lcL false [("row", 2)] hN rfl (gi_seq (ge_fld _ (ge_loc 0) (w_cls_Line W) (w_noat_Line__under_way W))) (lb_name (i := 2) hN) (fun _ _ _ _ _ => gts_one (gt_cmp eqS (op_eqG hr.units) (ge_ix (ge_loc 2) (ge_int)) (ge_loc 1))) (fun _ _ _ _ _ => ge_loc 2)) (ga_nil))))
/-! Line_count -/
def N_Line_count : List Str := ["self"]
theorem sc_Line_count : FnScope N_Line_count ["self"] (defScope st_Line_count) := ⟨rfl, rfl, rfl, by decide +kernel, rfl, by decide +kernel, by decide +kernel⟩
noncomputable def S_Line_count (K : PySem.W.Frag) : Sv := sRet (eUn (fldD (He.ga K "Line") "_count") (eLoc 0))
noncomputable def F_Line_count (K : PySem.W.Frag) : Fv := (runB 1 1 (S_Line_count K))
theorem ok_Line_count {P : Program} {w : World} {K : PySem.W.Frag} {mg : Str → Option Value} {base : Heap} (W : Wd K mg) : Okf P w K mg base 1 (He.fAd K d_Line_count.at_) ["self"] (F_Line_count K) := by
  obtain ⟨fd, F⟩ := W.c.def_ 13 (d := d_Line_count) rfl
  refine Okf.idn ⟨⟨fd, fn_g (N := N_Line_count) (s := S_Line_count K) F sc_Line_count rfl fun cdv A outer s2 H2 E2 hr => ?_, F.bindsN fun _ _ _ _ _ _ us hl => match us, hl with | [_], _ => rfl⟩, F.kp⟩
  have hN := sc_Line_count.nd
  exact gs_one (gs_ret (ge_fld _ (ge_loc 0) (w_cls_Line W) (w_noat_Line__count W)))
/-! Line_log -/
def N_Line_log : List Str := ["self"]
theorem sc_Line_log : FnScope N_Line_log ["self"] (defScope st_Line_log) := ⟨rfl, rfl, rfl, by decide +kernel, rfl, by decide +kernel, by decide +kernel⟩
noncomputable def S_Line_log (K : PySem.W.Frag) : Sv := sRet (eCB tupleD (aCons (eUn (fldD (He.ga K "Line") "_log") (eLoc 0)) (aNil)))
noncomputable def F_Line_log (K : PySem.W.Frag) : Fv := (runB 1 1 (S_Line_log K))
theorem ok_Line_log {P : Program} {w : World} {K : PySem.W.Frag} {mg : Str → Option Value} {base : Heap} (W : Wd K mg) : Okf P w K mg base 1 (He.fAd K d_Line_log.at_) ["self"] (F_Line_log K) := by
  obtain ⟨fd, F⟩ := W.c.def_ 14 (d := d_Line_log) rfl
  refine Okf.idn ⟨⟨fd, fn_g (N := N_Line_log) (s := S_Line_log K) F sc_Line_log rfl fun cdv A outer s2 H2 E2 hr => ?_, F.bindsN fun _ _ _ _ _ _ us hl => match us, hl with | [_], _ => rfl⟩, F.kp⟩
  have hN := sc_Line_log.nd
  exact gs_one (gs_ret (ge_callTy tupleS call_tuple_of rfl (w_free_tuple W) PyProof.Rows.boot_tuple (ga_cons (ge_fld _ (ge_loc 0) (w_cls_Line W) (w_noat_Line__log W)) (ga_nil))))
/-! _law_box -/
def N_z_law_box : List Str := ["script"]
theorem sc_z_law_box : FnScope N_z_law_box ["script"] (defScope st_z_law_box) := ⟨rfl, rfl, rfl, by decide +kernel, rfl, by decide +kernel, by decide +kernel⟩
noncomputable def S_z_law_box : Sv := sRet (eLst true (aCons (eCB (listD true) (aCons (eSl false (eLoc 0) (oNone) (oSome (eC (.int (63))))) (aNil))) (aCons (eC (.int (0))) (aCons (eBin (addD false) (eC (.int (4711))) (eCB lenD (aCons (eLoc 0) (aNil)))) (aNil)))))
noncomputable def F_z_law_box : Fv := (runB 1 1 (S_z_law_box))
theorem ok_z_law_box {P : Program} {w : World} {K : PySem.W.Frag} {mg : Str → Option Value} {base : Heap} (W : Wd K mg) : Okf P w K mg base 1 (He.fAd K d_z_law_box.at_) ["script"] (F_z_law_box) := by
  obtain ⟨fd, F⟩ := W.c.def_ 15 (d := d_z_law_box) rfl
  refine Okf.idn ⟨⟨fd, fn_g (N := N_z_law_box) (s := S_z_law_box) F sc_z_law_box rfl fun cdv A outer s2 H2 E2 hr => ?_, F.bindsN fun _ _ _ _ _ _ us hl => match us, hl with | [_], _ => rfl⟩, F.kp⟩
  have hN := sc_z_law_box.nd
  exact gs_one (gs_ret (ge_lst true (ga_cons (ge_callTy (listS (c := true)) call_list_of rfl (w_free_list W) PyProof.Rows.boot_list (ga_cons (ge_sl false (ge_loc 0) (go_none) (go_some (ge_int))) (ga_nil))) (ga_cons (ge_int) (ga_cons (ge_bin (addS (c := false)) op_addG (ge_int) (ge_callB lenS call_len rfl (w_free_len W) PySem.boot_len (ga_cons (ge_loc 0) (ga_nil)))) (ga_nil))))))
/-! _law_load -/
def N_z_law_load : List Str := ["box", "cells", "cell", "size", "first", "second"]
theorem sc_z_law_load : FnScope N_z_law_load ["box"] (defScope st_z_law_load) := ⟨rfl, rfl, rfl, by decide +kernel, rfl, by decide +kernel, by decide +kernel⟩
noncomputable def S_z_law_load : Sv := sSeq (sSet 1 (eBin ixD (eLoc 0) (eC (.int (0))))) (sSeq (sIf (tOf (eBin gtD (eCB lenD (aCons (eLoc 1) (aNil))) (eC (.int (0))))) (sSeq (sSet 2 (eCB intD (aCons (eMt isLst popAtD (eLoc 1) (aCons (eC (.int (0))) (aNil))) (aNil)))) (sSeq (sSet 3 (eIf (tOf (eBin geD (eLoc 2) (eC (.int (0))))) (eBin (mulD false) (eC (.int (2))) (eLoc 2)) (eBin subD (eBin (mulD false) (eUn negD (eC (.int (2)))) (eLoc 2)) (eC (.int (1)))))) (sSeq (sIf (tOf (eBin geD (eLoc 3) (eC (.int (1000000000000000000))))) (sRet (eLoc 3)) (sNil)) (sSub (eLoc 0) (eC (.int (2))) (eBin modD (eCB intD (aCons (eBin (addD false) (eBin (addD false) (eBin (mulD false) (eBin ixD (eLoc 0) (eC (.int (2)))) (eC (.int (69621)))) (eBin (mulD false) (eLoc 3) (eC (.int (48271))))) (eC (.int (11)))) (aNil))) (eC (.int (2147483647)))))))) (sNil)) (sSeq (sSet 4 (eBin modD (eCB intD (aCons (eBin (addD false) (eBin (mulD false) (eBin ixD (eLoc 0) (eC (.int (2)))) (eC (.int (48271)))) (eC (.int (17)))) (aNil))) (eC (.int (2147483629))))) (sSeq (sSet 5 (eBin modD (eCB intD (aCons (eBin (addD false) (eBin (mulD false) (eLoc 4) (eC (.int (69621)))) (eC (.int (5)))) (aNil))) (eC (.int (2147483587))))) (sSeq (sSub (eLoc 0) (eC (.int (2))) (eBin modD (eCB intD (aCons (eBin (addD false) (eBin (mulD false) (eLoc 5) (eC (.int (40692)))) (eC (.int (3)))) (aNil))) (eC (.int (2147483563))))) (sRet (eBin (addD false) (eBin (addD false) (eBin (mulD false) (eLoc 4) (eC (.int (4611686014132420609)))) (eBin (mulD false) (eLoc 5) (eC (.int (2147483647))))) (eBin ixD (eLoc 0) (eC (.int (2))))))))))
noncomputable def F_z_law_load : Fv := (runB 1 6 (S_z_law_load))
theorem ok_z_law_load {P : Program} {w : World} {K : PySem.W.Frag} {mg : Str → Option Value} {base : Heap} (W : Wd K mg) : Okf P w K mg base 1 (He.fAd K d_z_law_load.at_) ["box"] (F_z_law_load) := by
  obtain ⟨fd, F⟩ := W.c.def_ 16 (d := d_z_law_load) rfl
  refine Okf.idn ⟨⟨fd, fn_g (N := N_z_law_load) (s := S_z_law_load) F sc_z_law_load rfl fun cdv A outer s2 H2 E2 hr => ?_, F.bindsN fun _ _ _ _ _ _ us hl => match us, hl with | [_], _ => rfl⟩, F.kp⟩
  have hN := sc_z_law_load.nd
  exact gs_cons (gs_set (i := 1) hN (ge_ix (ge_loc 0) (ge_int))) (gs_cons (gs_if (gt_cmp gtS op_gt (ge_callB lenS call_len rfl (w_free_len W) PySem.boot_len (ga_cons (ge_loc 1) (ga_nil))) (ge_int)) (gs_cons (gs_set (i := 2) hN (ge_callTy intS call_int1 rfl (w_free_int W) PyProof.Rows.boot_int (ga_cons (ge_bm popAtS isLst_ok PySem.F.plainAttrs_list PySem.F.slot_list_pop PySem.F.type_list_pop mt_popAt (ge_loc 1) (ga_cons (ge_int) (ga_nil))) (ga_nil)))) (gs_cons (gs_set (i := 3) hN (ge_if (gt_cmp geS op_ge (ge_loc 2) (ge_int)) (ge_bin (mulS (c := false)) op_mulG (ge_int) (ge_loc 2)) (ge_bin subS op_sub (ge_bin (mulS (c := false)) op_mulG (ge_un negS un_neg (ge_int)) (ge_loc 2)) (ge_int)))) (gs_cons (gs_if (gt_cmp geS op_ge (ge_loc 3) (ge_int)) (gs_one (gs_ret (ge_loc 3))) (gs_nil)) (gs_one (gs_subs (ge_bin modS op_mod (ge_callTy intS call_int1 rfl (w_free_int W) PyProof.Rows.boot_int (ga_cons (ge_bin (addS (c := false)) op_addG (ge_bin (addS (c := false)) op_addG (ge_bin (mulS (c := false)) op_mulG (ge_ix (ge_loc 0) (ge_int)) (ge_int)) (ge_bin (mulS (c := false)) op_mulG (ge_loc 3) (ge_int))) (ge_int)) (ga_nil))) (ge_int)) (ge_loc 0) (ge_int)))))) (gs_nil)) (gs_cons (gs_set (i := 4) hN (ge_bin modS op_mod (ge_callTy intS call_int1 rfl (w_free_int W) PyProof.Rows.boot_int (ga_cons (ge_bin (addS (c := false)) op_addG (ge_bin (mulS (c := false)) op_mulG (ge_ix (ge_loc 0) (ge_int)) (ge_int)) (ge_int)) (ga_nil))) (ge_int))) (gs_cons (gs_set (i := 5) hN (ge_bin modS op_mod (ge_callTy intS call_int1 rfl (w_free_int W) PyProof.Rows.boot_int (ga_cons (ge_bin (addS (c := false)) op_addG (ge_bin (mulS (c := false)) op_mulG (ge_loc 4) (ge_int)) (ge_int)) (ga_nil))) (ge_int))) (gs_cons (gs_subs (ge_bin modS op_mod (ge_callTy intS call_int1 rfl (w_free_int W) PyProof.Rows.boot_int (ga_cons (ge_bin (addS (c := false)) op_addG (ge_bin (mulS (c := false)) op_mulG (ge_loc 5) (ge_int)) (ge_int)) (ga_nil))) (ge_int)) (ge_loc 0) (ge_int)) (gs_one (gs_ret (ge_bin (addS (c := false)) op_addG (ge_bin (addS (c := false)) op_addG (ge_bin (mulS (c := false)) op_mulG (ge_loc 4) (ge_int)) (ge_bin (mulS (c := false)) op_mulG (ge_loc 5) (ge_int))) (ge_ix (ge_loc 0) (ge_int)))))))))
/-! _law_draw -/
def N_z_law_draw : List Str := ["box", "many", "digit"]
theorem sc_z_law_draw : FnScope N_z_law_draw ["box", "many"] (defScope st_z_law_draw) := ⟨rfl, rfl, rfl, by decide +kernel, rfl, by decide +kernel, by decide +kernel⟩
noncomputable def S_z_law_draw : Sv := sSeq (sIf (tOf (eBin ltD (eBin ixD (eLoc 0) (eC (.int (1)))) (eLoc 1))) (sSub (eLoc 0) (eC (.int (1))) (eCall F_z_law_load (aCons (eLoc 0) (aNil)))) (sNil)) (sSeq (sSet 2 (eBin modD (eCB intD (aCons (eBin ixD (eLoc 0) (eC (.int (1)))) (aNil))) (eLoc 1))) (sSeq (sSub (eLoc 0) (eC (.int (1))) (eBin fdivD (eBin ixD (eLoc 0) (eC (.int (1)))) (eLoc 1))) (sRet (eLoc 2))))
noncomputable def F_z_law_draw : Fv := (runB 2 3 (S_z_law_draw))
theorem ok_z_law_draw {P : Program} {w : World} {K : PySem.W.Frag} {mg : Str → Option Value} {base : Heap} (W : Wd K mg) : Okf P w K mg base 2 (He.fAd K d_z_law_draw.at_) ["box", "many"] (F_z_law_draw) := by
  obtain ⟨fd, F⟩ := W.c.def_ 17 (d := d_z_law_draw) rfl
  refine Okf.idn ⟨⟨fd, fn_g (N := N_z_law_draw) (s := S_z_law_draw) F sc_z_law_draw rfl fun cdv A outer s2 H2 E2 hr => ?_, F.bindsN fun _ _ _ _ _ _ us hl => match us, hl with | [_, _], _ => rfl⟩, F.kp⟩
  have hN := sc_z_law_draw.nd
  exact gs_cons (gs_if (gt_cmp ltS op_lt (ge_ix (ge_loc 0) (ge_int)) (ge_loc 1)) (gs_one (gs_subs (gc (ok_z_law_load W) (hr.mono (by decide)) (w_glo__law_load W) (ga_cons (ge_loc 0) (ga_nil))) (ge_loc 0) (ge_int))) (gs_nil)) (gs_cons (gs_set (i := 2) hN (ge_bin modS op_mod (ge_callTy intS call_int1 rfl (w_free_int W) PyProof.Rows.boot_int (ga_cons (ge_ix (ge_loc 0) (ge_int)) (ga_nil))) (ge_loc 1))) (gs_cons (gs_subs (ge_bin fdivS op_fdivW (ge_ix (ge_loc 0) (ge_int)) (ge_loc 1)) (ge_loc 0) (ge_int)) (gs_one (gs_ret (ge_loc 2)))))
/-! _law_same -/
def N_z_law_same : List Str := ["a", "b", "k"]
theorem sc_z_law_same : FnScope N_z_law_same ["a", "b"] (defScope st_z_law_same) := ⟨rfl, rfl, rfl, by decide +kernel, rfl, by decide +kernel, by decide +kernel⟩
noncomputable def S_z_law_same (F : Fv) : Sv := sSeq (sIf (tOrG (tAndG (tTru (eCB isiD (aCons (eLoc 0) (aCons (eC (.raw (.ty "tuple"))) (aNil))))) (tTru (eCB isiD (aCons (eLoc 1) (aCons (eC (.raw (.ty "tuple"))) (aNil)))))) (tAndG (tTru (eCB isiD (aCons (eLoc 0) (aCons (eC (.raw (.ty "list"))) (aNil))))) (tTru (eCB isiD (aCons (eLoc 1) (aCons (eC (.raw (.ty "list"))) (aNil))))))) (sRet (eAnd (eBin eqD (eCB lenD (aCons (eLoc 0) (aNil))) (eCB lenD (aCons (eLoc 1) (aNil)))) (eCB allD (aCons (eLc false (iR1 (eCB lenD (aCons (eLoc 0) (aNil)))) (bName 2) (tYesG) (eCall F (aCons (eBin ixD (eLoc 0) (eLoc 2)) (aCons (eBin ixD (eLoc 1) (eLoc 2)) (aNil)))) [2]) (aNil))))) (sNil)) (sSeq (sIf (tOrG (tTru (eCB isiD (aCons (eLoc 0) (aCons (eC (.raw (.ty "bool"))) (aNil))))) (tTru (eCB isiD (aCons (eLoc 1) (aCons (eC (.raw (.ty "bool"))) (aNil)))))) (sRet (eAnd (eCB isiD (aCons (eLoc 0) (aCons (eC (.raw (.ty "bool"))) (aNil)))) (eAnd (eCB isiD (aCons (eLoc 1) (aCons (eC (.raw (.ty "bool"))) (aNil)))) (eBin eqD (eLoc 0) (eLoc 1))))) (sNil)) (sSeq (sIf (tOrG (tAndG (tTru (eCB isiD (aCons (eLoc 0) (aCons (eC (.raw (.ty "int"))) (aNil))))) (tTru (eCB isiD (aCons (eLoc 1) (aCons (eC (.raw (.ty "int"))) (aNil)))))) (tAndG (tTru (eCB isiD (aCons (eLoc 0) (aCons (eC (.raw (.ty "str"))) (aNil))))) (tTru (eCB isiD (aCons (eLoc 1) (aCons (eC (.raw (.ty "str"))) (aNil))))))) (sRet (eBin eqD (eLoc 0) (eLoc 1))) (sNil)) (sRet (eAnd (eBin isD (eLoc 0) (eC .non)) (eBin isD (eLoc 1) (eC .non))))))
noncomputable def F_z_law_same : Nat → Fv
  | 0 => fun _ _ => .stuck
  | n + 1 => pureF (runB 2 3 (S_z_law_same (F_z_law_same n)))
theorem ok_z_law_same_at {P : Program} {w : World} {K : PySem.W.Frag} {mg : Str → Option Value} {base : Heap} (W : Wd K mg) : ∀ n, Okf P w K mg base (n + 1) (He.fAd K d_z_law_same.at_) ["a", "b"] (F_z_law_same n)
  | 0 => by
    obtain ⟨fd, F⟩ := W.c.def_ 18 (d := d_z_law_same) rfl
    exact ⟨⟨fd, okStuck F sc_z_law_same, F.bindsN fun _ _ _ _ _ _ us hl => match us, hl with | [_, _], _ => rfl⟩, F.kp⟩
  | n + 1 => by
    have ih := ok_z_law_same_at (P := P) (w := w) (base := base) W n
    obtain ⟨fd, F⟩ := W.c.def_ 18 (d := d_z_law_same) rfl
    refine Okf.pure ⟨⟨fd, fn_g (N := N_z_law_same) (s := S_z_law_same (F_z_law_same n)) F sc_z_law_same rfl fun cdv A outer s2 H2 E2 hr => ?_, F.bindsN fun _ _ _ _ _ _ us hl => match us, hl with | [_, _], _ => rfl⟩, F.kp⟩
    have hN := sc_z_law_same.nd
    exact gs_cons (gs_if (GW.gt (gw_or (GW.gt (gw_and (gt_tru (ge_callB isiS call_isi rfl (w_free_isinstance W) PyProof.Rows.boot_isinstance (ga_cons (ge_loc 0) (ga_cons (ge_ty (w_free_tuple W) PyProof.Rows.boot_tuple) (ga_nil))))) (gw_and1 (gt_tru (ge_callB isiS call_isi rfl (w_free_isinstance W) PyProof.Rows.boot_isinstance (ga_cons (ge_loc 1) (ga_cons (ge_ty (w_free_tuple W) PyProof.Rows.boot_tuple) (ga_nil)))))))) (gw_or1 (GW.gt (gw_and (gt_tru (ge_callB isiS call_isi rfl (w_free_isinstance W) PyProof.Rows.boot_isinstance (ga_cons (ge_loc 0) (ga_cons (ge_ty (w_free_list W) PyProof.Rows.boot_list) (ga_nil))))) (gw_and1 (gt_tru (ge_callB isiS call_isi rfl (w_free_isinstance W) PyProof.Rows.boot_isinstance (ga_cons (ge_loc 1) (ga_cons (ge_ty (w_free_list W) PyProof.Rows.boot_list) (ga_nil))))))))))) (gs_one (gs_ret (ge_and (ge_cmp eqS (op_eqG hr.units) (ge_callB lenS call_len rfl (w_free_len W) PySem.boot_len (ga_cons (ge_loc 0) (ga_nil))) (ge_callB lenS call_len rfl (w_free_len W) PySem.boot_len (ga_cons (ge_loc 1) (ga_nil)))) (ge_one (ge_callB allS (cr_all rfl) rfl (w_free_all W) PyProof.Rows.boot_all (ga_cons (ge_lcL false [("k", 2)] hN rfl (gi_range1 (ge_callB lenS call_len rfl (w_free_len W) PySem.boot_len (ga_cons (ge_loc 0) (ga_nil))) (w_free_range W)) (lb_name (i := 2) hN) (fun _ _ _ _ _ => gts_nil) (fun _ _ _ _ _ => gc ih (hr.mono (by omega)) (w_glo__law_same W) (ga_cons (ge_ix (ge_loc 0) (ge_loc 2)) (ga_cons (ge_ix (ge_loc 1) (ge_loc 2)) (ga_nil))))) (ga_nil))))))) (gs_nil)) (gs_cons (gs_if (GW.gt (gw_or (gt_tru (ge_callB isiS call_isi rfl (w_free_isinstance W) PyProof.Rows.boot_isinstance (ga_cons (ge_loc 0) (ga_cons (ge_ty (w_free_bool W) PyProof.Rows.boot_bool) (ga_nil))))) (gw_or1 (gt_tru (ge_callB isiS call_isi rfl (w_free_isinstance W) PyProof.Rows.boot_isinstance (ga_cons (ge_loc 1) (ga_cons (ge_ty (w_free_bool W) PyProof.Rows.boot_bool) (ga_nil)))))))) (gs_one (gs_ret (ge_and (ge_callB isiS call_isi rfl (w_free_isinstance W) PyProof.Rows.boot_isinstance (ga_cons (ge_loc 0) (ga_cons (ge_ty (w_free_bool W) PyProof.Rows.boot_bool) (ga_nil)))) (ge_and (ge_callB isiS call_isi rfl (w_free_isinstance W) PyProof.Rows.boot_isinstance (ga_cons (ge_loc 1) (ga_cons (ge_ty (w_free_bool W) PyProof.Rows.boot_bool) (ga_nil)))) (ge_one (ge_cmp eqS (op_eqG hr.units) (ge_loc 0) (ge_loc 1))))))) (gs_nil)) (gs_cons (gs_if (GW.gt (gw_or (GW.gt (gw_and (gt_tru (ge_callB isiS call_isi rfl (w_free_isinstance W) PyProof.Rows.boot_isinstance (ga_cons (ge_loc 0) (ga_cons (ge_ty (w_free_int W) PyProof.Rows.boot_int) (ga_nil))))) (gw_and1 (gt_tru (ge_callB isiS call_isi rfl (w_free_isinstance W) PyProof.Rows.boot_isinstance (ga_cons (ge_loc 1) (ga_cons (ge_ty (w_free_int W) PyProof.Rows.boot_int) (ga_nil)))))))) (gw_or1 (GW.gt (gw_and (gt_tru (ge_callB isiS call_isi rfl (w_free_isinstance W) PyProof.Rows.boot_isinstance (ga_cons (ge_loc 0) (ga_cons (ge_ty (w_free_str W) PyProof.Rows.boot_str) (ga_nil))))) (gw_and1 (gt_tru (ge_callB isiS call_isi rfl (w_free_isinstance W) PyProof.Rows.boot_isinstance (ga_cons (ge_loc 1) (ga_cons (ge_ty (w_free_str W) PyProof.Rows.boot_str) (ga_nil))))))))))) (gs_one (gs_ret (ge_cmp eqS (op_eqG hr.units) (ge_loc 0) (ge_loc 1)))) (gs_nil)) (gs_one (gs_ret (ge_and (ge_cmp isS op_isG (ge_loc 0) (ge_non)) (ge_one (ge_cmp isS op_isG (ge_loc 1) (ge_non))))))))
theorem ok_z_law_same {P : Program} {w : World} {K : PySem.W.Frag} {mg : Str → Option Value} {base : Heap} (W : Wd K mg) : Okf P w K mg base 9 (He.fAd K d_z_law_same.at_) ["a", "b"] (F_z_law_same 8) := (ok_z_law_same_at W 8).mono (by decide)
/-! _law_long_script -/
def N_z_law_long_script : List Str := ["box", "many", "kind", "found", "turn", "fate", "k"]
theorem sc_z_law_long_script : FnScope N_z_law_long_script ["box"] (defScope st_z_law_long_script) := ⟨rfl, rfl, rfl, by decide +kernel, rfl, by decide +kernel, by decide +kernel⟩
noncomputable def S_z_law_long_script : Sv := sSeq (sPar 1 2 (aCons (eBin ixD (eLst false (aCons (eC (.int (1))) (aCons (eC (.int (2))) (aCons (eC (.int (48))) (aCons (eC (.int (63))) (aCons (eC (.int (64))) (aCons (eBin (addD false) (eC (.int (1))) (eCall F_z_law_draw (aCons (eLoc 0) (aCons (eC (.int (64))) (aNil))))) (aNil)))))))) (eCall F_z_law_draw (aCons (eLoc 0) (aCons (eC (.int (6))) (aNil))))) (aCons (eCall F_z_law_draw (aCons (eLoc 0) (aCons (eC (.int (4))) (aNil)))) (aNil)))) (sSeq (sSet 3 (eLst true (aNil))) (sSeq (sFor (iR1 (eLoc 1)) (bName 4) (sSeq (sSet 5 (eCB tupleD (aCons (eLc false (iR1 (eCall F_z_law_draw (aCons (eLoc 0) (aCons (eC (.int (5))) (aNil))))) (bName 6) (tYesG) (eBin (addD false) (eC (.int (1))) (eCall F_z_law_draw (aCons (eLoc 0) (aCons (eBin ixD (eLst false (aCons (eC (.int (3))) (aCons (eC (.int (100))) (aNil)))) (eCall F_z_law_draw (aCons (eLoc 0) (aCons (eC (.int (2))) (aNil))))) (aNil))))) [6]) (aNil)))) (sExpr (eMt isLst appendD (eLoc 3) (aCons (eBin ixD (eLst false (aCons (eLoc 5) (aCons (eTup (aCons (eC (.int (100))) (aCons (eC (.int (100))) (aCons (eC (.int (1))) (aCons (eC (.int (1))) (aNil)))))) (aCons (eIf (tOf (eBin gtD (eBin modD (eLoc 4) (eC (.int (5)))) (eC (.int (0))))) (eTup (aNil)) (eTup (aCons (eC (.int (2))) (aNil)))) (aCons (eIf (tOf (eBin gtD (eLoc 4) (eC (.int (0))))) (eTup (aNil)) (eTup (aCons (eBin (addD false) (eC (.int (1))) (eCall F_z_law_draw (aCons (eLoc 0) (aCons (eC (.int (100))) (aNil))))) (aNil)))) (aNil)))))) (eLoc 2)) (aNil)))))) (sRet (eCB tupleD (aCons (eLoc 3) (aNil))))))
noncomputable def F_z_law_long_script : Fv := (runB 1 7 (S_z_law_long_script))
theorem ok_z_law_long_script {P : Program} {w : World} {K : PySem.W.Frag} {mg : Str → Option Value} {base : Heap} (W : Wd K mg) : Okf P w K mg base 3 (He.fAd K d_z_law_long_script.at_) ["box"] (F_z_law_long_script) := by
  obtain ⟨fd, F⟩ := W.c.def_ 19 (d := d_z_law_long_script) rfl
  refine Okf.idn ⟨⟨fd, fn_g (N := N_z_law_long_script) (s := S_z_law_long_script) F sc_z_law_long_script rfl fun cdv A outer s2 H2 E2 hr => ?_, F.bindsN fun _ _ _ _ _ _ us hl => match us, hl with | [_], _ => rfl⟩, F.kp⟩
  have hN := sc_z_law_long_script.nd
  exact gs_cons (gs_par (i := 1) (j := 2) hN rfl (ga_cons (ge_ix (ge_lst false (ga_cons (ge_int) (ga_cons (ge_int) (ga_cons (ge_int) (ga_cons (ge_int) (ga_cons (ge_int) (ga_cons (ge_bin (addS (c := false)) op_addG (ge_int) (gc (ok_z_law_draw W) (hr.mono (by decide)) (w_glo__law_draw W) (ga_cons (ge_loc 0) (ga_cons (ge_int) (ga_nil))))) (ga_nil)))))))) (gc (ok_z_law_draw W) (hr.mono (by decide)) (w_glo__law_draw W) (ga_cons (ge_loc 0) (ga_cons (ge_int) (ga_nil))))) (ga_cons (gc (ok_z_law_draw W) (hr.mono (by decide)) (w_glo__law_draw W) (ga_cons (ge_loc 0) (ga_cons (ge_int) (ga_nil)))) (ga_nil)))) (gs_cons (gs_set (i := 3) hN (ge_lst true (ga_nil))) (gs_cons (gs_for (gi_range1 (ge_loc 1) (w_free_range W)) (gb_name (i := 4) hN) (gs_cons (gs_set (i := 5) hN (ge_callTy tupleS call_tuple_of rfl (w_free_tuple W) PyProof.Rows.boot_tuple (ga_cons (ge_lcL false [("k", 6)] hN rfl (gi_range1 (gc (ok_z_law_draw W) (hr.mono (by decide)) (w_glo__law_draw W) (ga_cons (ge_loc 0) (ga_cons (ge_int) (ga_nil)))) (w_free_range W)) (lb_name (i := 6) hN) (fun _ _ _ _ _ => gts_nil) (fun _ _ _ _ _ => ge_bin (addS (c := false)) op_addG (ge_int) (gc (ok_z_law_draw W) (hr.mono (by decide)) (w_glo__law_draw W) (ga_cons (ge_loc 0) (ga_cons (ge_ix (ge_lst false (ga_cons (ge_int) (ga_cons (ge_int) (ga_nil)))) (gc (ok_z_law_draw W) (hr.mono (by decide)) (w_glo__law_draw W) (ga_cons (ge_loc 0) (ga_cons (ge_int) (ga_nil))))) (ga_nil)))))) (ga_nil)))) (gs_one (gs_expr (ge_bm appendS isLst_ok PySem.F.plainAttrs_list PySem.F.slot_list_append PySem.type_list_append mt_append (ge_loc 3) (ga_cons (ge_ix (ge_lst false (ga_cons (ge_loc 5) (ga_cons (ge_tup (ga_cons (ge_int) (ga_cons (ge_int) (ga_cons (ge_int) (ga_cons (ge_int) (ga_nil)))))) (ga_cons (ge_if (gt_cmp gtS op_gt (ge_bin modS op_mod (ge_loc 4) (ge_int)) (ge_int)) (ge_tup (ga_nil)) (ge_tup (ga_cons (ge_int) (ga_nil)))) (ga_cons (ge_if (gt_cmp gtS op_gt (ge_loc 4) (ge_int)) (ge_tup (ga_nil)) (ge_tup (ga_cons (ge_bin (addS (c := false)) op_addG (ge_int) (gc (ok_z_law_draw W) (hr.mono (by decide)) (w_glo__law_draw W) (ga_cons (ge_loc 0) (ga_cons (ge_int) (ga_nil))))) (ga_nil)))) (ga_nil)))))) (ge_loc 2)) (ga_nil)))))) (passes_of rfl) rfl) (gs_one (gs_ret (ge_callTy tupleS call_tuple_of rfl (w_free_tuple W) PyProof.Rows.boot_tuple (ga_cons (ge_loc 3) (ga_nil)))))))
/-! _law_link_by_sending -/
def N_z_law_link_by_sending : List Str := ["script", "many", "link", "period", "row", "silence", "best", "fate", "latest", "begin", "k"]
theorem sc_z_law_link_by_sending : FnScope N_z_law_link_by_sending ["script", "many", "link"] (defScope st_z_law_link_by_sending) := ⟨rfl, rfl, rfl, by decide +kernel, rfl, by decide +kernel, by decide +kernel⟩
noncomputable def S_z_law_link_by_sending : Sv := sSeq (sSet 3 (eCB lenD (aCons (eLoc 0) (aNil)))) (sSeq (sSet 4 (eLc false (iR1 (eBin (mulD false) (eC (.int (3))) (eLoc 3))) (bName 10) (tYesG) (eBin ixD (eLoc 0) (eBin modD (eBin (addD false) (eLoc 2) (eBin (mulD false) (eLoc 1) (eLoc 10))) (eLoc 3))) [10])) (sSeq (sIf (tTru (eCB allD (aCons (eLc false (iSeqG (eLoc 4)) (bName 7) (tYesG) (eBin eqD (eLoc 7) (eTup (aNil))) [7]) (aNil)))) (sRet (eTup (aCons (eC .non) (aCons (eC .non) (aNil))))) (sNil)) (sSeq (sAsgM (eTup (aCons (eC (.int (0))) (aCons (eC (.int (0))) (aNil)))) (mTup 2 (mCons (mName 5) (mCons (mName 6) (mNil))))) (sSeq (sFor (iSeqG (eLoc 4)) (bName 7) (sSeq (sSet 5 (eIf (tOf (eBin eqD (eLoc 7) (eTup (aNil)))) (eBin (addD false) (eLoc 5) (eC (.int (1)))) (eC (.int (0))))) (sSet 6 (eCB max2D (aCons (eLoc 6) (aCons (eLoc 5) (aNil))))))) (sSeq (sSet 8 (eC (.int (0)))) (sSeq (sFor (iR1 (eLoc 3)) (bName 9) (sSet 8 (eCB max2D (aCons (eLoc 8) (aCons (eCB minGD (aCons (eLc false (iR1 (eLoc 3)) (bName 10) (tOf (eBin neD (eBin ixD (eLoc 4) (eBin (addD false) (eLoc 9) (eLoc 10))) (eTup (aNil)))) (eBin (addD false) (eLoc 10) (eCB minGD (aCons (eBin ixD (eLoc 4) (eBin (addD false) (eLoc 9) (eLoc 10))) (aNil)))) [10]) (aNil))) (aNil)))))) (sRet (eTup (aCons (eLoc 6) (aCons (eLoc 8) (aNil)))))))))))
noncomputable def F_z_law_link_by_sending : Fv := pureF (runB 3 11 (S_z_law_link_by_sending))
theorem ok_z_law_link_by_sending {P : Program} {w : World} {K : PySem.W.Frag} {mg : Str → Option Value} {base : Heap} (W : Wd K mg) : Okf P w K mg base 1 (He.fAd K d_z_law_link_by_sending.at_) ["script", "many", "link"] (F_z_law_link_by_sending) := by
  obtain ⟨fd, F⟩ := W.c.def_ 20 (d := d_z_law_link_by_sending) rfl
  refine Okf.pure ⟨⟨fd, fn_g (N := N_z_law_link_by_sending) (s := S_z_law_link_by_sending) F sc_z_law_link_by_sending rfl fun cdv A outer s2 H2 E2 hr => ?_, F.bindsN fun _ _ _ _ _ _ us hl => match us, hl with | [_, _, _], _ => rfl⟩, F.kp⟩
  have hN := sc_z_law_link_by_sending.nd
  exact gs_cons (gs_set (i := 3) hN (ge_callB lenS call_len rfl (w_free_len W) PySem.boot_len (ga_cons (ge_loc 0) (ga_nil)))) (gs_cons (gs_set (i := 4) hN (ge_lcL false [("k", 10)] hN rfl (gi_range1 (ge_bin (mulS (c := false)) op_mulG (ge_int) (ge_loc 3)) (w_free_range W)) (lb_name (i := 10) hN) (fun _ _ _ _ _ => gts_nil) (fun _ _ _ _ _ => ge_ix (ge_loc 0) (ge_bin modS op_mod (ge_bin (addS (c := false)) op_addG (ge_loc 2) (ge_bin (mulS (c := false)) op_mulG (ge_loc 1) (ge_loc 10))) (ge_loc 3))))) (gs_cons (gs_if (gt_tru (ge_callB allS (cr_all rfl) rfl (w_free_all W) PyProof.Rows.boot_all (ga_cons (ge_lcL false [("fate", 7)] hN rfl (gi_seq (ge_loc 4)) (lb_name (i := 7) hN) (fun _ _ _ _ _ => gts_nil) (fun _ _ _ _ _ => ge_cmp eqS (op_eqG hr.units) (ge_loc 7) (ge_tup (ga_nil)))) (ga_nil)))) (gs_one (gs_ret (ge_tup (ga_cons (ge_non) (ga_cons (ge_non) (ga_nil)))))) (gs_nil)) (gs_cons (gs_asgm (ge_tup (ga_cons (ge_int) (ga_cons (ge_int) (ga_nil)))) (gm_tup (n := 2) (gms_cons (gm_name (i := 5) hN) (gms_cons (gm_name (i := 6) hN) (gms_nil))) rfl)) (gs_cons (gs_for (gi_seq (ge_loc 4)) (gb_name (i := 7) hN) (gs_cons (gs_set (i := 5) hN (ge_if (gt_cmp eqS (op_eqG hr.units) (ge_loc 7) (ge_tup (ga_nil))) (ge_bin (addS (c := false)) op_addG (ge_loc 5) (ge_int)) (ge_int))) (gs_one (gs_set (i := 6) hN (ge_callB max2S (call_max2 rfl) rfl (w_free_max W) PyProof.Rows.boot_max (ga_cons (ge_loc 6) (ga_cons (ge_loc 5) (ga_nil))))))) (passes_of rfl) rfl) (gs_cons (gs_set (i := 8) hN (ge_int)) (gs_cons (gs_for (gi_range1 (ge_loc 3) (w_free_range W)) (gb_name (i := 9) hN) (gs_one (gs_set (i := 8) hN (ge_callB max2S (call_max2 rfl) rfl (w_free_max W) PyProof.Rows.boot_max (ga_cons (ge_loc 8) (ga_cons (ge_callB minGS (cr_minG rfl hr.units) rfl (w_free_min W) PyProof.Rows.boot_min (ga_cons (ge_lcL false [("k", 10)] hN rfl (gi_range1 (ge_loc 3) (w_free_range W)) (lb_name (i := 10) hN) (fun _ _ _ _ _ => gts_one (gt_cmp neS (op_neG hr.units) (ge_ix (ge_loc 4) (ge_bin (addS (c := false)) op_addG (ge_loc 9) (ge_loc 10))) (ge_tup (ga_nil)))) (fun _ _ _ _ _ => ge_bin (addS (c := false)) op_addG (ge_loc 10) (ge_callB minGS (cr_minG rfl hr.units) rfl (w_free_min W) PyProof.Rows.boot_min (ga_cons (ge_ix (ge_loc 4) (ge_bin (addS (c := false)) op_addG (ge_loc 9) (ge_loc 10))) (ga_nil))))) (ga_nil))) (ga_nil)))))) (passes_of rfl) rfl) (gs_one (gs_ret (ge_tup (ga_cons (ge_loc 6) (ga_cons (ge_loc 8) (ga_nil))))))))))))
/-! law -/
def N_law : List Str := ["script", "box", "fates", "takers", "wrong", "line", "under", "log", "tick", "turn", "copy", "to", "data", "fate", "due", "many", "starved", "link", "silence", "latest", "met", "value", "k", "row"]
theorem sc_law : FnScope N_law ["script"] (defScope st_law) := ⟨rfl, rfl, rfl, by decide +kernel, rfl, by decide +kernel, by decide +kernel⟩
noncomputable def B_law_0 (K : PySem.W.Frag) : Sv := sSeq (sAsgM (eTup (aCons (eCall F_z_law_draw (aCons (eLoc 1) (aCons (eLoc 3) (aNil)))) (aCons (eTup (aCons (eC (.str "data")) (aCons (eCB lenD (aCons (eLoc 7) (aNil))) (aNil)))) (aNil)))) (mTup 2 (mCons (mName 11) (mCons (mName 12) (mNil))))) (sSeq (sSet 13 (eBin ixD (eLoc 2) (eBin modD (eCB lenD (aCons (eLoc 7) (aNil))) (eCB lenD (aCons (eLoc 2) (aNil)))))) (sSeq (sIf (tOrG (tNotG (tTru (eCall (F_z_law_same 8) (aCons (eMeth (He.ga K "Line") "send" (F_Line_send K) (eLoc 5) (aCons (eLoc 8) (aCons (eLoc 11) (aCons (eLoc 12) (aNil))))) (aCons (eLoc 13) (aNil)))))) (tNotG (tTru (eCall (F_z_law_same 8) (aCons (eCall F_fate_of (aCons (eLoc 2) (aCons (eCB lenD (aCons (eLoc 7) (aNil))) (aNil)))) (aCons (eLoc 13) (aNil))))))) (sRet (eC (.bl false))) (sNil)) (sSeq (sSet 6 (eBin (addD false) (eLoc 6) (eLc false (iR1 (eCB lenD (aCons (eLoc 13) (aNil)))) (bName 22) (tYesG) (eTup (aCons (eBin (addD false) (eLoc 8) (eBin ixD (eLoc 13) (eLoc 22))) (aCons (eCB lenD (aCons (eLoc 7) (aNil))) (aCons (eLoc 22) (aCons (eLoc 11) (aCons (eLoc 12) (aNil))))))) [22]))) (sExpr (eMt isLst appendD (eLoc 7) (aCons (eTup (aCons (eLoc 8) (aCons (eLoc 11) (aCons (eLoc 13) (aNil))))) (aNil)))))))
noncomputable def B_law_1 (K : PySem.W.Frag) : Sv := sSeq (sSet 8 (eBin (addD false) (eLoc 8) (eBin ixD (eLst false (aCons (eC (.int (0))) (aCons (eC (.int (0))) (aCons (eC (.int (1))) (aCons (eC (.int (3))) (aNil)))))) (eCall F_z_law_draw (aCons (eLoc 1) (aCons (eC (.int (4))) (aNil))))))) (sSeq (sFor (iR1 (eCall F_z_law_draw (aCons (eLoc 1) (aCons (eC (.int (4))) (aNil))))) (bName 10) (B_law_0 K)) (sSeq (sIf (tOf (eBin eqD (eCall F_z_law_draw (aCons (eLoc 1) (aCons (eC (.int (3))) (aNil)))) (eC (.int (0))))) (sSeq (sSet 11 (eCall F_z_law_draw (aCons (eLoc 1) (aCons (eLoc 3) (aNil))))) (sSeq (sSet 14 (eCB (sortedD false) (aCons (eLc false (iSeqG (eLoc 6)) (bName 23) (tAndG (tOf (eBin eqD (eBin ixD (eLoc 23) (eC (.int (3)))) (eLoc 11))) (tOf (eBin leD (eBin ixD (eLoc 23) (eC (.int (0)))) (eLoc 8)))) (eBin (addD false) (eSl false (eLoc 23) (oNone) (oSome (eC (.int (3))))) (eTup (aCons (eBin ixD (eLoc 23) (eC (.int (4)))) (aNil)))) [23]) (aNil)))) (sSeq (sSet 6 (eLc false (iSeqG (eLoc 6)) (bName 23) (tOrG (tOf (eBin neD (eBin ixD (eLoc 23) (eC (.int (3)))) (eLoc 11))) (tOf (eBin gtD (eBin ixD (eLoc 23) (eC (.int (0)))) (eLoc 8)))) (eLoc 23) [23])) (sIf (tOrG (tNotG (tTru (eCall (F_z_law_same 8) (aCons (eMeth (He.ga K "Line") "arrived" (F_Line_arrived K) (eLoc 5) (aCons (eLoc 8) (aCons (eLoc 11) (aNil)))) (aCons (eLc false (iSeqG (eLoc 14)) (bName 23) (tYesG) (eBin ixD (eLoc 23) (eC (.int (3)))) [23]) (aNil)))))) (tOf (eBin neD (eMeth (He.ga K "Line") "arrived" (F_Line_arrived K) (eLoc 5) (aCons (eLoc 8) (aCons (eLoc 11) (aNil)))) (eLst false (aNil))))) (sRet (eC (.bl false))) (sNil))))) (sNil)) (sIf (tOrG (tOf (eBin neD (eMeth (He.ga K "Line") "count" (F_Line_count K) (eLoc 5) (aNil)) (eCB lenD (aCons (eLoc 7) (aNil))))) (tNotG (tTru (eCB allD (aCons (eLc false (iR1 (eLoc 3)) (bName 11) (tYesG) (eBin eqD (eMeth (He.ga K "Line") "under_way" (F_Line_under_way K) (eLoc 5) (aCons (eLoc 11) (aNil))) (eCB lenD (aCons (eLc false (iSeqG (eLoc 6)) (bName 23) (tOf (eBin eqD (eBin ixD (eLoc 23) (eC (.int (3)))) (eLoc 11))) (eLoc 23) [23]) (aNil)))) [11]) (aNil)))))) (sRet (eC (.bl false))) (sNil))))
noncomputable def B_law_2 (K : PySem.W.Frag) : Sv := sSeq (sSet 14 (eCB (sortedD false) (aCons (eLc false (iSeqG (eLoc 6)) (bName 23) (tOf (eBin eqD (eBin ixD (eLoc 23) (eC (.int (3)))) (eLoc 11))) (eBin (addD false) (eSl false (eLoc 23) (oNone) (oSome (eC (.int (3))))) (eTup (aCons (eBin ixD (eLoc 23) (eC (.int (4)))) (aNil)))) [23]) (aNil)))) (sIf (tOrG (tNotG (tTru (eCall (F_z_law_same 8) (aCons (eMeth (He.ga K "Line") "arrived" (F_Line_arrived K) (eLoc 5) (aCons (eBin (addD false) (eLoc 8) (eC (.int (100)))) (aCons (eLoc 11) (aNil)))) (aCons (eLc false (iSeqG (eLoc 14)) (bName 23) (tYesG) (eBin ixD (eLoc 23) (eC (.int (3)))) [23]) (aNil)))))) (tOf (eBin neD (eMeth (He.ga K "Line") "under_way" (F_Line_under_way K) (eLoc 5) (aCons (eLoc 11) (aNil))) (eC (.int (0)))))) (sRet (eC (.bl false))) (sNil))
noncomputable def B_law_3 (K : PySem.W.Frag) : Sv := sSeq (sAsgM (eCall F_z_law_link_by_sending (aCons (eLoc 2) (aCons (eLoc 15) (aCons (eLoc 17) (aNil))))) (mTup 2 (mCons (mName 18) (mCons (mName 19) (mNil))))) (sSeq (sSet 20 (eUn (sortSetI false) (eLc false (iR1 (eCB lenD (aCons (eLoc 2) (aNil)))) (bName 22) (tYesG) (eBin modD (eBin (addD false) (eLoc 17) (eBin (mulD false) (eLoc 15) (eLoc 22))) (eCB lenD (aCons (eLoc 2) (aNil)))) [22]))) (sSeq (sIf (tNotG (tTru (eCall (F_z_law_same 8) (aCons (eTup (aCons (eCall F_fates_met (aCons (eLoc 2) (aCons (eLoc 15) (aCons (eLoc 17) (aNil))))) (aCons (eCall F_longest_silence (aCons (eLoc 2) (aCons (eLoc 15) (aCons (eLoc 17) (aNil))))) (aCons (eCall F_latest_news (aCons (eLoc 2) (aCons (eLoc 15) (aCons (eLoc 17) (aNil))))) (aNil))))) (aCons (eTup (aCons (eLoc 20) (aCons (eLoc 18) (aCons (eLoc 19) (aNil))))) (aNil)))))) (sRet (eC (.bl false))) (sNil)) (sSet 16 (eBin (addD false) (eLoc 16) (eIf (tOf (eBin isD (eLoc 18) (eC .non))) (eLst false (aCons (eLoc 17) (aNil))) (eLst false (aNil)))))))
noncomputable def B_law_4 (K : PySem.W.Frag) : Sv := sSeq (sSet 16 (eLst false (aNil))) (sSeq (sFor (iR1 (eLoc 15)) (bName 17) (B_law_3 K)) (sIf (tNotG (tTru (eCall (F_z_law_same 8) (aCons (eCall F_starved_links (aCons (eLoc 2) (aCons (eLoc 15) (aNil)))) (aCons (eCB tupleD (aCons (eLoc 16) (aNil))) (aNil)))))) (sRet (eC (.bl false))) (sNil)))
noncomputable def S_law (K : PySem.W.Frag) : Sv := sSeq (sSet 1 (eCall F_z_law_box (aCons (eLoc 0) (aNil)))) (sSeq (sIf (tOf (eBin neD (eTup (aCons (eC (.int (4))) (aCons (eC (.int (100))) (aCons (eC (.int (64))) (aNil))))) (eTup (aCons (eC (.int (4))) (aCons (eC (.int (100))) (aCons (eC (.int (64))) (aNil))))))) (sRet (eC (.bl false))) (sNil)) (sSeq (sAsgM (eTup (aCons (eCall F_z_law_long_script (aCons (eLoc 1) (aNil))) (aCons (eBin (addD false) (eC (.int (1))) (eCall F_z_law_draw (aCons (eLoc 1) (aCons (eC (.int (4))) (aNil))))) (aNil)))) (mTup 2 (mCons (mName 2) (mCons (mName 3) (mNil))))) (sSeq (sSet 4 (eLst false (aCons (eTup (aNil)) (aCons (eBin (mulD false) (eLoc 2) (eC (.int (65)))) (aCons (eTup (aCons (eTup (aCons (eC (.int (0))) (aNil))) (aNil))) (aCons (eTup (aCons (eTup (aCons (eC (.int (101))) (aNil))) (aNil))) (aCons (eTup (aCons (eTup (aCons (eC (.int (1))) (aCons (eC (.int (1))) (aCons (eC (.int (1))) (aCons (eC (.int (1))) (aCons (eC (.int (1))) (aNil))))))) (aNil))) (aCons (eTup (aCons (eTup (aCons (eC (.bl true)) (aNil))) (aNil))) (aCons (eTup (aCons (eC .non) (aNil))) (aCons (eC .non) (aCons (eC (.int (5))) (aCons (eC (.str "ab")) (aCons (eTup (aCons (eC (.int (1))) (aCons (eC (.int (2))) (aNil)))) (aCons (eTup (aCons (eTup (aCons (eUn negD (eC (.int (1)))) (aNil))) (aNil))) (aCons (eTup (aCons (eTup (aCons (eC (.str "a")) (aNil))) (aNil))) (aNil)))))))))))))))) (sSeq (sIf (tOrG (tOf (eBin isntD (eCall F_is_script (aCons (eLoc 2) (aNil))) (eC (.bl true)))) (tOrG (tTru (eCB anyD (aCons (eLc false (iSeqG (eLoc 4)) (bName 21) (tYesG) (eBin isntD (eCall F_is_script (aCons (eLoc 21) (aNil))) (eC (.bl false))) [21]) (aNil)))) (tNotG (tTru (eCB allD (aCons (eLc false (iSeqG (eLoc 2)) (bName 13) (tYesG) (eBin isD (eCall F_is_fate (aCons (eLoc 13) (aNil))) (eC (.bl true))) [13]) (aNil))))))) (sRet (eC (.bl false))) (sNil)) (sSeq (sIf (tOrG (tTru (eCB anyD (aCons (eLc false (iSeqG (eTup (aCons (eTup (aCons (eC (.int (0))) (aNil))) (aCons (eTup (aCons (eC (.int (101))) (aNil))) (aCons (eBin (mulD false) (eTup (aCons (eC (.int (1))) (aNil))) (eC (.int (5)))) (aCons (eTup (aCons (eC (.bl true)) (aNil))) (aCons (eC .non) (aCons (eC (.int (5))) (aCons (eTup (aCons (eC (.str "a")) (aNil))) (aCons (eTup (aCons (eC (.int (1))) (aCons (eC .non) (aNil)))) (aNil))))))))))) (bName 21) (tYesG) (eBin isntD (eCall F_is_fate (aCons (eLoc 21) (aNil))) (eC (.bl false))) [21]) (aNil)))) (tOf (eBin isntD (eCall F_is_fate (aCons (eTup (aNil)) (aNil))) (eC (.bl true))))) (sRet (eC (.bl false))) (sNil)) (sSeq (sAsgM (eTup (aCons (eMake (He.ga K "Line") (F_Line_init K) (aCons (eLoc 2) (aNil))) (aCons (eLst false (aNil)) (aCons (eLst true (aNil)) (aCons (eC (.int (0))) (aNil)))))) (mTup 4 (mCons (mName 5) (mCons (mName 6) (mCons (mName 7) (mCons (mName 8) (mNil))))))) (sSeq (sFor (iR1 (eC (.int (100)))) (bName 9) (B_law_1 K)) (sSeq (sIf (tNotG (tTru (eCall (F_z_law_same 8) (aCons (eMeth (He.ga K "Line") "log" (F_Line_log K) (eLoc 5) (aNil)) (aCons (eCB tupleD (aCons (eLoc 7) (aNil))) (aNil)))))) (sRet (eC (.bl false))) (sNil)) (sSeq (sFor (iR1 (eLoc 3)) (bName 11) (B_law_2 K)) (sSeq (sFor (iSeqG (eTup (aCons (eC (.int (1))) (aCons (eC (.int (2))) (aCons (eC (.int (6))) (aCons (eC (.int (12))) (aCons (eBin (addD false) (eC (.int (1))) (eCall F_z_law_draw (aCons (eLoc 1) (aCons (eC (.int (12))) (aNil))))) (aNil)))))))) (bName 15) (B_law_4 K)) (sRet (eC (.bl true)))))))))))))
noncomputable def F_law (K : PySem.W.Frag) : Fv := (runB 1 24 (S_law K))
theorem law_facts {K : PySem.W.Frag} {mg : Str → Option Value} (W : Wd K mg) : ∃ fd : FuncData, (∀ (s : Shared) (v : Value), BindsTo s fd ⟨[v], []⟩ [("script", v)]) ∧ ∀ (P : Program) (w : World) (base : Heap), FnOk P w K mg base CX0 10 (He.fAd K d_law.at_) fd ["script"] (spG K (F_law K)) := by
  obtain ⟨fd, F⟩ := W.c.def_ 21 (d := d_law) rfl
  have b := FunD.bindsA (ps := ["script"]) F fun _ _ _ _ _ _ us hl => match us, hl with | [_], _ => rfl
  refine ⟨fd, fun s v => b s [v] rfl, fun P w base => fn_g (N := N_law) (s := S_law K) F sc_law rfl fun cdv A outer s2 H2 E2 hr => ?_⟩
  have hN := sc_law.nd
  exact gs_cons (gs_set (i := 1) hN (gc (ok_z_law_box W) (hr.mono (by decide)) (w_glo__law_box W) (ga_cons (ge_loc 0) (ga_nil)))) (gs_cons (gs_if (gt_cmp neS (op_neG hr.units) (ge_tup (ga_cons (ge_gint (w_int_MOST_COPIES W)) (ga_cons (ge_gint (w_int_MOST_DELAY W)) (ga_cons (ge_gint (w_int_MOST_TURNS W)) (ga_nil))))) (ge_tup (ga_cons (ge_int) (ga_cons (ge_int) (ga_cons (ge_int) (ga_nil)))))) (gs_one (gs_ret (ge_bl))) (gs_nil)) (gs_cons (gs_asgm (ge_tup (ga_cons (gc (ok_z_law_long_script W) (hr.mono (by decide)) (w_glo__law_long_script W) (ga_cons (ge_loc 1) (ga_nil))) (ga_cons (ge_bin (addS (c := false)) op_addG (ge_int) (gc (ok_z_law_draw W) (hr.mono (by decide)) (w_glo__law_draw W) (ga_cons (ge_loc 1) (ga_cons (ge_int) (ga_nil))))) (ga_nil)))) (gm_tup (n := 2) (gms_cons (gm_name (i := 2) hN) (gms_cons (gm_name (i := 3) hN) (gms_nil))) rfl)) (gs_cons (gs_set (i := 4) hN (ge_lst false (ga_cons (ge_tup (ga_nil)) (ga_cons (ge_bin (mulS (c := false)) op_mulG (ge_loc 2) (ge_int)) (ga_cons (ge_tup (ga_cons (ge_tup (ga_cons (ge_int) (ga_nil))) (ga_nil))) (ga_cons (ge_tup (ga_cons (ge_tup (ga_cons (ge_int) (ga_nil))) (ga_nil))) (ga_cons (ge_tup (ga_cons (ge_tup (ga_cons (ge_int) (ga_cons (ge_int) (ga_cons (ge_int) (ga_cons (ge_int) (ga_cons (ge_int) (ga_nil))))))) (ga_nil))) (ga_cons (ge_tup (ga_cons (ge_tup (ga_cons (ge_bl) (ga_nil))) (ga_nil))) (ga_cons (ge_tup (ga_cons (ge_non) (ga_nil))) (ga_cons (ge_non) (ga_cons (ge_int) (ga_cons (ge_str) (ga_cons (ge_tup (ga_cons (ge_int) (ga_cons (ge_int) (ga_nil)))) (ga_cons (ge_tup (ga_cons (ge_tup (ga_cons (ge_un negS un_neg (ge_int)) (ga_nil))) (ga_nil))) (ga_cons (ge_tup (ga_cons (ge_tup (ga_cons (ge_str) (ga_nil))) (ga_nil))) (ga_nil)))))))))))))))) (gs_cons (gs_if (GW.gt (gw_or (gt_cmp isntS op_isntG (gc (ok_is_script W) (hr.mono (by decide)) (w_glo_is_script W) (ga_cons (ge_loc 2) (ga_nil))) (ge_bl)) (gw_or (gt_tru (ge_callB anyS (cr_any rfl) rfl (w_free_any W) PyProof.Rows.boot_any (ga_cons (ge_lcL false [("value", 21)] hN rfl (gi_seq (ge_loc 4)) (lb_name (i := 21) hN) (fun _ _ _ _ _ => gts_nil) (fun _ _ _ _ _ => ge_cmp isntS op_isntG (gc (ok_is_script W) (hr.mono (by decide)) (w_glo_is_script W) (ga_cons (ge_loc 21) (ga_nil))) (ge_bl))) (ga_nil)))) (gw_or1 (gt_not (gt_tru (ge_callB allS (cr_all rfl) rfl (w_free_all W) PyProof.Rows.boot_all (ga_cons (ge_lcL false [("fate", 13)] hN rfl (gi_seq (ge_loc 2)) (lb_name (i := 13) hN) (fun _ _ _ _ _ => gts_nil) (fun _ _ _ _ _ => ge_cmp isS op_isG (gc (ok_is_fate W) (hr.mono (by decide)) (w_glo_is_fate W) (ga_cons (ge_loc 13) (ga_nil))) (ge_bl))) (ga_nil))))))))) (gs_one (gs_ret (ge_bl))) (gs_nil)) (gs_cons (gs_if (GW.gt (gw_or (gt_tru (ge_callB anyS (cr_any rfl) rfl (w_free_any W) PyProof.Rows.boot_any (ga_cons (ge_lcL false [("value", 21)] hN rfl (gi_seq (ge_tup (ga_cons (ge_tup (ga_cons (ge_int) (ga_nil))) (ga_cons (ge_tup (ga_cons (ge_int) (ga_nil))) (ga_cons (ge_bin (mulS (c := false)) op_mulG (ge_tup (ga_cons (ge_int) (ga_nil))) (ge_int)) (ga_cons (ge_tup (ga_cons (ge_bl) (ga_nil))) (ga_cons (ge_non) (ga_cons (ge_int) (ga_cons (ge_tup (ga_cons (ge_str) (ga_nil))) (ga_cons (ge_tup (ga_cons (ge_int) (ga_cons (ge_non) (ga_nil)))) (ga_nil))))))))))) (lb_name (i := 21) hN) (fun _ _ _ _ _ => gts_nil) (fun _ _ _ _ _ => ge_cmp isntS op_isntG (gc (ok_is_fate W) (hr.mono (by decide)) (w_glo_is_fate W) (ga_cons (ge_loc 21) (ga_nil))) (ge_bl))) (ga_nil)))) (gw_or1 (gt_cmp isntS op_isntG (gc (ok_is_fate W) (hr.mono (by decide)) (w_glo_is_fate W) (ga_cons (ge_tup (ga_nil)) (ga_nil))) (ge_bl))))) (gs_one (gs_ret (ge_bl))) (gs_nil)) (gs_cons (gs_asgm (ge_tup (ga_cons (gmk (w_mkr_Line W) (ok_Line_init W) (hr.mono (by decide)) (w_glo_Line W) (ga_cons (ge_loc 2) (ga_nil))) (ga_cons (ge_lst false (ga_nil)) (ga_cons (ge_lst true (ga_nil)) (ga_cons (ge_int) (ga_nil)))))) (gm_tup (n := 4) (gms_cons (gm_name (i := 5) hN) (gms_cons (gm_name (i := 6) hN) (gms_cons (gm_name (i := 7) hN) (gms_cons (gm_name (i := 8) hN) (gms_nil))))) rfl)) (gs_cons (gs_for (gi_range1 (ge_int) (w_free_range W)) (gb_name (i := 9) hN) (gs_cons (gs_set (i := 8) hN (ge_bin (addS (c := false)) op_addG (ge_loc 8) (ge_ix (ge_lst false (ga_cons (ge_int) (ga_cons (ge_int) (ga_cons (ge_int) (ga_cons (ge_int) (ga_nil)))))) (gc (ok_z_law_draw W) (hr.mono (by decide)) (w_glo__law_draw W) (ga_cons (ge_loc 1) (ga_cons (ge_int) (ga_nil))))))) (gs_cons (gs_for (gi_range1 (gc (ok_z_law_draw W) (hr.mono (by decide)) (w_glo__law_draw W) (ga_cons (ge_loc 1) (ga_cons (ge_int) (ga_nil)))) (w_free_range W)) (gb_name (i := 10) hN) (gs_cons (gs_asgm (ge_tup (ga_cons (gc (ok_z_law_draw W) (hr.mono (by decide)) (w_glo__law_draw W) (ga_cons (ge_loc 1) (ga_cons (ge_loc 3) (ga_nil)))) (ga_cons (ge_tup (ga_cons (ge_str) (ga_cons (ge_callB lenS call_len rfl (w_free_len W) PySem.boot_len (ga_cons (ge_loc 7) (ga_nil))) (ga_nil)))) (ga_nil)))) (gm_tup (n := 2) (gms_cons (gm_name (i := 11) hN) (gms_cons (gm_name (i := 12) hN) (gms_nil))) rfl)) (gs_cons (gs_set (i := 13) hN (ge_ix (ge_loc 2) (ge_bin modS op_mod (ge_callB lenS call_len rfl (w_free_len W) PySem.boot_len (ga_cons (ge_loc 7) (ga_nil))) (ge_callB lenS call_len rfl (w_free_len W) PySem.boot_len (ga_cons (ge_loc 2) (ga_nil)))))) (gs_cons (gs_if (GW.gt (gw_or (gt_not (gt_tru (gc (ok_z_law_same W) (hr.mono (by decide)) (w_glo__law_same W) (ga_cons (gm (w_cls_Line W) (w_meth_Line_send W) (ok_Line_send W) (hr.mono (by decide)) (ge_loc 5) (ga_cons (ge_loc 8) (ga_cons (ge_loc 11) (ga_cons (ge_loc 12) (ga_nil))))) (ga_cons (ge_loc 13) (ga_nil)))))) (gw_or1 (gt_not (gt_tru (gc (ok_z_law_same W) (hr.mono (by decide)) (w_glo__law_same W) (ga_cons (gc (ok_fate_of W) (hr.mono (by decide)) (w_glo_fate_of W) (ga_cons (ge_loc 2) (ga_cons (ge_callB lenS call_len rfl (w_free_len W) PySem.boot_len (ga_cons (ge_loc 7) (ga_nil))) (ga_nil)))) (ga_cons (ge_loc 13) (ga_nil))))))))) (gs_one (gs_ret (ge_bl))) (gs_nil)) (gs_cons (gs_set (i := 6) hN (ge_bin (addS (c := false)) op_addG (ge_loc 6) (ge_lcL false [("k", 22)] hN rfl (gi_range1 (ge_callB lenS call_len rfl (w_free_len W) PySem.boot_len (ga_cons (ge_loc 13) (ga_nil))) (w_free_range W)) (lb_name (i := 22) hN) (fun _ _ _ _ _ => gts_nil) (fun _ _ _ _ _ => ge_tup (ga_cons (ge_bin (addS (c := false)) op_addG (ge_loc 8) (ge_ix (ge_loc 13) (ge_loc 22))) (ga_cons (ge_callB lenS call_len rfl (w_free_len W) PySem.boot_len (ga_cons (ge_loc 7) (ga_nil))) (ga_cons (ge_loc 22) (ga_cons (ge_loc 11) (ga_cons (ge_loc 12) (ga_nil)))))))))) (gs_one (gs_expr (ge_bm appendS isLst_ok PySem.F.plainAttrs_list PySem.F.slot_list_append PySem.type_list_append mt_append (ge_loc 7) (ga_cons (ge_tup (ga_cons (ge_loc 8) (ga_cons (ge_loc 11) (ga_cons (ge_loc 13) (ga_nil))))) (ga_nil))))))))) (passes_of rfl) rfl) (gs_cons (gs_if (gt_cmp eqS (op_eqG hr.units) (gc (ok_z_law_draw W) (hr.mono (by decide)) (w_glo__law_draw W) (ga_cons (ge_loc 1) (ga_cons (ge_int) (ga_nil)))) (ge_int)) (gs_cons (gs_set (i := 11) hN (gc (ok_z_law_draw W) (hr.mono (by decide)) (w_glo__law_draw W) (ga_cons (ge_loc 1) (ga_cons (ge_loc 3) (ga_nil))))) (gs_cons (gs_set (i := 14) hN (ge_callB (sortS (c := false)) (cr_sortD hr.units) rfl (w_free_sorted W) PyProof.Rows.boot_sorted (ga_cons (ge_lcL false [("row", 23)] hN rfl (gi_seq (ge_loc 6)) (lb_name (i := 23) hN) (fun _ _ _ _ _ => gts_one (GW.gt (gw_and (gt_cmp eqS (op_eqG hr.units) (ge_ix (ge_loc 23) (ge_int)) (ge_loc 11)) (gw_and1 (gt_cmp leS op_le (ge_ix (ge_loc 23) (ge_int)) (ge_loc 8)))))) (fun _ _ _ _ _ => ge_bin (addS (c := false)) op_addG (ge_sl false (ge_loc 23) (go_none) (go_some (ge_int))) (ge_tup (ga_cons (ge_ix (ge_loc 23) (ge_int)) (ga_nil))))) (ga_nil)))) (gs_cons (gs_set (i := 6) hN (ge_lcL false [("row", 23)] hN rfl (gi_seq (ge_loc 6)) (lb_name (i := 23) hN) (fun _ _ _ _ _ => gts_one (GW.gt (gw_or (gt_cmp neS (op_neG hr.units) (ge_ix (ge_loc 23) (ge_int)) (ge_loc 11)) (gw_or1 (gt_cmp gtS op_gt (ge_ix (ge_loc 23) (ge_int)) (ge_loc 8)))))) (fun _ _ _ _ _ => ge_loc 23))) (gs_one (gs_if (GW.gt (gw_or (gt_not (gt_tru (gc (ok_z_law_same W) (hr.mono (by decide)) (w_glo__law_same W) (ga_cons (gm (w_cls_Line W) (w_meth_Line_arrived W) (ok_Line_arrived W) (hr.mono (by decide)) (ge_loc 5) (ga_cons (ge_loc 8) (ga_cons (ge_loc 11) (ga_nil)))) (ga_cons (ge_lcL false [("row", 23)] hN rfl (gi_seq (ge_loc 14)) (lb_name (i := 23) hN) (fun _ _ _ _ _ => gts_nil) (fun _ _ _ _ _ => ge_ix (ge_loc 23) (ge_int))) (ga_nil)))))) (gw_or1 (gt_cmp neS (op_neG hr.units) (gm (w_cls_Line W) (w_meth_Line_arrived W) (ok_Line_arrived W) (hr.mono (by decide)) (ge_loc 5) (ga_cons (ge_loc 8) (ga_cons (ge_loc 11) (ga_nil)))) (ge_lst false (ga_nil)))))) (gs_one (gs_ret (ge_bl))) (gs_nil)))))) (gs_nil)) (gs_one (gs_if (GW.gt (gw_or (gt_cmp neS (op_neG hr.units) (gm0 (w_cls_Line W) (w_meth_Line_count W) (ok_Line_count W) (hr.mono (by decide)) (ge_loc 5)) (ge_callB lenS call_len rfl (w_free_len W) PySem.boot_len (ga_cons (ge_loc 7) (ga_nil)))) (gw_or1 (gt_not (gt_tru (ge_callB allS (cr_all rfl) rfl (w_free_all W) PyProof.Rows.boot_all (ga_cons (ge_lcL false [("to", 11)] hN rfl (gi_range1 (ge_loc 3) (w_free_range W)) (lb_name (i := 11) hN) (fun _ _ _ _ _ => gts_nil) (fun _ _ _ _ _ => ge_cmp eqS (op_eqG hr.units) (gm (w_cls_Line W) (w_meth_Line_under_way W) (ok_Line_under_way W) (hr.mono (by decide)) (ge_loc 5) (ga_cons (ge_loc 11) (ga_nil))) (ge_callB lenS call_len rfl (w_free_len W) PySem.boot_len (ga_cons (ge_lcL false [("row", 23)] hN rfl (gi_seq (ge_loc 6)) (lb_name (i := 23) hN) (fun _ _ _ _ _ => gts_one (gt_cmp eqS (op_eqG hr.units) (ge_ix (ge_loc 23) (ge_int)) (ge_loc 11))) (fun _ _ _ _ _ => ge_loc 23)) (ga_nil))))) (ga_nil)))))))) (gs_one (gs_ret (ge_bl))) (gs_nil)))))) (passes_of rfl) rfl) (gs_cons (gs_if (gt_not (gt_tru (gc (ok_z_law_same W) (hr.mono (by decide)) (w_glo__law_same W) (ga_cons (gm0 (w_cls_Line W) (w_meth_Line_log W) (ok_Line_log W) (hr.mono (by decide)) (ge_loc 5)) (ga_cons (ge_callTy tupleS call_tuple_of rfl (w_free_tuple W) PyProof.Rows.boot_tuple (ga_cons (ge_loc 7) (ga_nil))) (ga_nil)))))) (gs_one (gs_ret (ge_bl))) (gs_nil)) (gs_cons (gs_for (gi_range1 (ge_loc 3) (w_free_range W)) (gb_name (i := 11) hN) (gs_cons (gs_set (i := 14) hN (ge_callB (sortS (c := false)) (cr_sortD hr.units) rfl (w_free_sorted W) PyProof.Rows.boot_sorted (ga_cons (ge_lcL false [("row", 23)] hN rfl (gi_seq (ge_loc 6)) (lb_name (i := 23) hN) (fun _ _ _ _ _ => gts_one (gt_cmp eqS (op_eqG hr.units) (ge_ix (ge_loc 23) (ge_int)) (ge_loc 11))) (fun _ _ _ _ _ => ge_bin (addS (c := false)) op_addG (ge_sl false (ge_loc 23) (go_none) (go_some (ge_int))) (ge_tup (ga_cons (ge_ix (ge_loc 23) (ge_int)) (ga_nil))))) (ga_nil)))) (gs_one (gs_if (GW.gt (gw_or (gt_not (gt_tru (gc (ok_z_law_same W) (hr.mono (by decide)) (w_glo__law_same W) (ga_cons (gm (w_cls_Line W) (w_meth_Line_arrived W) (ok_Line_arrived W) (hr.mono (by decide)) (ge_loc 5) (ga_cons (ge_bin (addS (c := false)) op_addG (ge_loc 8) (ge_int)) (ga_cons (ge_loc 11) (ga_nil)))) (ga_cons (ge_lcL false [("row", 23)] hN rfl (gi_seq (ge_loc 14)) (lb_name (i := 23) hN) (fun _ _ _ _ _ => gts_nil) (fun _ _ _ _ _ => ge_ix (ge_loc 23) (ge_int))) (ga_nil)))))) (gw_or1 (gt_cmp neS (op_neG hr.units) (gm (w_cls_Line W) (w_meth_Line_under_way W) (ok_Line_under_way W) (hr.mono (by decide)) (ge_loc 5) (ga_cons (ge_loc 11) (ga_nil))) (ge_int))))) (gs_one (gs_ret (ge_bl))) (gs_nil)))) (passes_of rfl) rfl) (gs_cons (gs_for (gi_seq (ge_tup (ga_cons (ge_int) (ga_cons (ge_int) (ga_cons (ge_int) (ga_cons (ge_int) (ga_cons (ge_bin (addS (c := false)) op_addG (ge_int) (gc (ok_z_law_draw W) (hr.mono (by decide)) (w_glo__law_draw W) (ga_cons (ge_loc 1) (ga_cons (ge_int) (ga_nil))))) (ga_nil)))))))) (gb_name (i := 15) hN) (gs_cons (gs_set (i := 16) hN (ge_lst false (ga_nil))) (gs_cons (gs_for (gi_range1 (ge_loc 15) (w_free_range W)) (gb_name (i := 17) hN) (gs_cons (gs_asgm (gc (ok_z_law_link_by_sending W) (hr.mono (by decide)) (w_glo__law_link_by_sending W) (ga_cons (ge_loc 2) (ga_cons (ge_loc 15) (ga_cons (ge_loc 17) (ga_nil))))) (gm_tup (n := 2) (gms_cons (gm_name (i := 18) hN) (gms_cons (gm_name (i := 19) hN) (gms_nil))) rfl)) (gs_cons (gs_set (i := 20) hN (ge_sortSetI false rfl (ge_lcL false [("k", 22)] hN rfl (gi_range1 (ge_callB lenS call_len rfl (w_free_len W) PySem.boot_len (ga_cons (ge_loc 2) (ga_nil))) (w_free_range W)) (lb_name (i := 22) hN) (fun _ _ _ _ _ => gts_nil) (fun _ _ _ _ _ => ge_bin modS op_mod (ge_bin (addS (c := false)) op_addG (ge_loc 17) (ge_bin (mulS (c := false)) op_mulG (ge_loc 15) (ge_loc 22))) (ge_callB lenS call_len rfl (w_free_len W) PySem.boot_len (ga_cons (ge_loc 2) (ga_nil))))) (w_free_sorted W) (w_free_set W))) (gs_cons (gs_if (gt_not (gt_tru (gc (ok_z_law_same W) (hr.mono (by decide)) (w_glo__law_same W) (ga_cons (ge_tup (ga_cons (gc (ok_fates_met W) (hr.mono (by decide)) (w_glo_fates_met W) (ga_cons (ge_loc 2) (ga_cons (ge_loc 15) (ga_cons (ge_loc 17) (ga_nil))))) (ga_cons (gc (ok_longest_silence W) (hr.mono (by decide)) (w_glo_longest_silence W) (ga_cons (ge_loc 2) (ga_cons (ge_loc 15) (ga_cons (ge_loc 17) (ga_nil))))) (ga_cons (gc (ok_latest_news W) (hr.mono (by decide)) (w_glo_latest_news W) (ga_cons (ge_loc 2) (ga_cons (ge_loc 15) (ga_cons (ge_loc 17) (ga_nil))))) (ga_nil))))) (ga_cons (ge_tup (ga_cons (ge_loc 20) (ga_cons (ge_loc 18) (ga_cons (ge_loc 19) (ga_nil))))) (ga_nil)))))) (gs_one (gs_ret (ge_bl))) (gs_nil)) (gs_one (gs_set (i := 16) hN (ge_bin (addS (c := false)) op_addG (ge_loc 16) (ge_if (gt_cmp isS op_isG (ge_loc 18) (ge_non)) (ge_lst false (ga_cons (ge_loc 17) (ga_nil))) (ge_lst false (ga_nil))))))))) (passes_of rfl) rfl) (gs_one (gs_if (gt_not (gt_tru (gc (ok_z_law_same W) (hr.mono (by decide)) (w_glo__law_same W) (ga_cons (gc (ok_starved_links W) (hr.mono (by decide)) (w_glo_starved_links W) (ga_cons (ge_loc 2) (ga_cons (ge_loc 15) (ga_nil)))) (ga_cons (ge_callTy tupleS call_tuple_of rfl (w_free_tuple W) PyProof.Rows.boot_tuple (ga_cons (ge_loc 16) (ga_nil))) (ga_nil)))))) (gs_one (gs_ret (ge_bl))) (gs_nil))))) (passes_of rfl) rfl) (gs_one (gs_ret (ge_bl)))))))))))))
end L37
namespace L37
open PySem L2 G
/-- what is_number tells -/
def isNum : D → Int → Int → Bool
  | .int i, lo, hi => decide (lo ≤ i) && decide (i ≤ hi)
  | _, _, _ => false
theorem subTy_self (t : String) : subTy t t = true := by simp [subTy]
theorem num_int (i lo hi : Int) (M : Mem) : F_is_number [.int i, .int lo, .int hi] M = .ok (.bl (decide (lo ≤ i) && decide (i ≤ hi))) M := by
  refine pureF_ok (M' := []) rfl ?_ (frzD_noRef rfl)
  unfold runB S_is_number
  simp [sRet, eAnd, eCB, aCons, aNil, eLoc, eC, eNot, eChain, leD, cmpI, isiD, tyName, subTy]
  by_cases h : lo ≤ i <;> simp [h]
theorem num_no (d : D) (lo hi : Int) (M : Mem) (hn : noRef d = true) (t : String) (ht : tyName [] d = some t) (h : t ≠ "int") : F_is_number [d, .int lo, .int hi] M = .ok (.bl false) M := by
  refine pureF_ok (M' := []) (by simp [noRefs, hn, noRef]) ?_ (frzD_noRef rfl)
  have e1 := isi_of (M := []) (d := d) (n := "int") ht (by decide)
  have e2 := isi_of (M := []) (d := d) (n := "bool") ht (by decide)
  unfold runB S_is_number
  by_cases hb : t = "bool"
  · subst hb
    simp [sRet, eAnd, eCB, aCons, aNil, eLoc, eC, eNot, e1, e2, subTy]
  · have h1 : (t == "int") = false := by simpa using h
    have h2 : (t == "bool") = false := by simpa using hb
    simp [sRet, eAnd, eCB, aCons, aNil, eLoc, eC, eNot, e1, e2, subTy, h1, h2]
/-- data without cells, of a type that is asked for -/
def plain (d : D) : Bool := noRef d && (tyName [] d).isSome
theorem num_ev {d : D} (lo hi : Int) (M : Mem) (h : plain d = true) : F_is_number [d, .int lo, .int hi] M = .ok (.bl (isNum d lo hi)) M := by
  unfold plain at h
  simp only [Bool.and_eq_true] at h
  obtain ⟨hn, ht⟩ := h
  obtain ⟨t, ht⟩ := Option.isSome_iff_exists.mp ht
  by_cases hi' : ∃ i, d = .int i
  · obtain ⟨i, rfl⟩ := hi'
    exact num_int i lo hi M
  · have h1 : t ≠ "int" := by
      intro e
      subst e
      cases d <;> first | exact hi' ⟨_, rfl⟩ | (revert ht; simp [tyName]) 
    have h2 : isNum d lo hi = false := by
      cases d <;> first | exact absurd ⟨_, rfl⟩ hi' | rfl
    rw [h2]
    exact num_no d lo hi M hn t ht h1
def isFate : D → Bool
  | .tup xs => decide (xs.length ≤ 4) && xs.all fun x => isNum x 1 100
  | _ => false
theorem plain_noRef {d : D} (h : plain d = true) : noRef d = true := by
  unfold plain at h
  simp only [Bool.and_eq_true] at h
  exact h.1
theorem noRefs_plain {xs : List D} (h : ∀ x, x ∈ xs → plain x = true) : noRefs xs = true := by
  rw [noRefs_all, List.all_eq_true]
  exact fun x m => plain_noRef (h x m)
theorem fate_tup (xs : List D) (M : Mem) (h : ∀ x, x ∈ xs → plain x = true) (hl : xs.length ≤ 1000000) : F_is_fate [.tup xs] M = .ok (.bl (isFate (.tup xs))) M := by
  refine pureF_ok (M' := []) (by simp [noRefs, noRef, noRefs_plain h]) ?_ (frzD_noRef rfl)
  unfold runB S_is_fate
  by_cases h4 : xs.length ≤ 4
  · have h5 : ¬ (4 : Int) < (xs.length : Int) := by omega
    have e := lc_map (c := false) (i := iSeqG (eLoc 0)) (b := bName 1) (te := eCall F_is_number (aCons (eLoc 1) (aCons (eC (.int (1))) (aCons (eC (.int (100))) aNil)))) (vs := [1]) (ρ := [some (.tup xs), none]) (M := []) (M1 := []) (it := ⟨[], xs⟩) (fun x => [some (.tup xs), some x]) (fun x => .bl (isNum x 1 100))
      rfl (srcOk_none _ _) (fun x m => rfl) (fun x m => by simp [eCall, aCons, aNil, eLoc, eC, num_ev 1 100 [] (h x m)]) hl
    simp [sSeq, sIf, sRet, sNil, tOrG, tNotG, tTru, tOf, eCB, aCons, aNil, eLoc, eC, eBin, isiD, tyName, subTy, truth, lenD, len1, seqOf, gtD, cmpI, h5, h4]
    rw [e]
    simp [allD_map, isFate, h4]
  · have h5 : (4 : Int) < (xs.length : Int) := by omega
    simp [sSeq, sIf, sRet, sNil, tOrG, tNotG, tTru, tOf, eCB, aCons, aNil, eLoc, eC, eBin, isiD, tyName, subTy, truth, lenD, len1, seqOf, gtD, cmpI, h5, h4, isFate]
theorem fate_no (d : D) (M : Mem) (hp : plain d = true) (h : ∀ xs, d ≠ .tup xs) : F_is_fate [d] M = .ok (.bl (isFate d)) M := by
  have hq := hp
  unfold plain at hp
  simp only [Bool.and_eq_true] at hp
  obtain ⟨hn, ht⟩ := hp
  obtain ⟨t, ht⟩ := Option.isSome_iff_exists.mp ht
  have h1 : (t == "tuple") = false := by
    cases d <;> first | exact absurd rfl (h _) | (simp [tyName] at ht; subst ht; rfl) | (simp [tyName] at ht)
  have e1 := isi_of (M := []) (d := d) (n := "tuple") ht (by decide)
  have e2 : isFate d = false := by
    cases d <;> first | exact absurd rfl (h _) | rfl
  refine pureF_ok (M' := []) (by simp [noRefs, hn, noRef]) ?_ (frzD_noRef rfl)
  unfold runB S_is_fate
  have e3 : (subTy t "tuple") = false := by simp [subTy, h1]
  rw [e3] at e1
  simp [sSeq, sIf, sRet, sNil, tOrG, tNotG, tTru, eCB, aCons, aNil, eLoc, eC, e1, truth, e2]
/-- data of which is_fate, is_script may be asked -/
def plainT : D → Bool
  | .tup xs => noRefs xs && (decide (xs.length ≤ 1000000) && xs.all plain)
  | d => plain d
theorem plainT_noRef {d : D} (h : plainT d = true) : noRef d = true := by
  by_cases ht : ∃ xs, d = .tup xs
  · obtain ⟨xs, rfl⟩ := ht
    simp only [plainT, Bool.and_eq_true] at h
    exact h.1
  · refine plain_noRef ?_
    cases d <;> first | exact h | exact absurd ⟨_, rfl⟩ ht
theorem fate_ev {d : D} (M : Mem) (h : plainT d = true) : F_is_fate [d] M = .ok (.bl (isFate d)) M := by
  by_cases ht : ∃ xs, d = .tup xs
  · obtain ⟨xs, rfl⟩ := ht
    simp only [plainT, Bool.and_eq_true, decide_eq_true_eq, List.all_eq_true] at h
    exact fate_tup xs M h.2.2 h.2.1
  · refine fate_no d M ?_ fun xs e => ht ⟨xs, e⟩
    cases d <;> first | exact h | exact absurd ⟨_, rfl⟩ ht
def isScript : D → Bool
  | .tup xs => decide (1 ≤ xs.length) && (decide (xs.length ≤ 64) && xs.all isFate)
  | _ => false
theorem script_ev (d : D) (M : Mem) (hp : plain d = true) (h : ∀ xs, d = .tup xs → xs.length ≤ 1000000 ∧ ∀ x, x ∈ xs → plainT x = true) : F_is_script [d] M = .ok (.bl (isScript d)) M := by
  by_cases ht : ∃ xs, d = .tup xs
  · obtain ⟨xs, rfl⟩ := ht
    obtain ⟨hl, hx⟩ := h xs rfl
    refine pureF_ok (M' := []) (by simp [noRefs, plain_noRef hp]) ?_ (frzD_noRef rfl)
    unfold runB S_is_script
    have e := lc_map (c := false) (i := iSeqG (eLoc 0)) (b := bName 1) (te := eCall F_is_fate (aCons (eLoc 1) aNil)) (vs := [1]) (ρ := [some (.tup xs), none]) (M := []) (M1 := []) (it := ⟨[], xs⟩) (fun x => [some (.tup xs), some x]) (fun x => .bl (isFate x))
      rfl (srcOk_none _ _) (fun x m => rfl) (fun x m => by simp [eCall, aCons, aNil, eLoc, fate_ev [] (hx x m)]) hl
    by_cases h1 : 1 ≤ xs.length
    · by_cases h2 : xs.length ≤ 64
      · have h3 : (1 : Int) ≤ (xs.length : Int) := by omega
        have h4 : (xs.length : Int) ≤ 64 := by omega
        simp [sRet, eAnd, eCB, aCons, aNil, eLoc, eC, eChain, leD, cmpI, isiD, tyName, subTy, lenD, len1, seqOf, h3, h4]
        rw [e]
        simp [allD_map, isScript, h1, h2]
      · have h3 : (1 : Int) ≤ (xs.length : Int) := by omega
        have h4 : ¬ (xs.length : Int) ≤ 64 := by omega
        simp [sRet, eAnd, eCB, aCons, aNil, eLoc, eC, eChain, leD, cmpI, isiD, tyName, subTy, lenD, len1, seqOf, h3, h4, isScript, h1, h2]
    · have h3 : ¬ (1 : Int) ≤ (xs.length : Int) := by omega
      simp [sRet, eAnd, eCB, aCons, aNil, eLoc, eC, eChain, leD, cmpI, isiD, tyName, subTy, lenD, len1, seqOf, h3, isScript, h1]
  · have hq := hp
    unfold plain at hp
    simp only [Bool.and_eq_true] at hp
    obtain ⟨hn, ht'⟩ := hp
    obtain ⟨t, ht'⟩ := Option.isSome_iff_exists.mp ht'
    have h1 : (t == "tuple") = false := by
      cases d <;> first | exact absurd ⟨_, rfl⟩ ht | (simp [tyName] at ht'; subst ht'; rfl) | (simp [tyName] at ht')
    have e1 := isi_of (M := []) (d := d) (n := "tuple") ht' (by decide)
    have e2 : isScript d = false := by
      cases d <;> first | exact absurd ⟨_, rfl⟩ ht | rfl
    refine pureF_ok (M' := []) (by simp [noRefs, hn, noRef]) ?_ (frzD_noRef rfl)
    unfold runB S_is_script
    have e3 : (subTy t "tuple") = false := by simp [subTy, h1]
    rw [e3] at e1
    simp [sRet, eAnd, eCB, aCons, aNil, eLoc, eC, e1, e2]
end L37
namespace L37
open PySem L2 G
abbrev iT (f : List Int) : D := .tup (f.map D.int)
abbrev scr (S : List (List Int)) : D := .tup (S.map iT)
@[simp] theorem noRefs_ints (f : List Int) : noRefs (f.map D.int) = true := by
  rw [noRefs_all]; simp [noRef]
@[simp] theorem noRef_iT (f : List Int) : noRef (iT f) = true := by simp [noRef]
@[simp] theorem noRefs_iTs (S : List (List Int)) : noRefs (S.map iT) = true := by
  rw [noRefs_all]; simp [noRef]
@[simp] theorem noRef_scr (S : List (List Int)) : noRef (scr S) = true := by simp [noRef]
@[simp] theorem noRef_int (i : Int) : noRef (.int i) = true := rfl
@[simp] theorem noRef_bl (i : Bool) : noRef (.bl i) = true := rfl
@[simp] theorem noRef_non : noRef .non = true := rfl
@[simp] theorem noRefs_nil : noRefs [] = true := rfl
@[simp] theorem noRefs_cons (x : D) (xs : List D) : noRefs (x :: xs) = (noRef x && noRefs xs) := rfl
/-- the fate of the n-th message -/
def ft (S : List (List Int)) (n : Nat) : List Int := S.getD (n % S.length) []
theorem ft_get {S : List (List Int)} (hS : S ≠ []) (n : Nat) : S[n % S.length]? = some (ft S n) := by
  have h : n % S.length < S.length := Nat.mod_lt _ (List.length_pos_iff.mpr hS)
  unfold ft
  rw [List.getD_eq_getElem?_getD, List.getElem?_eq_getElem h]; rfl
theorem fate_of_ev {S : List (List Int)} (hS : S ≠ []) (n : Nat) (M : Mem) : F_fate_of [scr S, .int (n : Int)] M = .ok (iT (ft S n)) M := by
  have h0 : 0 < S.length := List.length_pos_iff.mpr hS
  refine pureF_ok (M' := []) (by simp) ?_ (frzD_noRef (by simp))
  have e : atI (S.map iT) ((n % S.length : Nat) : Int) = some (iT (ft S n)) := atI_nat (by rw [List.getElem?_map, ft_get hS]; rfl)
  have h1 : (0 : Int) < (S.length : Int) := by omega
  have e3 : modD (.int (n : Int)) (.int (S.length : Int)) [] = .ok (.int ((n % S.length : Nat) : Int)) [] := by rw [modD_ev h1]; simp
  have e4 : ixD (scr S) (.int ((n % S.length : Nat) : Int)) [] = .ok (iT (ft S n)) [] := by rw [ixD_tup, e]; rfl
  unfold runB S_fate_of
  simp only [sRet, eBin, eLoc, eCB, aCons, aNil, lenD_tup, List.length_map, List.length_cons, List.length_nil, List.map_cons, List.map_nil, List.cons_append, List.nil_append, List.replicate, List.getElem?_cons_zero, List.getElem?_cons_succ, Res.bind_ok, e3, e4, Res.out_ok]
  rfl
theorem gcd_ev (a b : Nat) (M : Mem) : F_greatest_common [.int (a : Int), .int (b : Int)] M = .ok (.int (Nat.gcd a b : Nat)) M := by
  refine pureF_ok (M' := []) (by simp) ?_ (frzD_noRef (by simp))
  have key := while_inv (c := tTru (eLoc 1)) (b := sPar 0 1 (aCons (eLoc 1) (aCons (eBin modD (eLoc 0) (eLoc 1)) aNil)))
    (fun ρ M => ∃ x y : Nat, ρ = [some (.int (x : Int)), some (.int (y : Int))] ∧ M = [] ∧ Nat.gcd x y = Nat.gcd a b)
    (fun ρ M => match ρ with | [_, some (.int y)] => y.toNat | _ => 0) (fun ρ M => M = [] ∧ ∃ o, ρ = [some (.int (Nat.gcd a b : Nat)), o]) (fun ρ M h => by
      obtain ⟨x, y, rfl, rfl, hg⟩ := h
      by_cases hy : y = 0
      · subst hy
        exact .inl ⟨[], by simp [tTru, eLoc, truth], rfl, _, by rw [← hg]; simp; rfl⟩
      · refine .inr ⟨[], [some (.int (y : Int)), some (.int ((x % y : Nat) : Int))], [], by simp [tTru, eLoc, truth, hy], .inl ?_, ⟨y, x % y, rfl, rfl, ?_⟩, ?_⟩
        · have h1 : (0 : Int) < (y : Int) := by omega
          have h2 : 0 < y := Nat.pos_of_ne_zero hy
          simp [sPar, aCons, aNil, eLoc, eBin, modD, numOp, h2]
        · rw [← hg, Nat.gcd_comm x y, Nat.gcd_rec y x, Nat.gcd_comm]
        · have := Nat.mod_lt x (Nat.pos_of_ne_zero hy)
          simp; omega) [some (.int (a : Int)), some (.int (b : Int))] [] ⟨a, b, rfl, rfl, rfl⟩
  obtain ⟨ρ', M', e, rfl, o, rfl⟩ := key
  unfold runB S_greatest_common
  simp only [List.length_cons, List.length_nil, List.map_cons, List.map_nil, sSeq]
  show (match (match sWhile _ _ ([some (.int (a : Int)), some (.int (b : Int))] ++ []) [] with
    | .nx ρ' M' => _
    | o => o) with
    | .nx _ M' => _
    | .ret d M' => _
    | .exc C fs M' => _
    | _ => _) = _
  rw [List.append_nil, e]
  simp [sRet, eLoc]
end L37
namespace L37
open PySem L2 G
/-- the fates met -/
def metL (n many link : Nat) : List Nat := (List.range n).filter fun k => decide (k % Nat.gcd n many = link % Nat.gcd n many)
theorem noRef_natL (l : List Nat) : noRefs (l.map fun k : Nat => D.int (k : Int)) = true := by rw [noRefs_all]; simp [noRef]
theorem modD_nat {M : Mem} {a b : Nat} (h : 0 < b) : modD (.int (a : Int)) (.int (b : Int)) M = .ok (.int ((a % b : Nat) : Int)) M := by
  rw [modD_ev (by omega)]; simp
theorem eqD_nat {M : Mem} {a b : Nat} : eqD (.int (a : Int)) (.int (b : Int)) M = .ok (.bl (decide (a = b))) M := by
  rw [eqD_int]
  by_cases h : a = b
  · simp [h]
  · have : ¬ (a : Int) = (b : Int) := by omega
    simp [h, this]
theorem met_ev {S : List (List Int)} (hS : S ≠ []) (hl : S.length ≤ 1000) (many link : Nat) (M : Mem) : F_fates_met [scr S, .int (many : Int), .int (link : Int)] M = .ok (.lst ((metL S.length many link).map fun k : Nat => .int (k : Int))) M := by
  have h0 : 0 < S.length := List.length_pos_iff.mpr hS
  have hg : 0 < Nat.gcd S.length many := Nat.gcd_pos_of_pos_left _ h0
  refine pureF_ok (M' := []) (by simp) ?_ (frzD_noRef (by show noRefs _ = true; exact noRef_natL _))
  have e := lc_rangeF (c := false) (M := []) (M1 := []) (e := eCB lenD (aCons (eLoc 0) aNil)) (b := 4) (tt := tOf (eBin eqD (eBin modD (eLoc 4) (eLoc 3)) (eBin modD (eLoc 2) (eLoc 3)))) (te := eLoc 4) (vs := [4])
    (ρ := [some (scr S), some (.int (many : Int)), some (.int (link : Int)), some (.int (Nat.gcd S.length many : Nat)), none]) (n := S.length) (fun k => decide (k % Nat.gcd S.length many = link % Nat.gcd S.length many)) (fun k => .int (k : Int))
    (by simp [eCB, aCons, aNil, eLoc, lenD_tup]) (by omega)
    (fun k hk => of_ev (bin_ev (bin_ev (loc_ev rfl) (loc_ev rfl) (modD_nat hg)) (bin_ev (loc_ev rfl) (loc_ev rfl) (modD_nat hg)) eqD_nat)) (fun k hk _ => by simp [eLoc, wipeG])
  refine runB_ret rfl (seq_nx (set_ev (call_ev (cons_ev (cb_ev (cons_ev (loc_ev rfl) rfl) (lenD_tup _)) (cons_ev (loc_ev rfl) rfl)) ?_)) (ret_ev e))
  rw [List.length_map]
  exact gcd_ev _ _ _
end L37
namespace L37
open PySem L2 G
theorem pyAll_ints (f : List Int) : pyAll (f.map D.int) = some (f.map PyData.int) := by
  induction f with
  | nil => rfl
  | cons x f ih => simp [pyAll, pyOf, ih]
theorem depth_ints (f : List Int) : PyData.depthAll (f.map PyData.int) = 0 := by
  induction f with
  | nil => rfl
  | cons x f ih => simp [PyData.depthAll, PyData.depth, ih]
theorem eqD_nil {M : Mem} (f : List Int) : eqD (iT f) (.tup []) M = .ok (.bl (decide (f = []))) M := by
  have e1 : pyOf (vw M (iT f)) = some (.tuple (f.map PyData.int)) := by
    show pyOf (iT f) = _
    simp [pyOf, pyAll_ints]
  have e2 : pyOf (vw M (.tup [])) = some (.tuple []) := rfl
  have e3 : eqP M (iT f) (.tup []) = some (decide (f = [])) := by
    unfold eqP
    rw [e1, e2]
    have hd : (PyData.tuple (f.map PyData.int)).depth = 1 := by show PyData.depthAll _ + 1 = 1; rw [depth_ints]
    simp only [hd]
    rw [if_pos (by show min 1 _ ≤ 60; omega)]
    congr 1
    cases f <;> simp [PyData.eqv, PyData.eqvAll]
  unfold eqD
  rw [e3]; rfl
theorem tup0_ev {ρ : Slots} {M : Mem} : eTup aNil ρ M = .ok (.tup []) M := rfl
/-- no copy comes by any fate met -/
def starvedB (S : List (List Int)) (many link : Nat) : Bool := (metL S.length many link).all fun k => decide (S.getD k [] = [])
theorem mem_metL {n many link k : Nat} (h : k ∈ metL n many link) : k < n := by
  unfold metL at h
  exact List.mem_range.mp (List.mem_filter.mp h).1
theorem script_at {S : List (List Int)} {k : Nat} (h : k < S.length) : atI (S.map iT) (k : Int) = some (iT (S.getD k [])) := atI_nat (by
  rw [List.getElem?_map, List.getD_eq_getElem?_getD, List.getElem?_eq_getElem h]; rfl)
theorem metL_length (n many link : Nat) : (metL n many link).length ≤ n := by
  unfold metL
  have := List.length_filter_le (fun k => decide (k % Nat.gcd n many = link % Nat.gcd n many)) (List.range n)
  simpa using this
theorem set_getE {α : Type} {a b : α} : [a].set 0 b = [b] := rfl
theorem starved_ev {S : List (List Int)} (hS : S ≠ []) (hl : S.length ≤ 1000) (many : Nat) (hm : many ≤ 1000) (M : Mem) : F_starved_links [scr S, .int (many : Int)] M = .ok (.tup (((List.range many).filter (starvedB S many)).map fun k : Nat => .int (k : Int))) M := by
  refine pure_ex (by simp) ?_ (by show noRefs _ = true; exact noRef_natL _)
  have key := range_inv (b := 3) (ρ := [some (scr S), some (.int (many : Int)), some (.ref 0), none, none]) (M := [.lst []]) (M1 := [.lst []]) (e := eLoc 1) (n := many)
    (body := sIf (tTru (eCB allD (aCons (eLc false (iSeqG (eCall F_fates_met (aCons (eLoc 0) (aCons (eLoc 1) (aCons (eLoc 3) (aNil)))))) (bName 4) (tYesG) (eBin eqD (eBin ixD (eLoc 0) (eLoc 4)) (eTup (aNil))) [4]) (aNil)))) (sExpr (eMt isLst appendD (eLoc 2) (aCons (eLoc 3) (aNil)))) sNil)
    (fun k ρ M => (∃ o, ρ = [some (scr S), some (.int (many : Int)), some (.ref 0), o, none]) ∧ M = [.lst (((List.range k).filter (starvedB S many)).map fun k : Nat => D.int (k : Int))]) (loc_ev rfl) (by omega) ⟨⟨_, rfl⟩, rfl⟩
    (fun k ρ M hk hI => by
      obtain ⟨⟨o, rfl⟩, rfl⟩ := hI
      have e := lc_map (c := false) (i := iSeqG (eCall F_fates_met (aCons (eLoc 0) (aCons (eLoc 1) (aCons (eLoc 3) aNil))))) (b := bName 4) (te := eBin eqD (eBin ixD (eLoc 0) (eLoc 4)) (eTup aNil)) (vs := [4])
        (ρ := [some (scr S), some (.int (many : Int)), some (.ref 0), some (.int (k : Int)), none]) (M := [.lst (((List.range k).filter (starvedB S many)).map fun k : Nat => D.int (k : Int))]) (M1 := [.lst (((List.range k).filter (starvedB S many)).map fun k : Nat => D.int (k : Int))])
        (it := ⟨[], (metL S.length many k).map fun k : Nat => D.int (k : Int)⟩) (fun x => [some (scr S), some (.int (many : Int)), some (.ref 0), some (.int (k : Int)), some x]) (fun x => match x with | .int j => .bl (decide (S.getD j.toNat [] = [])) | _ => .non)
        (by
          unfold iSeqG
          rw [call_ev (cons_ev (loc_ev rfl) (cons_ev (loc_ev rfl) (cons_ev (loc_ev rfl) rfl))) (met_ev hS hl many k _)]
          rfl) (srcOk_none _ _) (fun x m => rfl) (fun x m => by
          obtain ⟨j, hj, rfl⟩ := List.mem_map.mp m
          have hj := mem_metL hj
          refine bin_ev (bin_ev (loc_ev rfl) (loc_ev rfl) (by rw [ixD_tup, script_at hj]; rfl)) tup0_ev ?_
          rw [eqD_nil]
          simp) (by rw [List.length_map]; have := metL_length S.length many k; omega)
      have hb : allD [.lst (((metL S.length many k).map fun k : Nat => D.int (k : Int)).map fun x => match x with | .int j => .bl (decide (S.getD j.toNat [] = [])) | _ => .non)] [.lst (((List.range k).filter (starvedB S many)).map fun k : Nat => D.int (k : Int))] = .ok (.bl (starvedB S many k)) [.lst (((List.range k).filter (starvedB S many)).map fun k : Nat => D.int (k : Int))] := by
        rw [List.map_map]
        exact allD_map (fun j => decide (S.getD j [] = [])) _
      have ht : tTru (eCB allD (aCons (eLc false (iSeqG (eCall F_fates_met (aCons (eLoc 0) (aCons (eLoc 1) (aCons (eLoc 3) aNil))))) (bName 4) tYesG (eBin eqD (eBin ixD (eLoc 0) (eLoc 4)) (eTup aNil)) [4]) aNil)) [some (scr S), some (.int (many : Int)), some (.ref 0), some (.int (k : Int)), none] [.lst (((List.range k).filter (starvedB S many)).map fun k : Nat => D.int (k : Int))] = .ok (starvedB S many k) [.lst (((List.range k).filter (starvedB S many)).map fun k : Nat => D.int (k : Int))] :=
        tru_ev (cb_ev (cons_ev e rfl) hb) rfl
      by_cases hs : starvedB S many k = true
      · refine ⟨_, _, .inl (if_t (by rw [hs] at ht; exact ht) (expr_ev (mt_ev (loc_ev rfl) (isLst_ref rfl) (cons_ev (loc_ev rfl) rfl) (append_ref rfl ?_)))), ⟨_, rfl⟩, ?_⟩
        · rw [List.length_map]
          have := List.length_filter_le (starvedB S many) (List.range k)
          simp at this
          omega
        · rw [List.range_succ, List.filter_append, List.map_append]
          simp [List.filter_cons, hs]
      · have hs : starvedB S many k = false := by simpa using hs
        refine ⟨_, _, .inl (if_f (by rw [hs] at ht; exact ht) rfl), ⟨_, rfl⟩, ?_⟩
        rw [List.range_succ, List.filter_append, List.map_append]
        simp [List.filter_cons, hs])
  obtain ⟨ρ', M', h1, ⟨o, rfl⟩, rfl⟩ := key
  exact ⟨_, runB_ret rfl (seq_nx (set_ev rfl) (seq_nx h1 (ret_ev (cb_ev (cons_ev (loc_ev rfl) rfl) (tupleD_ref rfl)))))⟩
end L37
namespace L37
open PySem L2 G
/-- best, run behind one more -/
def runStep (p : Nat × Nat) (g : Bool) : Nat × Nat := (max p.1 (if g then p.2 + 1 else 0), if g then p.2 + 1 else 0)
def lostB (S : List (List Int)) (many link k : Nat) : Bool := decide (ft S (link + many * k) = [])
def silL (S : List (List Int)) (many link n : Nat) : List Bool := (List.range n).map (lostB S many link)
def silence (S : List (List Int)) (many link n : Nat) : Nat := ((silL S many link n).foldl runStep (0, 0)).1
theorem mulD_nat {c : Bool} {M : Mem} {a b : Nat} (h : a < 2 ^ 64) : mulD c (.int (a : Int)) (.int (b : Int)) M = .ok (.int ((a * b : Nat) : Int)) M := by
  rw [mulD_int (okMul_l ⟨by omega, by have : (a : Int) < (2 ^ 64 : Nat) := by exact_mod_cast h
                                      simpa using this⟩)]
  simp
theorem addD_nat {c : Bool} {M : Mem} {a b : Nat} : addD c (.int (a : Int)) (.int (b : Int)) M = .ok (.int ((a + b : Nat) : Int)) M := by
  rw [addD_int]; simp
theorem max2_nat {M : Mem} {a b : Nat} : max2D [.int (a : Int), .int (b : Int)] M = .ok (.int ((max a b : Nat) : Int)) M := by
  rw [max2_int]
  congr 2
  omega
theorem runs_for {body : Sv} {e : Ev} {ρ : Slots} {M : Mem} {l : List Bool} {f : Bool → D} (I : Nat × Nat → Slots → Prop) (he : e ρ M = .ok (.lst (l.map f)) M) (h0 : I (0, 0) ρ) {b : Nat}
    (hstep : ∀ p g ρ, I p ρ → ∃ ρ', body (ρ.set b (some (f g))) M = .nx ρ' M ∧ I (runStep p g) ρ') : ∃ ρ', sFor (iSeqG e) (bName b) body ρ M = .nx ρ' M ∧ I (l.foldl runStep (0, 0)) ρ' := by
  obtain ⟨ρ', M', h1, h2, h3⟩ := for_inv (i := iSeqG e) (b := bName b) (body := body) (ρ := ρ) (M := M) (M1 := M) (it := ⟨[], l.map f⟩) (fun k ρ M' => M' = M ∧ I ((l.take k).foldl runStep (0, 0)) ρ) (by
      unfold iSeqG
      rw [he]
      rfl) ⟨rfl, by simpa using h0⟩ (fun k ρ1 M1 x hI hx => by
      obtain ⟨rfl, hI⟩ := hI
      have hx : (l.map f)[k]? = some x := hx
      rw [List.getElem?_map] at hx
      cases hg : l[k]? with
      | none => rw [hg] at hx; cases hx
      | some g =>
        rw [hg] at hx
        cases hx
        obtain ⟨ρ', e1, e2⟩ := hstep _ g ρ1 hI
        refine ⟨_, rfl, ρ', _, .inl e1, rfl, ?_⟩
        rw [List.take_add_one, hg, List.foldl_append]
        exact e2) (fun k ρ M _ => srcOk_none _ _)
  subst h2
  refine ⟨ρ', h1, ?_⟩
  simpa using h3
theorem silence_ev {S : List (List Int)} (hS : S ≠ []) (hl : S.length ≤ 1000) (many link : Nat) (hm : many ≤ 1000) (M : Mem) :
    F_longest_silence [scr S, .int (many : Int), .int (link : Int)] M = .ok (if (silL S many link (2 * S.length)).all id = true then .non else .int (silence S many link (2 * S.length) : Nat)) M := by
  have e := lc_range (c := false) (M := []) (M1 := []) (e := eBin (mulD false) (eC (.int 2)) (eCB lenD (aCons (eLoc 0) aNil))) (b := 7) (te := eBin eqD (eCall F_fate_of (aCons (eLoc 0) (aCons (eBin (addD false) (eLoc 2) (eBin (mulD false) (eLoc 1) (eLoc 7))) aNil))) (eTup aNil)) (vs := [7])
    (ρ := [some (scr S), some (.int (many : Int)), some (.int (link : Int)), none, none, none, none, none]) (n := 2 * S.length) (fun k => .bl (lostB S many link k))
    (bin_ev rfl (cb_ev (cons_ev (loc_ev rfl) rfl) (lenD_tup _)) (by rw [List.length_map]; exact mulD_nat (a := 2) (by decide))) (by omega)
    (fun k hk => bin_ev (call_ev (cons_ev (loc_ev rfl) (cons_ev (bin_ev (loc_ev rfl) (bin_ev (loc_ev rfl) (loc_ev rfl) (mulD_nat (by omega))) addD_nat) rfl)) (fate_of_ev hS _ _)) tup0_ev (eqD_nil _))
  have hsil : ((List.range (2 * S.length)).map fun k => D.bl (lostB S many link k)) = (silL S many link (2 * S.length)).map D.bl := by
    unfold silL; rw [List.map_map]; rfl
  rw [hsil] at e
  have hall : allD [.lst ((silL S many link (2 * S.length)).map D.bl)] [] = .ok (.bl ((silL S many link (2 * S.length)).all id)) [] := allD_map id _
  refine pure_ex (by simp) ?_ (by split <;> rfl)
  by_cases ha : (silL S many link (2 * S.length)).all id = true
  · rw [if_pos ha]
    rw [ha] at hall
    exact ⟨_, runB_ret rfl (seq_nx (set_ev e) (seq_ret (if_t (tru_ev (cb_ev (cons_ev (loc_ev rfl) rfl) hall) rfl) (ret_ev rfl))))⟩
  · rw [if_neg ha]
    have ha : (silL S many link (2 * S.length)).all id = false := by simpa using ha
    rw [ha] at hall
    obtain ⟨ρ', h1, o, rfl⟩ := runs_for (b := 6) (e := eLoc 3) (f := D.bl) (M := []) (l := silL S many link (2 * S.length)) (body := sSeq (sSet 5 (eIf (tTru (eLoc 6)) (eBin (addD false) (eLoc 5) (eC (.int (1)))) (eC (.int (0))))) (sSet 4 (eCB max2D (aCons (eLoc 4) (aCons (eLoc 5) (aNil))))))
      (ρ := [some (scr S), some (.int (many : Int)), some (.int (link : Int)), some (.lst ((silL S many link (2 * S.length)).map D.bl)), some (.int ((0 : Nat) : Int)), some (.int ((0 : Nat) : Int)), none, none])
      (fun p ρ => ∃ o, ρ = [some (scr S), some (.int (many : Int)), some (.int (link : Int)), some (.lst ((silL S many link (2 * S.length)).map D.bl)), some (.int (p.1 : Nat)), some (.int (p.2 : Nat)), o, none]) (loc_ev rfl) ⟨_, rfl⟩ (fun p g ρ hI => by
        obtain ⟨o, rfl⟩ := hI
        refine ⟨_, seq_nx (set_ev (d := .int ((if g then p.2 + 1 else 0 : Nat) : Int)) (M1 := []) ?_) (set_ev (cb_ev (cons_ev (loc_ev rfl) (cons_ev (loc_ev rfl) rfl)) max2_nat)), _, rfl⟩
        cases g with
        | true => exact addD_nat (c := false) (M := []) (a := p.2) (b := 1)
        | false => rfl)
    exact ⟨_, runB_ret rfl (seq_nx (set_ev e) (seq_nx (if_f (tru_ev (cb_ev (cons_ev (loc_ev rfl) rfl) hall) rfl) rfl) (seq_nx (asgm_ev rfl rfl) (seq_nx h1 (ret_ev (loc_ev rfl))))))⟩
end L37
namespace L37
open PySem L2 G
/-- a script by the rules -/
structure OkS (S : List (List Int)) : Prop where
  ne : S ≠ []
  le : S.length ≤ 64
  few : ∀ f, f ∈ S → f.length ≤ 4
  rng : ∀ f, f ∈ S → ∀ d, d ∈ f → 1 ≤ d ∧ d ≤ 100
theorem ft_mem {S : List (List Int)} (h : S ≠ []) (n : Nat) : ft S n ∈ S := List.mem_of_getElem? (ft_get h n)
/-- the waits from begin on, of k messages -/
def waits (S : List (List Int)) (many link begin k : Nat) : List Int := (List.range k).flatMap fun j => (ft S (link + many * (begin + j))).map fun d => (j : Int) + d
theorem waits_succ (S : List (List Int)) (many link begin k : Nat) : waits S many link begin (k + 1) = waits S many link begin k ++ (ft S (link + many * (begin + k))).map fun d => (k : Int) + d := by
  unfold waits
  rw [List.range_succ, List.flatMap_append]
  simp
theorem waits_length {S : List (List Int)} (h : OkS S) (many link begin : Nat) : ∀ k, (waits S many link begin k).length ≤ 4 * k
  | 0 => by simp [waits]
  | k + 1 => by
    rw [waits_succ, List.length_append, List.length_map]
    have := waits_length h many link begin k
    have := h.few _ (ft_mem h.ne (link + many * (begin + k)))
    omega
theorem ft_congr {S : List (List Int)} {a b : Nat} (h : a % S.length = b % S.length) : ft S a = ft S b := by unfold ft; rw [h]
theorem lost_period {S : List (List Int)} (many link : Nat) {k k' : Nat} (h : k % S.length = k' % S.length) : lostB S many link k = lostB S many link k' := by
  unfold lostB
  rw [ft_congr]
  rw [Nat.add_mod, Nat.mul_mod, h, ← Nat.mul_mod, ← Nat.add_mod]
/-- not all are lost: from any begin on one of n comes -/
theorem some_comes {S : List (List Int)} (hS : S ≠ []) {many link m : Nat} (h : ¬ (silL S many link m).all id = true) (begin : Nat) : ∃ j, j < S.length ∧ ft S (link + many * (begin + j)) ≠ [] := by
  have h0 : 0 < S.length := List.length_pos_iff.mpr hS
  have : ∃ k, k < m ∧ lostB S many link k = false := by
    refine Classical.byContradiction fun z => h ?_
    unfold silL
    rw [List.all_map, List.all_eq_true]
    intro k hk
    have hk := List.mem_range.mp hk
    show lostB S many link k = true
    cases q : lostB S many link k with
    | true => rfl
    | false => exact absurd ⟨k, hk, q⟩ z
  obtain ⟨k, hk, hl⟩ := this
  let j := (k % S.length + S.length - begin % S.length) % S.length
  have hj : (begin + j) % S.length = k % S.length := by
    have h1 : begin % S.length < S.length := Nat.mod_lt _ h0
    show (begin + (k % S.length + S.length - begin % S.length) % S.length) % S.length = _
    rw [Nat.add_mod, Nat.mod_mod, ← Nat.add_mod]
    have h2 : (begin + (k % S.length + S.length - begin % S.length)) = k % S.length + (begin - begin % S.length + S.length) := by
      have := Nat.mod_le begin S.length
      omega
    rw [h2, Nat.add_mod]
    have h3 : (begin - begin % S.length + S.length) % S.length = 0 := by
      rw [Nat.add_mod_right]
      have := Nat.div_add_mod begin S.length
      have h4 : begin - begin % S.length = S.length * (begin / S.length) := by omega
      rw [h4]; simp
    rw [h3]; simp
  refine ⟨j, Nat.mod_lt _ h0, fun e => ?_⟩
  have := lost_period (S := S) many link hj
  rw [hl] at this
  unfold lostB at this
  rw [e] at this
  simp at this
theorem waits_ne {S : List (List Int)} (hS : S ≠ []) {many link m : Nat} (h : ¬ (silL S many link m).all id = true) (begin : Nat) : waits S many link begin S.length ≠ [] := by
  obtain ⟨j, hj, hne⟩ := some_comes hS h begin
  intro e
  have : ∀ x, x ∈ (ft S (link + many * (begin + j))).map (fun d => (j : Int) + d) → x ∈ waits S many link begin S.length := fun x hx => by
    unfold waits
    exact List.mem_flatMap.mpr ⟨j, List.mem_range.mpr hj, hx⟩
  rw [e] at this
  cases q : ft S (link + many * (begin + j)) with
  | nil => exact hne q
  | cons d ds => rw [q] at this; simpa using this (j + d) (by simp)
def news (S : List (List Int)) (many link begin : Nat) : Int := (minI (waits S many link begin S.length)).getD 0
def newsL (S : List (List Int)) (many link n : Nat) : List Int := (List.range n).map (news S many link)
def latest (S : List (List Int)) (many link : Nat) : Int := (maxI (newsL S many link S.length)).getD 0
theorem minI_some {ns : List Int} (h : ns ≠ []) : minI ns = some ((minI ns).getD 0) := by
  cases ns with
  | nil => exact absurd rfl h
  | cons _ _ => rfl
theorem maxI_some {ns : List Int} (h : ns ≠ []) : maxI ns = some ((maxI ns).getD 0) := by
  cases ns with
  | nil => exact absurd rfl h
  | cons _ _ => rfl
theorem minG_ref {M : Mem} {n : Nat} {ns : List Int} (h : M[n]? = some (.lst (ns.map D.int))) (hn : ns ≠ []) : minGD [.ref n] M = .ok (.int ((minI ns).getD 0)) M := by
  show opt (cellL M[n]?) _ = _
  rw [h]
  show opt (intsOf (ns.map D.int)) _ = _
  rw [intsOf_map]
  show opt (minI ns) _ = _
  rw [minI_some hn]; rfl
theorem maxG_ref {M : Mem} {n : Nat} {ns : List Int} (h : M[n]? = some (.lst (ns.map D.int))) (hn : ns ≠ []) : maxGD [.ref n] M = .ok (.int ((maxI ns).getD 0)) M := by
  show opt (cellL M[n]?) _ = _
  rw [h]
  show opt (intsOf (ns.map D.int)) _ = _
  rw [intsOf_map]
  show opt (maxI ns) _ = _
  rw [maxI_some hn]; rfl
theorem lst0_ev {c : Bool} {ρ : Slots} {M : Mem} : eLst c aNil ρ M = newL c [] M := by
  show (if ([] : List D).length ≤ 1000000 then newL c [] M else .stuck) = _
  exact if_pos (by decide)
theorem set_last {α : Type} (xs : List α) (a b : α) : (xs ++ [a]).set xs.length b = xs ++ [b] := by simp
theorem latest_ev {S : List (List Int)} (h : OkS S) (many link : Nat) (hm : many ≤ 1000) (M : Mem) :
    F_latest_news [scr S, .int (many : Int), .int (link : Int)] M = .ok (if (silL S many link (2 * S.length)).all id = true then .non else .int (latest S many link)) M := by
  have hl : S.length ≤ 1000 := Nat.le_trans h.le (by decide)
  have h0 : 0 < S.length := List.length_pos_iff.mpr h.ne
  have e0 : ∀ M, eCall F_longest_silence (aCons (eLoc 0) (aCons (eLoc 1) (aCons (eLoc 2) aNil))) [some (scr S), some (.int (many : Int)), some (.int (link : Int)), none, none, none, none, none, none] M = .ok (if (silL S many link (2 * S.length)).all id = true then .non else .int (silence S many link (2 * S.length) : Nat)) M := fun M =>
    call_ev (cons_ev (loc_ev rfl) (cons_ev (loc_ev rfl) (cons_ev (loc_ev rfl) rfl))) (silence_ev h.ne hl many link hm M)
  refine pure_ex (by simp) ?_ (by split <;> rfl)
  by_cases ha : (silL S many link (2 * S.length)).all id = true
  · simp only [if_pos ha] at e0 ⊢
    exact ⟨_, runB_ret rfl (seq_ret (if_t (of_ev (bin_ev (e0 []) rfl (isD_non (b := true) _ rfl))) (ret_ev rfl)))⟩
  · simp only [if_neg ha] at e0 ⊢
    have key := range_inv (b := 4) (ρ := [some (scr S), some (.int (many : Int)), some (.int (link : Int)), some (.ref 0), none, none, none, none, none]) (M := [.lst []]) (M1 := [.lst []]) (e := eCB lenD (aCons (eLoc 0) aNil)) (n := S.length)
      (body := sSeq (sSet 5 (eLst true (aNil))) (sSeq (sFor (iR1 (eCB lenD (aCons (eLoc 0) (aNil)))) (bName 6) (sSeq (sSet 7 (eCall F_fate_of (aCons (eLoc 0) (aCons (eBin (addD false) (eLoc 2) (eBin (mulD false) (eLoc 1) (eBin (addD false) (eLoc 4) (eLoc 6)))) (aNil))))) (sExpr (eMt isLst extendD (eLoc 5) (aCons (eLc false (iSeqG (eLoc 7)) (bName 8) (tYesG) (eBin (addD false) (eLoc 6) (eLoc 8)) [8]) (aNil)))))) (sExpr (eMt isLst appendD (eLoc 3) (aCons (eCB minGD (aCons (eLoc 5) (aNil))) (aNil))))))
      (fun k ρ M => (∃ o1 o2 o3 o4, ρ = [some (scr S), some (.int (many : Int)), some (.int (link : Int)), some (.ref 0), o1, o2, o3, o4, none]) ∧ 0 < M.length ∧ M[0]? = some (.lst ((newsL S many link k).map D.int)))
      (cb_ev (cons_ev (loc_ev rfl) rfl) (by rw [lenD_tup, List.length_map])) (by omega) ⟨⟨_, _, _, _, rfl⟩, by decide, rfl⟩ (fun k ρ M hk hI => by
      obtain ⟨⟨o1, o2, o3, o4, rfl⟩, hM, hf⟩ := hI
      have inner := range_inv (b := 6) (ρ := [some (scr S), some (.int (many : Int)), some (.int (link : Int)), some (.ref 0), some (.int (k : Int)), some (.ref M.length), o3, o4, none]) (M := M ++ [.lst []]) (M1 := M ++ [.lst []]) (e := eCB lenD (aCons (eLoc 0) aNil)) (n := S.length)
        (body := sSeq (sSet 7 (eCall F_fate_of (aCons (eLoc 0) (aCons (eBin (addD false) (eLoc 2) (eBin (mulD false) (eLoc 1) (eBin (addD false) (eLoc 4) (eLoc 6)))) (aNil))))) (sExpr (eMt isLst extendD (eLoc 5) (aCons (eLc false (iSeqG (eLoc 7)) (bName 8) (tYesG) (eBin (addD false) (eLoc 6) (eLoc 8)) [8]) (aNil)))))
        (fun j ρ M' => (∃ o3 o4, ρ = [some (scr S), some (.int (many : Int)), some (.int (link : Int)), some (.ref 0), some (.int (k : Int)), some (.ref M.length), o3, o4, none]) ∧ M' = M ++ [.lst ((waits S many link k j).map D.int)])
        (cb_ev (cons_ev (loc_ev rfl) rfl) (by rw [lenD_tup, List.length_map])) (by omega) ⟨⟨_, _, rfl⟩, rfl⟩ (fun j ρ M' hj hI => by
        obtain ⟨⟨o3, o4, rfl⟩, rfl⟩ := hI
        have e := lc_map (c := false) (i := iSeqG (eLoc 7)) (b := bName 8) (te := eBin (addD false) (eLoc 6) (eLoc 8)) (vs := [8])
          (ρ := [some (scr S), some (.int (many : Int)), some (.int (link : Int)), some (.ref 0), some (.int (k : Int)), some (.ref M.length), some (.int (j : Int)), some (iT (ft S (link + many * (k + j)))), none])
          (M := M ++ [.lst ((waits S many link k j).map D.int)]) (M1 := M ++ [.lst ((waits S many link k j).map D.int)]) (it := ⟨[], (ft S (link + many * (k + j))).map D.int⟩)
          (fun x => [some (scr S), some (.int (many : Int)), some (.int (link : Int)), some (.ref 0), some (.int (k : Int)), some (.ref M.length), some (.int (j : Int)), some (iT (ft S (link + many * (k + j)))), some x])
          (fun x => match x with | .int d => .int ((j : Int) + d) | _ => .non) rfl (srcOk_none _ _) (fun x m => rfl) (fun x m => by
            obtain ⟨d, hd, rfl⟩ := List.mem_map.mp m
            exact bin_ev (loc_ev rfl) (loc_ev rfl) addD_int) (by
            rw [List.length_map]
            have := h.few _ (ft_mem h.ne (link + many * (k + j)))
            omega)
        have em : ((ft S (link + many * (k + j))).map D.int).map (fun x => match x with | .int d => D.int ((j : Int) + d) | _ => .non) = ((ft S (link + many * (k + j))).map fun d => (j : Int) + d).map D.int := by
          rw [List.map_map, List.map_map]; rfl
        rw [em] at e
        have hget : (M ++ [Cell.lst ((waits S many link k j).map D.int)])[M.length]? = some (.lst ((waits S many link k j).map D.int)) := by simp
        refine ⟨_, _, .inl (seq_nx (set_ev (call_ev (cons_ev (loc_ev rfl) (cons_ev (bin_ev (loc_ev rfl) (bin_ev (loc_ev rfl) (bin_ev (loc_ev rfl) (loc_ev rfl) addD_nat) (mulD_nat (by omega))) addD_nat) rfl)) (fate_of_ev h.ne _ _))) (expr_ev (mt_ev (loc_ev rfl) (isLst_ref hget) (cons_ev e rfl) (extend_lst hget ?_)))), ⟨_, _, rfl⟩, ?_⟩
        · rw [List.length_map, List.length_map, List.length_map]
          have := waits_length h many link k j
          have := h.few _ (ft_mem h.ne (link + many * (k + j)))
          have := h.le
          omega
        · rw [set_last, waits_succ, List.map_append])
      obtain ⟨ρ', M', h1, ⟨o3', o4', rfl⟩, rfl⟩ := inner
      have hget : (M ++ [Cell.lst ((waits S many link k S.length).map D.int)])[M.length]? = some (.lst ((waits S many link k S.length).map D.int)) := by simp
      have hf2 : (M ++ [Cell.lst ((waits S many link k S.length).map D.int)])[0]? = some (.lst ((newsL S many link k).map D.int)) := by rw [List.getElem?_append_left hM]; exact hf
      have h2 := expr_ev (mt_ev (ty := isLst) (f := appendD) (o := eLoc 3) (as := aCons (eCB minGD (aCons (eLoc 5) aNil)) aNil) (ρ := [some (scr S), some (.int (many : Int)), some (.int (link : Int)), some (.ref 0), some (.int (k : Int)), some (.ref M.length), o3', o4', none]) (loc_ev rfl) (isLst_ref hf2) (cons_ev (cb_ev (cons_ev (loc_ev rfl) rfl) (minG_ref hget (waits_ne h.ne ha k))) rfl) (append_ref hf2 (by
        rw [List.length_map]; unfold newsL; rw [List.length_map, List.length_range]; omega)))
      have h3 := seq_nx h1 h2
      have h5 : sSet 5 (eLst true aNil) [some (scr S), some (.int (many : Int)), some (.int (link : Int)), some (.ref 0), some (.int (k : Int)), o2, o3, o4, none] M = .nx [some (scr S), some (.int (many : Int)), some (.int (link : Int)), some (.ref 0), some (.int (k : Int)), some (.ref M.length), o3, o4, none] (M ++ [.lst []]) := set_ev lst0_ev
      have h4 := seq_nx h5 h3
      refine ⟨_, _, .inl h4, ⟨_, _, _, _, rfl⟩, ?_, ?_⟩
      · simp
      · rw [List.getElem?_set_self (by simp)]
        unfold newsL
        rw [List.range_succ, List.map_append, List.map_append]
        rfl)
    obtain ⟨ρ', M', h1, ⟨o1, o2, o3, o4, rfl⟩, hM, hf⟩ := key
    refine ⟨_, runB_ret rfl (seq_nx (if_f (of_ev (bin_ev (e0 []) rfl (isD_non (b := false) _ rfl))) rfl) (seq_nx (set_ev (d := .ref 0) (M1 := [.lst []]) lst0_ev) (seq_nx h1 (ret_ev (cb_ev (cons_ev (loc_ev rfl) rfl) (maxG_ref hf ?_))))))⟩
    intro z
    have := congrArg List.length z
    unfold newsL at this
    simp at this
    exact h.ne this
end L37
namespace L37
open PySem L2 G
/-- a loop over a list, folded -/
theorem fold_for {α β : Type} {body : Sv} {e : Ev} {ρ : Slots} {M : Mem} {l : List α} (f : α → D) (step : β → α → β) (x0 : β) (I : β → Slots → Prop) (he : e ρ M = .ok (.lst (l.map f)) M) (h0 : I x0 ρ) {b : Nat}
    (hstep : ∀ p g ρ, g ∈ l → I p ρ → ∃ ρ', body (ρ.set b (some (f g))) M = .nx ρ' M ∧ I (step p g) ρ') : ∃ ρ', sFor (iSeqG e) (bName b) body ρ M = .nx ρ' M ∧ I (l.foldl step x0) ρ' := by
  obtain ⟨ρ', M', h1, h2, h3⟩ := for_inv (i := iSeqG e) (b := bName b) (body := body) (ρ := ρ) (M := M) (M1 := M) (it := ⟨[], l.map f⟩) (fun k ρ M' => M' = M ∧ I ((l.take k).foldl step x0) ρ) (by
      unfold iSeqG
      rw [he]
      rfl) ⟨rfl, by simpa using h0⟩ (fun k ρ1 M1 x hI hx => by
      obtain ⟨rfl, hI⟩ := hI
      have hx : (l.map f)[k]? = some x := hx
      rw [List.getElem?_map] at hx
      cases hg : l[k]? with
      | none => rw [hg] at hx; cases hx
      | some g =>
        rw [hg] at hx
        cases hx
        obtain ⟨ρ', e1, e2⟩ := hstep _ g ρ1 (List.mem_of_getElem? hg) hI
        refine ⟨_, rfl, ρ', _, .inl e1, rfl, ?_⟩
        rw [List.take_add_one, hg, List.foldl_append]
        exact e2) (fun k ρ M _ => srcOk_none _ _)
  subst h2
  refine ⟨ρ', h1, ?_⟩
  simpa using h3
theorem minG_iT {M : Mem} {f : List Int} (hf : f ≠ []) : minGD [iT f] M = .ok (.int ((minI f).getD 0)) M := by
  show opt (intsOf (f.map D.int)) _ = _
  rw [intsOf_map]
  show opt (minI f) _ = _
  rw [minI_some hf]; rfl
theorem minG_lst {M : Mem} {f : List Int} (hf : f ≠ []) : minGD [.lst (f.map D.int)] M = .ok (.int ((minI f).getD 0)) M := by
  show opt (intsOf (f.map D.int)) _ = _
  rw [intsOf_map]
  show opt (minI f) _ = _
  rw [minI_some hf]; rfl
theorem neD_nil {M : Mem} (f : List Int) : neD (iT f) (.tup []) M = .ok (.bl (!decide (f = []))) M := by
  have h := eqD_nil (M := M) f
  unfold eqD at h
  unfold neD
  cases q : eqP M (iT f) (.tup []) with
  | none => rw [q] at h; cases h
  | some b =>
    rw [q] at h
    have h : Res.ok (D.bl b) M = .ok (.bl (decide (f = []))) M := h
    cases h
    rfl
def comes (S : List (List Int)) (many link begin : Nat) : List Int := ((List.range S.length).filter fun (k : Nat) => !decide (ft S (link + many * (begin + k)) = [])).map fun (k : Nat) => (k : Int) + (minI (ft S (link + many * (begin + k)))).getD 0
def news2 (S : List (List Int)) (many link begin : Nat) : Int := (minI (comes S many link begin)).getD 0
theorem minI_spec2 {ns : List Int} (h : ns ≠ []) : (minI ns).getD 0 ∈ ns ∧ ∀ y, y ∈ ns → (minI ns).getD 0 ≤ y := by
  have : ∃ m, m ∈ ns ∧ ∀ y, y ∈ ns → m ≤ y := by
    induction ns with
    | nil => exact absurd rfl h
    | cons x xs ih =>
      cases xs with
      | nil => exact ⟨x, by simp, fun y hy => by simp at hy; omega⟩
      | cons z zs =>
        obtain ⟨m, h1, h2⟩ := ih (by simp)
        by_cases q : x ≤ m
        · exact ⟨x, by simp, fun y hy => by
            rcases List.mem_cons.mp hy with e | e
            · omega
            · have := h2 y e; omega⟩
        · exact ⟨m, List.mem_cons_of_mem _ h1, fun y hy => by
            rcases List.mem_cons.mp hy with e | e
            · omega
            · exact h2 y e⟩
  obtain ⟨m, h1, h2⟩ := this
  rw [minI_of h1 h2]
  exact ⟨h1, h2⟩
theorem maxI_spec2 {ns : List Int} (h : ns ≠ []) : (maxI ns).getD 0 ∈ ns ∧ ∀ y, y ∈ ns → y ≤ (maxI ns).getD 0 := by
  have : ∃ m, m ∈ ns ∧ ∀ y, y ∈ ns → y ≤ m := by
    induction ns with
    | nil => exact absurd rfl h
    | cons x xs ih =>
      cases xs with
      | nil => exact ⟨x, by simp, fun y hy => by simp at hy; omega⟩
      | cons z zs =>
        obtain ⟨m, h1, h2⟩ := ih (by simp)
        by_cases q : m ≤ x
        · exact ⟨x, by simp, fun y hy => by
            rcases List.mem_cons.mp hy with e | e
            · omega
            · have := h2 y e; omega⟩
        · exact ⟨m, List.mem_cons_of_mem _ h1, fun y hy => by
            rcases List.mem_cons.mp hy with e | e
            · omega
            · exact h2 y e⟩
  obtain ⟨m, h1, h2⟩ := this
  rw [maxI_of h1 h2]
  exact ⟨h1, h2⟩
theorem comes_ne {S : List (List Int)} (hS : S ≠ []) {many link m : Nat} (h : ¬ (silL S many link m).all id = true) (begin : Nat) : comes S many link begin ≠ [] := by
  obtain ⟨j, hj, hne⟩ := some_comes hS h begin
  intro e
  unfold comes at e
  have e := List.map_eq_nil_iff.mp e
  have : j ∈ ([] : List Nat) := by
    rw [← e]
    exact List.mem_filter.mpr ⟨List.mem_range.mpr hj, by simp [hne]⟩
  cases this
theorem news_eq {S : List (List Int)} (hS : S ≠ []) {many link m : Nat} (h : ¬ (silL S many link m).all id = true) (begin : Nat) : news2 S many link begin = news S many link begin := by
  obtain ⟨h1, h2⟩ := minI_spec2 (waits_ne hS h begin)
  have e : minI (comes S many link begin) = some (news S many link begin) := by
    refine minI_of ?_ fun y hy => ?_
    · unfold waits at h1
      obtain ⟨j, hj, hx⟩ := List.mem_flatMap.mp h1
      obtain ⟨d, hd, ed⟩ := List.mem_map.mp hx
      have hne : ft S (link + many * (begin + j)) ≠ [] := fun z => by rw [z] at hd; cases hd
      obtain ⟨m1, m2⟩ := minI_spec2 hne
      have h3 := h2 ((j : Int) + (minI (ft S (link + many * (begin + j)))).getD 0) (List.mem_flatMap.mpr ⟨j, hj, List.mem_map.mpr ⟨_, m1, rfl⟩⟩)
      have h4 := m2 d hd
      have e2 : news S many link begin = (j : Int) + (minI (ft S (link + many * (begin + j)))).getD 0 := by
        have : news S many link begin = (j : Int) + d := ed.symm
        have h3 : news S many link begin ≤ _ := h3
        omega
      rw [e2]
      exact List.mem_map.mpr ⟨j, List.mem_filter.mpr ⟨hj, by simp [hne]⟩, rfl⟩
    · unfold comes at hy
      obtain ⟨j, hj, rfl⟩ := List.mem_map.mp hy
      obtain ⟨hj1, hj2⟩ := List.mem_filter.mp hj
      have hne : ft S (link + many * (begin + j)) ≠ [] := by simpa using hj2
      obtain ⟨m1, m2⟩ := minI_spec2 hne
      exact h2 _ (List.mem_flatMap.mpr ⟨j, hj1, List.mem_map.mpr ⟨_, m1, rfl⟩⟩)
  unfold news2
  rw [e]; rfl
theorem news_nonneg {S : List (List Int)} (h : OkS S) {many link m : Nat} (ha : ¬ (silL S many link m).all id = true) (begin : Nat) : 0 ≤ news S many link begin := by
  obtain ⟨h1, _⟩ := minI_spec2 (waits_ne h.ne ha begin)
  unfold waits at h1
  obtain ⟨j, hj, hx⟩ := List.mem_flatMap.mp h1
  obtain ⟨d, hd, ed⟩ := List.mem_map.mp hx
  have := (h.rng _ (ft_mem h.ne _) d hd).1
  have : news S many link begin = (j : Int) + d := ed.symm
  omega
theorem fold_max : ∀ (l : List Int) (x : Int), (∀ y, y ∈ l → y ≤ l.foldl max x) ∧ x ≤ l.foldl max x ∧ (l.foldl max x = x ∨ l.foldl max x ∈ l)
  | [], x => by simp
  | z :: l, x => by
    obtain ⟨h1, h2, h3⟩ := fold_max l (max x z)
    rw [List.foldl_cons]
    refine ⟨fun y hy => ?_, by omega, ?_⟩
    · rcases List.mem_cons.mp hy with e | e
      · subst e; omega
      · exact h1 y e
    · rcases h3 with e | e
      · by_cases q : x ≤ z
        · exact .inr (by rw [e, Int.max_eq_right q]; simp)
        · exact .inl (by rw [e]; omega)
      · exact .inr (List.mem_cons_of_mem _ e)
theorem latest_fold {S : List (List Int)} (h : OkS S) {many link m : Nat} (ha : ¬ (silL S many link m).all id = true) : ((List.range S.length).map (news2 S many link)).foldl max 0 = latest S many link := by
  have e : (List.range S.length).map (news2 S many link) = newsL S many link S.length := by
    unfold newsL
    exact List.map_congr_left fun k _ => news_eq h.ne ha k
  have hne : newsL S many link S.length ≠ [] := fun z => by
    have := congrArg List.length z
    unfold newsL at this
    simp at this
    exact h.ne this
  rw [e]
  obtain ⟨h1, h2⟩ := maxI_spec2 hne
  obtain ⟨f1, f2, f3⟩ := fold_max (newsL S many link S.length) 0
  show _ = (maxI (newsL S many link S.length)).getD 0
  have g1 := f1 _ h1
  have hp : ∀ y, y ∈ newsL S many link S.length → 0 ≤ y := fun y hy => by
    unfold newsL at hy
    obtain ⟨k, _, rfl⟩ := List.mem_map.mp hy
    exact news_nonneg h ha k
  have g2 := hp _ h1
  rcases f3 with q | q
  · omega
  · have := h2 _ q; omega
/-! ### silence -/
theorem all_period {S : List (List Int)} (hS : S ≠ []) {many link : Nat} {m m' : Nat} (hm : S.length ≤ m) (hm' : S.length ≤ m') (h : (silL S many link m).all id = true) : (silL S many link m').all id = true := by
  have h0 : 0 < S.length := List.length_pos_iff.mpr hS
  unfold silL at *
  rw [List.all_map, List.all_eq_true] at *
  intro k hk
  have := h (k % S.length) (List.mem_range.mpr (Nat.lt_of_lt_of_le (Nat.mod_lt _ h0) hm))
  have e : lostB S many link (k % S.length) = lostB S many link k := lost_period many link (Nat.mod_mod _ _)
  show lostB S many link k = true
  rw [← e]; exact this
end L37
namespace L37
open PySem L2 G
def runAt (b : Nat → Bool) (i : Nat) : Nat × Nat := ((List.range i).map b).foldl runStep (0, 0)
theorem runAt_succ (b : Nat → Bool) (i : Nat) : runAt b (i + 1) = runStep (runAt b i) (b i) := by
  unfold runAt
  rw [List.range_succ, List.map_append, List.foldl_append]; rfl
theorem run_le (b : Nat → Bool) : ∀ i j, j ≤ i → (runAt b j).2 ≤ (runAt b i).1
  | 0, j, h => by
    have : j = 0 := by omega
    subst this
    simp [runAt]
  | i + 1, j, h => by
    by_cases q : j = i + 1
    · subst q
      rw [runAt_succ]
      unfold runStep
      exact Nat.le_max_right _ _
    · have := run_le b i j (by omega)
      rw [runAt_succ]
      unfold runStep
      exact Nat.le_trans this (Nat.le_max_left _ _)
theorem run_period {b : Nat → Bool} {n p : Nat} (hp : b p = false) (hb : ∀ k, b (k + n) = b k) : ∀ t, (runAt b (p + 1 + t + n)).2 = (runAt b (p + 1 + t)).2
  | 0 => by
    rw [show p + 1 + 0 + n = (p + n) + 1 by omega, show p + 1 + 0 = p + 1 by omega, runAt_succ, runAt_succ]
    unfold runStep
    simp [hb, hp]
  | t + 1 => by
    rw [show p + 1 + (t + 1) + n = (p + 1 + t + n) + 1 by omega, show p + 1 + (t + 1) = (p + 1 + t) + 1 by omega, runAt_succ, runAt_succ]
    unfold runStep
    simp only [hb, run_period hp hb t]
theorem best_still {b : Nat → Bool} {n p : Nat} (h0 : 0 < n) (hpn : p < n) (hp : b p = false) (hb : ∀ k, b (k + n) = b k) : ∀ t, (runAt b (2 * n + t)).1 = (runAt b (2 * n)).1
  | 0 => rfl
  | t + 1 => by
    have ih := best_still h0 hpn hp hb t
    have e := run_period hp hb (n + t + 1 - (p + 1))
    rw [show p + 1 + (n + t + 1 - (p + 1)) = n + t + 1 by omega] at e
    rw [show n + t + 1 + n = 2 * n + t + 1 by omega] at e
    have l := run_le b (2 * n + t) (n + t + 1) (by omega)
    rw [show 2 * n + (t + 1) = (2 * n + t) + 1 by omega]
    rw [runAt_succ] at e ⊢
    unfold runStep at e ⊢
    simp only at e ⊢
    rw [ih] at l ⊢
    rw [e]
    exact Nat.max_eq_left l
theorem silence_eq {S : List (List Int)} (hS : S ≠ []) {many link : Nat} (h : ¬ (silL S many link (2 * S.length)).all id = true) : silence S many link (3 * S.length) = silence S many link (2 * S.length) := by
  have h0 : 0 < S.length := List.length_pos_iff.mpr hS
  have hb : ∀ k, lostB S many link (k + S.length) = lostB S many link k := fun k => lost_period many link (by simp)
  have : ∃ p, p < S.length ∧ lostB S many link p = false := by
    refine Classical.byContradiction fun z => h ?_
    refine all_period hS (m := S.length) (Nat.le_refl _) (by omega) ?_
    unfold silL
    rw [List.all_map, List.all_eq_true]
    intro k hk
    have hk := List.mem_range.mp hk
    show lostB S many link k = true
    cases q : lostB S many link k with
    | true => rfl
    | false => exact absurd ⟨k, hk, q⟩ z
  obtain ⟨p, hp1, hp2⟩ := this
  have := best_still h0 hp1 hp2 hb S.length
  rw [show 2 * S.length + S.length = 3 * S.length by omega] at this
  exact this
theorem sending_ev {S : List (List Int)} (h : OkS S) (many link : Nat) (hm : many ≤ 1000) (M : Mem) :
    F_z_law_link_by_sending [scr S, .int (many : Int), .int (link : Int)] M = .ok (.tup [if (silL S many link (2 * S.length)).all id = true then .non else .int (silence S many link (2 * S.length) : Nat), if (silL S many link (2 * S.length)).all id = true then .non else .int (latest S many link)]) M := by
  have h0 : 0 < S.length := List.length_pos_iff.mpr h.ne
  have hl := h.le
  -- the row
  have e := lc_range (c := false) (M := []) (M1 := []) (e := eBin (mulD false) (eC (.int 3)) (eLoc 3)) (b := 10) (te := eBin ixD (eLoc 0) (eBin modD (eBin (addD false) (eLoc 2) (eBin (mulD false) (eLoc 1) (eLoc 10))) (eLoc 3))) (vs := [10])
    (ρ := [some (scr S), some (.int (many : Int)), some (.int (link : Int)), some (.int (S.length : Int)), none, none, none, none, none, none, none]) (n := 3 * S.length) (fun k => iT (ft S (link + many * k)))
    (bin_ev rfl (loc_ev rfl) (mulD_nat (a := 3) (by decide))) (by omega)
    (fun k hk => bin_ev (loc_ev rfl) (bin_ev (bin_ev (loc_ev rfl) (bin_ev (loc_ev rfl) (loc_ev rfl) (mulD_nat (by omega))) addD_nat) (loc_ev rfl) (modD_nat h0)) (by
      rw [ixD_tup]
      have e2 : atI (S.map iT) (((link + many * k) % S.length : Nat) : Int) = some (iT (ft S (link + many * k))) := atI_nat (by rw [List.getElem?_map, ft_get h.ne]; rfl)
      rw [e2]; rfl))
  let rowD : List D := (List.range (3 * S.length)).map fun k => iT (ft S (link + many * k))
  have row_at : ∀ k, k < 3 * S.length → atI rowD (k : Int) = some (iT (ft S (link + many * k))) := fun k hk => atI_nat (by
    show ((List.range (3 * S.length)).map _)[k]? = _
    rw [List.getElem?_map, List.getElem?_range hk]; rfl)
  -- all lost?
  have e2 := lc_map (c := false) (i := iSeqG (eLoc 4)) (b := bName 7) (te := eBin eqD (eLoc 7) (eTup aNil)) (vs := [7]) (ρ := [some (scr S), some (.int (many : Int)), some (.int (link : Int)), some (.int (S.length : Int)), some (.lst rowD), none, none, none, none, none, none]) (M := []) (M1 := []) (it := ⟨[], rowD⟩)
    (fun x => [some (scr S), some (.int (many : Int)), some (.int (link : Int)), some (.int (S.length : Int)), some (.lst rowD), none, none, some x, none, none, none]) (fun x => match x with | .tup ds => .bl ds.isEmpty | _ => .non) rfl (srcOk_none _ _) (fun x m => rfl) (fun x m => by
      obtain ⟨k, hk, rfl⟩ := List.mem_map.mp m
      refine bin_ev (loc_ev rfl) tup0_ev ?_
      rw [eqD_nil]
      show _ = Res.ok (D.bl ((ft S (link + many * k)).map D.int).isEmpty) []
      cases ft S (link + many * k) <;> rfl) (by show (List.map _ _).length ≤ _; rw [List.length_map, List.length_range]; omega)
  have e3 : rowD.map (fun x => match x with | .tup ds => D.bl ds.isEmpty | _ => .non) = (silL S many link (3 * S.length)).map D.bl := by
    show (List.map _ (List.map _ _)) = _
    unfold silL
    rw [List.map_map, List.map_map]
    refine List.map_congr_left fun k _ => ?_
    show D.bl ((ft S (link + many * k)).map D.int).isEmpty = D.bl (lostB S many link k)
    unfold lostB
    cases ft S (link + many * k) <;> rfl
  rw [e3] at e2
  have hall : allD [.lst ((silL S many link (3 * S.length)).map D.bl)] [] = .ok (.bl ((silL S many link (3 * S.length)).all id)) [] := allD_map id _
  refine pure_ex (by simp) ?_ (by split <;> rfl)
  by_cases ha : (silL S many link (2 * S.length)).all id = true
  · have ha3 := all_period h.ne (m := 2 * S.length) (m' := 3 * S.length) (by omega) (by omega) ha
    rw [if_pos ha, if_pos ha]
    rw [ha3] at hall
    exact ⟨_, runB_ret rfl (seq_nx (set_ev (cb_ev (cons_ev (loc_ev rfl) rfl) (by rw [lenD_tup, List.length_map]))) (seq_nx (set_ev e) (seq_ret (if_t (tru_ev (cb_ev (cons_ev e2 rfl) hall) rfl) (ret_ev rfl)))))⟩
  · have ha3 : (silL S many link (3 * S.length)).all id = false := by
      cases q : (silL S many link (3 * S.length)).all id with
      | false => rfl
      | true => exact absurd (all_period h.ne (m := 3 * S.length) (m' := 2 * S.length) (by omega) (by omega) q) ha
    rw [if_neg ha, if_neg ha]
    rw [ha3] at hall
    obtain ⟨ρ', h1, o, rfl⟩ := fold_for (b := 7) (e := eLoc 4) (M := []) (l := List.range (3 * S.length)) (fun k => iT (ft S (link + many * k))) (fun p k => runStep p (lostB S many link k)) (0, 0)
      (body := sSeq (sSet 5 (eIf (tOf (eBin eqD (eLoc 7) (eTup (aNil)))) (eBin (addD false) (eLoc 5) (eC (.int (1)))) (eC (.int (0))))) (sSet 6 (eCB max2D (aCons (eLoc 6) (aCons (eLoc 5) (aNil))))))
      (ρ := [some (scr S), some (.int (many : Int)), some (.int (link : Int)), some (.int (S.length : Int)), some (.lst rowD), some (.int ((0 : Nat) : Int)), some (.int ((0 : Nat) : Int)), none, none, none, none])
      (fun p ρ => ∃ o, ρ = [some (scr S), some (.int (many : Int)), some (.int (link : Int)), some (.int (S.length : Int)), some (.lst rowD), some (.int (p.2 : Nat)), some (.int (p.1 : Nat)), o, none, none, none]) (loc_ev rfl) ⟨_, rfl⟩ (fun p k ρ hk hI => by
        obtain ⟨o, rfl⟩ := hI
        refine ⟨_, seq_nx (set_ev (d := .int ((if lostB S many link k then p.2 + 1 else 0 : Nat) : Int)) (M1 := []) ?_) (set_ev (cb_ev (cons_ev (loc_ev rfl) (cons_ev (loc_ev rfl) rfl)) max2_nat)), _, rfl⟩
        have hc : tOf (eBin eqD (eLoc 7) (eTup aNil)) [some (scr S), some (.int (many : Int)), some (.int (link : Int)), some (.int (S.length : Int)), some (.lst rowD), some (.int (p.2 : Nat)), some (.int (p.1 : Nat)), some (iT (ft S (link + many * k))), none, none, none] [] = .ok (lostB S many link k) [] := of_ev (bin_ev (loc_ev rfl) tup0_ev (eqD_nil _))
        show eIf _ _ _ _ _ = _
        unfold eIf
        show (tOf _ [some (scr S), some (.int (many : Int)), some (.int (link : Int)), some (.int (S.length : Int)), some (.lst rowD), some (.int (p.2 : Nat)), some (.int (p.1 : Nat)), some (iT (ft S (link + many * k))), none, none, none] []).bind _ = _
        rw [hc]
        cases lostB S many link k with
        | true => exact addD_nat (c := false) (M := []) (a := p.2) (b := 1)
        | false => rfl)
    have hs : (List.foldl (fun p k => runStep p (lostB S many link k)) (0, 0) (List.range (3 * S.length))).1 = silence S many link (2 * S.length) := by
      rw [← silence_eq h.ne ha]
      unfold silence silL
      rw [List.foldl_map]
    rw [hs] at h1
    have key := range_inv (b := 9) (M := []) (M1 := []) (e := eLoc 3) (n := S.length)
      (ρ := [some (scr S), some (.int (many : Int)), some (.int (link : Int)), some (.int (S.length : Int)), some (.lst rowD), some (.int ((List.foldl (fun p k => runStep p (lostB S many link k)) (0, 0) (List.range (3 * S.length))).2 : Nat)), some (.int (silence S many link (2 * S.length) : Nat)), o, some (.int 0), none, none])
      (body := sSet 8 (eCB max2D (aCons (eLoc 8) (aCons (eCB minGD (aCons (eLc false (iR1 (eLoc 3)) (bName 10) (tOf (eBin neD (eBin ixD (eLoc 4) (eBin (addD false) (eLoc 9) (eLoc 10))) (eTup (aNil)))) (eBin (addD false) (eLoc 10) (eCB minGD (aCons (eBin ixD (eLoc 4) (eBin (addD false) (eLoc 9) (eLoc 10))) (aNil)))) [10]) (aNil))) (aNil)))))
      (fun k ρ M => M = [] ∧ ∃ o9, ρ = [some (scr S), some (.int (many : Int)), some (.int (link : Int)), some (.int (S.length : Int)), some (.lst rowD), some (.int ((List.foldl (fun p k => runStep p (lostB S many link k)) (0, 0) (List.range (3 * S.length))).2 : Nat)), some (.int (silence S many link (2 * S.length) : Nat)), o, some (.int (((List.range k).map (news2 S many link)).foldl max 0)), o9, none])
      (loc_ev rfl) (by omega) ⟨rfl, _, rfl⟩ (fun k ρ M hk hI => by
        obtain ⟨rfl, o9, rfl⟩ := hI
        have e4 := lc_rangeF (c := false) (M := []) (M1 := []) (e := eLoc 3) (b := 10) (tt := tOf (eBin neD (eBin ixD (eLoc 4) (eBin (addD false) (eLoc 9) (eLoc 10))) (eTup aNil))) (te := eBin (addD false) (eLoc 10) (eCB minGD (aCons (eBin ixD (eLoc 4) (eBin (addD false) (eLoc 9) (eLoc 10))) aNil))) (vs := [10]) (n := S.length)
          (ρ := [some (scr S), some (.int (many : Int)), some (.int (link : Int)), some (.int (S.length : Int)), some (.lst rowD), some (.int ((List.foldl (fun p k => runStep p (lostB S many link k)) (0, 0) (List.range (3 * S.length))).2 : Nat)), some (.int (silence S many link (2 * S.length) : Nat)), o, some (.int (((List.range k).map (news2 S many link)).foldl max 0)), some (.int (k : Int)), none])
          (fun (j : Nat) => !decide (ft S (link + many * (k + j)) = [])) (fun (j : Nat) => .int ((j : Int) + (minI (ft S (link + many * (k + j)))).getD 0)) (loc_ev rfl) (by omega)
          (fun j hj => of_ev (bin_ev (bin_ev (loc_ev rfl) (bin_ev (loc_ev rfl) (loc_ev rfl) addD_nat) (by rw [ixD_lst, row_at (k + j) (by omega)]; rfl)) tup0_ev (neD_nil _)))
          (fun j hj hp => bin_ev (loc_ev rfl) (cb_ev (cons_ev (bin_ev (loc_ev rfl) (bin_ev (loc_ev rfl) (loc_ev rfl) addD_nat) (by rw [ixD_lst, row_at (k + j) (by omega)]; rfl)) rfl) (minG_iT (by simpa using hp))) addD_int)
        have e5 : ((List.range S.length).filter fun (j : Nat) => !decide (ft S (link + many * (k + j)) = [])).map (fun (j : Nat) => D.int ((j : Int) + (minI (ft S (link + many * (k + j)))).getD 0)) = (comes S many link k).map D.int := by
          unfold comes
          rw [List.map_map]; rfl
        rw [e5] at e4
        refine ⟨_, _, .inl (set_ev (cb_ev (cons_ev (loc_ev rfl) (cons_ev (cb_ev (cons_ev e4 rfl) (minG_lst (comes_ne h.ne ha k))) rfl)) (max2_int _ _))), rfl, some (.int (k : Int)), ?_⟩
        rw [List.range_succ, List.map_append, List.foldl_append]
        rfl)
    obtain ⟨ρ2, M2, h2, rfl, o9, rfl⟩ := key
    rw [latest_fold h ha] at h2
    exact ⟨_, runB_ret rfl (seq_nx (set_ev (cb_ev (cons_ev (loc_ev rfl) rfl) (by rw [lenD_tup, List.length_map]))) (seq_nx (set_ev e) (seq_nx (if_f (tru_ev (cb_ev (cons_ev e2 rfl) hall) rfl) rfl) (seq_nx (asgm_ev rfl rfl) (seq_nx h1 (seq_nx (set_ev rfl) (seq_nx h2 (ret_ev rfl))))))))⟩
end L37
namespace L37
open PySem L2 G
theorem bezout : ∀ (b a : Nat), ∃ x y : Int, (a : Int) * x + (b : Int) * y = (Nat.gcd a b : Int) := by
  intro b
  induction b using Nat.strongRecOn with
  | _ b ih =>
    intro a
    by_cases hb : b = 0
    · subst hb
      exact ⟨1, 0, by simp⟩
    · obtain ⟨x, y, e⟩ := ih (a % b) (Nat.mod_lt _ (Nat.pos_of_ne_zero hb)) b
      refine ⟨y, x - (a / b : Nat) * y, ?_⟩
      have h1 : Nat.gcd a b = Nat.gcd b (a % b) := by rw [Nat.gcd_comm a b, Nat.gcd_rec b a, Nat.gcd_comm]
      rw [h1, ← e]
      have h2 : (a : Int) = (b : Int) * ((a / b : Nat) : Int) + ((a % b : Nat) : Int) := by
        have := Nat.div_add_mod a b
        exact_mod_cast this.symm
      have h3 : (a : Int) * y = ((b : Int) * ((a / b : Nat) : Int) + ((a % b : Nat) : Int)) * y := by rw [← h2]
      rw [h3, Int.add_mul, Int.mul_sub, Int.mul_assoc]
      omega
theorem met_iff {n many link j : Nat} (h0 : 0 < n) (hj : j < n) : j % Nat.gcd n many = link % Nat.gcd n many ↔ ∃ k, k < n ∧ (link + many * k) % n = j := by
  have hg : 0 < Nat.gcd n many := Nat.gcd_pos_of_pos_left _ h0
  have d1 : (Nat.gcd n many) ∣ n := Nat.gcd_dvd_left _ _
  have d2 : (Nat.gcd n many) ∣ many := Nat.gcd_dvd_right _ _
  constructor
  · intro h
    obtain ⟨x, y, e⟩ := bezout many n
    -- (j - link) = g * t
    have ht : ∃ t : Int, (j : Int) - link = (Nat.gcd n many : Int) * t := by
      refine ⟨((j / Nat.gcd n many : Nat) : Int) - ((link / Nat.gcd n many : Nat) : Int), ?_⟩
      have a1 := Nat.div_add_mod j (Nat.gcd n many)
      have a2 := Nat.div_add_mod link (Nat.gcd n many)
      have b1 : (j : Int) = (Nat.gcd n many : Int) * ((j / Nat.gcd n many : Nat) : Int) + ((j % Nat.gcd n many : Nat) : Int) := by exact_mod_cast a1.symm
      have b2 : (link : Int) = (Nat.gcd n many : Int) * ((link / Nat.gcd n many : Nat) : Int) + ((link % Nat.gcd n many : Nat) : Int) := by exact_mod_cast a2.symm
      rw [Int.mul_sub]
      rw [h] at b1
      omega
    obtain ⟨t, ht⟩ := ht
    have hn : (n : Int) ≠ 0 := by omega
    refine ⟨((y * t) % (n : Int)).toNat, ?_, ?_⟩
    · have := Int.emod_lt_of_pos (y * t) (show (0 : Int) < n by omega)
      have := Int.emod_nonneg (y * t) hn
      omega
    · have h1 : (((y * t) % (n : Int)).toNat : Int) = (y * t) % (n : Int) := Int.toNat_of_nonneg (Int.emod_nonneg _ hn)
      have h2 : (((link + many * ((y * t) % (n : Int)).toNat) % n : Nat) : Int) = (j : Int) := by
        push_cast
        rw [h1]
        have h3 : ((link : Int) + many * ((y * t) % (n : Int))) % n = ((link : Int) + many * (y * t)) % n := by
          rw [Int.add_emod, Int.mul_emod, Int.emod_emod_of_dvd _ (Int.dvd_refl _), ← Int.mul_emod, ← Int.add_emod]
        rw [h3]
        have h4 : (link : Int) + many * (y * t) = j + n * (-(x * t)) := by
          have h5 : (many : Int) * (y * t) = ((Nat.gcd n many : Int) - n * x) * t := by
            rw [← e]
            rw [show (n : Int) * x + many * y - n * x = many * y by omega, Int.mul_assoc]
          rw [h5, Int.sub_mul, ← ht, Int.mul_neg, Int.mul_assoc]
          omega
        rw [h4, Int.add_mul_emod_self_left]
        exact Int.emod_eq_of_lt (by omega) (by omega)
      exact_mod_cast h2
  · rintro ⟨k, hk, rfl⟩
    rw [Nat.mod_mod_of_dvd _ d1, Nat.add_mod, Nat.mod_eq_zero_of_dvd (Nat.dvd_trans d2 (Nat.dvd_mul_right many k)), Nat.add_zero, Nat.mod_mod]
theorem met_sorted {n many link : Nat} (h0 : 0 < n) : dedupI ((List.range n).map fun k : Nat => (((link + many * k) % n : Nat) : Int)) = (metL n many link).map fun k : Nat => (k : Int) := by
  obtain ⟨h1, h2⟩ := dedupI_spec ((List.range n).map fun k : Nat => (((link + many * k) % n : Nat) : Int))
  refine sorted_uniq h1 ?_ fun x => ?_
  · unfold metL
    rw [List.pairwise_map]
    refine List.Pairwise.imp ?_ (List.Pairwise.filter _ (List.pairwise_lt_range (n := n)))
    intro a b h
    omega
  · rw [h2]
    unfold metL
    simp only [List.mem_map, List.mem_range, List.mem_filter, decide_eq_true_eq]
    constructor
    · rintro ⟨k, hk, rfl⟩
      exact ⟨_, ⟨Nat.mod_lt _ h0, (met_iff h0 (Nat.mod_lt _ h0)).mpr ⟨k, hk, rfl⟩⟩, rfl⟩
    · rintro ⟨j, ⟨hj, he⟩, rfl⟩
      obtain ⟨k, hk, e⟩ := (met_iff h0 hj).mp he
      exact ⟨k, hk, by rw [e]⟩
end L37
namespace L37
open PySem L2 G
mutual
/-- data of a depth at most n, no cells -/
def okD : Nat → D → Bool
  | _, .non => true
  | _, .bl _ => true
  | _, .int _ => true
  | _, .str _ => true
  | 0, _ => false
  | n + 1, .tup xs => decide (xs.length ≤ 1000000) && okDs n xs
  | n + 1, .lst xs => decide (xs.length ≤ 1000000) && okDs n xs
  | _, _ => false
def okDs : Nat → List D → Bool
  | _, [] => true
  | n, x :: xs => okD n x && okDs n xs
end
theorem okDs_all {n : Nat} {xs : List D} (h : okDs n xs = true) : ∀ x, x ∈ xs → okD n x = true := by
  induction xs with
  | nil => intro x m; cases m
  | cons y ys ih =>
    unfold okDs at h
    simp only [Bool.and_eq_true] at h
    intro x m
    rcases List.mem_cons.mp m with e | e
    · rw [e]; exact h.1
    · exact ih h.2 x e
theorem okDs_of {n : Nat} {xs : List D} (h : ∀ x, x ∈ xs → okD n x = true) : okDs n xs = true := by
  induction xs with
  | nil => rfl
  | cons y ys ih =>
    unfold okDs
    simp only [Bool.and_eq_true]
    exact ⟨h y List.mem_cons_self, ih fun x m => h x (List.mem_cons_of_mem _ m)⟩
theorem okD_noRef : ∀ (n : Nat) (d : D), okD n d = true → noRef d = true := by
  intro n
  induction n with
  | zero => intro d h; cases d <;> first | rfl | (simp [okD] at h)
  | succ n ih =>
    intro d h
    cases d with
    | tup xs =>
      simp only [okD, Bool.and_eq_true] at h
      show noRefs xs = true
      rw [noRefs_all, List.all_eq_true]
      exact fun x m => ih x (okDs_all h.2 x m)
    | lst xs =>
      simp only [okD, Bool.and_eq_true] at h
      show noRefs xs = true
      rw [noRefs_all, List.all_eq_true]
      exact fun x m => ih x (okDs_all h.2 x m)
    | _ => first | rfl | (simp [okD] at h)
theorem isi_at {ρ : Slots} {M : Mem} {i : Nat} {d : D} {t n : String} (h : ρ[i]? = some (some d)) (ht : tyName M d = some t) (hn : (["int", "bool", "str", "tuple", "list", "dict"].contains n) = true) : eCB isiD (aCons (eLoc i) (aCons (eC (.raw (.ty n))) aNil)) ρ M = .ok (.bl (subTy t n)) M :=
  cb_ev (cons_ev (loc_ev h) rfl) (isi_of ht hn)
theorem tru_isi {ρ : Slots} {M : Mem} {i : Nat} {d : D} {t n : String} (h : ρ[i]? = some (some d)) (ht : tyName M d = some t) (hn : (["int", "bool", "str", "tuple", "list", "dict"].contains n) = true) : tTru (eCB isiD (aCons (eLoc i) (aCons (eC (.raw (.ty n))) aNil))) ρ M = .ok (subTy t n) M :=
  tru_ev (isi_at h ht hn) rfl
theorem and_ev {ρ : Slots} {M : Mem} {a b : EvT} {x y : Bool} (h : a ρ M = .ok x M) (k : b ρ M = .ok y M) : tAndG a b ρ M = .ok (x && y) M := by
  unfold tAndG
  rw [h]
  cases x with
  | true => exact k
  | false => rfl
theorem or_ev {ρ : Slots} {M : Mem} {a b : EvT} {x y : Bool} (h : a ρ M = .ok x M) (k : b ρ M = .ok y M) : tOrG a b ρ M = .ok (x || y) M := by
  unfold tOrG
  rw [h]
  cases x with
  | true => rfl
  | false => exact k
theorem eand_ev {ρ : Slots} {M : Mem} {a b : Ev} {x y : Bool} (h : a ρ M = .ok (.bl x) M) (k : b ρ M = .ok (.bl y) M) : eAnd a b ρ M = .ok (.bl (x && y)) M := by
  unfold eAnd
  rw [h]
  cases x with
  | true => exact k
  | false => rfl
theorem all_same {F : Fv} {xs : List D} {s : D} (hs : ∀ (M : Mem) (i : Int), ixD s (.int i) M = opt (atI xs i) fun x => .ok x M) (hl : lenD [s] [] = .ok (.int xs.length) []) (h : ∀ x, x ∈ xs → ∀ M, F [x, x] M = .ok (.bl true) M) (hz : xs.length ≤ 1000000) :
    eAnd (eBin eqD (eCB lenD (aCons (eLoc 0) aNil)) (eCB lenD (aCons (eLoc 1) aNil))) (eCB allD (aCons (eLc false (iR1 (eCB lenD (aCons (eLoc 0) aNil))) (bName 2) tYesG (eCall F (aCons (eBin ixD (eLoc 0) (eLoc 2)) (aCons (eBin ixD (eLoc 1) (eLoc 2)) aNil))) [2]) aNil)) [some s, some s, none] [] = .ok (.bl true) [] := by
  have e := lc_range (c := false) (M := []) (M1 := []) (e := eCB lenD (aCons (eLoc 0) aNil)) (b := 2) (te := eCall F (aCons (eBin ixD (eLoc 0) (eLoc 2)) (aCons (eBin ixD (eLoc 1) (eLoc 2)) aNil))) (vs := [2]) (ρ := [some s, some s, none]) (n := xs.length) (fun k => .bl true)
    (cb_ev (cons_ev (loc_ev rfl) rfl) hl) hz (fun k hk => by
      have ek : atI xs (k : Int) = some xs[k] := atI_nat (List.getElem?_eq_getElem hk)
      have e1 : ixD s (.int (k : Int)) [] = .ok xs[k] [] := by rw [hs, ek]; rfl
      exact call_ev (cons_ev (bin_ev (loc_ev rfl) (loc_ev rfl) e1) (cons_ev (bin_ev (loc_ev rfl) (loc_ev rfl) e1) rfl)) (h _ (List.getElem_mem hk) _))
  have ea : allD [.lst ((List.range xs.length).map fun _ => D.bl true)] [] = .ok (.bl true) [] := by
    have := allD_map (M := []) (fun _ : Nat => true) (List.range xs.length)
    rw [this]; simp
  exact eand_ev (x := true) (y := true) (bin_ev (cb_ev (cons_ev (loc_ev rfl) rfl) hl) (cb_ev (cons_ev (loc_ev rfl) rfl) hl) (by rw [eqD_int]; simp)) (cb_ev (cons_ev e rfl) ea)
theorem eqD_str {M : Mem} (x : Str) : eqD (.str x) (.str x) M = .ok (.bl true) M := by
  show Res.ok (D.bl (PyData.eqv (.str x) (.str x))) M = _
  have e : PyData.eqv (.str x) (.str x) = true := by simp [PyData.eqv]
  rw [e]
theorem eqD_bl {M : Mem} (x : Bool) : eqD (.bl x) (.bl x) M = .ok (.bl true) M := by
  show Res.ok (D.bl (PyData.eqv (.bool x) (.bool x))) M = _
  have e : PyData.eqv (.bool x) (.bool x) = true := by simp [PyData.eqv]
  rw [e]
theorem same_refl : ∀ (n : Nat) (d : D), okD n d = true → ∀ M, F_z_law_same (n + 1) [d, d] M = .ok (.bl true) M := by
  have c1 : ∀ {d : D} {t : String}, tyName [] d = some t → (tOrG (tAndG (tTru (eCB isiD (aCons (eLoc 0) (aCons (eC (.raw (.ty "tuple"))) (aNil))))) (tTru (eCB isiD (aCons (eLoc 1) (aCons (eC (.raw (.ty "tuple"))) (aNil)))))) (tAndG (tTru (eCB isiD (aCons (eLoc 0) (aCons (eC (.raw (.ty "list"))) (aNil))))) (tTru (eCB isiD (aCons (eLoc 1) (aCons (eC (.raw (.ty "list"))) (aNil))))))) [some d, some d, none] [] = .ok ((subTy t "tuple" && subTy t "tuple") || (subTy t "list" && subTy t "list")) [] := fun ht =>
    or_ev (and_ev (tru_isi rfl ht (by decide)) (tru_isi rfl ht (by decide))) (and_ev (tru_isi rfl ht (by decide)) (tru_isi rfl ht (by decide)))
  have c2 : ∀ {d : D} {t : String}, tyName [] d = some t → (tOrG (tTru (eCB isiD (aCons (eLoc 0) (aCons (eC (.raw (.ty "bool"))) (aNil))))) (tTru (eCB isiD (aCons (eLoc 1) (aCons (eC (.raw (.ty "bool"))) (aNil)))))) [some d, some d, none] [] = .ok (subTy t "bool" || subTy t "bool") [] := fun ht =>
    or_ev (tru_isi rfl ht (by decide)) (tru_isi rfl ht (by decide))
  have c3 : ∀ {d : D} {t : String}, tyName [] d = some t → (tOrG (tAndG (tTru (eCB isiD (aCons (eLoc 0) (aCons (eC (.raw (.ty "int"))) (aNil))))) (tTru (eCB isiD (aCons (eLoc 1) (aCons (eC (.raw (.ty "int"))) (aNil)))))) (tAndG (tTru (eCB isiD (aCons (eLoc 0) (aCons (eC (.raw (.ty "str"))) (aNil))))) (tTru (eCB isiD (aCons (eLoc 1) (aCons (eC (.raw (.ty "str"))) (aNil))))))) [some d, some d, none] [] = .ok ((subTy t "int" && subTy t "int") || (subTy t "str" && subTy t "str")) [] := fun ht =>
    or_ev (and_ev (tru_isi rfl ht (by decide)) (tru_isi rfl ht (by decide))) (and_ev (tru_isi rfl ht (by decide)) (tru_isi rfl ht (by decide)))
  have atoms : ∀ (F : Fv) (d : D), okD 0 d = true → ∃ M', runB 2 3 (S_z_law_same F) [d, d] [] = .ok (.bl true) M' := by
    intro F d h
    cases d with
    | non => exact ⟨_, runB_ret rfl rfl⟩
    | bl b => exact ⟨_, runB_ret rfl (seq_nx (if_f (c1 (t := "bool") rfl) rfl) (seq_ret (if_t (c2 (t := "bool") rfl) (ret_ev (eand_ev (x := true) (y := true) (isi_at (t := "bool") rfl rfl (by decide)) (eand_ev (x := true) (y := true) (isi_at (t := "bool") rfl rfl (by decide)) (bin_ev (loc_ev rfl) (loc_ev rfl) (eqD_bl b))))))))⟩
    | int i => exact ⟨_, runB_ret rfl (seq_nx (if_f (c1 (t := "int") rfl) rfl) (seq_nx (if_f (c2 (t := "int") rfl) rfl) (seq_ret (if_t (c3 (t := "int") rfl) (ret_ev (bin_ev (loc_ev rfl) (loc_ev rfl) (by rw [eqD_int]; simp; rfl)))))))⟩
    | str x => exact ⟨_, runB_ret rfl (seq_nx (if_f (c1 (t := "str") rfl) rfl) (seq_nx (if_f (c2 (t := "str") rfl) rfl) (seq_ret (if_t (c3 (t := "str") rfl) (ret_ev (bin_ev (loc_ev rfl) (loc_ev rfl) (eqD_str x)))))))⟩
    | _ => simp [okD] at h
  intro n
  induction n with
  | zero =>
    intro d h M
    exact pure_ex (by simp [okD_noRef 0 d h]) (atoms _ d h) rfl
  | succ n ih =>
    intro d h M
    refine pure_ex (by simp [okD_noRef (n + 1) d h]) ?_ rfl
    cases d with
    | tup xs =>
      simp only [okD, Bool.and_eq_true, decide_eq_true_eq] at h
      exact ⟨_, runB_ret rfl (seq_ret (if_t (c1 (t := "tuple") rfl) (ret_ev (all_same (fun _ _ => rfl) rfl (fun x m M => ih x (okDs_all h.2 x m) M) h.1))))⟩
    | lst xs =>
      simp only [okD, Bool.and_eq_true, decide_eq_true_eq] at h
      exact ⟨_, runB_ret rfl (seq_ret (if_t (c1 (t := "list") rfl) (ret_ev (all_same (fun _ _ => rfl) rfl (fun x m M => ih x (okDs_all h.2 x m) M) h.1))))⟩
    | non => exact atoms _ _ rfl
    | bl b => exact atoms _ _ rfl
    | int i => exact atoms _ _ rfl
    | str x => exact atoms _ _ rfl
    | _ => simp [okD] at h
end L37
namespace L37
open PySem L2 G
/-- the box: its cells at n1, its number, its seed -/
def BoxIs (nb n1 : Nat) (cs : List Int) (b x : Int) (M : Mem) : Prop := M[nb]? = some (.lst [.ref n1, .int b, .int x]) ∧ M[n1]? = some (.lst (cs.map D.int)) ∧ cs.length ≤ 1000000 ∧ nb ≠ n1
def BoxAt (nb n1 : Nat) (M : Mem) : Prop := ∃ cs b x, BoxIs nb n1 cs b x M
/-- nothing but the box has changed -/
def Off (nb n1 : Nat) (M M' : Mem) : Prop := M'.length = M.length ∧ ∀ j, j ≠ nb → j ≠ n1 → M'[j]? = M[j]?
theorem Off.refl {nb n1 : Nat} {M : Mem} : Off nb n1 M M := ⟨rfl, fun _ _ _ => rfl⟩
theorem Off.trans {nb n1 : Nat} {M M' M'' : Mem} (h : Off nb n1 M M') (k : Off nb n1 M' M'') : Off nb n1 M M'' := ⟨k.1.trans h.1, fun j a b => (k.2 j a b).trans (h.2 j a b)⟩
theorem Off.set {nb n1 : Nat} {M : Mem} {c : Cell} (i : Nat) (h : i = nb ∨ i = n1) : Off nb n1 M (M.set i c) := ⟨by simp, fun j a b => List.getElem?_set_ne (by rcases h with h | h <;> rw [h] <;> exact fun z => (by first | exact a z.symm | exact b z.symm))⟩
theorem ixNn {n j : Nat} (hj : j < n) : ixN n (j : Int) = some j := by
  unfold ixN
  rw [if_pos (by omega), if_pos (by omega)]
  simp
theorem sub_ev {ρ : Slots} {M M1 M2 M3 : Mem} {o i e : Ev} {d : D} {n k : Nat} {xs : List D} (h1 : e ρ M = .ok d M1) (h2 : o ρ M1 = .ok (.ref n) M2) (h3 : i ρ M2 = .ok (.int (k : Int)) M3) (h4 : M3[n]? = some (.lst xs)) (h5 : k < xs.length) : sSub o i e ρ M = .nx ρ (M3.set n (.lst (xs.set k d))) := by
  unfold sSub
  rw [h1]
  show (o ρ M1).out _ = _
  rw [h2]
  show (i ρ M2).out _ = _
  rw [h3]
  show (setLD (.ref n) (.int (k : Int)) d M3).out _ = _
  have e : setLD (.ref n) (.int (k : Int)) d M3 = .ok () (M3.set n (.lst (xs.set k d))) := by
    show opt ((cellL M3[n]?).map fun xs => (n, xs)) _ = _
    rw [h4]
    show opt (ixN xs.length (k : Int)) _ = _
    rw [ixNn h5]; rfl
  rw [e]; rfl
theorem pop0_ev {M : Mem} {n : Nat} {x : D} {xs : List D} (h : M[n]? = some (.lst (x :: xs))) (hl : (x :: xs).length ≤ 1000000) : popAtD (.ref n) [.int 0] M = .ok x (M.set n (.lst xs)) := by
  show opt ((cellL M[n]?).map fun xs => (n, xs)) _ = _
  rw [h]
  show opt (ixN (x :: xs).length ((0 : Nat) : Int)) _ = _
  rw [ixNn (by simp)]
  show (if (x :: xs).length ≤ 1000000 then _ else _) = _
  rw [if_pos hl]; rfl
theorem ite_ev {ρ : Slots} {M M1 : Mem} {c : EvT} {a b : Ev} {x : Bool} {d1 d2 : D} (h : c ρ M = .ok x M) (h1 : a ρ M = .ok d1 M1) (h2 : b ρ M = .ok d2 M1) : eIf c a b ρ M = .ok (if x = true then d1 else d2) M1 := by
  unfold eIf
  rw [h]
  cases x with
  | true => exact h1
  | false => exact h2
theorem BoxIs.put {nb n1 : Nat} {cs : List Int} {b x : Int} {M : Mem} (h : BoxIs nb n1 cs b x M) (y : Int) : BoxIs nb n1 cs b y (M.set nb (.lst ([.ref n1, .int b, .int x].set 2 (.int y)))) := by
  obtain ⟨h1, h2, h3, h4⟩ := h
  refine ⟨?_, ?_, h3, h4⟩
  · rw [List.getElem?_set_self (List.getElem?_eq_some_iff.mp h1).1]; rfl
  · rw [List.getElem?_set_ne h4]; exact h2
theorem BoxIs.put1 {nb n1 : Nat} {cs : List Int} {b x : Int} {M : Mem} (h : BoxIs nb n1 cs b x M) (y : Int) : BoxIs nb n1 cs y x (M.set nb (.lst ([.ref n1, .int b, .int x].set 1 (.int y)))) := by
  obtain ⟨h1, h2, h3, h4⟩ := h
  refine ⟨?_, ?_, h3, h4⟩
  · rw [List.getElem?_set_self (List.getElem?_eq_some_iff.mp h1).1]; rfl
  · rw [List.getElem?_set_ne h4]; exact h2
theorem box2 {nb n1 : Nat} {cs : List Int} {b x : Int} {M : Mem} (h : BoxIs nb n1 cs b x M) : ixD (.ref nb) (.int 2) M = .ok (.int x) M := by rw [ixD_ref _ h.1]; rfl
theorem box1 {nb n1 : Nat} {cs : List Int} {b x : Int} {M : Mem} (h : BoxIs nb n1 cs b x M) : ixD (.ref nb) (.int 1) M = .ok (.int b) M := by rw [ixD_ref _ h.1]; rfl
theorem box0 {nb n1 : Nat} {cs : List Int} {b x : Int} {M : Mem} (h : BoxIs nb n1 cs b x M) : ixD (.ref nb) (.int 0) M = .ok (.ref n1) M := by rw [ixD_ref _ h.1]; rfl
theorem load_ev {nb n1 : Nat} {M : Mem} (h : BoxAt nb n1 M) : ∃ v M', F_z_law_load [.ref nb] M = .ok (.int v) M' ∧ BoxAt nb n1 M' ∧ Off nb n1 M M' := by
  -- the second half
  have tail : ∀ (cs : List Int) (b x : Int) (M : Mem) (o2 o3 : Option D), BoxIs nb n1 cs b x M → ∃ v M', (sSeq (sSet 4 (eBin modD (eCB intD (aCons (eBin (addD false) (eBin (mulD false) (eBin ixD (eLoc 0) (eC (.int (2)))) (eC (.int (48271)))) (eC (.int (17)))) (aNil))) (eC (.int (2147483629))))) (sSeq (sSet 5 (eBin modD (eCB intD (aCons (eBin (addD false) (eBin (mulD false) (eLoc 4) (eC (.int (69621)))) (eC (.int (5)))) (aNil))) (eC (.int (2147483587))))) (sSeq (sSub (eLoc 0) (eC (.int (2))) (eBin modD (eCB intD (aCons (eBin (addD false) (eBin (mulD false) (eLoc 5) (eC (.int (40692)))) (eC (.int (3)))) (aNil))) (eC (.int (2147483563))))) (sRet (eBin (addD false) (eBin (addD false) (eBin (mulD false) (eLoc 4) (eC (.int (4611686014132420609)))) (eBin (mulD false) (eLoc 5) (eC (.int (2147483647))))) (eBin ixD (eLoc 0) (eC (.int (2))))))))) [some (.ref nb), some (.ref n1), o2, o3, none, none] M = .ret (.int v) M' ∧ BoxAt nb n1 M' ∧ Off nb n1 M M' := by
    intro cs b x M o2 o3 hB
    have hB2 := hB.put ((((((x * 48271 + 17) % 2147483629) * 69621 + 5) % 2147483587) * 40692 + 3) % 2147483563)
    refine ⟨_, _, seq_nx (set_ev (bin_ev (cb_ev (cons_ev (bin_ev (bin_ev (bin_ev (loc_ev rfl) rfl (box2 hB)) rfl (mulD_int (okMul_r (by decide)))) rfl addD_int) rfl) (intD_int _)) rfl (modD_ev (by decide))))
      (seq_nx (set_ev (bin_ev (cb_ev (cons_ev (bin_ev (bin_ev (loc_ev rfl) rfl (mulD_int (okMul_r (by decide)))) rfl addD_int) rfl) (intD_int _)) rfl (modD_ev (by decide))))
      (seq_nx (sub_ev (k := 2) (bin_ev (cb_ev (cons_ev (bin_ev (bin_ev (loc_ev rfl) rfl (mulD_int (okMul_r (by decide)))) rfl addD_int) rfl) (intD_int _)) rfl (modD_ev (by decide))) (loc_ev rfl) rfl hB.1 (by simp))
      (ret_ev (bin_ev (bin_ev (bin_ev (loc_ev rfl) rfl (mulD_int (okMul_r (by decide)))) (bin_ev (loc_ev rfl) rfl (mulD_int (okMul_r (by decide)))) addD_int) (bin_ev (loc_ev rfl) rfl (box2 hB2)) addD_int)))), ⟨_, _, _, hB2⟩, Off.set _ (.inl rfl)⟩
  obtain ⟨cs, b, x, hB⟩ := h
  cases cs with
  | nil =>
    obtain ⟨v, M', h1, h2, h3⟩ := tail [] b x M none none hB
    refine ⟨v, M', runB_ret rfl (seq_nx (set_ev (bin_ev (loc_ev rfl) rfl (box0 hB))) (seq_nx (if_f (of_ev (bin_ev (cb_ev (cons_ev (loc_ev rfl) rfl) (lenD_ref hB.2.1)) rfl gtD_int)) rfl) h1)), h2, h3⟩
  | cons c cs =>
    have hM1 : BoxIs nb n1 cs b x (M.set n1 (.lst (cs.map D.int))) := by
      obtain ⟨h1, h2, h3, h4⟩ := hB
      exact ⟨by rw [List.getElem?_set_ne (Ne.symm h4)]; exact h1, by rw [List.getElem?_set_self (List.getElem?_eq_some_iff.mp h2).1], by simp at h3; omega, h4⟩
    have hs : ∃ sz : Int, eIf (tOf (eBin geD (eLoc 2) (eC (.int (0))))) (eBin (mulD false) (eC (.int (2))) (eLoc 2)) (eBin subD (eBin (mulD false) (eUn negD (eC (.int (2)))) (eLoc 2)) (eC (.int (1)))) [some (.ref nb), some (.ref n1), some (.int c), none, none, none] (M.set n1 (.lst (cs.map D.int))) = .ok (.int sz) (M.set n1 (.lst (cs.map D.int))) := by
      refine ⟨if decide (0 ≤ c) = true then 2 * c else -2 * c - 1, ?_⟩
      rw [ite_ev (x := decide (0 ≤ c)) (of_ev (bin_ev (loc_ev rfl) rfl geD_int)) (bin_ev rfl (loc_ev rfl) (mulD_int (okMul_l (by decide)))) (bin_ev (bin_ev (show eUn negD (eC (.int 2)) _ _ = .ok (.int (-2)) _ from rfl) (loc_ev rfl) (mulD_int (okMul_l (by decide)))) rfl subD_ev)]
      split <;> rfl
    obtain ⟨sz, hs⟩ := hs
    have hpop : eCB intD (aCons (eMt isLst popAtD (eLoc 1) (aCons (eC (.int (0))) aNil)) aNil) [some (.ref nb), some (.ref n1), none, none, none, none] M = .ok (.int c) (M.set n1 (.lst (cs.map D.int))) :=
      cb_ev (cons_ev (mt_ev (loc_ev rfl) (isLst_ref hB.2.1) rfl (pop0_ev hB.2.1 (by have := hB.2.2.1; simpa using this))) rfl) (intD_int _)
    have hoff : Off nb n1 M (M.set n1 (.lst (cs.map D.int))) := Off.set _ (.inr rfl)
    by_cases hbig : (1000000000000000000 : Int) ≤ sz
    · refine ⟨sz, _, runB_ret rfl (seq_nx (set_ev (bin_ev (loc_ev rfl) rfl (box0 hB))) (seq_ret (if_t (of_ev (bin_ev (cb_ev (cons_ev (loc_ev rfl) rfl) (lenD_ref hB.2.1)) rfl (by rw [gtD_int]; simp))) (seq_nx (set_ev hpop) (seq_nx (set_ev hs) (seq_ret (if_t (of_ev (bin_ev (loc_ev rfl) rfl (by rw [geD_int]; simp [hbig]))) (ret_ev (loc_ev rfl))))))))), ⟨_, _, _, hM1⟩, hoff⟩
    · have hB3 := hM1.put ((x * 69621 + sz * 48271 + 11) % 2147483647)
      obtain ⟨v, M', h1, h2, h3⟩ := tail cs b _ _ (some (.int c)) (some (.int sz)) hB3
      refine ⟨v, M', runB_ret rfl (seq_nx (set_ev (bin_ev (loc_ev rfl) rfl (box0 hB))) (seq_nx (if_t (of_ev (bin_ev (cb_ev (cons_ev (loc_ev rfl) rfl) (lenD_ref hB.2.1)) rfl (by rw [gtD_int]; simp))) (seq_nx (set_ev hpop) (seq_nx (set_ev hs) (seq_nx (if_f (of_ev (bin_ev (loc_ev rfl) rfl (by rw [geD_int]; simp [hbig]))) rfl)
        (sub_ev (k := 2) (bin_ev (cb_ev (cons_ev (bin_ev (bin_ev (bin_ev (bin_ev (loc_ev rfl) rfl (box2 hM1)) rfl (mulD_int (okMul_r (by decide)))) (bin_ev (loc_ev rfl) rfl (mulD_int (okMul_r (by decide)))) addD_int) rfl addD_int) rfl) (intD_int _)) rfl (modD_ev (by decide))) (loc_ev rfl) rfl hM1.1 (by simp)))))) h1)), h2, (hoff.trans (Off.set _ (.inl rfl))).trans h3⟩
end L37
namespace L37
open PySem L2 G
theorem draw_ev {nb n1 : Nat} {M : Mem} (h : BoxAt nb n1 M) {m : Int} (h0 : 0 < m) (h1 : m < 2 ^ 64) : ∃ d M', F_z_law_draw [.ref nb, .int m] M = .ok (.int d) M' ∧ 0 ≤ d ∧ d < m ∧ BoxAt nb n1 M' ∧ Off nb n1 M M' := by
  have tail : ∀ (M : Mem), BoxAt nb n1 M → ∃ d M', (sSeq (sSet 2 (eBin modD (eCB intD (aCons (eBin ixD (eLoc 0) (eC (.int (1)))) (aNil))) (eLoc 1))) (sSeq (sSub (eLoc 0) (eC (.int (1))) (eBin fdivD (eBin ixD (eLoc 0) (eC (.int (1)))) (eLoc 1))) (sRet (eLoc 2)))) [some (.ref nb), some (.int m), none] M = .ret (.int d) M' ∧ 0 ≤ d ∧ d < m ∧ BoxAt nb n1 M' ∧ Off nb n1 M M' := by
    intro M ⟨cs, b, x, hB⟩
    exact ⟨b % m, _, seq_nx (set_ev (bin_ev (cb_ev (cons_ev (bin_ev (loc_ev rfl) rfl (box1 hB)) rfl) (intD_int _)) (loc_ev rfl) (modD_ev h0)))
      (seq_nx (sub_ev (k := 1) (bin_ev (bin_ev (loc_ev rfl) rfl (box1 hB)) (loc_ev rfl) (fdivD_ev h0 h1)) (loc_ev rfl) rfl hB.1 (by simp)) (ret_ev (loc_ev rfl))), Int.emod_nonneg _ (by omega), Int.emod_lt_of_pos _ h0, ⟨_, _, _, hB.put1 _⟩, Off.set _ (.inl rfl)⟩
  obtain ⟨cs, b, x, hB⟩ := h
  by_cases hb : b < m
  · obtain ⟨v, M1, e1, hB1, o1⟩ := load_ev ⟨cs, b, x, hB⟩
    obtain ⟨cs1, b1, x1, hB1⟩ := hB1
    obtain ⟨d, M2, e2, d0, d1, hB2, o2⟩ := tail _ ⟨_, _, _, hB1.put1 v⟩
    exact ⟨d, M2, runB_ret rfl (seq_nx (if_t (of_ev (bin_ev (bin_ev (loc_ev rfl) rfl (box1 hB)) (loc_ev rfl) (by rw [ltD_int]; simp [hb]))) (sub_ev (k := 1) (call_ev (cons_ev (loc_ev rfl) rfl) e1) (loc_ev rfl) rfl hB1.1 (by simp))) e2), d0, d1, hB2, (o1.trans (Off.set _ (.inl rfl))).trans o2⟩
  · obtain ⟨d, M2, e2, d0, d1, hB2, o2⟩ := tail _ ⟨_, _, _, hB⟩
    exact ⟨d, M2, runB_ret rfl (seq_nx (if_f (of_ev (bin_ev (bin_ev (loc_ev rfl) rfl (box1 hB)) (loc_ev rfl) (by rw [ltD_int]; simp [hb]))) rfl) e2), d0, d1, hB2, o2⟩
end L37
namespace L37
open PySem L2 G
theorem drawE {nb n1 i : Nat} {ρ : Slots} {M M1 : Mem} {e : Ev} {m : Int} (h0 : ρ[i]? = some (some (.ref nb))) (he : e ρ M = .ok (.int m) M1) (hB : BoxAt nb n1 M1) (h1 : 0 < m) (h2 : m < 2 ^ 64) :
    ∃ d M', eCall F_z_law_draw (aCons (eLoc i) (aCons e aNil)) ρ M = .ok (.int d) M' ∧ 0 ≤ d ∧ d < m ∧ BoxAt nb n1 M' ∧ Off nb n1 M1 M' := by
  obtain ⟨d, M', e1, a, b, c, o⟩ := draw_ev hB h1 h2
  exact ⟨d, M', call_ev (cons_ev (loc_ev h0) (cons_ev he rfl)) e1, a, b, c, o⟩
theorem at_small {xs : List D} {d : Int} (h0 : 0 ≤ d) (h1 : d < xs.length) : ∃ x, atI xs d = some x ∧ x ∈ xs := by
  obtain ⟨k, rfl⟩ := Int.eq_ofNat_of_zero_le h0
  have hk : k < xs.length := by omega
  exact ⟨xs[k], atI_nat (List.getElem?_eq_getElem hk), List.getElem_mem hk⟩
/-- a drawn fate -/
theorem fate_drawn {nb n1 : Nat} {ρ : Slots} {M : Mem} (h0 : ρ[0]? = some (some (.ref nb))) (hw : 6 < ρ.length) (hB : BoxAt nb n1 M) : ∃ (f : List Int) (M' : Mem),
    eLc false (iR1 (eCall F_z_law_draw (aCons (eLoc 0) (aCons (eC (.int (5))) (aNil))))) (bName 6) (tYesG) (eBin (addD false) (eC (.int (1))) (eCall F_z_law_draw (aCons (eLoc 0) (aCons (eBin ixD (eLst false (aCons (eC (.int (3))) (aCons (eC (.int (100))) (aNil)))) (eCall F_z_law_draw (aCons (eLoc 0) (aCons (eC (.int (2))) (aNil))))) (aNil))))) [6] ρ M = .ok (.lst (f.map D.int)) M' ∧ f.length ≤ 4 ∧ (∀ d, d ∈ f → 1 ≤ d ∧ d ≤ 100) ∧ BoxAt nb n1 M' ∧ Off nb n1 M M' := by
  obtain ⟨d, M1, e1, d0, d1, hB1, o1⟩ := drawE (i := 0) (ρ := ρ) (M := M) (e := eC (.int 5)) h0 rfl hB (by decide) (by decide)
  obtain ⟨n, rfl⟩ := Int.eq_ofNat_of_zero_le d0
  have hr0 : ∀ x, ((wipeG ρ [6]).set 6 (some x))[0]? = some (some (.ref nb)) := fun x => by
    rw [List.getElem?_set_ne (by decide)]
    show ((wipeG ρ []).set 6 none)[0]? = _
    rw [List.getElem?_set_ne (by decide)]
    exact h0
  have := lc_inv (c := false) (i := iR1 (eCall F_z_law_draw (aCons (eLoc 0) (aCons (eC (.int (5))) (aNil))))) (b := bName 6) (te := eBin (addD false) (eC (.int (1))) (eCall F_z_law_draw (aCons (eLoc 0) (aCons (eBin ixD (eLst false (aCons (eC (.int (3))) (aCons (eC (.int (100))) (aNil)))) (eCall F_z_law_draw (aCons (eLoc 0) (aCons (eC (.int (2))) (aNil))))) (aNil))))) (vs := [6]) (ρ := ρ) (M := M) (M1 := M1) (it := ⟨[], rangeL 0 n⟩)
    (fun k acc M2 => ∃ f : List Int, acc = f.map D.int ∧ f.length = k ∧ (∀ d, d ∈ f → 1 ≤ d ∧ d ≤ 100) ∧ BoxAt nb n1 M2 ∧ Off nb n1 M1 M2) (iR1_ev e1 (by omega)) (by rw [rangeL_length]; omega) ⟨[], rfl, rfl, fun d m => (by cases m), hB1, Off.refl⟩
    (fun k acc M2 x hI hx => by
      obtain ⟨f, rfl, rfl, hf, hB2, o2⟩ := hI
      obtain ⟨d2, M3, e2, a0, a1, hB3, o3⟩ := drawE (i := 0) (ρ := (wipeG ρ [6]).set 6 (some x)) (M := M2) (e := eC (.int 2)) (hr0 x) rfl hB2 (by decide) (by decide)
      obtain ⟨y, ey, my⟩ := at_small (xs := [.int 3, .int 100]) a0 (by simpa using a1)
      have hy : ∃ m : Int, y = .int m ∧ 0 < m ∧ m ≤ 100 := by
        rcases List.mem_cons.mp my with q | q
        · exact ⟨3, q, by decide, by decide⟩
        · exact ⟨100, by simpa using q, by decide, by decide⟩
      obtain ⟨m, rfl, m0, m1⟩ := hy
      obtain ⟨d3, M4, e3, b0, b1, hB4, o4⟩ := drawE (i := 0) (ρ := (wipeG ρ [6]).set 6 (some x)) (M := M2) (M1 := M3) (m := m) (e := eBin ixD (eLst false (aCons (eC (.int (3))) (aCons (eC (.int (100))) (aNil)))) (eCall F_z_law_draw (aCons (eLoc 0) (aCons (eC (.int (2))) (aNil))))) (hr0 x)
        (bin_ev (show eLst false (aCons (eC (.int (3))) (aCons (eC (.int (100))) (aNil))) _ _ = .ok (.lst [.int 3, .int 100]) _ from by
          show (if ([D.int 3, D.int 100]).length ≤ 1000000 then newL false [D.int 3, D.int 100] _ else .stuck) = _
          rw [if_pos (by simp)]; rfl) e2 (by rw [ixD_lst, ey]; rfl)) hB3 m0 (by omega)
      exact ⟨_, _, _, rfl, bin_ev rfl e3 addD_int, f ++ [1 + d3], by rw [List.map_append]; rfl, by simp, fun d hd => by
        rcases List.mem_append.mp hd with q | q
        · exact hf d q
        · have : d = 1 + d3 := by simpa using q
          omega, hB4, (o2.trans o3).trans o4⟩) (fun k acc M _ => srcOk_none _ _)
  obtain ⟨ys, M2, ⟨f, rfl, hl, hf, hB2, o2⟩, _, e⟩ := this
  exact ⟨f, M2, e, by rw [hl, rangeL_length]; omega, hf, hB2, o1.trans o2⟩
end L37
namespace L37
open PySem L2 G
theorem tup_ev {ρ : Slots} {M M1 : Mem} {as : EvA} {xs : List D} (h : as ρ M = .ok xs M1) (hl : xs.length ≤ 1000000) : eTup as ρ M = .ok (.tup xs) M1 := by
  unfold eTup
  rw [h]
  exact if_pos hl
theorem lst_ev {c : Bool} {ρ : Slots} {M M1 : Mem} {as : EvA} {xs : List D} (h : as ρ M = .ok xs M1) (hl : xs.length ≤ 1000000) : eLst c as ρ M = newL c xs M1 := by
  unfold eLst
  rw [h]
  exact if_pos hl
/-- a fate by the rules -/
def OkF (f : List Int) : Prop := f.length ≤ 4 ∧ ∀ d, d ∈ f → 1 ≤ d ∧ d ≤ 100
theorem iff_ev {ρ : Slots} {M M1 : Mem} {c : EvT} {a b : Ev} {d : D} (h : c ρ M = .ok false M) (h1 : b ρ M = .ok d M1) : eIf c a b ρ M = .ok d M1 := by
  unfold eIf
  rw [h]; exact h1
theorem ift_ev {ρ : Slots} {M M1 : Mem} {c : EvT} {a b : Ev} {d : D} (h : c ρ M = .ok true M) (h1 : a ρ M = .ok d M1) : eIf c a b ρ M = .ok d M1 := by
  unfold eIf
  rw [h]; exact h1
/-- one of the four fates -/
theorem four_ev {nb n1 fd : Nat} {many kind : Int} {t : Nat} {f : List Int} {M : Mem} (hB : BoxAt nb n1 M) (hf : OkF f) (k0 : 0 ≤ kind) (k1 : kind < 4) : ∃ (g : List Int) (M' : Mem),
    eBin ixD (eLst false (aCons (eLoc 5) (aCons (eTup (aCons (eC (.int (100))) (aCons (eC (.int (100))) (aCons (eC (.int (1))) (aCons (eC (.int (1))) (aNil)))))) (aCons (eIf (tOf (eBin gtD (eBin modD (eLoc 4) (eC (.int (5)))) (eC (.int (0))))) (eTup (aNil)) (eTup (aCons (eC (.int (2))) (aNil)))) (aCons (eIf (tOf (eBin gtD (eLoc 4) (eC (.int (0))))) (eTup (aNil)) (eTup (aCons (eBin (addD false) (eC (.int (1))) (eCall F_z_law_draw (aCons (eLoc 0) (aCons (eC (.int (100))) (aNil))))) (aNil)))) (aNil)))))) (eLoc 2) [some (.ref nb), some (.int many), some (.int kind), some (.ref fd), some (.int (t : Int)), some (iT f), none] M = .ok (iT g) M' ∧ OkF g ∧ BoxAt nb n1 M' ∧ Off nb n1 M M' := by
  have e3 : ∃ g : List Int, eIf (tOf (eBin gtD (eBin modD (eLoc 4) (eC (.int (5)))) (eC (.int (0))))) (eTup (aNil)) (eTup (aCons (eC (.int (2))) (aNil))) [some (.ref nb), some (.int many), some (.int kind), some (.ref fd), some (.int (t : Int)), some (iT f), none] M = .ok (iT g) M ∧ OkF g := by
    have hc : tOf (eBin gtD (eBin modD (eLoc 4) (eC (.int (5)))) (eC (.int (0)))) [some (.ref nb), some (.int many), some (.int kind), some (.ref fd), some (.int (t : Int)), some (iT f), none] M = .ok (decide ((0 : Int) < (t : Int) % 5)) M := of_ev (bin_ev (bin_ev (loc_ev rfl) rfl (modD_ev (by decide))) rfl gtD_int)
    by_cases q : (0 : Int) < (t : Int) % 5
    · exact ⟨[], ift_ev (by rw [hc, decide_eq_true q]) tup0_ev, by simp, fun d m => by cases m⟩
    · exact ⟨[2], iff_ev (by rw [hc, decide_eq_false q]) (tup_ev (xs := [.int 2]) rfl (by simp)), by simp, fun d m => by
        have : d = 2 := by simpa using m
        omega⟩
  obtain ⟨g3, e3, ok3⟩ := e3
  have e4 : ∃ (g : List Int) (M' : Mem), eIf (tOf (eBin gtD (eLoc 4) (eC (.int (0))))) (eTup (aNil)) (eTup (aCons (eBin (addD false) (eC (.int (1))) (eCall F_z_law_draw (aCons (eLoc 0) (aCons (eC (.int (100))) (aNil))))) (aNil))) [some (.ref nb), some (.int many), some (.int kind), some (.ref fd), some (.int (t : Int)), some (iT f), none] M = .ok (iT g) M' ∧ OkF g ∧ BoxAt nb n1 M' ∧ Off nb n1 M M' := by
    have hc : tOf (eBin gtD (eLoc 4) (eC (.int (0)))) [some (.ref nb), some (.int many), some (.int kind), some (.ref fd), some (.int (t : Int)), some (iT f), none] M = .ok (decide ((0 : Int) < (t : Int))) M := of_ev (bin_ev (loc_ev rfl) rfl gtD_int)
    by_cases q : (0 : Int) < (t : Int)
    · exact ⟨[], M, ift_ev (by rw [hc, decide_eq_true q]) tup0_ev, ⟨by simp, fun d m => by cases m⟩, hB, Off.refl⟩
    · obtain ⟨d, M', e, d0, d1, hB', o'⟩ := drawE (i := 0) (ρ := [some (.ref nb), some (.int many), some (.int kind), some (.ref fd), some (.int (t : Int)), some (iT f), none]) (M := M) (e := eC (.int 100)) rfl rfl hB (by decide) (by decide)
      exact ⟨[1 + d], M', iff_ev (by rw [hc, decide_eq_false q]) (tup_ev (xs := [.int (1 + d)]) (cons_ev (bin_ev rfl e addD_int) rfl) (by simp)), ⟨by simp, fun x m => by
        have : x = 1 + d := by simpa using m
        omega⟩, hB', o'⟩
  obtain ⟨g4, M', e4, ok4, hB', o'⟩ := e4
  obtain ⟨x, ex, mx⟩ := at_small (xs := [iT f, iT [100, 100, 1, 1], iT g3, iT g4]) k0 (by simpa using k1)
  have hx : ∃ g : List Int, x = iT g ∧ OkF g := by
    simp only [List.mem_cons, List.not_mem_nil, or_false] at mx
    rcases mx with q | q | q | q
    · exact ⟨f, q, hf⟩
    · exact ⟨[100, 100, 1, 1], q, by simp, fun d m => by simp at m; omega⟩
    · exact ⟨g3, q, ok3⟩
    · exact ⟨g4, q, ok4⟩
  obtain ⟨g, rfl, okg⟩ := hx
  refine ⟨g, M', bin_ev (lst_ev (xs := [iT f, iT [100, 100, 1, 1], iT g3, iT g4]) (cons_ev (loc_ev rfl) (cons_ev (tup_ev (xs := [.int 100, .int 100, .int 1, .int 1]) rfl (by simp)) (cons_ev e3 (cons_ev e4 rfl)))) (by simp)) (loc_ev rfl) (by rw [ixD_lst, ex]; rfl), okg, hB', o'⟩
end L37
namespace L37
open PySem L2 G
theorem BoxAt.lt {nb n1 : Nat} {M : Mem} (h : BoxAt nb n1 M) : nb < M.length ∧ n1 < M.length ∧ nb ≠ n1 := by
  obtain ⟨cs, b, x, h1, h2, _, h4⟩ := h
  exact ⟨(List.getElem?_eq_some_iff.mp h1).1, (List.getElem?_eq_some_iff.mp h2).1, h4⟩
theorem BoxAt.keep {nb n1 : Nat} {M M' : Mem} (h : BoxAt nb n1 M) (e1 : M'[nb]? = M[nb]?) (e2 : M'[n1]? = M[n1]?) : BoxAt nb n1 M' := by
  obtain ⟨cs, b, x, h1, h2, h3, h4⟩ := h
  exact ⟨cs, b, x, e1.trans h1, e2.trans h2, h3, h4⟩
theorem BoxAt.grow {nb n1 : Nat} {M : Mem} (h : BoxAt nb n1 M) (N : Mem) : BoxAt nb n1 (M ++ N) :=
  h.keep (List.getElem?_append_left h.lt.1) (List.getElem?_append_left h.lt.2.1)
theorem OkS.of {S : List (List Int)} (h1 : 1 ≤ S.length) (h2 : S.length ≤ 64) (h3 : ∀ f, f ∈ S → OkF f) : OkS S :=
  ⟨fun z => by rw [z] at h1; simp at h1, h2, fun f m => (h3 f m).1, fun f m => (h3 f m).2⟩
theorem long_ev {nb n1 : Nat} {M : Mem} (h : BoxAt nb n1 M) : ∃ (S : List (List Int)) (M' : Mem), F_z_law_long_script [.ref nb] M = .ok (scr S) M' ∧ OkS S ∧ BoxAt nb n1 M' ∧ M.length ≤ M'.length ∧ ∀ j, j < M.length → j ≠ nb → j ≠ n1 → M'[j]? = M[j]? := by
  obtain ⟨d0, M1, e0, a0, b0, hB1, o1⟩ := drawE (i := 0) (ρ := [some (.ref nb), none, none, none, none, none, none]) (M := M) (e := eC (.int 64)) rfl rfl h (by decide) (by decide)
  obtain ⟨d1, M2, e1, a1, b1, hB2, o2⟩ := drawE (i := 0) (ρ := [some (.ref nb), none, none, none, none, none, none]) (M := M1) (e := eC (.int 6)) rfl rfl hB1 (by decide) (by decide)
  obtain ⟨kind, M3, e2, a2, b2, hB3, o3⟩ := drawE (i := 0) (ρ := [some (.ref nb), none, none, none, none, none, none]) (M := M2) (e := eC (.int 4)) rfl rfl hB2 (by decide) (by decide)
  obtain ⟨x, ex, mx⟩ := at_small (xs := [.int 1, .int 2, .int 48, .int 63, .int 64, .int (1 + d0)]) a1 (by simpa using b1)
  have hx : ∃ many : Nat, x = .int (many : Int) ∧ 1 ≤ many ∧ many ≤ 64 := by
    simp only [List.mem_cons, List.not_mem_nil, or_false] at mx
    rcases mx with q | q | q | q | q | q
    · exact ⟨1, q, by decide, by decide⟩
    · exact ⟨2, q, by decide, by decide⟩
    · exact ⟨48, q, by decide, by decide⟩
    · exact ⟨63, q, by decide, by decide⟩
    · exact ⟨64, q, by decide, by decide⟩
    · obtain ⟨m, rfl⟩ := Int.eq_ofNat_of_zero_le a0
      exact ⟨1 + m, by rw [q]; simp, by omega, by omega⟩
  obtain ⟨many, rfl, m1, m2⟩ := hx
  have lt3 := hB3.lt
  have key := range_inv (b := 4) (ρ := [some (.ref nb), some (.int (many : Int)), some (.int kind), some (.ref M3.length), none, none, none]) (M := M3 ++ [.lst []]) (M1 := M3 ++ [.lst []]) (e := eLoc 1) (n := many)
    (body := sSeq (sSet 5 (eCB tupleD (aCons (eLc false (iR1 (eCall F_z_law_draw (aCons (eLoc 0) (aCons (eC (.int (5))) (aNil))))) (bName 6) (tYesG) (eBin (addD false) (eC (.int (1))) (eCall F_z_law_draw (aCons (eLoc 0) (aCons (eBin ixD (eLst false (aCons (eC (.int (3))) (aCons (eC (.int (100))) (aNil)))) (eCall F_z_law_draw (aCons (eLoc 0) (aCons (eC (.int (2))) (aNil))))) (aNil))))) [6]) (aNil)))) (sExpr (eMt isLst appendD (eLoc 3) (aCons (eBin ixD (eLst false (aCons (eLoc 5) (aCons (eTup (aCons (eC (.int (100))) (aCons (eC (.int (100))) (aCons (eC (.int (1))) (aCons (eC (.int (1))) (aNil)))))) (aCons (eIf (tOf (eBin gtD (eBin modD (eLoc 4) (eC (.int (5)))) (eC (.int (0))))) (eTup (aNil)) (eTup (aCons (eC (.int (2))) (aNil)))) (aCons (eIf (tOf (eBin gtD (eLoc 4) (eC (.int (0))))) (eTup (aNil)) (eTup (aCons (eBin (addD false) (eC (.int (1))) (eCall F_z_law_draw (aCons (eLoc 0) (aCons (eC (.int (100))) (aNil))))) (aNil)))) (aNil)))))) (eLoc 2)) (aNil)))))
    (fun t ρ M' => (∃ o4 o5, ρ = [some (.ref nb), some (.int (many : Int)), some (.int kind), some (.ref M3.length), o4, o5, none]) ∧ ∃ S : List (List Int), S.length = t ∧ (∀ f, f ∈ S → OkF f) ∧ BoxAt nb n1 M' ∧ M'[M3.length]? = some (.lst (S.map iT)) ∧ M'.length = M3.length + 1 ∧ ∀ j, j < M3.length → j ≠ nb → j ≠ n1 → M'[j]? = M3[j]?)
    (loc_ev rfl) (by omega) ⟨⟨_, _, rfl⟩, [], rfl, (fun f m => nomatch m), hB3.grow _, by simp, by simp, fun j hj _ _ => List.getElem?_append_left hj⟩ (fun t ρ M' ht hI => by
      obtain ⟨⟨o4, o5, rfl⟩, S, rfl, okS, hB', hS, hl, hk⟩ := hI
      obtain ⟨f, M4, e4, f1, f2, hB4, o4'⟩ := fate_drawn (ρ := [some (.ref nb), some (.int (many : Int)), some (.int kind), some (.ref M3.length), some (.int (S.length : Int)), o5, none]) rfl (by simp) hB'
      obtain ⟨g, M5, e5, okg, hB5, o5'⟩ := four_ev (fd := M3.length) (many := (many : Int)) (t := S.length) hB4 (show OkF f from ⟨f1, f2⟩) a2 b2
      have off := o4'.trans o5'
      have hS5 : M5[M3.length]? = some (.lst (S.map iT)) := by rw [off.2 _ (by omega) (by omega)]; exact hS
      refine ⟨_, _, .inl (seq_nx (set_ev (cb_ev (cons_ev e4 rfl) (tupleD_lst _))) (expr_ev (mt_ev (loc_ev rfl) (isLst_ref (by rw [o4'.2 _ (by omega) (by omega)]; exact hS)) (cons_ev e5 rfl) (append_ref hS5 (by rw [List.length_map]; omega))))), ⟨_, _, rfl⟩, S ++ [g], by simp, fun f m => ?_, ?_, ?_, ?_, fun j hj n1' n2' => ?_⟩
      · rcases List.mem_append.mp m with q | q
        · exact okS f q
        · have : f = g := by simpa using q
          rw [this]; exact okg
      · exact hB5.keep (List.getElem?_set_ne (by omega)) (List.getElem?_set_ne (by omega))
      · rw [List.getElem?_set_self (by rw [off.1]; omega), List.map_append]; rfl
      · rw [List.length_set, off.1]; exact hl
      · rw [List.getElem?_set_ne (by omega), off.2 j n1' n2']
        exact hk j hj n1' n2')
  obtain ⟨ρ', M', h1, ⟨o4, o5, rfl⟩, S, hSl, okS, hB', hS, hl, hk⟩ := key
  have h4 : sPar 1 2 (aCons (eBin ixD (eLst false (aCons (eC (.int (1))) (aCons (eC (.int (2))) (aCons (eC (.int (48))) (aCons (eC (.int (63))) (aCons (eC (.int (64))) (aCons (eBin (addD false) (eC (.int (1))) (eCall F_z_law_draw (aCons (eLoc 0) (aCons (eC (.int (64))) (aNil))))) (aNil)))))))) (eCall F_z_law_draw (aCons (eLoc 0) (aCons (eC (.int (6))) (aNil))))) (aCons (eCall F_z_law_draw (aCons (eLoc 0) (aCons (eC (.int (4))) (aNil)))) (aNil))) [some (.ref nb), none, none, none, none, none, none] M = .nx [some (.ref nb), some (.int (many : Int)), some (.int kind), none, none, none, none] M3 :=
    par_ev (cons_ev (bin_ev (lst_ev (xs := [.int 1, .int 2, .int 48, .int 63, .int 64, .int (1 + d0)]) (cons_ev rfl (cons_ev rfl (cons_ev rfl (cons_ev rfl (cons_ev rfl (cons_ev (bin_ev rfl e0 addD_int) rfl)))))) (by simp)) e1 (by rw [ixD_lst, ex]; rfl)) (cons_ev e2 rfl))
  have h5 : sSet 3 (eLst true aNil) [some (.ref nb), some (.int (many : Int)), some (.int kind), none, none, none, none] M3 = .nx [some (.ref nb), some (.int (many : Int)), some (.int kind), some (.ref M3.length), none, none, none] (M3 ++ [.lst []]) := set_ev lst0_ev
  refine ⟨S, M', runB_ret rfl (seq_nx h4 (seq_nx h5 (seq_nx h1 (ret_ev (cb_ev (cons_ev (loc_ev rfl) rfl) (tupleD_ref hS)))))), OkS.of (by omega) (by omega) okS, hB', by have := o1.1; have := o2.1; have := o3.1; omega, fun j hj j1 j2 => ?_⟩
  have l3 : M3.length = M.length := by rw [o3.1, o2.1, o1.1]
  rw [hk j (by omega) j1 j2, o3.2 j j1 j2, o2.2 j j1 j2, o1.2 j j1 j2]
end L37
namespace L37
open PySem L2 G
/-- one copy under way: its tick, its message's number, which copy, to whom -/
structure Rw where
  due : Int
  num : Nat
  cp : Nat
  to : Int
abbrev datD (n : Nat) : D := .tup [.str "data", .int (n : Int)]
def rowD (r : Rw) : D := .tup [.int r.due, .int (r.num : Int), .int (r.cp : Int), .int r.to, datD r.num]
/-- one line of the log -/
structure Lg where
  tick : Int
  to : Int
  fate : List Int
def logD (l : Lg) : D := .tup [.int l.tick, .int l.to, iT l.fate]
def lineF (S : List (List Int)) (c u l : Nat) : List (Str × D) := [("_script", scr S), ("_count", .int (c : Int)), ("_under_way", .ref u), ("_log", .ref l)]
/-- the line at ln: its lists at u and l -/
structure LineAt (C : Addr) (ln u l : Nat) (S : List (List Int)) (c : Nat) (rs : List Rw) (ls : List Lg) (M : Mem) : Prop where
  obj : M[ln]? = some (.ins C (lineF S c u l))
  uw : M[u]? = some (.lst (rs.map rowD))
  lg : M[l]? = some (.lst (ls.map logD))
  n1 : ln ≠ u
  n2 : ln ≠ l
  n3 : u ≠ l
section
variable {C : Addr} {ln u l : Nat} {S : List (List Int)} {c : Nat} {rs : List Rw} {ls : List Lg} {M : Mem}
theorem LineAt.fld (h : LineAt C ln u l S c rs ls M) : fldD C "_script" (.ref ln) M = .ok (scr S) M ∧ fldD C "_count" (.ref ln) M = .ok (.int (c : Int)) M ∧ fldD C "_under_way" (.ref ln) M = .ok (.ref u) M ∧ fldD C "_log" (.ref ln) M = .ok (.ref l) M := by
  have e : insOf M (.ref ln) = some (ln, C, lineF S c u l) := by
    show (cellI M[ln]?).map _ = _
    rw [h.obj]; rfl
  have key : ∀ (f : Str) (d : D), (lineF S c u l).lookup f = some d → fldD C f (.ref ln) M = .ok d M := fun f d q => by
    unfold fldD
    rw [e]
    show (if C = C then opt _ _ else .stuck) = _
    rw [if_pos rfl, q]; rfl
  exact ⟨key _ _ rfl, key _ _ rfl, key _ _ rfl, key _ _ rfl⟩
theorem un_ev {ρ : Slots} {M M1 M2 : Mem} {f : D → Mem → Res D} {a : Ev} {x d : D} (h : a ρ M = .ok x M1) (k : f x M1 = .ok d M2) : eUn f a ρ M = .ok d M2 := by
  unfold eUn
  rw [h]; exact k
end
theorem count_ev {K : PySem.W.Frag} {ln u l : Nat} {S : List (List Int)} {c : Nat} {rs : List Rw} {ls : List Lg} {M : Mem} (h : LineAt (He.ga K "Line") ln u l S c rs ls M) : F_Line_count K [.ref ln] M = .ok (.int (c : Int)) M :=
  runB_ret rfl (ret_ev (un_ev (loc_ev rfl) h.fld.2.1))
theorem log_ev {K : PySem.W.Frag} {ln u l : Nat} {S : List (List Int)} {c : Nat} {rs : List Rw} {ls : List Lg} {M : Mem} (h : LineAt (He.ga K "Line") ln u l S c rs ls M) : F_Line_log K [.ref ln] M = .ok (.tup (ls.map logD)) M :=
  runB_ret rfl (ret_ev (cb_ev (cons_ev (un_ev (loc_ev rfl) h.fld.2.2.2) rfl) (tupleD_ref h.lg)))
end L37
namespace L37
open PySem L2 G
theorem row_ix {M : Mem} (r : Rw) : ixD (rowD r) (.int 0) M = .ok (.int r.due) M ∧ ixD (rowD r) (.int 3) M = .ok (.int r.to) M ∧ ixD (rowD r) (.int 4) M = .ok (datD r.num) M := ⟨rfl, rfl, rfl⟩
theorem uw_ev {K : PySem.W.Frag} {ln u l : Nat} {S : List (List Int)} {c : Nat} {rs : List Rw} {ls : List Lg} {M : Mem} (h : LineAt (He.ga K "Line") ln u l S c rs ls M) (hz : rs.length ≤ 1000000) (to : Int) :
    F_Line_under_way K [.ref ln, .int to] M = .ok (.int ((rs.filter fun r => decide (r.to = to)).length : Nat)) M := by
  have e := lc_over (c := false) (i := iSeqG (eUn (fldD (He.ga K "Line") "_under_way") (eLoc 0))) (b := bName 2) (tt := tOf (eBin eqD (eBin ixD (eLoc 2) (eC (.int (3)))) (eLoc 1))) (te := eLoc 2) (vs := [2]) (ρ := [some (.ref ln), some (.int to), none]) (M := M) (M1 := M) (src := [(u, rs.map rowD)]) rs rowD
    (fun r => [some (.ref ln), some (.int to), some (rowD r)]) (fun r => decide (r.to = to)) rowD (iSeq_ref (un_ev (loc_ev rfl) h.fld.2.2.1) h.uw) (srcOk_ref h.uw) (fun x m => rfl) (fun x m => of_ev (bin_ev (bin_ev (loc_ev rfl) rfl (row_ix x).2.1) (loc_ev rfl) eqD_int)) (fun x m _ => loc_ev rfl) hz
  exact runB_ret rfl (ret_ev (cb_ev (cons_ev e rfl) (by rw [lenD_lst, List.length_map])))
end L37
namespace L37
open PySem L2 G
theorem for_over {α : Type} {i : EvI} {b : Bn} {body : Sv} {ρ : Slots} {M M1 : Mem} {src : List (Nat × List D)} (l : List α) (g : α → D) (I : Nat → Slots → Mem → Prop) (hi : i ρ M = .ok ⟨src, l.map g⟩ M1) (h0 : I 0 ρ M1)
    (hstep : ∀ k a ρ M, l[k]? = some a → I k ρ M → ∃ ρ1, b (g a) ρ M = some ρ1 ∧ ∃ ρ' M', (body ρ1 M = .nx ρ' M' ∨ body ρ1 M = .cnt ρ' M') ∧ I (k + 1) ρ' M') (hsrc : ∀ k ρ M, I k ρ M → srcOk ⟨src, l.map g⟩ M) : ∃ ρ' M', sFor i b body ρ M = .nx ρ' M' ∧ I l.length ρ' M' := by
  have := for_inv (b := b) (body := body) I hi h0 (fun k ρ M x hI hx => by
    have hx : (l.map g)[k]? = some x := hx
    rw [List.getElem?_map] at hx
    cases hg : l[k]? with
    | none => rw [hg] at hx; cases hx
    | some a =>
      rw [hg] at hx
      cases hx
      exact hstep k a ρ M hg hI) hsrc
  simpa using this
def newRows (tick to : Int) (c : Nat) (f : List Int) : List Rw := f.zipIdx.map fun p => ⟨tick + p.1, c, p.2, to⟩
theorem take_zip {f : List Int} {k : Nat} {p : Int × Nat} (h : f.zipIdx[k]? = some p) : f.zipIdx.take (k + 1) = f.zipIdx.take k ++ [p] := by rw [List.take_add_one, h]; rfl
section
variable {C : Addr} {ln u l : Nat} {S : List (List Int)} {c : Nat} {rs : List Rw} {ls : List Lg} {M : Mem}
theorem LineAt.lt (h : LineAt C ln u l S c rs ls M) : ln < M.length ∧ u < M.length ∧ l < M.length := ⟨(List.getElem?_eq_some_iff.mp h.obj).1, (List.getElem?_eq_some_iff.mp h.uw).1, (List.getElem?_eq_some_iff.mp h.lg).1⟩
theorem LineAt.putU (h : LineAt C ln u l S c rs ls M) (rs' : List Rw) : LineAt C ln u l S c rs' ls (M.set u (.lst (rs'.map rowD))) :=
  ⟨by rw [List.getElem?_set_ne (Ne.symm h.n1)]; exact h.obj, by rw [List.getElem?_set_self h.lt.2.1], by rw [List.getElem?_set_ne h.n3]; exact h.lg, h.n1, h.n2, h.n3⟩
theorem LineAt.putL (h : LineAt C ln u l S c rs ls M) (ls' : List Lg) : LineAt C ln u l S c rs ls' (M.set l (.lst (ls'.map logD))) :=
  ⟨by rw [List.getElem?_set_ne (Ne.symm h.n2)]; exact h.obj, by rw [List.getElem?_set_ne (Ne.symm h.n3)]; exact h.uw, by rw [List.getElem?_set_self h.lt.2.2], h.n1, h.n2, h.n3⟩
theorem LineAt.ins (h : LineAt C ln u l S c rs ls M) : insOf M (.ref ln) = some (ln, C, lineF S c u l) := by
  show (cellI M[ln]?).map _ = _
  rw [h.obj]; rfl
theorem setFD_ev {f : Str} {d : D} {n : Nat} {fs : List (Str × D)} (h : insOf M (.ref n) = some (n, C, fs)) (hl : fs.length < 1000) : setFD C f d (.ref n) M = .ok () (M.set n (.ins C (putD f d fs))) := by
  unfold setFD
  rw [h]
  exact if_pos ⟨rfl, hl⟩
theorem flda_ev {ρ : Slots} {o e : Ev} {f : Str} {op : D → D → Mem → Res D} {n : Nat} {fs : List (Str × D)} {y d z : D} (h1 : o ρ M = .ok (.ref n) M) (h2 : fldD C f (.ref n) M = .ok y M) (h3 : e ρ M = .ok d M) (h4 : op y d M = .ok z M) (h5 : insOf M (.ref n) = some (n, C, fs)) (hl : fs.length < 1000) :
    sFldA C f op o e ρ M = .nx ρ (M.set n (.ins C (putD f z fs))) := by
  unfold sFldA
  rw [h1]
  show (fldD C f (.ref n) M).out _ = _
  rw [h2]
  show (e ρ M).out _ = _
  rw [h3]
  show (op y d M).out _ = _
  rw [h4]
  show (setFD C f z (.ref n) M).out _ = _
  rw [setFD_ev h5 hl]; rfl
end
theorem send_ev {K : PySem.W.Frag} {ln u l : Nat} {S : List (List Int)} {c : Nat} {rs : List Rw} {ls : List Lg} {M : Mem} (h : LineAt (He.ga K "Line") ln u l S c rs ls M) (hS : OkS S) (hz : rs.length ≤ 900000) (hz2 : ls.length ≤ 900000) (tick to : Int) :
    ∃ M', F_Line_send K [.ref ln, .int tick, .int to, datD c] M = .ok (iT (ft S c)) M' ∧ LineAt (He.ga K "Line") ln u l S (c + 1) (rs ++ newRows tick to c (ft S c)) (ls ++ [⟨tick, to, ft S c⟩]) M' ∧ M'.length = M.length ∧ ∀ j, j ≠ ln → j ≠ u → j ≠ l → M'[j]? = M[j]? := by
  have few := hS.few _ (ft_mem hS.ne c)
  have e0 : eCall F_fate_of (aCons (eUn (fldD (He.ga K "Line") "_script") (eLoc 0)) (aCons (eUn (fldD (He.ga K "Line") "_count") (eLoc 0)) aNil)) [some (.ref ln), some (.int tick), some (.int to), some (datD c), none, none, none] M = .ok (iT (ft S c)) M :=
    call_ev (cons_ev (un_ev (loc_ev rfl) h.fld.1) (cons_ev (un_ev (loc_ev rfl) h.fld.2.1) rfl)) (fate_of_ev hS.ne c M)
  obtain ⟨ρ', M1, h1, ⟨o5, o6, rfl⟩, hL, hl, hk⟩ := for_over (i := iEnumG (eLoc 4)) (b := bTup 2 (bCons (bName 5) (bCons (bName 6) bNil))) (ρ := [some (.ref ln), some (.int tick), some (.int to), some (datD c), some (iT (ft S c)), none, none]) (M := M) (M1 := M) (src := []) (ft S c).zipIdx (fun p => D.tup [.int (p.2 : Int), .int p.1])
    (body := sExpr (eMt isLst appendD (eUn (fldD (He.ga K "Line") "_under_way") (eLoc 0)) (aCons (eTup (aCons (eBin (addD false) (eLoc 1) (eLoc 6)) (aCons (eUn (fldD (He.ga K "Line") "_count") (eLoc 0)) (aCons (eLoc 5) (aCons (eLoc 2) (aCons (eLoc 3) (aNil))))))) (aNil))))
    (fun k ρ M' => (∃ o5 o6, ρ = [some (.ref ln), some (.int tick), some (.int to), some (datD c), some (iT (ft S c)), o5, o6]) ∧ LineAt (He.ga K "Line") ln u l S c (rs ++ ((ft S c).zipIdx.take k).map fun p => ⟨tick + p.1, c, p.2, to⟩) ls M' ∧ M'.length = M.length ∧ ∀ j, j ≠ u → M'[j]? = M[j]?)
    (by rw [iEnum_tup (loc_ev rfl), enumL_map]) ⟨⟨_, _, rfl⟩, by simpa using h, rfl, fun _ _ => rfl⟩ (fun k p ρ M' hp hI => by
      obtain ⟨⟨o5, o6, rfl⟩, hL, hl, hk⟩ := hI
      have hlen : ((ft S c).zipIdx.take k).length ≤ 4 := by
        rw [List.length_take, List.length_zipIdx]; omega
      refine ⟨_, rfl, _, _, .inl (expr_ev (mt_ev (un_ev (loc_ev rfl) hL.fld.2.2.1) (isLst_ref hL.uw) (cons_ev (tup_ev (xs := [.int (tick + p.1), .int (c : Int), .int (p.2 : Int), .int to, datD c]) (cons_ev (bin_ev (loc_ev rfl) (loc_ev rfl) addD_int) (cons_ev (un_ev (loc_ev rfl) hL.fld.2.1) (cons_ev (loc_ev rfl) (cons_ev (loc_ev rfl) (cons_ev (loc_ev rfl) rfl))))) (by simp)) rfl) (append_ref hL.uw (by rw [List.length_map, List.length_append, List.length_map]; omega)))), ⟨_, _, rfl⟩, ?_, by rw [List.length_set]; exact hl, fun j hj => by rw [List.getElem?_set_ne (Ne.symm hj)]; exact hk j hj⟩
      have := hL.putU (rs ++ ((ft S c).zipIdx.take (k + 1)).map fun p => ⟨tick + p.1, c, p.2, to⟩)
      rw [take_zip hp, List.map_append, ← List.append_assoc, List.map_append] at this
      rw [take_zip hp, List.map_append, ← List.append_assoc]
      exact this) (fun k ρ M' _ => srcOk_none _ _)
  have hL1 : LineAt (He.ga K "Line") ln u l S c (rs ++ newRows tick to c (ft S c)) ls M1 := by
    rw [List.take_length] at hL; exact hL
  have hL2 := hL1.putL (ls ++ [⟨tick, to, ft S c⟩])
  rw [List.map_append] at hL2
  have hL2 : LineAt (He.ga K "Line") ln u l S c (rs ++ newRows tick to c (ft S c)) (ls ++ [⟨tick, to, ft S c⟩]) (M1.set l (.lst (ls.map logD ++ [.tup [.int tick, .int to, iT (ft S c)]]))) := hL2
  refine ⟨_, runB_ret rfl (seq_nx (set_ev e0) (seq_nx h1 (seq_nx (expr_ev (mt_ev (un_ev (loc_ev rfl) hL1.fld.2.2.2) (isLst_ref hL1.lg) (cons_ev (tup_ev (xs := [.int tick, .int to, iT (ft S c)]) (cons_ev (loc_ev rfl) (cons_ev (loc_ev rfl) (cons_ev (loc_ev rfl) rfl))) (by simp)) rfl) (append_ref hL1.lg (by rw [List.length_map]; omega)))) (seq_nx (flda_ev (loc_ev rfl) (fs := lineF S c u l) hL2.fld.2.1 rfl addI_int hL2.ins (by show 4 < 1000; decide)) (ret_ev (loc_ev rfl)))))), ?_, ?_, ?_⟩
  · refine ⟨?_, ?_, ?_, h.n1, h.n2, h.n3⟩
    · rw [List.getElem?_set_self hL2.lt.1]; rfl
    · rw [List.getElem?_set_ne h.n1]; exact hL2.uw
    · rw [List.getElem?_set_ne h.n2, List.map_append]
      have := hL2.lg
      rw [List.map_append] at this
      exact this
  · rw [List.length_set, List.length_set]; exact hl
  · intro j a b d
    rw [List.getElem?_set_ne (Ne.symm a), List.getElem?_set_ne (Ne.symm d)]
    exact hk j b
end L37
namespace L37
open PySem L2 G
theorem mfld_ev {C : Addr} {f : Str} {d : D} {n : Nat} {fs : List (Str × D)} {ρ : Slots} {M : Mem} {o : Ev} (h0 : o ρ M = .ok (.ref n) M) (h : M[n]? = some (.ins C fs)) (hl : fs.length < 1000) : mFld C f o d ρ M = .ok ρ (M.set n (.ins C (putD f d fs))) := by
  have hi : insOf M (.ref n) = some (n, C, fs) := by
    show (cellI M[n]?).map _ = _
    rw [h]; rfl
  unfold mFld
  rw [h0]
  show (setFD C f d (.ref n) M).bind _ = _
  rw [setFD_ev hi hl]; rfl
theorem mcons_ev {b : Bm} {bs : Bms} {d : D} {ds : List D} {ρ ρ1 ρ2 : Slots} {M M1 M2 : Mem} (h : b d ρ M = .ok ρ1 M1) (k : bs ds ρ1 M1 = .ok ρ2 M2) : mCons b bs (d :: ds) ρ M = .ok ρ2 M2 := by
  unfold mCons
  show (b d ρ M).bind _ = _
  rw [h]; exact k
theorem mtup_ev {n : Nat} {bs : Bms} {ds : List D} {ρ ρ2 : Slots} {M M2 : Mem} (hn : ds.length = n) (k : bs ds ρ M = .ok ρ2 M2) : mTup n bs (.tup ds) ρ M = .ok ρ2 M2 := by
  show (if ds.length = n then bs ds ρ M else .stuck) = _
  rw [if_pos hn, k]
theorem init_ev {K : PySem.W.Frag} (S : List (List Int)) (M : Mem) : ∃ M', mkIns (He.ga K "Line") (F_Line_init K) [scr S] M = .ok (.ref M.length) M' ∧ LineAt (He.ga K "Line") M.length (M.length + 1) (M.length + 2) S 0 [] [] M' ∧ M'.length = M.length + 3 ∧ ∀ j, j < M.length → M'[j]? = M[j]? := by
  let C := He.ga K "Line"
  let fs2 : List (Str × D) := [("_script", scr S), ("_count", .int 0)]
  have s1 : sAsgM (eTup (aCons (eLoc 1) (aCons (eC (.int (0))) aNil))) (mTup 2 (mCons (mFld C "_script" (eLoc 0)) (mCons (mFld C "_count" (eLoc 0)) mNil))) [some (.ref M.length), some (scr S)] (M ++ [.ins C []]) = .nx [some (.ref M.length), some (scr S)] (M ++ [.ins C fs2]) := by
    refine asgm_ev (tup_ev (xs := [scr S, .int 0]) (cons_ev (loc_ev rfl) rfl) (by simp)) (mtup_ev rfl (mcons_ev (mfld_ev (fs := []) (loc_ev rfl) (by simp) (by simp)) ?_))
    rw [set_last]
    refine mcons_ev (mfld_ev (fs := [("_script", scr S)]) (loc_ev rfl) (by simp; rfl) (by simp)) ?_
    rw [set_last]
    rfl
  have s2 : sAsgM (eTup (aCons (eLst true aNil) (aCons (eLst true aNil) aNil))) (mTup 2 (mCons (mFld C "_under_way" (eLoc 0)) (mCons (mFld C "_log" (eLoc 0)) mNil))) [some (.ref M.length), some (scr S)] (M ++ [.ins C fs2]) = .nx [some (.ref M.length), some (scr S)] (M ++ [.ins C (lineF S 0 (M.length + 1) (M.length + 2)), .lst [], .lst []]) := by
    have e1 : eLst true aNil [some (.ref M.length), some (scr S)] (M ++ [.ins C fs2]) = .ok (.ref (M.length + 1)) (M ++ [.ins C fs2, .lst []]) := by rw [lst0_ev]; simp
    have e2 : eLst true aNil [some (.ref M.length), some (scr S)] (M ++ [.ins C fs2, .lst []]) = .ok (.ref (M.length + 2)) (M ++ [.ins C fs2, .lst [], .lst []]) := by rw [lst0_ev]; simp
    refine asgm_ev (tup_ev (xs := [.ref (M.length + 1), .ref (M.length + 2)]) (cons_ev e1 (cons_ev e2 rfl)) (by simp)) (mtup_ev rfl (mcons_ev (mfld_ev (fs := fs2) (loc_ev rfl) (by simp) (by show 2 < 1000; decide)) ?_))
    have q1 : ∀ (a b : Cell), (M ++ [a, .lst [], .lst []]).set M.length b = M ++ [b, .lst [], .lst []] := fun a b => by simp
    rw [q1]
    refine mcons_ev (mfld_ev (fs := [("_script", scr S), ("_count", .int 0), ("_under_way", .ref (M.length + 1))]) (loc_ev rfl) (by simp; rfl) (by show 3 < 1000; decide)) ?_
    rw [q1]
    rfl
  have e : F_Line_init K [.ref M.length, scr S] (M ++ [.ins C []]) = .ok .non (M ++ [.ins C (lineF S 0 (M.length + 1) (M.length + 2)), .lst [], .lst []]) := runB_nx rfl (seq_nx s1 s2)
  have hLA : LineAt C M.length (M.length + 1) (M.length + 2) S 0 [] [] (M ++ [.ins C (lineF S 0 (M.length + 1) (M.length + 2)), .lst [], .lst []]) := by
    refine ⟨?_, ?_, ?_, by omega, by omega, by omega⟩
    · rw [List.getElem?_append_right (Nat.le_refl _), Nat.sub_self]; rfl
    · rw [List.getElem?_append_right (by omega), Nat.add_sub_cancel_left]; rfl
    · rw [List.getElem?_append_right (by omega), Nat.add_sub_cancel_left]; rfl
  refine ⟨_, ?_, hLA, by simp, fun j hj => List.getElem?_append_left hj⟩
  unfold mkIns
  rw [e]; rfl
end L37
namespace L37
open PySem L2 G PySem.W
/-- the row's first three, then its place -/
def f1 (p : Rw × Nat) : D := .tup [.int p.1.due, .int (p.1.num : Int), .int (p.1.cp : Int), .int (p.2 : Int)]
def f2 (r : Rw) : D := .tup [.int r.due, .int (r.num : Int), .int (r.cp : Int), datD r.num]
def k1 (p : Rw × Nat) : T4 Int Int Int Int := ⟨p.1.due, p.1.num, p.1.cp, p.2⟩
def k2 (r : Rw) : T4 Int Int Int (Str × Int) := ⟨r.due, r.num, r.cp, ("data", r.num)⟩
def le1 (p q : Rw × Nat) : Bool := !DatumOrd.lt (k1 q) (k1 p)
def le2 (p q : Rw) : Bool := !DatumOrd.lt (k2 q) (k2 p)
theorem py1 (p : Rw × Nat) : pyOf (f1 p) = some (Datum.toD (k1 p)) := rfl
theorem py2 (r : Rw) : pyOf (f2 r) = some (Datum.toD (k2 r)) := rfl
theorem sort1 {M : Mem} (l : List (Rw × Nat)) : sortedD false [.lst (l.map f1)] M = .ok (.lst ((l.mergeSort le1).map f1)) M :=
  sorted_lst l f1 k1 (fun b _ => py1 b) (by decide) (.inl fun a => ⟨_, _, rfl⟩)
theorem sort2 {M : Mem} (l : List Rw) : sortedD false [.lst (l.map f2)] M = .ok (.lst ((l.mergeSort le2).map f2)) M :=
  sorted_lst l f2 k2 (fun b _ => py2 b) (by decide) (.inl fun a => ⟨_, _, rfl⟩)
theorem cut3 {M : Mem} {c : Bool} (r : Rw) : slD c (rowD r) none (some 3) M = .ok (.tup [.int r.due, .int (r.num : Int), .int (r.cp : Int)]) M := rfl
theorem ninD_nat {M : Mem} (k : Nat) (ks : List Nat) : ninD (.int (k : Int)) (.lst (ks.map fun j : Nat => D.int (j : Int))) M = .ok (.bl (!ks.contains k)) M := by
  have e : pyAll (ks.map fun j : Nat => D.int (j : Int)) = some (ks.map fun j : Nat => PyData.int (j : Int)) := by
    have := pyAll_ints (ks.map fun j : Nat => (j : Int))
    rw [List.map_map, List.map_map] at this
    exact this
  have hd : PyData.depthAll (ks.map fun j : Nat => PyData.int (j : Int)) = 0 := by
    have := depth_ints (ks.map fun j : Nat => (j : Int))
    rw [List.map_map] at this
    exact this
  have ep : inP M (.int (k : Int)) (.lst (ks.map fun j : Nat => D.int (j : Int))) = some (ks.contains k) := by
    show (match pyAll (ks.map fun j : Nat => D.int (j : Int)) with
      | some ps => if (PyData.int (k : Int)).depth ≤ 60 ∧ PyData.depthAll ps ≤ 60 then some (ps.any fun z => PyData.eqv z (.int (k : Int))) else none
      | none => none) = _
    rw [e]
    show (if (PyData.int (k : Int)).depth ≤ 60 ∧ PyData.depthAll (ks.map fun j : Nat => PyData.int (j : Int)) ≤ 60 then some ((ks.map fun j : Nat => PyData.int (j : Int)).any fun z => PyData.eqv z (.int (k : Int))) else none) = _
    rw [hd, if_pos ⟨by show 0 ≤ 60; decide, by decide⟩, List.any_map]
    congr 1
    rw [Bool.eq_iff_iff, List.any_eq_true, List.contains_iff_mem]
    constructor
    · rintro ⟨j, hj, q⟩
      have : (j : Int) = k := by simpa [PyData.eqv] using q
      have : j = k := by omega
      rw [← this]; exact hj
    · intro m
      exact ⟨k, m, by simp [PyData.eqv]⟩
  unfold ninD
  rw [ep]; rfl
end L37
namespace L37
open PySem L2 G PySem.W
theorem flds_ev {C : Addr} {f : Str} {d : D} {n : Nat} {fs : List (Str × D)} {ρ : Slots} {M M1 M2 : Mem} {o e : Ev} (he : e ρ M = .ok d M1) (ho : o ρ M1 = .ok (.ref n) M2) (hi : insOf M2 (.ref n) = some (n, C, fs)) (hl : fs.length < 1000) : sFldS C f o e ρ M = .nx ρ (M2.set n (.ins C (putD f d fs))) := by
  unfold sFldS
  rw [he]
  show (o ρ M1).out _ = _
  rw [ho]
  show (setFD C f d (.ref n) M2).out _ = _
  rw [setFD_ev hi hl]; rfl
def isDue (to tick : Int) (r : Rw) : Bool := decide (r.to = to) && decide (r.due ≤ tick)
/-- the rows that come, with their places, in their order -/
def dueL (to tick : Int) (rs : List Rw) : List (Rw × Nat) := (rs.zipIdx.filter fun p => isDue to tick p.1).mergeSort le1
theorem zip_at {rs : List Rw} {p : Rw × Nat} (h : p ∈ rs.zipIdx) : rs[p.2]? = some p.1 := by
  have := List.mk_mem_zipIdx_iff_getElem?.mp (show (p.1, p.2) ∈ rs.zipIdx from h)
  exact this
theorem zip_filter (q : Rw × Nat → Bool) (q' : Rw → Bool) : ∀ (rs : List Rw) (k : Nat), (∀ p, p ∈ rs.zipIdx k → q p = q' p.1) → ((rs.zipIdx k).filter q).map (·.1) = rs.filter q'
  | [], _, _ => rfl
  | r :: rs, k, h => by
    have e := h (r, k) (by simp)
    have ih := zip_filter q q' rs (k + 1) fun p m => h p (by simp only [List.zipIdx_cons]; exact List.mem_cons_of_mem _ m)
    simp only [List.zipIdx_cons, List.filter_cons]
    have e : q (r, k) = q' r := e
    rw [e]
    cases q' r with
    | true => simp [ih]
    | false => simpa using ih
theorem arrived_ev {K : PySem.W.Frag} {ln u l : Nat} {S : List (List Int)} {c : Nat} {rs : List Rw} {ls : List Lg} {M : Mem} (h : LineAt (He.ga K "Line") ln u l S c rs ls M) (hz : rs.length ≤ 900000) (tick to : Int) :
    ∃ M', F_Line_arrived K [.ref ln, .int tick, .int to] M = .ok (.lst ((dueL to tick rs).map fun p => datD p.1.num)) M' ∧ LineAt (He.ga K "Line") ln M.length l S c (rs.filter fun r => !isDue to tick r) ls M' ∧ M'.length = M.length + 1 ∧ ∀ j, j < M.length → j ≠ ln → M'[j]? = M[j]? := by
  have hzip : rs.zipIdx.length ≤ 1000000 := by rw [List.length_zipIdx]; omega
  have he : ∀ ρ : Slots, ρ[0]? = some (some (.ref ln)) → iEnumG (eUn (fldD (He.ga K "Line") "_under_way") (eLoc 0)) ρ M = .ok ⟨[(u, rs.map rowD)], rs.zipIdx.map fun p => D.tup [.int (p.2 : Int), rowD p.1]⟩ M := fun ρ q => by
    rw [iEnum_ref (un_ev (loc_ev q) h.fld.2.2.1) h.uw, enumL_map]
  -- here
  have a1 := lc_over (c := false) (i := iEnumG (eUn (fldD (He.ga K "Line") "_under_way") (eLoc 0))) (b := bTup 2 (bCons (bName 6) (bCons (bName 7) bNil))) (tt := tAndG (tOf (eBin eqD (eBin ixD (eLoc 7) (eC (.int (3)))) (eLoc 2))) (tOf (eBin leD (eBin ixD (eLoc 7) (eC (.int (0)))) (eLoc 1))))
    (te := eBin (addD false) (eSl false (eLoc 7) (oNone) (oSome (eC (.int (3))))) (eTup (aCons (eLoc 6) (aNil)))) (vs := [6, 7]) (ρ := [some (.ref ln), some (.int tick), some (.int to), none, none, none, none, none]) (M := M) (M1 := M) (src := [(u, rs.map rowD)]) rs.zipIdx (fun p => D.tup [.int (p.2 : Int), rowD p.1])
    (fun p => [some (.ref ln), some (.int tick), some (.int to), none, none, none, some (.int (p.2 : Int)), some (rowD p.1)]) (fun p => isDue to tick p.1) f1 (he _ rfl) (srcOk_ref h.uw) (fun x m => rfl)
    (fun x m => and_ev (of_ev (bin_ev (bin_ev (loc_ev rfl) rfl (row_ix x.1).2.1) (loc_ev rfl) eqD_int)) (of_ev (bin_ev (bin_ev (loc_ev rfl) rfl (row_ix x.1).1) (loc_ev rfl) leD_int)))
    (fun x m _ => bin_ev (v := .tup [.int (x.2 : Int)]) (M2 := M) (show eSl false (eLoc 7) oNone (oSome (eC (.int 3))) _ M = .ok (.tup [.int x.1.due, .int (x.1.num : Int), .int (x.1.cp : Int)]) M from rfl) (tup_ev (xs := [.int (x.2 : Int)]) (cons_ev (loc_ev rfl) rfl) (by simp)) (addD_tup (by simp))) hzip
  let P := dueL to tick rs
  have b1 : eCB (sortedD false) (aCons (eLc false (iEnumG (eUn (fldD (He.ga K "Line") "_under_way") (eLoc 0))) (bTup 2 (bCons (bName 6) (bCons (bName 7) (bNil)))) (tAndG (tOf (eBin eqD (eBin ixD (eLoc 7) (eC (.int (3)))) (eLoc 2))) (tOf (eBin leD (eBin ixD (eLoc 7) (eC (.int (0)))) (eLoc 1)))) (eBin (addD false) (eSl false (eLoc 7) (oNone) (oSome (eC (.int (3))))) (eTup (aCons (eLoc 6) (aNil)))) [6, 7]) (aNil)) [some (.ref ln), some (.int tick), some (.int to), none, none, none, none, none] M = .ok (.lst (P.map f1)) M :=
    cb_ev (cons_ev a1 rfl) (sort1 _)
  have hPl : P.length ≤ 1000000 := by
    show (List.mergeSort _ _).length ≤ _
    rw [List.length_mergeSort]
    exact Nat.le_trans (List.length_filter_le _ _) hzip
  have hPm : ∀ p, p ∈ P → rs[p.2]? = some p.1 ∧ isDue to tick p.1 = true := fun p m => by
    have m := (List.mergeSort_perm _ _).mem_iff.mp (show p ∈ List.mergeSort _ le1 from m)
    obtain ⟨m1, m2⟩ := List.mem_filter.mp m
    exact ⟨zip_at m1, m2⟩
  -- places
  have a2 := lc_overA (c := false) (i := iSeqG (eLoc 3)) (b := bName 7) (te := eBin ixD (eLoc 7) (eC (.int (3)))) (vs := [7]) (ρ := [some (.ref ln), some (.int tick), some (.int to), some (.lst (P.map f1)), none, none, none, none]) (M := M) (M1 := M) (src := []) P f1
    (fun p => [some (.ref ln), some (.int tick), some (.int to), some (.lst (P.map f1)), none, none, none, some (f1 p)]) (fun p => .int (p.2 : Int)) (iSeq_lst (loc_ev rfl)) (srcOk_none _ _) (fun x m => rfl) (fun x m => bin_ev (loc_ev rfl) rfl rfl) hPl
  have e2 : (P.map fun p => D.int (p.2 : Int)) = (P.map (·.2)).map fun j : Nat => D.int (j : Int) := by rw [List.map_map]; rfl
  -- found
  have a3 := lc_overA (c := false) (i := iSeqG (eLoc 4)) (b := bName 6) (te := eBin ixD (eBin ixD (eUn (fldD (He.ga K "Line") "_under_way") (eLoc 0)) (eLoc 6)) (eC (.int (4)))) (vs := [6]) (ρ := [some (.ref ln), some (.int tick), some (.int to), some (.lst (P.map f1)), some (.lst (P.map fun p => D.int (p.2 : Int))), none, none, none]) (M := M) (M1 := M) (src := []) P (fun p => D.int (p.2 : Int))
    (fun p => [some (.ref ln), some (.int tick), some (.int to), some (.lst (P.map f1)), some (.lst (P.map fun p => D.int (p.2 : Int))), none, some (.int (p.2 : Int)), none]) (fun p => datD p.1.num) (iSeq_lst (loc_ev rfl)) (srcOk_none _ _) (fun x m => rfl)
    (fun x m => bin_ev (bin_ev (un_ev (loc_ev rfl) h.fld.2.2.1) (loc_ev rfl) (by
      rw [ixD_ref _ h.uw]
      have : atI (rs.map rowD) (x.2 : Int) = some (rowD x.1) := atI_nat (by rw [List.getElem?_map, (hPm x m).1]; rfl)
      rw [this]; rfl)) rfl (row_ix x.1).2.2) hPl
  -- what stays
  have a4 := lc_over (c := true) (i := iEnumG (eUn (fldD (He.ga K "Line") "_under_way") (eLoc 0))) (b := bTup 2 (bCons (bName 6) (bCons (bName 7) bNil))) (tt := tOf (eBin ninD (eLoc 6) (eLoc 4))) (te := eLoc 7) (vs := [6, 7])
    (ρ := [some (.ref ln), some (.int tick), some (.int to), some (.lst (P.map f1)), some (.lst (P.map fun p => D.int (p.2 : Int))), some (.lst (P.map fun p => datD p.1.num)), none, none]) (M := M) (M1 := M) (src := [(u, rs.map rowD)]) rs.zipIdx (fun p => D.tup [.int (p.2 : Int), rowD p.1])
    (fun p => [some (.ref ln), some (.int tick), some (.int to), some (.lst (P.map f1)), some (.lst (P.map fun p => D.int (p.2 : Int))), some (.lst (P.map fun p => datD p.1.num)), some (.int (p.2 : Int)), some (rowD p.1)]) (fun p => !(P.map (·.2)).contains p.2) (fun p => rowD p.1) (he _ rfl) (srcOk_ref h.uw) (fun x m => rfl)
    (fun x m => of_ev (bin_ev (loc_ev rfl) (loc_ev rfl) (by rw [e2]; exact ninD_nat _ _))) (fun x m _ => loc_ev rfl) hzip
  have e4 : (rs.zipIdx.filter fun p => !(P.map (·.2)).contains p.2).map (fun p => rowD p.1) = (rs.filter fun r => !isDue to tick r).map rowD := by
    have := zip_filter (fun p => !(P.map (·.2)).contains p.2) (fun r => !isDue to tick r) rs 0 (fun p m => by
      congr 1
      rw [Bool.eq_iff_iff, List.contains_iff_mem]
      constructor
      · intro q
        obtain ⟨p', m', e'⟩ := List.mem_map.mp q
        have q1 := (hPm p' m').1
        have q2 := zip_at m
        rw [e', q2] at q1
        have : p.1 = p'.1 := Option.some.inj q1
        rw [this]; exact (hPm p' m').2
      · intro q
        exact List.mem_map.mpr ⟨p, (List.mergeSort_perm _ _).mem_iff.mpr (List.mem_filter.mpr ⟨m, q⟩), rfl⟩)
    rw [← this, List.map_map]; rfl
  rw [e4] at a4
  have hins : insOf (M ++ [Cell.lst ((rs.filter fun r => !isDue to tick r).map rowD)]) (.ref ln) = some (ln, He.ga K "Line", lineF S c u l) := by
    show (cellI (M ++ _)[ln]?).map _ = _
    rw [List.getElem?_append_left h.lt.1, h.obj]; rfl
  have a5 : sFldS (He.ga K "Line") "_under_way" (eLoc 0) (eLc true (iEnumG (eUn (fldD (He.ga K "Line") "_under_way") (eLoc 0))) (bTup 2 (bCons (bName 6) (bCons (bName 7) (bNil)))) (tOf (eBin ninD (eLoc 6) (eLoc 4))) (eLoc 7) [6, 7]) [some (.ref ln), some (.int tick), some (.int to), some (.lst (P.map f1)), some (.lst (P.map fun p => D.int (p.2 : Int))), some (.lst (P.map fun p => datD p.1.num)), none, none] M =
      .nx [some (.ref ln), some (.int tick), some (.int to), some (.lst (P.map f1)), some (.lst (P.map fun p => D.int (p.2 : Int))), some (.lst (P.map fun p => datD p.1.num)), none, none] ((M ++ [Cell.lst ((rs.filter fun r => !isDue to tick r).map rowD)]).set ln (.ins (He.ga K "Line") (lineF S c M.length l))) := by
    exact flds_ev (d := .ref M.length) (M1 := M ++ [Cell.lst ((rs.filter fun r => !isDue to tick r).map rowD)]) a4 (loc_ev rfl) hins (by show 4 < 1000; decide)
  refine ⟨_, runB_ret rfl (seq_nx (set_ev b1) (seq_nx (set_ev a2) (seq_nx (set_ev a3) (seq_nx a5 (ret_ev (loc_ev rfl)))))), ⟨?_, ?_, ?_, ?_, h.n2, ?_⟩, by simp, fun j hj hn => ?_⟩
  · rw [List.getElem?_set_self (by simp; have := h.lt.1; omega)]
  · rw [List.getElem?_set_ne (by have := h.lt.1; omega), List.getElem?_append_right (Nat.le_refl _), Nat.sub_self]; rfl
  · rw [List.getElem?_set_ne h.n2, List.getElem?_append_left h.lt.2.2]; exact h.lg
  · have := h.lt.1; omega
  · have := h.lt.2.2; omega
  · rw [List.getElem?_set_ne (Ne.symm hn), List.getElem?_append_left hj]
end L37
namespace L37
open PySem L2 G PySem.W
def Uniq (rs : List Rw) : Prop := (rs.map fun r => (r.num, r.cp)).Nodup
theorem uniq_ix {rs : List Rw} (hu : Uniq rs) {i j : Nat} {r q : Rw} (h1 : rs[i]? = some r) (h2 : rs[j]? = some q) (e1 : r.num = q.num) (e2 : r.cp = q.cp) : i = j := by
  unfold Uniq at hu
  have a1 : (rs.map fun r => (r.num, r.cp))[i]? = some (r.num, r.cp) := by rw [List.getElem?_map, h1]; rfl
  have a2 : (rs.map fun r => (r.num, r.cp))[j]? = some (r.num, r.cp) := by rw [List.getElem?_map, h2, e1, e2]; rfl
  obtain ⟨l1, q1⟩ := List.getElem?_eq_some_iff.mp a1
  obtain ⟨l2, q2⟩ := List.getElem?_eq_some_iff.mp a2
  exact (List.getElem_inj hu).mp (q1.trans q2.symm)
theorem le_same {rs : List Rw} (hu : Uniq rs) {a b : Rw × Nat} (ha : a ∈ rs.zipIdx) (hb : b ∈ rs.zipIdx) : le1 a b = le2 a.1 b.1 := by
  unfold le1 le2
  congr 1
  show (if b.1.due = a.1.due then (if (b.1.num : Int) = a.1.num then (if (b.1.cp : Int) = a.1.cp then decide ((b.2 : Int) < a.2) else decide ((b.1.cp : Int) < a.1.cp)) else decide ((b.1.num : Int) < a.1.num)) else decide (b.1.due < a.1.due)) =
    (if b.1.due = a.1.due then (if (b.1.num : Int) = a.1.num then (if (b.1.cp : Int) = a.1.cp then (if ("data" : Str) = "data" then decide ((b.1.num : Int) < a.1.num) else _) else decide ((b.1.cp : Int) < a.1.cp)) else decide ((b.1.num : Int) < a.1.num)) else decide (b.1.due < a.1.due))
  by_cases h1 : b.1.due = a.1.due
  · rw [if_pos h1, if_pos h1]
    by_cases h2 : (b.1.num : Int) = a.1.num
    · rw [if_pos h2, if_pos h2]
      by_cases h3 : (b.1.cp : Int) = a.1.cp
      · rw [if_pos h3, if_pos h3, if_pos rfl]
        have := uniq_ix hu (zip_at hb) (zip_at ha) (by omega) (by omega)
        rw [h2, this]
        simp
      · rw [if_neg h3, if_neg h3]
    · rw [if_neg h2, if_neg h2]
  · rw [if_neg h1, if_neg h1]
theorem due_same {rs : List Rw} (hu : Uniq rs) (to tick : Int) : (dueL to tick rs).map (·.1) = (rs.filter (isDue to tick)).mergeSort le2 := by
  unfold dueL
  have := List.map_mergeSort (r := le1) (s := le2) (f := fun p : Rw × Nat => p.1) (l := rs.zipIdx.filter fun p => isDue to tick p.1) fun a ha b hb => le_same hu (List.mem_filter.mp ha).1 (List.mem_filter.mp hb).1
  rw [this]
  rw [zip_filter (fun p => isDue to tick p.1) (isDue to tick) rs 0 fun p _ => rfl]
theorem due_data {rs : List Rw} (hu : Uniq rs) (to tick : Int) : (dueL to tick rs).map (fun p => datD p.1.num) = ((rs.filter (isDue to tick)).mergeSort le2).map fun r => datD r.num := by
  rw [← due_same hu, List.map_map]; rfl
theorem Uniq.filter {rs : List Rw} (hu : Uniq rs) (p : Rw → Bool) : Uniq (rs.filter p) := by
  unfold Uniq at *
  exact hu.sublist ((List.filter_sublist).map _)
theorem newRows_uniq {rs : List Rw} {c : Nat} (hu : Uniq rs) (hc : ∀ r, r ∈ rs → r.num < c) (tick to : Int) (f : List Int) : Uniq (rs ++ newRows tick to c f) ∧ ∀ r, r ∈ rs ++ newRows tick to c f → r.num < c + 1 := by
  have hn : (newRows tick to c f).map (fun r => (r.num, r.cp)) = f.zipIdx.map fun p => (c, p.2) := by
    unfold newRows
    rw [List.map_map]; rfl
  constructor
  · unfold Uniq at *
    rw [List.map_append, List.nodup_append]
    refine ⟨hu, ?_, ?_⟩
    · rw [hn]
      have h2 : (f.zipIdx.map fun p => (c, p.2)) = (List.range f.length).map fun j => (c, j) := by
        rw [show (f.zipIdx.map fun p => (c, p.2)) = (f.zipIdx.map (·.2)).map fun j => (c, j) from by rw [List.map_map]; rfl]
        rw [List.zipIdx_map_snd, List.range_eq_range']
      rw [h2]
      refine List.Pairwise.map _ ?_ (List.nodup_range (n := f.length))
      intro a b ne e
      exact ne (Prod.mk.inj e).2
    · intro a ha b hb e
      subst e
      obtain ⟨r, hr, e1⟩ := List.mem_map.mp ha
      rw [hn] at hb
      obtain ⟨p, _, e2⟩ := List.mem_map.mp hb
      have h1 := hc r hr
      have : r.num = c := (Prod.mk.inj (e1.trans e2.symm)).1
      omega
  · intro r hr
    rcases List.mem_append.mp hr with m | m
    · have := hc r m; omega
    · unfold newRows at m
      obtain ⟨p, _, rfl⟩ := List.mem_map.mp m
      exact Nat.lt_succ_self c
end L37
namespace L37
open PySem L2 G PySem.W
theorem c_ev {d : D} {ρ : Slots} {M : Mem} : eC d ρ M = .ok d M := rfl
theorem nil_ev {ρ : Slots} {M : Mem} : aNil ρ M = .ok [] M := rfl
theorem notT_ev {c : EvT} {ρ : Slots} {M M1 : Mem} {b : Bool} (h : c ρ M = .ok b M1) : tNotG c ρ M = .ok (!b) M1 := by
  unfold tNotG; rw [h]; rfl
theorem orf_ev {a b : EvT} {ρ : Slots} {M M1 M2 : Mem} {y : Bool} (h : a ρ M = .ok false M1) (k : b ρ M1 = .ok y M2) : tOrG a b ρ M = .ok y M2 := by
  unfold tOrG; rw [h]; exact k
theorem meth_ev {C : Addr} {m : Str} {F : Fv} {o : Ev} {as : EvA} {ρ : Slots} {M M1 M2 M3 : Mem} {n : Nat} {fs : List (Str × D)} {ds : List D} {d : D} (h1 : o ρ M = .ok (.ref n) M1) (h2 : insOf M1 (.ref n) = some (n, C, fs)) (h3 : (fs.lookup m).isNone = true) (h4 : as ρ M1 = .ok ds M2) (h5 : F (.ref n :: ds) M2 = .ok d M3) : eMeth C m F o as ρ M = .ok d M3 := by
  unfold eMeth
  rw [h1]
  show opt (insOf M1 (.ref n)) _ = _
  rw [h2]
  show (if C = C ∧ _ then _ else _) = _
  rw [if_pos ⟨rfl, h3⟩, h4]
  exact h5
theorem mname_ev {i : Nat} {d : D} {ρ : Slots} {M : Mem} : mName i d ρ M = .ok (ρ.set i (some d)) M := rfl
theorem mnil_ev {ρ : Slots} {M : Mem} : mNil [] ρ M = .ok ρ M := rfl
/-- the law's slots behind its first lines -/
abbrev lawR (sc : D) (nb : Nat) (S : List (List Int)) (tk : Nat) (wr : D) (ln : Nat) (rs : List Rw) (lg : Nat) (tick : Int) (o9 o10 o11 o12 o13 o14 o15 o16 o17 o18 o19 o20 : Option D) : Slots :=
  [some sc, some (.ref nb), some (scr S), some (.int (tk : Int)), some wr, some (.ref ln), some (.lst (rs.map rowD)), some (.ref lg), some (.int tick), o9, o10, o11, o12, o13, o14, o15, o16, o17, o18, o19, o20, none, none, none]
structure LInv (C : Addr) (nb n1 ln u l lg : Nat) (S : List (List Int)) (rs : List Rw) (ls : List Lg) (tick : Int) (M : Mem) : Prop where
  box : BoxAt nb n1 M
  line : LineAt C ln u l S ls.length rs ls M
  log : M[lg]? = some (.lst (ls.map logD))
  s1 : nb ≠ ln ∧ nb ≠ u ∧ nb ≠ l ∧ nb ≠ lg
  s2 : n1 ≠ ln ∧ n1 ≠ u ∧ n1 ≠ l ∧ n1 ≠ lg
  s3 : lg ≠ ln ∧ lg ≠ u ∧ lg ≠ l
  uniq : Uniq rs
  lt : ∀ r, r ∈ rs → r.num < ls.length
  due : ∀ r, r ∈ rs → r.due ≤ tick + 100
  len : rs.length ≤ 4 * ls.length
  few : ∀ g, g ∈ ls → g.fate.length ≤ 4
section
variable {C : Addr} {nb n1 ln u l lg : Nat} {S : List (List Int)} {rs : List Rw} {ls : List Lg} {tick : Int} {M M' : Mem}
theorem LInv.off (h : LInv C nb n1 ln u l lg S rs ls tick M) (hb : BoxAt nb n1 M') (o : Off nb n1 M M') : LInv C nb n1 ln u l lg S rs ls tick M' where
  box := hb
  line := ⟨by rw [o.2 _ (Ne.symm h.s1.1) (Ne.symm h.s2.1)]; exact h.line.obj, by rw [o.2 _ (Ne.symm h.s1.2.1) (Ne.symm h.s2.2.1)]; exact h.line.uw, by rw [o.2 _ (Ne.symm h.s1.2.2.1) (Ne.symm h.s2.2.2.1)]; exact h.line.lg, h.line.n1, h.line.n2, h.line.n3⟩
  log := by rw [o.2 _ (Ne.symm h.s1.2.2.2) (Ne.symm h.s2.2.2.2)]; exact h.log
  s1 := h.s1
  s2 := h.s2
  s3 := h.s3
  uniq := h.uniq
  lt := h.lt
  due := h.due
  len := h.len
  few := h.few
theorem LInv.later (h : LInv C nb n1 ln u l lg S rs ls tick M) {t : Int} (ht : tick ≤ t) : LInv C nb n1 ln u l lg S rs ls t M :=
  { h with due := fun r m => by have := h.due r m; omega }
end
end L37
namespace L37
open PySem L2 G PySem.W
local macro_rules | `(tactic| walk_at "op") => `(tactic| first
  | assumption
  | exact addD_int
  | exact subD_ev
  | ((with_reducible apply modD_ev); first | decide | omega)
  | exact eqD_int
  | exact neD_int
  | exact ltD_int
  | exact leD_int
  | exact gtD_int
  | exact geD_int
  | exact tupleD_lst _
  | exact tupleD_tup _
  | exact lenD_tup _
  | exact lenD_lst _
  | ((with_reducible apply lenD_ref); assumption)
  | ((with_reducible apply tupleD_ref); assumption)
  | exact isD_bl _ _
  | exact isntD_bl _ _)
local macro_rules | `(tactic| walk_at "ev") => `(tactic| first
  | ((with_reducible apply loc_ev); rfl)
  | with_reducible exact c_ev
  | with_reducible exact nil_ev
  | ((with_reducible apply bin_ev); (walk_at "ev"); (walk_at "ev"); (walk_at "op"))
  | ((with_reducible apply un_ev); (walk_at "ev"); (walk_at "op"))
  | ((with_reducible apply cb_ev); (walk_at "ev"); (walk_at "op"))
  | ((with_reducible apply call_ev); (walk_at "ev"); (walk_at "op"))
  | ((with_reducible apply cons_ev); (walk_at "ev"); (walk_at "ev"))
  | ((with_reducible apply tup_ev); (walk_at "ev"); (simp <;> omega))
  | ((with_reducible apply lst_ev); (walk_at "ev"); (simp <;> omega))
  | ((with_reducible apply of_ev); (walk_at "ev"))
  | ((with_reducible apply tru_ev); (walk_at "ev"); first | assumption | rfl)
  | ((with_reducible apply notT_ev); (walk_at "ev"))
  | ((with_reducible apply meth_ev); (walk_at "ev"); assumption; rfl; (walk_at "ev"); assumption)
  | assumption)
theorem newRows_range (tick to : Int) (c : Nat) (f : List Int) : ((List.range f.length).map fun k => rowD ⟨tick + f.getD k 0, c, k, to⟩) = (newRows tick to c f).map rowD := by
  unfold newRows
  rw [List.map_map]
  refine List.ext_getElem? fun i => ?_
  rw [List.getElem?_map, List.getElem?_map, List.getElem?_zipIdx]
  by_cases hi : i < f.length
  · rw [List.getElem?_range hi, List.getElem?_eq_getElem hi]
    simp [List.getD_eq_getElem?_getD, List.getElem?_eq_getElem hi]
  · rw [List.getElem?_eq_none (by simpa using hi), List.getElem?_eq_none (by simpa using hi)]; rfl
theorem newRows_length (tick to : Int) (c : Nat) (f : List Int) : (newRows tick to c f).length = f.length := by simp [newRows]
theorem okD_iT (f : List Int) (h : f.length ≤ 1000000) : okD 7 (iT f) = true := by
  show (decide ((f.map D.int).length ≤ 1000000) && okDs 6 (f.map D.int)) = true
  rw [Bool.and_eq_true]
  exact ⟨by simpa using h, okDs_of fun x m => by obtain ⟨i, _, rfl⟩ := List.mem_map.mp m; rfl⟩
section
variable {K : PySem.W.Frag} {nb n1 ln u l lg : Nat} {S : List (List Int)} {rs : List Rw} {ls : List Lg} {tick : Int} {M : Mem}
theorem turn0 (h : LInv (He.ga K "Line") nb n1 ln u l lg S rs ls tick M) (hS : OkS S) (hz : ls.length ≤ 1000) {tk : Nat} (t1 : 1 ≤ tk) (t2 : tk ≤ 4) (sc wr : D) (o9 o10 o11 o12 o13 o14 o15 o16 o17 o18 o19 o20 : Option D) :
    ∃ (rs' : List Rw) (ls' : List Lg) (M' : Mem) (p11 p12 p13 : Option D), B_law_0 K (lawR sc nb S tk wr ln rs lg tick o9 o10 o11 o12 o13 o14 o15 o16 o17 o18 o19 o20) M = .nx (lawR sc nb S tk wr ln rs' lg tick o9 o10 p11 p12 p13 o14 o15 o16 o17 o18 o19 o20) M' ∧
      LInv (He.ga K "Line") nb n1 ln u l lg S rs' ls' tick M' ∧ ls'.length = ls.length + 1 := by
  obtain ⟨to, M1, e1, a1, b1, hB1, o1⟩ := draw_ev h.box (m := (tk : Int)) (by omega) (by omega)
  have h1 := h.off hB1 o1
  have few := hS.few _ (ft_mem hS.ne ls.length)
  have rng := hS.rng _ (ft_mem hS.ne ls.length)
  obtain ⟨M2, e2, hL2, hl2, hk2⟩ := send_ev h1.line hS (by have := h1.len; omega) (by omega) tick to
  have hlg2 : M2[lg]? = some (.lst (ls.map logD)) := by rw [hk2 lg h1.s3.1 h1.s3.2.1 h1.s3.2.2]; exact h1.log
  have hlg1 := h1.log
  have hi1 := h1.line.ins
  have e3 : ixD (scr S) (.int ((ls.length : Int) % (S.length : Int))) M1 = .ok (iT (ft S ls.length)) M1 := by
    show opt (atI (S.map iT) _) _ = _
    have : atI (S.map iT) ((ls.length : Int) % (S.length : Int)) = some (iT (ft S ls.length)) := by
      rw [show ((ls.length : Int) % (S.length : Int)) = ((ls.length % S.length : Nat) : Int) from rfl]
      exact atI_nat (by rw [List.getElem?_map, ft_get hS.ne]; rfl)
    rw [this]; rfl
  have hS0 : 0 < (S.length : Int) := by have := hS.ne; have := List.length_pos_iff.mpr this; omega
  have hs1 := same_refl 7 (iT (ft S ls.length)) (okD_iT _ (by omega)) M2
  have e4 := fate_of_ev hS.ne ls.length M2
  have lm : lenD [.ref lg] M1 = .ok (.int (ls.length : Int)) M1 := by rw [lenD_ref hlg1, List.length_map]
  have lm2 : lenD [.ref lg] M2 = .ok (.int (ls.length : Int)) M2 := by rw [lenD_ref hlg2, List.length_map]
  have ls1 : lenD [scr S] M1 = .ok (.int (S.length : Int)) M1 := by rw [lenD_tup, List.length_map]
  let R := lawR sc nb S tk wr ln rs lg tick o9 o10 (some (.int to)) (some (datD ls.length)) (some (iT (ft S ls.length))) o14 o15 o16 o17 o18 o19 o20
  have s1 : sAsgM (eTup (aCons (eCall F_z_law_draw (aCons (eLoc 1) (aCons (eLoc 3) (aNil)))) (aCons (eTup (aCons (eC (.str "data")) (aCons (eCB lenD (aCons (eLoc 7) (aNil))) (aNil)))) (aNil)))) (mTup 2 (mCons (mName 11) (mCons (mName 12) (mNil)))) (lawR sc nb S tk wr ln rs lg tick o9 o10 o11 o12 o13 o14 o15 o16 o17 o18 o19 o20) M =
      .nx (lawR sc nb S tk wr ln rs lg tick o9 o10 (some (.int to)) (some (datD ls.length)) o13 o14 o15 o16 o17 o18 o19 o20) M1 :=
    asgm_ev (d := .tup [.int to, datD ls.length]) (by walk_at "ev") rfl
  have s2 : sSet 13 (eBin ixD (eLoc 2) (eBin modD (eCB lenD (aCons (eLoc 7) (aNil))) (eCB lenD (aCons (eLoc 2) (aNil))))) (lawR sc nb S tk wr ln rs lg tick o9 o10 (some (.int to)) (some (datD ls.length)) o13 o14 o15 o16 o17 o18 o19 o20) M1 = .nx R M1 :=
    set_ev (d := iT (ft S ls.length)) (by walk_at "ev")
  have s3 : (tOrG (tNotG (tTru (eCall (F_z_law_same 8) (aCons (eMeth (He.ga K "Line") "send" (F_Line_send K) (eLoc 5) (aCons (eLoc 8) (aCons (eLoc 11) (aCons (eLoc 12) (aNil))))) (aCons (eLoc 13) (aNil)))))) (tNotG (tTru (eCall (F_z_law_same 8) (aCons (eCall F_fate_of (aCons (eLoc 2) (aCons (eCB lenD (aCons (eLoc 7) (aNil))) (aNil)))) (aCons (eLoc 13) (aNil))))))) R M1 = .ok false M2 := by
    refine orf_ev (M1 := M2) ?_ ?_
    · refine notT_ev (b := true) ?_
      walk_at "ev"
    · refine notT_ev (b := true) ?_
      walk_at "ev"
  have s4 : eLc false (iR1 (eCB lenD (aCons (eLoc 13) (aNil)))) (bName 22) (tYesG) (eTup (aCons (eBin (addD false) (eLoc 8) (eBin ixD (eLoc 13) (eLoc 22))) (aCons (eCB lenD (aCons (eLoc 7) (aNil))) (aCons (eLoc 22) (aCons (eLoc 11) (aCons (eLoc 12) (aNil))))))) [22] R M2 = .ok (.lst ((newRows tick to ls.length (ft S ls.length)).map rowD)) M2 := by
    rw [lc_range (n := (ft S ls.length).length) (M1 := M2) (fun k => rowD ⟨tick + (ft S ls.length).getD k 0, ls.length, k, to⟩) (by
      have : lenD [iT (ft S ls.length)] M2 = .ok (.int ((ft S ls.length).length : Int)) M2 := by rw [lenD_tup, List.length_map]
      walk_at "ev") (by omega) (fun k hk => by
      have e5 : ixD (iT (ft S ls.length)) (.int (k : Int)) M2 = .ok (.int ((ft S ls.length).getD k 0)) M2 := by
        rw [ixD_tup]
        have : atI ((ft S ls.length).map D.int) (k : Int) = some (.int ((ft S ls.length).getD k 0)) := atI_nat (by rw [List.getElem?_map, List.getElem?_eq_getElem hk, List.getD_eq_getElem?_getD, List.getElem?_eq_getElem hk]; rfl)
        rw [this]; rfl
      show eTup _ _ _ = .ok (.tup [_, _, _, _, _]) M2
      walk_at "ev")]
    rw [newRows_range]; rfl
  have s5 : sSet 6 (eBin (addD false) (eLoc 6) (eLc false (iR1 (eCB lenD (aCons (eLoc 13) (aNil)))) (bName 22) (tYesG) (eTup (aCons (eBin (addD false) (eLoc 8) (eBin ixD (eLoc 13) (eLoc 22))) (aCons (eCB lenD (aCons (eLoc 7) (aNil))) (aCons (eLoc 22) (aCons (eLoc 11) (aCons (eLoc 12) (aNil))))))) [22])) R M2 =
      .nx (lawR sc nb S tk wr ln (rs ++ newRows tick to ls.length (ft S ls.length)) lg tick o9 o10 (some (.int to)) (some (datD ls.length)) (some (iT (ft S ls.length))) o14 o15 o16 o17 o18 o19 o20) M2 := by
    rw [set_ev (d := .lst ((rs ++ newRows tick to ls.length (ft S ls.length)).map rowD)) (bin_ev (loc_ev rfl) s4 (by
      rw [addD_lst (by rw [List.length_map, List.length_map, newRows_length]; have := h1.len; omega), List.map_append]; rfl))]
    rfl
  have nu := newRows_uniq h1.uniq h1.lt tick to (ft S ls.length)
  refine ⟨rs ++ newRows tick to ls.length (ft S ls.length), ls ++ [⟨tick, to, ft S ls.length⟩], _, _, _, _, seq_nx s1 (seq_nx s2 (seq_nx (if_f s3 rfl) (seq_nx s5 (expr_ev (mt_ev (loc_ev rfl) (isLst_ref hlg2) (cons_ev (tup_ev (xs := [.int tick, .int to, iT (ft S ls.length)]) (by walk_at "ev") (by simp)) rfl) (append_ref hlg2 (by rw [List.length_map]; omega))))))), ?_, by simp⟩
  have hlt : lg < M2.length := (List.getElem?_eq_some_iff.mp hlg2).1
  refine ⟨?_, ⟨?_, ?_, ?_, hL2.n1, hL2.n2, hL2.n3⟩, ?_, h1.s1, h1.s2, h1.s3, nu.1, ?_, ?_, ?_, ?_⟩
  · refine hB1.keep ?_ ?_
    · rw [List.getElem?_set_ne (Ne.symm h1.s1.2.2.2)]; exact hk2 _ h1.s1.1 h1.s1.2.1 h1.s1.2.2.1
    · rw [List.getElem?_set_ne (Ne.symm h1.s2.2.2.2)]; exact hk2 _ h1.s2.1 h1.s2.2.1 h1.s2.2.2.1
  · rw [List.getElem?_set_ne h1.s3.1, List.length_append]; exact hL2.obj
  · rw [List.getElem?_set_ne h1.s3.2.1]; exact hL2.uw
  · rw [List.getElem?_set_ne h1.s3.2.2]; exact hL2.lg
  · rw [List.getElem?_set_self hlt, List.map_append]; rfl
  · intro r hr
    rw [List.length_append]
    exact nu.2 r hr
  · intro r hr
    rcases List.mem_append.mp hr with m | m
    · exact h1.due r m
    · unfold newRows at m
      obtain ⟨p, hp, rfl⟩ := List.mem_map.mp m
      have hp1 : p.1 ∈ ft S ls.length := by
        have := List.fst_mem_of_mem_zipIdx hp
        exact this
      have := (rng p.1 hp1).2
      show tick + p.1 ≤ tick + 100
      omega
  · rw [List.length_append, List.length_append, newRows_length]
    have := h1.len
    simp; omega
  · intro g m
    rcases List.mem_append.mp m with m | m
    · exact h1.few g m
    · have : g = ⟨tick, to, ft S ls.length⟩ := by simpa using m
      rw [this]; exact few
end
end L37
namespace L37
open PySem L2 G PySem.W
local macro_rules | `(tactic| walk_at "op") => `(tactic| first
  | assumption
  | exact addD_int
  | exact subD_ev
  | ((with_reducible apply modD_ev); first | decide | omega)
  | exact eqD_int
  | exact neD_int
  | exact ltD_int
  | exact leD_int
  | exact gtD_int
  | exact geD_int
  | exact tupleD_lst _
  | exact tupleD_tup _
  | exact lenD_tup _
  | exact lenD_lst _
  | ((with_reducible apply lenD_ref); assumption)
  | ((with_reducible apply tupleD_ref); assumption)
  | exact isD_bl _ _
  | exact isntD_bl _ _)
local macro_rules | `(tactic| walk_at "ev") => `(tactic| first
  | ((with_reducible apply loc_ev); rfl)
  | with_reducible exact c_ev
  | with_reducible exact nil_ev
  | ((with_reducible apply bin_ev); (walk_at "ev"); (walk_at "ev"); (walk_at "op"))
  | ((with_reducible apply un_ev); (walk_at "ev"); (walk_at "op"))
  | ((with_reducible apply cb_ev); (walk_at "ev"); (walk_at "op"))
  | ((with_reducible apply call_ev); (walk_at "ev"); (walk_at "op"))
  | ((with_reducible apply cons_ev); (walk_at "ev"); (walk_at "ev"))
  | ((with_reducible apply tup_ev); (walk_at "ev"); (simp <;> omega))
  | ((with_reducible apply lst_ev); (walk_at "ev"); (simp <;> omega))
  | ((with_reducible apply of_ev); (walk_at "ev"))
  | ((with_reducible apply tru_ev); (walk_at "ev"); first | assumption | rfl)
  | ((with_reducible apply notT_ev); (walk_at "ev"))
  | ((with_reducible apply meth_ev); (walk_at "ev"); assumption; rfl; (walk_at "ev"); assumption)
  | assumption)
section
variable {C : Addr} {K : PySem.W.Frag} {nb n1 ln u l lg : Nat} {S : List (List Int)} {rs : List Rw} {ls : List Lg} {tick : Int} {M M' : Mem}
theorem LInv.lts (h : LInv C nb n1 ln u l lg S rs ls tick M) : nb < M.length ∧ n1 < M.length ∧ ln < M.length ∧ u < M.length ∧ l < M.length ∧ lg < M.length :=
  ⟨h.box.lt.1, h.box.lt.2.1, h.line.lt.1, h.line.lt.2.1, h.line.lt.2.2, (List.getElem?_eq_some_iff.mp h.log).1⟩
theorem LInv.moved (h : LInv C nb n1 ln u l lg S rs ls tick M) {u' : Nat} {rs' : List Rw} (hL : LineAt C ln u' l S ls.length rs' ls M') (hk : ∀ j, j < M.length → j ≠ ln → M'[j]? = M[j]?) (hu : M.length ≤ u') (hs : ∃ p : Rw → Bool, rs' = rs.filter p) :
    LInv C nb n1 ln u' l lg S rs' ls tick M' := by
  obtain ⟨p, rfl⟩ := hs
  obtain ⟨a1, a2, a3, a4, a5, a6⟩ := h.lts
  exact ⟨h.box.keep (hk _ a1 h.s1.1) (hk _ a2 h.s2.1), hL, by rw [hk _ a6 h.s3.1]; exact h.log, ⟨h.s1.1, by omega, h.s1.2.2⟩, ⟨h.s2.1, by omega, h.s2.2.2⟩, ⟨h.s3.1, by omega, h.s3.2.2⟩, h.uniq.filter p, fun r m => h.lt r (List.mem_filter.mp m).1, fun r m => h.due r (List.mem_filter.mp m).1,
    Nat.le_trans (List.length_filter_le _ _) h.len, h.few⟩
theorem none_due (rs : List Rw) (to tick : Int) : dueL to tick (rs.filter fun r => !isDue to tick r) = [] := by
  unfold dueL
  have : ((rs.filter fun r => !isDue to tick r).zipIdx.filter fun p => isDue to tick p.1) = [] := by
    rw [List.filter_eq_nil_iff]
    intro p hp
    have := List.fst_mem_of_mem_zipIdx hp
    have := (List.mem_filter.mp this).2
    simpa using this
  rw [this]; simp
theorem okD_datL (l : List Rw) (h : l.length ≤ 1000000) : okD 7 (.lst (l.map fun r => datD r.num)) = true := by
  show (decide ((l.map fun r => datD r.num).length ≤ 1000000) && okDs 6 (l.map fun r => datD r.num)) = true
  rw [Bool.and_eq_true]
  exact ⟨by simpa using h, okDs_of fun x m => by obtain ⟨i, _, rfl⟩ := List.mem_map.mp m; rfl⟩
/-- what the law itself finds due -/
def dueS (to tick : Int) (rs : List Rw) : List Rw := (rs.filter (isDue to tick)).mergeSort le2
theorem dueS_len (to tick : Int) (rs : List Rw) : (dueS to tick rs).length ≤ rs.length := by
  unfold dueS
  rw [List.length_mergeSort]
  exact List.length_filter_le _ _
theorem row_cut {M : Mem} {ρ : Slots} {i : Nat} {r : Rw} (h : ρ[i]? = some (some (rowD r))) : eBin (addD false) (eSl false (eLoc i) (oNone) (oSome (eC (.int (3))))) (eTup (aCons (eBin ixD (eLoc i) (eC (.int (4)))) (aNil))) ρ M = .ok (f2 r) M := by
  have e1 : eLoc i ρ M = .ok (rowD r) M := loc_ev h
  refine bin_ev (u := .tup [.int r.due, .int (r.num : Int), .int (r.cp : Int)]) (M1 := M) (M2 := M) ?_ (tup_ev (xs := [datD r.num]) (cons_ev (bin_ev e1 rfl (row_ix r).2.2) rfl) (by simp)) (addD_tup (by simp))
  unfold eSl
  rw [e1]
  rfl
theorem dat_ix (l : List Rw) {ρ : Slots} (h : ρ[14]? = some (some (.lst (l.map f2)))) (hw : ρ.length = 24) (hl : l.length ≤ 1000000) : eLc false (iSeqG (eLoc 14)) (bName 23) (tYesG) (eBin ixD (eLoc 23) (eC (.int (3)))) [23] ρ M = .ok (.lst (l.map fun r => datD r.num)) M :=
  lc_overA (c := false) (i := iSeqG (eLoc 14)) (b := bName 23) (te := eBin ixD (eLoc 23) (eC (.int (3)))) (vs := [23]) (ρ := ρ) (M := M) (M1 := M) (src := []) l f2
    (fun p => (wipeG ρ [23]).set 23 (some (f2 p))) (fun p => datD p.num) (iSeq_lst (loc_ev h)) (srcOk_none _ _) (fun x m => rfl) (fun x m => bin_ev (loc_ev (by
      rw [List.getElem?_set_self (by show 23 < (ρ.set 23 none).length; rw [List.length_set]; omega)])) rfl rfl) hl
theorem arr1 (h : LInv (He.ga K "Line") nb n1 ln u l lg S rs ls tick M) (hz : ls.length ≤ 1000) {tk : Nat} (t1 : 1 ≤ tk) (t2 : tk ≤ 4) (sc wr : D) (o9 o10 o11 o12 o13 o14 o15 o16 o17 o18 o19 o20 : Option D) :
    ∃ (u' : Nat) (rs' : List Rw) (M' : Mem) (p11 p14 : Option D), sSeq (sSet 11 (eCall F_z_law_draw (aCons (eLoc 1) (aCons (eLoc 3) (aNil))))) (sSeq (sSet 14 (eCB (sortedD false) (aCons (eLc false (iSeqG (eLoc 6)) (bName 23) (tAndG (tOf (eBin eqD (eBin ixD (eLoc 23) (eC (.int (3)))) (eLoc 11))) (tOf (eBin leD (eBin ixD (eLoc 23) (eC (.int (0)))) (eLoc 8)))) (eBin (addD false) (eSl false (eLoc 23) (oNone) (oSome (eC (.int (3))))) (eTup (aCons (eBin ixD (eLoc 23) (eC (.int (4)))) (aNil)))) [23]) (aNil)))) (sSeq (sSet 6 (eLc false (iSeqG (eLoc 6)) (bName 23) (tOrG (tOf (eBin neD (eBin ixD (eLoc 23) (eC (.int (3)))) (eLoc 11))) (tOf (eBin gtD (eBin ixD (eLoc 23) (eC (.int (0)))) (eLoc 8)))) (eLoc 23) [23])) (sIf (tOrG (tNotG (tTru (eCall (F_z_law_same 8) (aCons (eMeth (He.ga K "Line") "arrived" (F_Line_arrived K) (eLoc 5) (aCons (eLoc 8) (aCons (eLoc 11) (aNil)))) (aCons (eLc false (iSeqG (eLoc 14)) (bName 23) (tYesG) (eBin ixD (eLoc 23) (eC (.int (3)))) [23]) (aNil)))))) (tOf (eBin neD (eMeth (He.ga K "Line") "arrived" (F_Line_arrived K) (eLoc 5) (aCons (eLoc 8) (aCons (eLoc 11) (aNil)))) (eLst false (aNil))))) (sRet (eC (.bl false))) (sNil))))
      (lawR sc nb S tk wr ln rs lg tick o9 o10 o11 o12 o13 o14 o15 o16 o17 o18 o19 o20) M = .nx (lawR sc nb S tk wr ln rs' lg tick o9 o10 p11 o12 o13 p14 o15 o16 o17 o18 o19 o20) M' ∧
      LInv (He.ga K "Line") nb n1 ln u' l lg S rs' ls tick M' := by
  obtain ⟨to, M1, e1, a1, b1, hB1, o1⟩ := draw_ev h.box (m := (tk : Int)) (by omega) (by omega)
  have h1 := h.off hB1 o1
  have hrs : rs.length ≤ 4000 := by have := h.len; omega
  obtain ⟨M2, e2, hL2, hl2, hk2⟩ := arrived_ev h1.line (by omega) tick to
  rw [due_data h1.uniq] at e2
  have h2 := h1.moved hL2 hk2 (Nat.le_refl _) ⟨_, rfl⟩
  obtain ⟨M3, e3, hL3, hl3, hk3⟩ := arrived_ev h2.line (by have := h2.len; omega) tick to
  rw [none_due] at e3
  have h3 := h2.moved hL3 hk3 (Nat.le_refl _) ⟨_, rfl⟩
  have hi1 := h1.line.ins
  have hi2 := h2.line.ins
  have hid : (rs.filter fun r => !isDue to tick r).filter (fun r => !isDue to tick r) = rs.filter fun r => !isDue to tick r := by
    rw [List.filter_filter]
    congr 1
    funext r
    simp
  rw [hid] at h3
  have a3 := lc_over (c := false) (i := iSeqG (eLoc 6)) (b := bName 23) (tt := tAndG (tOf (eBin eqD (eBin ixD (eLoc 23) (eC (.int (3)))) (eLoc 11))) (tOf (eBin leD (eBin ixD (eLoc 23) (eC (.int (0)))) (eLoc 8)))) (te := eBin (addD false) (eSl false (eLoc 23) (oNone) (oSome (eC (.int (3))))) (eTup (aCons (eBin ixD (eLoc 23) (eC (.int (4)))) (aNil)))) (vs := [23])
    (ρ := lawR sc nb S tk wr ln rs lg tick o9 o10 (some (.int to)) o12 o13 o14 o15 o16 o17 o18 o19 o20) (M := M1) (M1 := M1) (src := []) rs rowD
    (fun r => (lawR sc nb S tk wr ln rs lg tick o9 o10 (some (.int to)) o12 o13 o14 o15 o16 o17 o18 o19 o20).set 23 (some (rowD r))) (isDue to tick) f2 (iSeq_lst (loc_ev rfl)) (srcOk_none _ _) (fun x m => rfl)
    (fun x m => and_ev (of_ev (bin_ev (bin_ev (loc_ev rfl) rfl (row_ix x).2.1) (loc_ev rfl) eqD_int)) (of_ev (bin_ev (bin_ev (loc_ev rfl) rfl (row_ix x).1) (loc_ev rfl) leD_int)))
    (fun x m _ => row_cut rfl) (by omega)
  have a4 := lc_over (c := false) (i := iSeqG (eLoc 6)) (b := bName 23) (tt := tOrG (tOf (eBin neD (eBin ixD (eLoc 23) (eC (.int (3)))) (eLoc 11))) (tOf (eBin gtD (eBin ixD (eLoc 23) (eC (.int (0)))) (eLoc 8)))) (te := eLoc 23) (vs := [23])
    (ρ := lawR sc nb S tk wr ln rs lg tick o9 o10 (some (.int to)) o12 o13 (some (.lst ((dueS to tick rs).map f2))) o15 o16 o17 o18 o19 o20) (M := M1) (M1 := M1) (src := []) rs rowD
    (fun r => (lawR sc nb S tk wr ln rs lg tick o9 o10 (some (.int to)) o12 o13 (some (.lst ((dueS to tick rs).map f2))) o15 o16 o17 o18 o19 o20).set 23 (some (rowD r))) (fun r => !decide (r.to = to) || decide (tick < r.due)) rowD (iSeq_lst (loc_ev rfl)) (srcOk_none _ _) (fun x m => rfl)
    (fun x m => or_ev (of_ev (bin_ev (bin_ev (loc_ev rfl) rfl (row_ix x).2.1) (loc_ev rfl) neD_int)) (of_ev (bin_ev (bin_ev (loc_ev rfl) rfl (row_ix x).1) (loc_ev rfl) gtD_int)))
    (fun x m _ => loc_ev rfl) (by omega)
  have hp : (fun r : Rw => !decide (r.to = to) || decide (tick < r.due)) = fun r => !isDue to tick r := by
    funext r
    unfold isDue
    by_cases q1 : r.to = to <;> by_cases q2 : r.due ≤ tick <;> simp [q1, q2] <;> omega
  rw [hp] at a4
  have hs := same_refl 7 _ (okD_datL (dueS to tick rs) (by have := dueS_len to tick rs; omega)) M2
  have hdx := dat_ix (M := M2) (dueS to tick rs) (ρ := lawR sc nb S tk wr ln (rs.filter fun r => !isDue to tick r) lg tick o9 o10 (some (.int to)) o12 o13 (some (.lst ((dueS to tick rs).map f2))) o15 o16 o17 o18 o19 o20) rfl rfl (by have := dueS_len to tick rs; omega)
  refine ⟨_, _, M3, some (.int to), some (.lst ((dueS to tick rs).map f2)), seq_nx (set_ev (d := .int to) (M1 := M1) (by walk_at "ev")) (seq_nx (set_ev (cb_ev (cons_ev a3 rfl) (sort2 _))) (seq_nx (set_ev a4) (if_f (M1 := M3) (orf_ev (M1 := M2) (notT_ev (b := true) ?_) ?_) rfl))), h3⟩
  · refine tru_ev (d := .bl true) (call_ev (M1 := M2) (cons_ev (u := .lst ((dueS to tick rs).map fun r => datD r.num)) (M1 := M2) ?_ (cons_ev hdx rfl)) hs) rfl
    refine meth_ev (loc_ev rfl) hi1 rfl (cons_ev (loc_ev rfl) (cons_ev (loc_ev rfl) rfl)) ?_
    exact e2
  · refine of_ev (bin_ev (u := .lst []) (M1 := M3) (meth_ev (loc_ev rfl) hi2 rfl (cons_ev (loc_ev rfl) (cons_ev (loc_ev rfl) rfl)) ?_) (lst_ev (xs := []) rfl (by simp)) (by rfl))
    exact e3
end
end L37
namespace L37
open PySem L2 G PySem.W
local macro_rules | `(tactic| walk_at "op") => `(tactic| first
  | assumption
  | exact addD_int
  | exact subD_ev
  | ((with_reducible apply modD_ev); first | decide | omega)
  | exact eqD_int
  | exact neD_int
  | exact ltD_int
  | exact leD_int
  | exact gtD_int
  | exact geD_int
  | exact tupleD_lst _
  | exact tupleD_tup _
  | exact lenD_tup _
  | exact lenD_lst _
  | ((with_reducible apply lenD_ref); assumption)
  | ((with_reducible apply tupleD_ref); assumption)
  | exact isD_bl _ _
  | exact isntD_bl _ _)
local macro_rules | `(tactic| walk_at "ev") => `(tactic| first
  | ((with_reducible apply loc_ev); rfl)
  | with_reducible exact c_ev
  | with_reducible exact nil_ev
  | ((with_reducible apply bin_ev); (walk_at "ev"); (walk_at "ev"); (walk_at "op"))
  | ((with_reducible apply un_ev); (walk_at "ev"); (walk_at "op"))
  | ((with_reducible apply cb_ev); (walk_at "ev"); (walk_at "op"))
  | ((with_reducible apply call_ev); (walk_at "ev"); (walk_at "op"))
  | ((with_reducible apply cons_ev); (walk_at "ev"); (walk_at "ev"))
  | ((with_reducible apply tup_ev); (walk_at "ev"); (simp <;> omega))
  | ((with_reducible apply lst_ev); (walk_at "ev"); (simp <;> omega))
  | ((with_reducible apply of_ev); (walk_at "ev"))
  | ((with_reducible apply tru_ev); (walk_at "ev"); first | assumption | rfl)
  | ((with_reducible apply notT_ev); (walk_at "ev"))
  | ((with_reducible apply meth_ev); (walk_at "ev"); assumption; rfl; (walk_at "ev"); assumption)
  | assumption)
section
variable {C : Addr} {K : PySem.W.Frag} {nb n1 ln u l lg : Nat} {S : List (List Int)} {rs : List Rw} {ls : List Lg} {tick : Int} {M M' : Mem}
/-- what is asked behind each turn -/
theorem asked1 (h : LInv (He.ga K "Line") nb n1 ln u l lg S rs ls tick M) (hz : ls.length ≤ 1000) {tk : Nat} (t1 : 1 ≤ tk) (t2 : tk ≤ 4) (sc wr : D) (o9 o10 o11 o12 o13 o14 o15 o16 o17 o18 o19 o20 : Option D) :
    (sIf (tOrG (tOf (eBin neD (eMeth (He.ga K "Line") "count" (F_Line_count K) (eLoc 5) (aNil)) (eCB lenD (aCons (eLoc 7) (aNil))))) (tNotG (tTru (eCB allD (aCons (eLc false (iR1 (eLoc 3)) (bName 11) (tYesG) (eBin eqD (eMeth (He.ga K "Line") "under_way" (F_Line_under_way K) (eLoc 5) (aCons (eLoc 11) (aNil))) (eCB lenD (aCons (eLc false (iSeqG (eLoc 6)) (bName 23) (tOf (eBin eqD (eBin ixD (eLoc 23) (eC (.int (3)))) (eLoc 11))) (eLoc 23) [23]) (aNil)))) [11]) (aNil)))))) (sRet (eC (.bl false))) (sNil))
      (lawR sc nb S tk wr ln rs lg tick o9 o10 o11 o12 o13 o14 o15 o16 o17 o18 o19 o20) M = .nx (lawR sc nb S tk wr ln rs lg tick o9 o10 o11 o12 o13 o14 o15 o16 o17 o18 o19 o20) M := by
  have hrs : rs.length ≤ 4000 := by have := h.len; omega
  have hi := h.line.ins
  have hlog := h.log
  have lm : lenD [.ref lg] M = .ok (.int (ls.length : Int)) M := by rw [lenD_ref hlog, List.length_map]
  refine if_f (M1 := M) (orf_ev (M1 := M) ?_ (notT_ev (b := true) ?_)) rfl
  · refine of_ev (bin_ev (M1 := M) (M2 := M) (meth_ev (loc_ev rfl) hi rfl nil_ev (count_ev h.line)) (cb_ev (cons_ev (loc_ev rfl) rfl) lm) ?_)
    rw [neD_int]; simp
  · have a := lc_range (c := false) (b := 11) (vs := [11]) (ρ := lawR sc nb S tk wr ln rs lg tick o9 o10 o11 o12 o13 o14 o15 o16 o17 o18 o19 o20) (M := M) (M1 := M) (n := tk) (e := eLoc 3)
      (te := (eBin eqD (eMeth (He.ga K "Line") "under_way" (F_Line_under_way K) (eLoc 5) (aCons (eLoc 11) (aNil))) (eCB lenD (aCons (eLc false (iSeqG (eLoc 6)) (bName 23) (tOf (eBin eqD (eBin ixD (eLoc 23) (eC (.int (3)))) (eLoc 11))) (eLoc 23) [23]) (aNil))))) (fun _ => .bl true) (loc_ev rfl) (by omega) (fun k hk => by
        have a2 := lc_over (c := false) (i := iSeqG (eLoc 6)) (b := bName 23) (tt := tOf (eBin eqD (eBin ixD (eLoc 23) (eC (.int (3)))) (eLoc 11))) (te := eLoc 23) (vs := [23])
          (ρ := lawR sc nb S tk wr ln rs lg tick o9 o10 (some (.int (k : Int))) o12 o13 o14 o15 o16 o17 o18 o19 o20) (M := M) (M1 := M) (src := []) rs rowD
          (fun r => (lawR sc nb S tk wr ln rs lg tick o9 o10 (some (.int (k : Int))) o12 o13 o14 o15 o16 o17 o18 o19 o20).set 23 (some (rowD r))) (fun r => decide (r.to = (k : Int))) rowD (iSeq_lst (loc_ev rfl)) (srcOk_none _ _) (fun x m => rfl)
          (fun x m => of_ev (bin_ev (bin_ev (loc_ev rfl) rfl (row_ix x).2.1) (loc_ev rfl) eqD_int))
          (fun x m _ => loc_ev rfl) (by omega)
        refine bin_ev (M1 := M) (M2 := M) (meth_ev (loc_ev rfl) hi rfl (cons_ev (loc_ev rfl) rfl) (uw_ev h.line (by omega) _)) (cb_ev (cons_ev a2 rfl) (lenD_lst _)) ?_
        rw [eqD_int, List.length_map]; simp)
    refine tru_ev (d := .bl true) (cb_ev (cons_ev a rfl) ?_) rfl
    rw [newL_f] at *
    rw [allD_map (fun _ => true)]
    simp
theorem turn1 (h : LInv (He.ga K "Line") nb n1 ln u l lg S rs ls tick M) (hS : OkS S) {t : Nat} (ht : t < 100) (hz : ls.length ≤ 3 * t) {tk : Nat} (t1 : 1 ≤ tk) (t2 : tk ≤ 4) (sc wr : D) (o9 o10 o11 o12 o13 o14 o15 o16 o17 o18 o19 o20 : Option D) :
    ∃ (u' : Nat) (rs' : List Rw) (ls' : List Lg) (tick' : Int) (M' : Mem) (p10 p11 p12 p13 p14 : Option D), B_law_1 K (lawR sc nb S tk wr ln rs lg tick o9 o10 o11 o12 o13 o14 o15 o16 o17 o18 o19 o20) M = .nx (lawR sc nb S tk wr ln rs' lg tick' o9 p10 p11 p12 p13 p14 o15 o16 o17 o18 o19 o20) M' ∧
      LInv (He.ga K "Line") nb n1 ln u' l lg S rs' ls' tick' M' ∧ ls'.length ≤ 3 * (t + 1) := by
  obtain ⟨d, M1, e1, a1, b1, hB1, o1⟩ := draw_ev h.box (m := 4) (by omega) (by omega)
  have h1 := h.off hB1 o1
  obtain ⟨x, ex, mx⟩ := at_small (xs := [.int 0, .int 0, .int 1, .int 3]) a1 (by simpa using b1)
  have hx : ∃ i : Int, x = .int i ∧ 0 ≤ i := by
    simp only [List.mem_cons, List.not_mem_nil, or_false] at mx
    rcases mx with q | q | q | q
    · exact ⟨0, q, by decide⟩
    · exact ⟨0, q, by decide⟩
    · exact ⟨1, q, by decide⟩
    · exact ⟨3, q, by decide⟩
  obtain ⟨i, rfl, i0⟩ := hx
  have h2 := h1.later (t := tick + i) (by omega)
  have s1 : sSet 8 (eBin (addD false) (eLoc 8) (eBin ixD (eLst false (aCons (eC (.int (0))) (aCons (eC (.int (0))) (aCons (eC (.int (1))) (aCons (eC (.int (3))) (aNil)))))) (eCall F_z_law_draw (aCons (eLoc 1) (aCons (eC (.int (4))) (aNil)))))) (lawR sc nb S tk wr ln rs lg tick o9 o10 o11 o12 o13 o14 o15 o16 o17 o18 o19 o20) M = .nx (lawR sc nb S tk wr ln rs lg (tick + i) o9 o10 o11 o12 o13 o14 o15 o16 o17 o18 o19 o20) M1 :=
    set_ev (d := .int (tick + i)) (bin_ev (loc_ev rfl) (bin_ev (lst_ev (xs := [.int 0, .int 0, .int 1, .int 3]) (by walk_at "ev") (by simp)) (by walk_at "ev") (by rw [ixD_lst, ex]; rfl)) addD_int)
  obtain ⟨n, M2, e2, a2, b2, hB2, o2⟩ := draw_ev hB1 (m := 4) (by omega) (by omega)
  obtain ⟨n, rfl⟩ := Int.eq_ofNat_of_zero_le a2
  have h3 := h2.off hB2 o2
  have key := range_inv (b := 10) (body := B_law_0 K) (ρ := lawR sc nb S tk wr ln rs lg (tick + i) o9 o10 o11 o12 o13 o14 o15 o16 o17 o18 o19 o20) (M := M1) (M1 := M2) (e := eCall F_z_law_draw (aCons (eLoc 1) (aCons (eC (.int (4))) (aNil)))) (n := n)
    (fun k ρ M' => ∃ (rs' : List Rw) (ls' : List Lg) (p10 p11 p12 p13 : Option D), ρ = lawR sc nb S tk wr ln rs' lg (tick + i) o9 p10 p11 p12 p13 o14 o15 o16 o17 o18 o19 o20 ∧ LInv (He.ga K "Line") nb n1 ln u l lg S rs' ls' (tick + i) M' ∧ ls'.length ≤ 3 * t + k)
    (by walk_at "ev") (by omega) ⟨rs, ls, _, _, _, _, rfl, h3, by omega⟩ (fun k ρ M' hk hI => by
      obtain ⟨rs', ls', p10, p11, p12, p13, rfl, hI, hl⟩ := hI
      obtain ⟨rs2, ls2, M2, q11, q12, q13, e, hI2, hl2⟩ := turn0 hI hS (by omega) t1 t2 sc wr o9 (some (.int (k : Int))) p11 p12 p13 o14 o15 o16 o17 o18 o19 o20
      exact ⟨_, M2, .inl e, rs2, ls2, _, _, _, _, rfl, hI2, by omega⟩)
  obtain ⟨ρ', M3, e3, rs', ls', p10, p11, p12, p13, rfl, h4, hl4⟩ := key
  obtain ⟨m, M4, e4, a4, b4, hB4, o4⟩ := draw_ev h4.box (m := 3) (by omega) (by omega)
  have h5 := h4.off hB4 o4
  have c1 : ∀ q : Bool, decide (m = 0) = q → (tOf (eBin eqD (eCall F_z_law_draw (aCons (eLoc 1) (aCons (eC (.int (3))) (aNil)))) (eC (.int (0))))) (lawR sc nb S tk wr ln rs' lg (tick + i) o9 p10 p11 p12 p13 o14 o15 o16 o17 o18 o19 o20) M3 = .ok q M4 := fun q hq => by
    rw [← hq]
    walk_at "ev"
  by_cases hm : m = 0
  · obtain ⟨u', rs2, M5, q11, q14, e5, h6⟩ := arr1 h5 (by omega) t1 t2 sc wr o9 p10 p11 p12 p13 o14 o15 o16 o17 o18 o19 o20
    exact ⟨u', rs2, ls', tick + i, M5, _, _, _, _, _, seq_nx s1 (seq_nx e3 (seq_nx (if_t (c1 true (by simp [hm])) e5) (asked1 h6 (by omega) t1 t2 _ _ _ _ _ _ _ _ _ _ _ _ _ _))), h6, by omega⟩
  · exact ⟨u, rs', ls', tick + i, M4, _, _, _, _, _, seq_nx s1 (seq_nx e3 (seq_nx (if_f (c1 false (by simp [hm])) rfl) (asked1 h5 (by omega) t1 t2 _ _ _ _ _ _ _ _ _ _ _ _ _ _))), h5, by omega⟩
end
end L37
namespace L37
open PySem L2 G PySem.W
local macro_rules | `(tactic| walk_at "op") => `(tactic| first
  | assumption
  | exact addD_int
  | exact subD_ev
  | ((with_reducible apply modD_ev); first | decide | omega)
  | exact eqD_int
  | exact neD_int
  | exact ltD_int
  | exact leD_int
  | exact gtD_int
  | exact geD_int
  | exact tupleD_lst _
  | exact tupleD_tup _
  | exact lenD_tup _
  | exact lenD_lst _
  | ((with_reducible apply lenD_ref); assumption)
  | ((with_reducible apply tupleD_ref); assumption)
  | exact isD_bl _ _
  | exact isntD_bl _ _)
local macro_rules | `(tactic| walk_at "ev") => `(tactic| first
  | ((with_reducible apply loc_ev); rfl)
  | with_reducible exact c_ev
  | with_reducible exact nil_ev
  | ((with_reducible apply bin_ev); (walk_at "ev"); (walk_at "ev"); (walk_at "op"))
  | ((with_reducible apply un_ev); (walk_at "ev"); (walk_at "op"))
  | ((with_reducible apply cb_ev); (walk_at "ev"); (walk_at "op"))
  | ((with_reducible apply call_ev); (walk_at "ev"); (walk_at "op"))
  | ((with_reducible apply cons_ev); (walk_at "ev"); (walk_at "ev"))
  | ((with_reducible apply tup_ev); (walk_at "ev"); (simp <;> omega))
  | ((with_reducible apply lst_ev); (walk_at "ev"); (simp <;> omega))
  | ((with_reducible apply of_ev); (walk_at "ev"))
  | ((with_reducible apply tru_ev); (walk_at "ev"); first | assumption | rfl)
  | ((with_reducible apply notT_ev); (walk_at "ev"))
  | ((with_reducible apply meth_ev); (walk_at "ev"); assumption; rfl; (walk_at "ev"); assumption)
  | assumption)
theorem starved_iff {S : List (List Int)} (hS : S ≠ []) (many link : Nat) : starvedB S many link = (silL S many link (2 * S.length)).all id := by
  have hn : 0 < S.length := List.length_pos_iff.mpr hS
  have gd : ∀ j, S.getD (j % S.length) [] = ft S j := fun j => rfl
  rw [Bool.eq_iff_iff]
  unfold starvedB silL
  rw [List.all_eq_true, List.all_eq_true]
  constructor
  · intro h b hb
    obtain ⟨k, hk, rfl⟩ := List.mem_map.mp hb
    have hj : (link + many * k) % S.length < S.length := Nat.mod_lt _ hn
    have hm : (link + many * k) % S.length ∈ metL S.length many link := by
      unfold metL
      refine List.mem_filter.mpr ⟨List.mem_range.mpr hj, decide_eq_true ?_⟩
      rw [Nat.mod_mod_of_dvd _ (Nat.gcd_dvd_left _ _)]
      have : many * k % Nat.gcd S.length many = 0 := Nat.mod_eq_zero_of_dvd (Nat.dvd_trans (Nat.gcd_dvd_right _ _) (Nat.dvd_mul_right _ _))
      rw [Nat.add_mod, this, Nat.add_zero, Nat.mod_mod]
    have := of_decide_eq_true (h _ hm)
    rw [gd] at this
    show lostB S many link k = true
    exact decide_eq_true this
  · intro h j hj
    unfold metL at hj
    obtain ⟨m1, m2⟩ := List.mem_filter.mp hj
    have hj' := List.mem_range.mp m1
    obtain ⟨k, hk, e⟩ := (met_iff hn hj').mp (of_decide_eq_true m2)
    have := h (lostB S many link k) (List.mem_map.mpr ⟨k, List.mem_range.mpr (by omega), rfl⟩)
    have := of_decide_eq_true (show decide (ft S (link + many * k) = []) = true from this)
    rw [← gd, e] at this
    exact decide_eq_true this
theorem okD_natL (n : Nat) (l : List Nat) (h : l.length ≤ 1000000) : okD (n + 1) (.lst (l.map fun k : Nat => D.int (k : Int))) = true := by
  show (decide ((l.map fun k : Nat => D.int (k : Int)).length ≤ 1000000) && okDs n (l.map fun k : Nat => D.int (k : Int))) = true
  rw [Bool.and_eq_true]
  exact ⟨by simpa using h, okDs_of fun x m => by obtain ⟨i, _, rfl⟩ := List.mem_map.mp m; cases n <;> rfl⟩
theorem okD_natT (n : Nat) (l : List Nat) (h : l.length ≤ 1000000) : okD (n + 1) (.tup (l.map fun k : Nat => D.int (k : Int))) = true := by
  show (decide ((l.map fun k : Nat => D.int (k : Int)).length ≤ 1000000) && okDs n (l.map fun k : Nat => D.int (k : Int))) = true
  rw [Bool.and_eq_true]
  exact ⟨by simpa using h, okDs_of fun x m => by obtain ⟨i, _, rfl⟩ := List.mem_map.mp m; cases n <;> rfl⟩
def silD (S : List (List Int)) (many link : Nat) : D := if (silL S many link (2 * S.length)).all id = true then .non else .int (silence S many link (2 * S.length) : Nat)
def latD (S : List (List Int)) (many link : Nat) : D := if (silL S many link (2 * S.length)).all id = true then .non else .int (latest S many link)
theorem okD_sil (S : List (List Int)) (many link n : Nat) : okD n (silD S many link) = true ∧ okD n (latD S many link) = true := by
  unfold silD latD
  constructor <;> split <;> cases n <;> rfl
section
variable {K : PySem.W.Frag} {nb ln lg : Nat} {S : List (List Int)} {rs : List Rw} {tick : Int} {M : Mem}
theorem turn3 (hS : OkS S) {tk many k : Nat} (hm : many ≤ 12) (hk : k < many) (sc wr : D) (o9 o10 o11 o12 o13 o14 o18 o19 o20 : Option D) :
    ∃ p18 p19 p20, B_law_3 K (lawR sc nb S tk wr ln rs lg tick o9 o10 o11 o12 o13 o14 (some (.int (many : Int))) (some (.lst (((List.range k).filter (starvedB S many)).map fun k : Nat => .int (k : Int)))) (some (.int (k : Int))) o18 o19 o20) M =
      .nx (lawR sc nb S tk wr ln rs lg tick o9 o10 o11 o12 o13 o14 (some (.int (many : Int))) (some (.lst (((List.range (k + 1)).filter (starvedB S many)).map fun k : Nat => .int (k : Int)))) (some (.int (k : Int))) p18 p19 p20) M := by
  have hl := hS.le
  have hl0 : 0 < S.length := List.length_pos_iff.mpr hS.ne
  have e1 : F_z_law_link_by_sending [scr S, .int (many : Int), .int (k : Int)] M = .ok (.tup [silD S many k, latD S many k]) M := sending_ev hS many k (by omega) M
  have e2 := met_ev hS.ne (by omega) many k M
  have e3 : F_longest_silence [scr S, .int (many : Int), .int (k : Int)] M = .ok (silD S many k) M := silence_ev hS.ne (by omega) many k (by omega) M
  have e4 : F_latest_news [scr S, .int (many : Int), .int (k : Int)] M = .ok (latD S many k) M := latest_ev hS many k (by omega) M
  have ls1 : lenD [scr S] M = .ok (.int (S.length : Int)) M := by rw [lenD_tup, List.length_map]
  let A : List D := ((List.range k).filter (starvedB S many)).map fun k : Nat => .int (k : Int)
  let Dm : D := .lst ((metL S.length many k).map fun k : Nat => .int (k : Int))
  let R1 := lawR sc nb S tk wr ln rs lg tick o9 o10 o11 o12 o13 o14 (some (.int (many : Int))) (some (.lst A)) (some (.int (k : Int))) (some (silD S many k)) (some (latD S many k)) o20
  have e5 : eLc false (iR1 (eCB lenD (aCons (eLoc 2) (aNil)))) (bName 22) (tYesG) (eBin modD (eBin (addD false) (eLoc 17) (eBin (mulD false) (eLoc 15) (eLoc 22))) (eCB lenD (aCons (eLoc 2) (aNil)))) [22] R1 M = .ok (.lst (((List.range S.length).map fun j : Nat => (((k + many * j) % S.length : Nat) : Int)).map D.int)) M := by
    rw [lc_range (n := S.length) (M1 := M) (fun j => .int (((k + many * j) % S.length : Nat) : Int)) (by walk_at "ev") (by omega) (fun j hj => by
      exact bin_ev (bin_ev (loc_ev rfl) (bin_ev (loc_ev rfl) (loc_ev rfl) (mulD_nat (by omega))) addD_nat) (cb_ev (cons_ev (loc_ev rfl) rfl) ls1) (modD_nat hl0))]
    rw [List.map_map]; rfl
  have e6 : eUn (sortSetI false) (eLc false (iR1 (eCB lenD (aCons (eLoc 2) (aNil)))) (bName 22) (tYesG) (eBin modD (eBin (addD false) (eLoc 17) (eBin (mulD false) (eLoc 15) (eLoc 22))) (eCB lenD (aCons (eLoc 2) (aNil)))) [22]) R1 M = .ok Dm M := by
    refine un_ev e5 ?_
    show opt (intsOf _) _ = _
    rw [intsOf_map]
    show (if _ then _ else _) = _
    rw [if_pos (by rw [List.length_map, List.length_range]; omega), met_sorted hl0, List.map_map]; rfl
  have ok3 : okD 7 (.tup [Dm, silD S many k, latD S many k]) = true := by
    show (decide (3 ≤ 1000000) && (okD 6 Dm && (okD 6 (silD S many k) && (okD 6 (latD S many k) && true)))) = true
    rw [okD_natL 5 _ (by have := metL_length S.length many k; omega), (okD_sil S many k 6).1, (okD_sil S many k 6).2]; rfl
  have hs := same_refl 7 _ ok3 M
  have e7 : eBin isD (eLoc 18) (eC .non) (lawR sc nb S tk wr ln rs lg tick o9 o10 o11 o12 o13 o14 (some (.int (many : Int))) (some (.lst A)) (some (.int (k : Int))) (some (silD S many k)) (some (latD S many k)) (some Dm)) M = .ok (.bl (starvedB S many k)) M := by
    refine bin_ev (loc_ev rfl) c_ev ?_
    rw [isD_non (b := starvedB S many k)]
    rw [starved_iff hS.ne]
    unfold silD
    cases h : (silL S many k (2 * S.length)).all id <;> simp [G.isNon]
  have e8 : eBin (addD false) (eLoc 16) (eIf (tOf (eBin isD (eLoc 18) (eC .non))) (eLst false (aCons (eLoc 17) (aNil))) (eLst false (aNil))) (lawR sc nb S tk wr ln rs lg tick o9 o10 o11 o12 o13 o14 (some (.int (many : Int))) (some (.lst A)) (some (.int (k : Int))) (some (silD S many k)) (some (latD S many k)) (some Dm)) M =
      .ok (.lst (((List.range (k + 1)).filter (starvedB S many)).map fun k : Nat => .int (k : Int))) M := by
    have hA : A.length ≤ 12 := by
      show (((List.range k).filter (starvedB S many)).map _).length ≤ 12
      rw [List.length_map]
      have := List.length_filter_le (starvedB S many) (List.range k)
      rw [List.length_range] at this; omega
    refine bin_ev (loc_ev rfl) (ite_ev (of_ev e7) (lst_ev (xs := [.int (k : Int)]) (cons_ev (loc_ev rfl) rfl) (by simp)) lst0_ev) ?_
    rw [List.range_succ, List.filter_append, List.map_append]
    cases h : starvedB S many k with
    | true =>
      rw [if_pos rfl, addD_lst (by simp; omega)]
      simp [h]; rfl
    | false =>
      rw [if_neg (by simp), addD_lst (by simp; omega)]
      simp [h]; rfl
  have e9 : (tOf (eBin isD (eLoc 18) (eC .non))) = tOf (eBin isD (eLoc 18) (eC .non)) := rfl
  have s1 : sAsgM (eCall F_z_law_link_by_sending (aCons (eLoc 2) (aCons (eLoc 15) (aCons (eLoc 17) (aNil))))) (mTup 2 (mCons (mName 18) (mCons (mName 19) (mNil)))) (lawR sc nb S tk wr ln rs lg tick o9 o10 o11 o12 o13 o14 (some (.int (many : Int))) (some (.lst A)) (some (.int (k : Int))) o18 o19 o20) M = .nx R1 M :=
    asgm_ev (d := .tup [silD S many k, latD S many k]) (M1 := M) (call_ev (cons_ev (loc_ev rfl) (cons_ev (loc_ev rfl) (cons_ev (loc_ev rfl) rfl))) e1) (mtup_ev rfl (mcons_ev mname_ev (mcons_ev mname_ev mnil_ev)))
  refine ⟨some (silD S many k), some (latD S many k), some Dm, seq_nx s1 (seq_nx (set_ev e6) (seq_nx (if_f (notT_ev (b := true) ?_) rfl) (set_ev e8)))⟩
  refine tru_ev (d := .bl true) (call_ev (M1 := M) (cons_ev (u := .tup [Dm, silD S many k, latD S many k]) (M1 := M) ?_ (cons_ev (tup_ev (xs := [Dm, silD S many k, latD S many k]) (cons_ev (loc_ev rfl) (cons_ev (loc_ev rfl) (cons_ev (loc_ev rfl) rfl))) (by simp)) rfl)) hs) rfl
  exact tup_ev (xs := [Dm, silD S many k, latD S many k]) (cons_ev (call_ev (cons_ev (loc_ev rfl) (cons_ev (loc_ev rfl) (cons_ev (loc_ev rfl) rfl))) e2) (cons_ev (call_ev (cons_ev (loc_ev rfl) (cons_ev (loc_ev rfl) (cons_ev (loc_ev rfl) rfl))) e3) (cons_ev (call_ev (cons_ev (loc_ev rfl) (cons_ev (loc_ev rfl) (cons_ev (loc_ev rfl) rfl))) e4) rfl))) (by simp)
theorem turn4 (hS : OkS S) {tk many : Nat} (hm : many ≤ 12) (sc wr : D) (o9 o10 o11 o12 o13 o14 o16 o17 o18 o19 o20 : Option D) :
    ∃ p16 p17 p18 p19 p20, B_law_4 K (lawR sc nb S tk wr ln rs lg tick o9 o10 o11 o12 o13 o14 (some (.int (many : Int))) o16 o17 o18 o19 o20) M =
      .nx (lawR sc nb S tk wr ln rs lg tick o9 o10 o11 o12 o13 o14 (some (.int (many : Int))) p16 p17 p18 p19 p20) M := by
  have key := range_inv (b := 17) (body := B_law_3 K) (ρ := lawR sc nb S tk wr ln rs lg tick o9 o10 o11 o12 o13 o14 (some (.int (many : Int))) (some (.lst [])) o17 o18 o19 o20) (M := M) (M1 := M) (e := eLoc 15) (n := many)
    (fun k ρ M' => M' = M ∧ ∃ (p17 p18 p19 p20 : Option D), ρ = lawR sc nb S tk wr ln rs lg tick o9 o10 o11 o12 o13 o14 (some (.int (many : Int))) (some (.lst (((List.range k).filter (starvedB S many)).map fun k : Nat => .int (k : Int)))) p17 p18 p19 p20)
    (loc_ev rfl) (by omega) ⟨rfl, _, _, _, _, rfl⟩ (fun k ρ M' hk hI => by
      obtain ⟨rfl, p17, p18, p19, p20, rfl⟩ := hI
      obtain ⟨q18, q19, q20, e⟩ := turn3 (K := K) (nb := nb) (ln := ln) (lg := lg) (rs := rs) (tick := tick) (M := M') hS (tk := tk) hm hk sc wr o9 o10 o11 o12 o13 o14 p18 p19 p20
      exact ⟨_, M', .inl e, rfl, _, _, _, _, rfl⟩)
  obtain ⟨ρ', M', e1, rfl, p17, p18, p19, p20, rfl⟩ := key
  have e2 := starved_ev hS.ne (by have := hS.le; omega) many (by omega) M'
  have hs := same_refl 7 _ (okD_natT 6 ((List.range many).filter (starvedB S many)) (by
    have := List.length_filter_le (starvedB S many) (List.range many)
    rw [List.length_range] at this; omega)) M'
  refine ⟨_, _, _, _, _, seq_nx (set_ev lst0_ev) (seq_nx e1 (if_f (notT_ev (b := true) ?_) rfl))⟩
  exact tru_ev (d := .bl true) (call_ev (M1 := M') (cons_ev (call_ev (cons_ev (loc_ev rfl) (cons_ev (loc_ev rfl) rfl)) e2) (cons_ev (cb_ev (cons_ev (loc_ev rfl) rfl) (tupleD_lst _)) rfl)) hs) rfl
end
end L37
namespace L37
open PySem L2 G PySem.W
local macro_rules | `(tactic| walk_at "op") => `(tactic| first
  | assumption
  | exact addD_int
  | exact subD_ev
  | ((with_reducible apply modD_ev); first | decide | omega)
  | exact eqD_int
  | exact neD_int
  | exact ltD_int
  | exact leD_int
  | exact gtD_int
  | exact geD_int
  | exact tupleD_lst _
  | exact tupleD_tup _
  | exact lenD_tup _
  | exact lenD_lst _
  | ((with_reducible apply lenD_ref); assumption)
  | ((with_reducible apply tupleD_ref); assumption)
  | exact isD_bl _ _
  | exact isntD_bl _ _)
local macro_rules | `(tactic| walk_at "ev") => `(tactic| first
  | ((with_reducible apply loc_ev); rfl)
  | with_reducible exact c_ev
  | with_reducible exact nil_ev
  | ((with_reducible apply bin_ev); (walk_at "ev"); (walk_at "ev"); (walk_at "op"))
  | ((with_reducible apply un_ev); (walk_at "ev"); (walk_at "op"))
  | ((with_reducible apply cb_ev); (walk_at "ev"); (walk_at "op"))
  | ((with_reducible apply call_ev); (walk_at "ev"); (walk_at "op"))
  | ((with_reducible apply cons_ev); (walk_at "ev"); (walk_at "ev"))
  | ((with_reducible apply tup_ev); (walk_at "ev"); (simp <;> omega))
  | ((with_reducible apply lst_ev); (walk_at "ev"); (simp <;> omega))
  | ((with_reducible apply of_ev); (walk_at "ev"))
  | ((with_reducible apply tru_ev); (walk_at "ev"); first | assumption | rfl)
  | ((with_reducible apply notT_ev); (walk_at "ev"))
  | ((with_reducible apply meth_ev); (walk_at "ev"); assumption; rfl; (walk_at "ev"); assumption)
  | assumption)
section
variable {K : PySem.W.Frag} {nb n1 ln u l lg : Nat} {S : List (List Int)} {rs rs' : List Rw} {ls : List Lg} {tick : Int} {M : Mem}
theorem turn2 (h : LInv (He.ga K "Line") nb n1 ln u l lg S rs' ls tick M) (hz : ls.length ≤ 1000) (hrs : rs.length ≤ 4000) {tk k : Nat} (hsame : rs'.filter (fun r => decide (r.to = (k : Int))) = rs.filter (fun r => decide (r.to = (k : Int)))) (sc wr : D) (o9 o10 o12 o13 o14 o15 o16 o17 o18 o19 o20 : Option D) :
    ∃ (u' : Nat) (rs2 : List Rw) (M' : Mem) (p14 : Option D), B_law_2 K (lawR sc nb S tk wr ln rs lg tick o9 o10 (some (.int (k : Int))) o12 o13 o14 o15 o16 o17 o18 o19 o20) M =
      .nx (lawR sc nb S tk wr ln rs lg tick o9 o10 (some (.int (k : Int))) o12 o13 p14 o15 o16 o17 o18 o19 o20) M' ∧ LInv (He.ga K "Line") nb n1 ln u' l lg S rs2 ls tick M' ∧ ∀ j : Int, j ≠ (k : Int) → rs2.filter (fun r => decide (r.to = j)) = rs'.filter (fun r => decide (r.to = j)) := by
  have hrs' : rs'.length ≤ 4000 := by have := h.len; omega
  let l2 : List Rw := (rs.filter fun r => decide (r.to = (k : Int))).mergeSort le2
  have hl2 : l2.length ≤ 4000 := by
    show (List.mergeSort _ _).length ≤ _
    rw [List.length_mergeSort]
    exact Nat.le_trans (List.length_filter_le _ _) hrs
  have hd : rs'.filter (isDue (k : Int) (tick + 100)) = rs.filter fun r => decide (r.to = (k : Int)) := by
    rw [← hsame]
    refine List.filter_congr fun r m => ?_
    have := h.due r m
    unfold isDue
    simp; omega
  obtain ⟨M2, e2, hL2, hm2, hk2⟩ := arrived_ev h.line (by omega) (tick + 100) (k : Int)
  rw [due_data h.uniq, hd] at e2
  have h2 := h.moved hL2 hk2 (Nat.le_refl _) ⟨_, rfl⟩
  have hi1 := h.line.ins
  have hi2 := h2.line.ins
  have e3 := uw_ev h2.line (by have := h2.len; omega) (k : Int)
  have e4 : ((rs'.filter fun r => !isDue (k : Int) (tick + 100) r).filter fun r => decide (r.to = (k : Int))).length = 0 := by
    rw [List.length_eq_zero_iff, List.filter_filter, List.filter_eq_nil_iff]
    intro r m
    have := h.due r m
    unfold isDue
    simp; omega
  rw [e4] at e3
  have a3 := lc_over (c := false) (i := iSeqG (eLoc 6)) (b := bName 23) (tt := tOf (eBin eqD (eBin ixD (eLoc 23) (eC (.int (3)))) (eLoc 11))) (te := eBin (addD false) (eSl false (eLoc 23) (oNone) (oSome (eC (.int (3))))) (eTup (aCons (eBin ixD (eLoc 23) (eC (.int (4)))) (aNil)))) (vs := [23])
    (ρ := lawR sc nb S tk wr ln rs lg tick o9 o10 (some (.int (k : Int))) o12 o13 o14 o15 o16 o17 o18 o19 o20) (M := M) (M1 := M) (src := []) rs rowD
    (fun r => (lawR sc nb S tk wr ln rs lg tick o9 o10 (some (.int (k : Int))) o12 o13 o14 o15 o16 o17 o18 o19 o20).set 23 (some (rowD r))) (fun r => decide (r.to = (k : Int))) f2 (iSeq_lst (loc_ev rfl)) (srcOk_none _ _) (fun x m => rfl)
    (fun x m => of_ev (bin_ev (bin_ev (loc_ev rfl) rfl (row_ix x).2.1) (loc_ev rfl) eqD_int))
    (fun x m _ => row_cut rfl) (by omega)
  have hs := same_refl 7 _ (okD_datL l2 (by omega)) M2
  have hdx := dat_ix (M := M2) l2 (ρ := lawR sc nb S tk wr ln rs lg tick o9 o10 (some (.int (k : Int))) o12 o13 (some (.lst (l2.map f2))) o15 o16 o17 o18 o19 o20) rfl rfl (by omega)
  refine ⟨_, _, M2, some (.lst (l2.map f2)), seq_nx (set_ev (cb_ev (cons_ev a3 rfl) (sort2 _))) (if_f (M1 := M2) (orf_ev (M1 := M2) (notT_ev (b := true) ?_) ?_) rfl), h2, fun j hj => ?_⟩
  · refine tru_ev (d := .bl true) (call_ev (M1 := M2) (cons_ev (u := .lst (l2.map fun r => datD r.num)) (M1 := M2) ?_ (cons_ev hdx rfl)) hs) rfl
    refine meth_ev (loc_ev rfl) hi1 rfl (cons_ev (bin_ev (loc_ev rfl) c_ev addD_int) (cons_ev (loc_ev rfl) rfl)) ?_
    exact e2
  · refine of_ev (bin_ev (u := .int 0) (M1 := M2) (meth_ev (loc_ev rfl) hi2 rfl (cons_ev (loc_ev rfl) rfl) ?_) c_ev (by rfl))
    exact e3
  · rw [List.filter_filter]
    refine List.filter_congr fun r m => ?_
    unfold isDue
    by_cases q : r.to = j
    · have : r.to ≠ (k : Int) := by omega
      simp [q]; omega
    · simp [q]
/-! ### the first lines -/
theorem box_ev (ns : List Int) : ∃ nb n1 M', F_z_law_box [.arg ns] [] = .ok (.ref nb) M' ∧ BoxAt nb n1 M' := by
  let cs := cutG ns none (some 63)
  have e0 : cutG (ns.map D.int) none (some 63) = cs.map D.int := by
    show (List.take _ (List.drop _ _)) = _
    rw [List.length_map, ← List.map_drop, ← List.map_take]; rfl
  have hc : cs.length ≤ 63 := by
    show (List.take _ (List.drop _ _)).length ≤ 63
    rw [List.length_take, List.length_drop]
    unfold HT.sIx
    simp
    omega
  have e1 : eSl false (eLoc 0) (oNone) (oSome (eC (.int (63)))) [some (.arg ns)] [] = .ok (.lst (cs.map D.int)) [] := by
    rw [← e0]; rfl
  have e2 : listD true [.lst (cs.map D.int)] [] = .ok (.ref 0) [.lst (cs.map D.int)] := rfl
  refine ⟨1, 0, [.lst (cs.map D.int), .lst [.ref 0, .int 0, .int (4711 + ns.length)]], runB_ret rfl (ret_ev ?_), cs, 0, 4711 + ns.length, rfl, rfl, by omega, by decide⟩
  exact (lst_ev (M1 := [.lst (cs.map D.int)]) (xs := [.ref 0, .int 0, .int (4711 + ns.length)]) (cons_ev (cb_ev (cons_ev e1 rfl) e2) (cons_ev c_ev (cons_ev (bin_ev c_ev (cb_ev (cons_ev (loc_ev rfl) rfl) (lenD_arg ns)) addD_int) rfl))) (by simp)).trans rfl
end
end L37
namespace L37
open PySem L2 G PySem.W
local macro_rules | `(tactic| walk_at "op") => `(tactic| first
  | assumption
  | exact addD_int
  | exact subD_ev
  | exact negD_ev
  | ((with_reducible apply modD_ev); first | decide | omega)
  | exact eqD_int
  | exact neD_int
  | exact ltD_int
  | exact leD_int
  | exact gtD_int
  | exact geD_int
  | exact tupleD_lst _
  | exact tupleD_tup _
  | exact lenD_tup _
  | exact lenD_lst _
  | ((with_reducible apply lenD_ref); assumption)
  | ((with_reducible apply tupleD_ref); assumption)
  | exact isD_bl _ _
  | exact isntD_bl _ _)
local macro_rules | `(tactic| walk_at "ev") => `(tactic| first
  | ((with_reducible apply loc_ev); rfl)
  | with_reducible exact c_ev
  | with_reducible exact nil_ev
  | ((with_reducible apply bin_ev); (walk_at "ev"); (walk_at "ev"); (walk_at "op"))
  | ((with_reducible apply un_ev); (walk_at "ev"); (walk_at "op"))
  | ((with_reducible apply cb_ev); (walk_at "ev"); (walk_at "op"))
  | ((with_reducible apply call_ev); (walk_at "ev"); (walk_at "op"))
  | ((with_reducible apply cons_ev); (walk_at "ev"); (walk_at "ev"))
  | ((with_reducible apply tup_ev); (walk_at "ev"); (simp <;> omega))
  | ((with_reducible apply lst_ev); (walk_at "ev"); (simp <;> omega))
  | ((with_reducible apply of_ev); (walk_at "ev"))
  | ((with_reducible apply tru_ev); (walk_at "ev"); first | assumption | rfl)
  | ((with_reducible apply notT_ev); (walk_at "ev"))
  | ((with_reducible apply meth_ev); (walk_at "ev"); assumption; rfl; (walk_at "ev"); assumption)
  | assumption)
noncomputable def T_0 (K : PySem.W.Frag) : Sv := sSet 1 (eCall F_z_law_box (aCons (eLoc 0) (aNil)))
noncomputable def T_1 (K : PySem.W.Frag) : Sv := sIf (tOf (eBin neD (eTup (aCons (eC (.int (4))) (aCons (eC (.int (100))) (aCons (eC (.int (64))) (aNil))))) (eTup (aCons (eC (.int (4))) (aCons (eC (.int (100))) (aCons (eC (.int (64))) (aNil))))))) (sRet (eC (.bl false))) (sNil)
noncomputable def T_2 (K : PySem.W.Frag) : Sv := sAsgM (eTup (aCons (eCall F_z_law_long_script (aCons (eLoc 1) (aNil))) (aCons (eBin (addD false) (eC (.int (1))) (eCall F_z_law_draw (aCons (eLoc 1) (aCons (eC (.int (4))) (aNil))))) (aNil)))) (mTup 2 (mCons (mName 2) (mCons (mName 3) (mNil))))
noncomputable def T_3 (K : PySem.W.Frag) : Sv := sSet 4 (eLst false (aCons (eTup (aNil)) (aCons (eBin (mulD false) (eLoc 2) (eC (.int (65)))) (aCons (eTup (aCons (eTup (aCons (eC (.int (0))) (aNil))) (aNil))) (aCons (eTup (aCons (eTup (aCons (eC (.int (101))) (aNil))) (aNil))) (aCons (eTup (aCons (eTup (aCons (eC (.int (1))) (aCons (eC (.int (1))) (aCons (eC (.int (1))) (aCons (eC (.int (1))) (aCons (eC (.int (1))) (aNil))))))) (aNil))) (aCons (eTup (aCons (eTup (aCons (eC (.bl true)) (aNil))) (aNil))) (aCons (eTup (aCons (eC .non) (aNil))) (aCons (eC .non) (aCons (eC (.int (5))) (aCons (eC (.str "ab")) (aCons (eTup (aCons (eC (.int (1))) (aCons (eC (.int (2))) (aNil)))) (aCons (eTup (aCons (eTup (aCons (eUn negD (eC (.int (1)))) (aNil))) (aNil))) (aCons (eTup (aCons (eTup (aCons (eC (.str "a")) (aNil))) (aNil))) (aNil)))))))))))))))
noncomputable def T_4 (K : PySem.W.Frag) : Sv := sIf (tOrG (tOf (eBin isntD (eCall F_is_script (aCons (eLoc 2) (aNil))) (eC (.bl true)))) (tOrG (tTru (eCB anyD (aCons (eLc false (iSeqG (eLoc 4)) (bName 21) (tYesG) (eBin isntD (eCall F_is_script (aCons (eLoc 21) (aNil))) (eC (.bl false))) [21]) (aNil)))) (tNotG (tTru (eCB allD (aCons (eLc false (iSeqG (eLoc 2)) (bName 13) (tYesG) (eBin isD (eCall F_is_fate (aCons (eLoc 13) (aNil))) (eC (.bl true))) [13]) (aNil))))))) (sRet (eC (.bl false))) (sNil)
noncomputable def T_5 (K : PySem.W.Frag) : Sv := sIf (tOrG (tTru (eCB anyD (aCons (eLc false (iSeqG (eTup (aCons (eTup (aCons (eC (.int (0))) (aNil))) (aCons (eTup (aCons (eC (.int (101))) (aNil))) (aCons (eBin (mulD false) (eTup (aCons (eC (.int (1))) (aNil))) (eC (.int (5)))) (aCons (eTup (aCons (eC (.bl true)) (aNil))) (aCons (eC .non) (aCons (eC (.int (5))) (aCons (eTup (aCons (eC (.str "a")) (aNil))) (aCons (eTup (aCons (eC (.int (1))) (aCons (eC .non) (aNil)))) (aNil))))))))))) (bName 21) (tYesG) (eBin isntD (eCall F_is_fate (aCons (eLoc 21) (aNil))) (eC (.bl false))) [21]) (aNil)))) (tOf (eBin isntD (eCall F_is_fate (aCons (eTup (aNil)) (aNil))) (eC (.bl true))))) (sRet (eC (.bl false))) (sNil)
noncomputable def T_6 (K : PySem.W.Frag) : Sv := sAsgM (eTup (aCons (eMake (He.ga K "Line") (F_Line_init K) (aCons (eLoc 2) (aNil))) (aCons (eLst false (aNil)) (aCons (eLst true (aNil)) (aCons (eC (.int (0))) (aNil)))))) (mTup 4 (mCons (mName 5) (mCons (mName 6) (mCons (mName 7) (mCons (mName 8) (mNil))))))
noncomputable def T_7 (K : PySem.W.Frag) : Sv := sFor (iR1 (eC (.int (100)))) (bName 9) (B_law_1 K)
noncomputable def T_8 (K : PySem.W.Frag) : Sv := sIf (tNotG (tTru (eCall (F_z_law_same 8) (aCons (eMeth (He.ga K "Line") "log" (F_Line_log K) (eLoc 5) (aNil)) (aCons (eCB tupleD (aCons (eLoc 7) (aNil))) (aNil)))))) (sRet (eC (.bl false))) (sNil)
noncomputable def T_9 (K : PySem.W.Frag) : Sv := sFor (iR1 (eLoc 3)) (bName 11) (B_law_2 K)
noncomputable def T_10 (K : PySem.W.Frag) : Sv := sFor (iSeqG (eTup (aCons (eC (.int (1))) (aCons (eC (.int (2))) (aCons (eC (.int (6))) (aCons (eC (.int (12))) (aCons (eBin (addD false) (eC (.int (1))) (eCall F_z_law_draw (aCons (eLoc 1) (aCons (eC (.int (12))) (aNil))))) (aNil)))))))) (bName 15) (B_law_4 K)
noncomputable def T_11 (K : PySem.W.Frag) : Sv := sRet (eC (.bl true))

theorem S_law_eq (K : PySem.W.Frag) : S_law K = sSeq (T_0 K) (sSeq (T_1 K) (sSeq (T_2 K) (sSeq (T_3 K) (sSeq (T_4 K) (sSeq (T_5 K) (sSeq (T_6 K) (sSeq (T_7 K) (sSeq (T_8 K) (sSeq (T_9 K) (sSeq (T_10 K) (T_11 K))))))))))) := rfl
/-! ### what is no script, no fate -/
def okWb (d : D) : Bool := plain d && ((match d with
  | .tup xs => decide (xs.length ≤ 1000000) && xs.all plainT
  | _ => true) && !isScript d)
theorem okW_ev {d : D} (h : okWb d = true) (M : Mem) : F_is_script [d] M = .ok (.bl false) M := by
  unfold okWb at h
  simp only [Bool.and_eq_true, Bool.not_eq_true'] at h
  obtain ⟨h1, h2, h3⟩ := h
  have := script_ev d M h1 fun xs e => by
    subst e
    simp only [Bool.and_eq_true, decide_eq_true_eq, List.all_eq_true] at h2
    exact h2
  rw [this, h3]
theorem plain_iT (f : List Int) : plain (iT f) = true := by
  unfold plain
  rw [noRef_iT]; rfl
theorem num_at (i lo hi : Int) : isNum (.int i) lo hi = (decide (lo ≤ i) && decide (i ≤ hi)) := rfl
theorem plainT_iT (f : List Int) (h : f.length ≤ 1000000) : plainT (iT f) = true := by
  show (noRefs _ && (decide _ && List.all _ _)) = true
  rw [noRefs_ints, Bool.true_and, Bool.and_eq_true]
  exact ⟨by simpa using h, by rw [List.all_eq_true]; intro x m; obtain ⟨i, _, rfl⟩ := List.mem_map.mp m; rfl⟩
theorem isFate_iT {f : List Int} (h : OkF f) : isFate (iT f) = true := by
  show (decide ((f.map D.int).length ≤ 4) && (f.map D.int).all fun x => isNum x 1 100) = true
  rw [Bool.and_eq_true, List.all_eq_true]
  refine ⟨by simpa using h.1, fun x m => ?_⟩
  obtain ⟨i, hi, rfl⟩ := List.mem_map.mp m
  have := h.2 i hi
  simp [num_at, this.1, this.2]
theorem OkS.okF {S : List (List Int)} (h : OkS S) {f : List Int} (m : f ∈ S) : OkF f := ⟨h.few f m, h.rng f m⟩
theorem script_ok {S : List (List Int)} (h : OkS S) (M : Mem) : F_is_script [scr S] M = .ok (.bl true) M := by
  have hl := h.le
  rw [script_ev (scr S) M (by unfold plain; rw [noRef_scr]; rfl) fun xs e => by
    cases e
    refine ⟨by rw [List.length_map]; omega, fun x m => ?_⟩
    obtain ⟨f, hf, rfl⟩ := List.mem_map.mp m
    exact plainT_iT f (by have := h.few f hf; omega)]
  have : isScript (scr S) = true := by
    show (decide (1 ≤ (S.map iT).length) && (decide ((S.map iT).length ≤ 64) && (S.map iT).all isFate)) = true
    have h0 := List.length_pos_iff.mpr h.ne
    rw [List.length_map, decide_eq_true (by omega), decide_eq_true hl, Bool.true_and, Bool.true_and, List.all_eq_true]
    intro x m
    obtain ⟨f, hf, rfl⟩ := List.mem_map.mp m
    exact isFate_iT (h.okF hf)
  rw [this]
theorem many_bad {S : List (List Int)} (h : OkS S) : okWb (.tup (repD (S.map iT) 65)) = true := by
  have hl := h.le
  have h0 := List.length_pos_iff.mpr h.ne
  have e : (repD (S.map iT) 65).length = S.length * 65 := by
    unfold repD
    rw [rep_len, List.length_map]; rfl
  have hm : ∀ x, x ∈ repD (S.map iT) 65 → ∃ f, f ∈ S ∧ x = iT f := by
    intro x m
    unfold repD at m
    obtain ⟨l, hl, hx⟩ := List.mem_flatten.mp m
    have := (List.mem_replicate.mp hl).2
    subst this
    obtain ⟨f, hf, rfl⟩ := List.mem_map.mp hx
    exact ⟨f, hf, rfl⟩
  unfold okWb
  have e1 : plain (.tup (repD (S.map iT) 65)) = true := by
    unfold plain
    have : noRef (.tup (repD (S.map iT) 65)) = true := by
      show noRefs _ = true
      rw [noRefs_all, List.all_eq_true]
      intro x m
      obtain ⟨f, _, rfl⟩ := hm x m
      exact noRef_iT f
    rw [this]; rfl
  have e2 : isScript (.tup (repD (S.map iT) 65)) = false := by
    show (decide _ && (decide ((repD (S.map iT) 65).length ≤ 64) && _)) = false
    rw [e, decide_eq_false (show ¬ S.length * 65 ≤ 64 by omega)]
    simp
  rw [e1, e2]
  show (true && ((decide ((repD (S.map iT) 65).length ≤ 1000000) && (repD (S.map iT) 65).all plainT) && true)) = true
  rw [e, decide_eq_true (show S.length * 65 ≤ 1000000 by omega)]
  simp only [Bool.true_and, Bool.and_true, List.all_eq_true]
  intro x m
  obtain ⟨f, hf, rfl⟩ := hm x m
  exact plainT_iT f (by have := h.few f hf; omega)
def wrongs (S : List (List Int)) : List D := [.tup [], .tup (repD (S.map iT) 65), .tup [.tup [.int 0]], .tup [.tup [.int 101]], .tup [.tup [.int 1, .int 1, .int 1, .int 1, .int 1]], .tup [.tup [.bl true]], .tup [.non], .non, .int 5, .str "ab", .tup [.int 1, .int 2], .tup [.tup [.int (-1)]], .tup [.tup [.str "a"]]]
theorem wrongs_ok {S : List (List Int)} (h : OkS S) (M : Mem) : ∀ d, d ∈ wrongs S → F_is_script [d] M = .ok (.bl false) M := by
  intro d m
  unfold wrongs at m
  simp only [List.mem_cons, List.not_mem_nil, or_false] at m
  rcases m with rfl | rfl | rfl | rfl | rfl | rfl | rfl | rfl | rfl | rfl | rfl | rfl | rfl
  · exact okW_ev (by decide) M
  · exact okW_ev (many_bad h) M
  all_goals exact okW_ev (by decide) M
def wrongF : List D := [.tup [.int 0], .tup [.int 101], .tup [.int 1, .int 1, .int 1, .int 1, .int 1], .tup [.bl true], .non, .int 5, .tup [.str "a"], .tup [.int 1, .non]]
theorem wrongF_ok (M : Mem) : ∀ d, d ∈ wrongF → F_is_fate [d] M = .ok (.bl false) M := by
  intro d m
  unfold wrongF at m
  simp only [List.mem_cons, List.not_mem_nil, or_false] at m
  rcases m with rfl | rfl | rfl | rfl | rfl | rfl | rfl | rfl
  all_goals rw [fate_ev M (by decide)]; rfl
end L37
namespace L37
open PySem L2 G PySem.W
local macro_rules | `(tactic| walk_at "op") => `(tactic| first
  | assumption
  | exact addD_int
  | exact subD_ev
  | exact negD_ev
  | ((with_reducible apply modD_ev); first | decide | omega)
  | exact eqD_int
  | exact neD_int
  | exact ltD_int
  | exact leD_int
  | exact gtD_int
  | exact geD_int
  | exact tupleD_lst _
  | exact tupleD_tup _
  | exact lenD_tup _
  | exact lenD_lst _
  | ((with_reducible apply lenD_ref); assumption)
  | ((with_reducible apply tupleD_ref); assumption)
  | exact isD_bl _ _
  | exact isntD_bl _ _)
local macro_rules | `(tactic| walk_at "ev") => `(tactic| first
  | ((with_reducible apply loc_ev); rfl)
  | with_reducible exact c_ev
  | with_reducible exact nil_ev
  | ((with_reducible apply bin_ev); (walk_at "ev"); (walk_at "ev"); (walk_at "op"))
  | ((with_reducible apply un_ev); (walk_at "ev"); (walk_at "op"))
  | ((with_reducible apply cb_ev); (walk_at "ev"); (walk_at "op"))
  | ((with_reducible apply call_ev); (walk_at "ev"); (walk_at "op"))
  | ((with_reducible apply cons_ev); (walk_at "ev"); (walk_at "ev"))
  | ((with_reducible apply tup_ev); (walk_at "ev"); (simp <;> omega))
  | ((with_reducible apply lst_ev); (walk_at "ev"); (simp <;> omega))
  | ((with_reducible apply of_ev); (walk_at "ev"))
  | ((with_reducible apply tru_ev); (walk_at "ev"); first | assumption | rfl)
  | ((with_reducible apply notT_ev); (walk_at "ev"))
  | ((with_reducible apply meth_ev); (walk_at "ev"); assumption; rfl; (walk_at "ev"); assumption)
  | assumption)
abbrev startR (sc : D) (o1 o2 o3 o4 : Option D) : Slots := [some sc, o1, o2, o3, o4, none, none, none, none, none, none, none, none, none, none, none, none, none, none, none, none, none, none, none]
section
variable {K : PySem.W.Frag} {nb n1 : Nat} {S : List (List Int)} {M : Mem}
theorem p1 (sc : D) (nb : Nat) (M : Mem) : T_1 K (startR sc (some (.ref nb)) none none none) M = .nx (startR sc (some (.ref nb)) none none none) M :=
  if_f (M1 := M) (of_ev (bin_ev (u := .tup [.int 4, .int 100, .int 64]) (v := .tup [.int 4, .int 100, .int 64]) (M1 := M) (M2 := M) (by walk_at "ev") (by walk_at "ev") (by rfl))) rfl
theorem p3 (hS : OkS S) (sc : D) (nb tk : Nat) (M : Mem) : T_3 K (startR sc (some (.ref nb)) (some (scr S)) (some (.int (tk : Int))) none) M = .nx (startR sc (some (.ref nb)) (some (scr S)) (some (.int (tk : Int))) (some (.lst (wrongs S)))) M := by
  have hl := hS.le
  have h0 : S.map iT ≠ [] := by simpa using hS.ne
  have e1 : mulD false (scr S) (.int 65) M = .ok (.tup (repD (S.map iT) 65)) M := by
    show (if _ then _ else _) = _
    rw [if_pos ⟨h0, by decide, by decide, by rw [List.length_map]; omega⟩]
  exact set_ev (lst_ev (c := false) (M1 := M) (xs := wrongs S) (by unfold wrongs; walk_at "ev") (by show 13 ≤ 1000000; decide))
theorem p4 (hS : OkS S) (sc : D) (nb tk : Nat) (M : Mem) : T_4 K (startR sc (some (.ref nb)) (some (scr S)) (some (.int (tk : Int))) (some (.lst (wrongs S)))) M = .nx (startR sc (some (.ref nb)) (some (scr S)) (some (.int (tk : Int))) (some (.lst (wrongs S)))) M := by
  have hl := hS.le
  have e1 := script_ok hS M
  have a1 := lc_map (c := false) (i := iSeqG (eLoc 4)) (b := bName 21) (te := eBin isntD (eCall F_is_script (aCons (eLoc 21) (aNil))) (eC (.bl false))) (vs := [21]) (ρ := startR sc (some (.ref nb)) (some (scr S)) (some (.int (tk : Int))) (some (.lst (wrongs S)))) (M := M) (M1 := M) (it := ⟨[], wrongs S⟩)
    (fun x => (startR sc (some (.ref nb)) (some (scr S)) (some (.int (tk : Int))) (some (.lst (wrongs S)))).set 21 (some x)) (fun _ => .bl false) (iSeq_lst (loc_ev rfl)) (srcOk_none _ _) (fun x m => rfl) (fun x m => bin_ev (call_ev (cons_ev (loc_ev rfl) rfl) (wrongs_ok hS M x m)) c_ev rfl) (by show 13 ≤ 1000000; decide)
  have a2 := lc_overA (c := false) (i := iSeqG (eLoc 2)) (b := bName 13) (te := eBin isD (eCall F_is_fate (aCons (eLoc 13) (aNil))) (eC (.bl true))) (vs := [13]) (ρ := startR sc (some (.ref nb)) (some (scr S)) (some (.int (tk : Int))) (some (.lst (wrongs S)))) (M := M) (M1 := M) (src := []) S iT
    (fun x => (startR sc (some (.ref nb)) (some (scr S)) (some (.int (tk : Int))) (some (.lst (wrongs S)))).set 13 (some (iT x))) (fun _ => .bl true) (iSeq_tup (loc_ev rfl)) (srcOk_none _ _) (fun x m => rfl) (fun x m => bin_ev (call_ev (cons_ev (loc_ev rfl) rfl) (by
      rw [fate_ev M (plainT_iT x (by have := hS.few x m; omega)), isFate_iT (hS.okF m)])) c_ev rfl) (by omega)
  refine if_f (M1 := M) (orf_ev (M1 := M) (of_ev (bin_ev (M1 := M) (M2 := M) (call_ev (cons_ev (loc_ev rfl) rfl) e1) c_ev rfl)) (orf_ev (M1 := M) (tru_ev (d := .bl false) (cb_ev (cons_ev a1 rfl) ?_) rfl) (notT_ev (b := true) (tru_ev (d := .bl true) (cb_ev (cons_ev a2 rfl) ?_) rfl)))) rfl
  · rw [anyD_map (fun _ : D => false)]; simp
  · rw [allD_map (fun _ : List Int => true)]; simp
theorem p5 (hS : OkS S) (sc : D) (nb tk : Nat) (M : Mem) : T_5 K (startR sc (some (.ref nb)) (some (scr S)) (some (.int (tk : Int))) (some (.lst (wrongs S)))) M = .nx (startR sc (some (.ref nb)) (some (scr S)) (some (.int (tk : Int))) (some (.lst (wrongs S)))) M := by
  have m5 : mulD false (.tup [.int 1]) (.int 5) M = .ok (.tup [.int 1, .int 1, .int 1, .int 1, .int 1]) M := rfl
  have e0 : ∀ M, F_is_fate [.tup []] M = .ok (.bl true) M := fun M => by rw [fate_ev M (by decide)]; rfl
  have e0' := e0 M
  have a1 := lc_map (c := false) (i := iSeqG (eTup (aCons (eTup (aCons (eC (.int (0))) (aNil))) (aCons (eTup (aCons (eC (.int (101))) (aNil))) (aCons (eBin (mulD false) (eTup (aCons (eC (.int (1))) (aNil))) (eC (.int (5)))) (aCons (eTup (aCons (eC (.bl true)) (aNil))) (aCons (eC .non) (aCons (eC (.int (5))) (aCons (eTup (aCons (eC (.str "a")) (aNil))) (aCons (eTup (aCons (eC (.int (1))) (aCons (eC .non) (aNil)))) (aNil)))))))))))
    (b := bName 21) (te := eBin isntD (eCall F_is_fate (aCons (eLoc 21) (aNil))) (eC (.bl false))) (vs := [21]) (ρ := startR sc (some (.ref nb)) (some (scr S)) (some (.int (tk : Int))) (some (.lst (wrongs S)))) (M := M) (M1 := M) (it := ⟨[], wrongF⟩)
    (fun x => (startR sc (some (.ref nb)) (some (scr S)) (some (.int (tk : Int))) (some (.lst (wrongs S)))).set 21 (some x)) (fun _ => .bl false) (iSeq_tup (tup_ev (xs := wrongF) (by unfold wrongF; walk_at "ev") (by show 8 ≤ 1000000; decide))) (srcOk_none _ _) (fun x m => rfl) (fun x m => bin_ev (call_ev (cons_ev (loc_ev rfl) rfl) (wrongF_ok M x m)) c_ev rfl) (by show 8 ≤ 1000000; decide)
  refine if_f (M1 := M) (orf_ev (M1 := M) (tru_ev (d := .bl false) (cb_ev (cons_ev a1 rfl) ?_) rfl) (of_ev (bin_ev (M1 := M) (M2 := M) (call_ev (cons_ev tup0_ev rfl) e0') c_ev rfl))) rfl
  rw [anyD_map (fun _ : D => false)]; simp
theorem make_ev {C : Addr} {F : Fv} {as : EvA} {ρ : Slots} {M M1 M2 : Mem} {ds : List D} {d : D} (h : as ρ M = .ok ds M1) (k : mkIns C F ds M1 = .ok d M2) : eMake C F as ρ M = .ok d M2 := by
  unfold eMake; rw [h]; exact k
theorem p6 (hB : BoxAt nb n1 M) (sc wr : D) (tk : Nat) : ∃ ln u l lg M', T_6 K (startR sc (some (.ref nb)) (some (scr S)) (some (.int (tk : Int))) (some wr)) M =
    .nx (lawR sc nb S tk wr ln [] lg 0 none none none none none none none none none none none none) M' ∧ LInv (He.ga K "Line") nb n1 ln u l lg S [] [] 0 M' := by
  obtain ⟨M1, e1, hL, hl, hk⟩ := init_ev (K := K) S M
  have lt := hB.lt
  have e2 : eLst true aNil (startR sc (some (.ref nb)) (some (scr S)) (some (.int (tk : Int))) (some wr)) M1 = .ok (.ref M1.length) (M1 ++ [.lst []]) := lst0_ev
  refine ⟨M.length, M.length + 1, M.length + 2, M1.length, M1 ++ [.lst []], asgm_ev (d := .tup [.ref M.length, .lst [], .ref M1.length, .int 0]) (M1 := M1 ++ [.lst []]) (tup_ev (xs := [.ref M.length, .lst [], .ref M1.length, .int 0]) (cons_ev (make_ev (cons_ev (loc_ev rfl) rfl) e1) (cons_ev lst0_ev (cons_ev e2 (cons_ev c_ev rfl)))) (by simp)) rfl, ?_⟩
  have hl1 := hL.lt
  refine ⟨(hB.keep (M' := M1) (hk _ lt.1) (hk _ lt.2.1)).grow _, ⟨by rw [List.getElem?_append_left hl1.1]; exact hL.obj, by rw [List.getElem?_append_left hl1.2.1]; exact hL.uw, by rw [List.getElem?_append_left hl1.2.2]; exact hL.lg, hL.n1, hL.n2, hL.n3⟩, ?_, ?_, ?_, ?_, ?_, ?_, ?_, ?_, ?_⟩
  · rw [List.getElem?_append_right (Nat.le_refl _), Nat.sub_self]; rfl
  · omega
  · omega
  · omega
  · exact List.nodup_nil
  · intro r m; cases m
  · intro r m; cases m
  · exact Nat.zero_le _
  · intro r m; cases m
theorem pp10 (hS : OkS S) {ln lg : Nat} {rs : List Rw} {tick : Int} {tk : Nat} (hB : BoxAt nb n1 M) (sc wr : D) (o9 o10 o11 o12 o13 o14 o15 o16 o17 o18 o19 o20 : Option D) :
    ∃ ρ' M', T_10 K (lawR sc nb S tk wr ln rs lg tick o9 o10 o11 o12 o13 o14 o15 o16 o17 o18 o19 o20) M = .nx ρ' M' := by
  obtain ⟨d, M1, e1, a1, b1, hB1, o1⟩ := draw_ev hB (m := 12) (by omega) (by omega)
  obtain ⟨d, rfl⟩ := Int.eq_ofNat_of_zero_le a1
  have key := for_over (i := iSeqG (eTup (aCons (eC (.int (1))) (aCons (eC (.int (2))) (aCons (eC (.int (6))) (aCons (eC (.int (12))) (aCons (eBin (addD false) (eC (.int (1))) (eCall F_z_law_draw (aCons (eLoc 1) (aCons (eC (.int (12))) (aNil))))) (aNil)))))))) (b := bName 15) (body := B_law_4 K) (ρ := lawR sc nb S tk wr ln rs lg tick o9 o10 o11 o12 o13 o14 o15 o16 o17 o18 o19 o20) (M := M) (M1 := M1) (src := []) [1, 2, 6, 12, 1 + d] (fun n : Nat => D.int (n : Int))
    (fun k ρ M' => M' = M1 ∧ ∃ (p15 p16 p17 p18 p19 p20 : Option D), ρ = lawR sc nb S tk wr ln rs lg tick o9 o10 o11 o12 o13 o14 p15 p16 p17 p18 p19 p20)
    (iSeq_tup (tup_ev (xs := [.int 1, .int 2, .int 6, .int 12, .int (1 + (d : Int))]) (by walk_at "ev") (by simp))) ⟨rfl, _, _, _, _, _, _, rfl⟩ (fun k n ρ M' hn hI => by
      obtain ⟨rfl, p15, p16, p17, p18, p19, p20, rfl⟩ := hI
      have hn : n ≤ 12 := by
        have := List.mem_of_getElem? hn
        simp only [List.mem_cons, List.not_mem_nil, or_false] at this
        omega
      obtain ⟨q16, q17, q18, q19, q20, e⟩ := turn4 (K := K) (nb := nb) (ln := ln) (lg := lg) (rs := rs) (tick := tick) (M := M') hS (tk := tk) hn sc wr o9 o10 o11 o12 o13 o14 p16 p17 p18 p19 p20
      exact ⟨_, rfl, _, M', .inl e, rfl, _, _, _, _, _, _, rfl⟩) (fun k ρ M' _ => srcOk_none _ _)
  obtain ⟨ρ', M', e, _⟩ := key
  exact ⟨ρ', M', e⟩
theorem okD_log (ls : List Lg) (h : ls.length ≤ 1000000) (h2 : ∀ g, g ∈ ls → g.fate.length ≤ 1000000) : okD 7 (.tup (ls.map logD)) = true := by
  show (decide ((ls.map logD).length ≤ 1000000) && okDs 6 (ls.map logD)) = true
  rw [Bool.and_eq_true]
  refine ⟨by simpa using h, okDs_of fun x m => ?_⟩
  obtain ⟨g, hg, rfl⟩ := List.mem_map.mp m
  show (decide (3 ≤ 1000000) && (true && (true && (okD 5 (iT g.fate) && true)))) = true
  have : okD 5 (iT g.fate) = true := by
    show (decide ((g.fate.map D.int).length ≤ 1000000) && okDs 4 (g.fate.map D.int)) = true
    rw [Bool.and_eq_true]
    exact ⟨by simpa using h2 g hg, okDs_of fun x m => by obtain ⟨i, _, rfl⟩ := List.mem_map.mp m; rfl⟩
  rw [this]; rfl
theorem law_true (ns : List Int) : ∃ M', F_law K [.arg ns] [] = .ok (.bl true) M' := by
  obtain ⟨nb, n1, M0, e0, hB0⟩ := box_ev ns
  obtain ⟨S, M1, e1, hS, hB1, _, _⟩ := long_ev hB0
  obtain ⟨t, M2, e2, a2, b2, hB2, _⟩ := draw_ev hB1 (m := 4) (by omega) (by omega)
  obtain ⟨t, rfl⟩ := Int.eq_ofNat_of_zero_le a2
  have q0 : T_0 K (startR (.arg ns) none none none none) [] = .nx (startR (.arg ns) (some (.ref nb)) none none none) M0 := set_ev (call_ev (cons_ev (loc_ev rfl) rfl) e0)
  have q2 : T_2 K (startR (.arg ns) (some (.ref nb)) none none none) M0 = .nx (startR (.arg ns) (some (.ref nb)) (some (scr S)) (some (.int ((1 + t : Nat) : Int))) none) M2 := by
    have e3 : addD false (.int 1) (.int (t : Int)) M2 = .ok (.int ((1 + t : Nat) : Int)) M2 := addD_nat (a := 1)
    exact asgm_ev (d := .tup [scr S, .int ((1 + t : Nat) : Int)]) (M1 := M2) (by walk_at "ev") rfl
  obtain ⟨ln, u, l, lg, M3, q6, h3⟩ := p6 (K := K) (S := S) hB2 (.arg ns) (.lst (wrongs S)) (1 + t)
  have key := range_inv (b := 9) (body := B_law_1 K) (ρ := lawR (.arg ns) nb S (1 + t) (.lst (wrongs S)) ln [] lg 0 none none none none none none none none none none none none) (M := M3) (M1 := M3) (e := eC (.int 100)) (n := 100)
    (fun k ρ M' => ∃ (u' : Nat) (rs' : List Rw) (ls' : List Lg) (tick' : Int) (p9 p10 p11 p12 p13 p14 : Option D), ρ = lawR (.arg ns) nb S (1 + t) (.lst (wrongs S)) ln rs' lg tick' p9 p10 p11 p12 p13 p14 none none none none none none ∧ LInv (He.ga K "Line") nb n1 ln u' l lg S rs' ls' tick' M' ∧ ls'.length ≤ 3 * k)
    c_ev (by omega) ⟨u, [], [], 0, _, _, _, _, _, _, rfl, h3, by simp⟩ (fun k ρ M' hk hI => by
      obtain ⟨u', rs', ls', tick', p9, p10, p11, p12, p13, p14, rfl, hI, hl⟩ := hI
      obtain ⟨u2, rs2, ls2, tick2, M2, q10, q11, q12, q13, q14, e, hI2, hl2⟩ := turn1 hI hS hk hl (tk := 1 + t) (by omega) (by omega) (.arg ns) (.lst (wrongs S)) (some (.int (k : Int))) p10 p11 p12 p13 p14 none none none none none none
      exact ⟨_, M2, .inl e, u2, rs2, ls2, tick2, _, _, _, _, _, _, rfl, hI2, hl2⟩)
  obtain ⟨ρ', M4, q7, u4, rs4, ls4, tick4, p9, p10, p11, p12, p13, p14, rfl, h4, hl4⟩ := key
  have hs := same_refl 7 _ (okD_log ls4 (by omega) (fun g m => by have := h4.few g m; omega)) M4
  have q8 : T_8 K (lawR (.arg ns) nb S (1 + t) (.lst (wrongs S)) ln rs4 lg tick4 p9 p10 p11 p12 p13 p14 none none none none none none) M4 = .nx (lawR (.arg ns) nb S (1 + t) (.lst (wrongs S)) ln rs4 lg tick4 p9 p10 p11 p12 p13 p14 none none none none none none) M4 :=
    if_f (notT_ev (b := true) (tru_ev (d := .bl true) (call_ev (M1 := M4) (cons_ev (meth_ev (loc_ev rfl) h4.line.ins rfl nil_ev (log_ev h4.line)) (cons_ev (cb_ev (cons_ev (loc_ev rfl) rfl) (tupleD_ref h4.log)) rfl)) hs) rfl)) rfl
  have hrs : rs4.length ≤ 4000 := by have := h4.len; omega
  have key2 := range_inv (b := 11) (body := B_law_2 K) (ρ := lawR (.arg ns) nb S (1 + t) (.lst (wrongs S)) ln rs4 lg tick4 p9 p10 p11 p12 p13 p14 none none none none none none) (M := M4) (M1 := M4) (e := eLoc 3) (n := 1 + t)
    (fun k ρ M' => ∃ (u' : Nat) (rs' : List Rw) (p11 p14 : Option D), ρ = lawR (.arg ns) nb S (1 + t) (.lst (wrongs S)) ln rs4 lg tick4 p9 p10 p11 p12 p13 p14 none none none none none none ∧ LInv (He.ga K "Line") nb n1 ln u' l lg S rs' ls4 tick4 M' ∧ ∀ j : Nat, k ≤ j → rs'.filter (fun r => decide (r.to = (j : Int))) = rs4.filter (fun r => decide (r.to = (j : Int))))
    (loc_ev rfl) (by omega) ⟨u4, rs4, _, _, rfl, h4, fun _ _ => rfl⟩ (fun k ρ M' hk hI => by
      obtain ⟨u', rs', p11, p14, rfl, hI, hf⟩ := hI
      obtain ⟨u2, rs2, M2, q14, e, hI2, hf2⟩ := turn2 hI (by omega) hrs (tk := 1 + t) (k := k) (hf k (Nat.le_refl _)) (.arg ns) (.lst (wrongs S)) p9 p10 p12 p13 p14 none none none none none none
      exact ⟨_, M2, .inl e, u2, rs2, _, _, rfl, hI2, fun j hj => by rw [hf2 (j : Int) (by omega)]; exact hf j (by omega)⟩)
  obtain ⟨ρ', M5, q9, u5, rs5, p11', p14', rfl, h5, _⟩ := key2
  obtain ⟨ρ6, M6, q10⟩ := pp10 (K := K) (tk := 1 + t) (tick := tick4) (rs := rs4) (ln := ln) (lg := lg) hS h5.box (.arg ns) (.lst (wrongs S)) p9 p10 p11' p12 p13 p14' none none none none none none
  refine ⟨M6, runB_ret (N := 24) rfl ?_⟩
  rw [S_law_eq]
  exact seq_nx q0 (seq_nx (p1 _ _ _) (seq_nx q2 (seq_nx (p3 hS _ _ _ _) (seq_nx (p4 hS _ _ _ _) (seq_nx (p5 hS _ _ _ _) (seq_nx q6 (seq_nx q7 (seq_nx q8 (seq_nx q9 (seq_nx q10 rfl))))))))))
end
end L37
namespace L37
open PySem PySem.W PySem.Calls PyProof.Rows L2 G
abbrev R : PySem.W.OpenRow := PySem.W.OpenLaw.row PySem.Challenge.rw_playrolled_k37_whole_lines_at_their_boun
abbrev hk : PySem.W.Hook := He.hookD 6 fa fn
def ob (s : PySem.W.SharedT) : He.AlD := He.obsDG 6 fa fn (HandSHeadRun.getT s)
theorem ob_eq (s : PySem.W.SharedT) : ob s = hk.obs s.abs := He.obsDG_eq (HandSHeadRun.getT_eq s)
def names0 : List PySem.Str := ["is_number", "MOST_DELAY", "MOST_COPIES", "MOST_TURNS", "is_fate", "is_script", "fate_of", "greatest_common", "fates_met", "starved_links", "longest_silence", "latest_news", "Line", "_law_box", "_law_load", "_law_draw", "_law_same", "_law_long_script", "_law_link_by_sending"]
def names : List PySem.Str := names0
theorem run (w : World) : HandSHeadRun.RunEq R (PySem.W.view R.prog [23]) hk ob 3000 names w := by
  intro os
  kernel_rfl
theorem arg_start {K : PySem.W.Frag} {H : Hp} {a : Addr} {ns : List Int} (hO : Only H) (hS : SqL K H a (ns.map V.int)) (hl : ns.length ≤ sizeLine) : ∃ g : Gh, RelH K g [] H ∧ DRs K g H [.ref a] [.arg ns] := by
  refine ⟨⟨[], fun b => ∃ o, H b = some o⟩, ⟨rfl, List.nodup_nil, (fun n a c e => by simp at e), (fun b m => by cases m), (fun b f => f)⟩, .one (.arg ?_ hl)⟩
  rcases hS with (h | ⟨o, h⟩) | h
  · rcases hO a with e | ⟨o, xs, e⟩
    · rw [e] at h; cases h
    · rw [e] at h; cases h
  · exact .inl ⟨⟨_, h⟩, o, h⟩
  · exact .inr h
theorem facts {K : PySem.W.Frag} {h : Heap} {mg : Str → Option Value} {f : Addr} (X : K.In h) (G : h.Ns mainGlobals mg) (hfa : mg ("law" : Str) = some (.ref f)) (c : He.SaysD fa fn K) :
    ∃ fd : FuncData, (∀ (s : Shared) (v : Value), BindsTo s fd ⟨[v], []⟩ [("script", v)]) ∧ ∀ (P : Program) (w : World) (base : Heap), FnOk P w K mg base CX0 10 f fd ["script"] (spG K (F_law K)) := by
  have W : Wd K mg := ⟨⟨h, X, G⟩, c⟩
  have e := hfa.symm.trans (w_glo_law W)
  cases e
  exact law_facts W
end L37
open PySem PySem.W PySem.Calls PyProof.Rows
theorem PySem.Challenge.cw_playrolled_k37_whole_lines_at_their_boun_holds : PySem.Challenge.rw_playrolled_k37_whole_lines_at_their_boun.Holds := by
  w_on; o_law
  refine HandSHeadRun.head_any (r := OpenLaw.row PySem.Challenge.rw_playrolled_k37_whole_lines_at_their_boun) (q := view (OpenLaw.row PySem.Challenge.rw_playrolled_k37_whole_lines_at_their_boun).prog [23]) (H := L37.hk) (ob := L37.ob) (M := 3000) (loose := L37.names) (d := HandSHeadRun.topDef (OpenLaw.row PySem.Challenge.rw_playrolled_k37_whole_lines_at_their_boun).prog 23) (kwd := []) L37.ob_eq
    (by kernel_rfl) (fun s => by kernel_rfl) L37.run (by kernel_rfl) (by kernel_rfl) (by kernel_rfl) (by rfl) (by first | assumption | decide +kernel) (by decide +kernel) ⟨rfl, rfl, rfl, rfl, rfl, by decide +kernel⟩ ?hw ?hc
  case hw => w_witness2
  case hc =>
    refine L2.walk_ofE (l := PySem.Challenge.rw_playrolled_k37_whole_lines_at_their_boun) (n := 63) (k := 10) (x := "script") (CX := L2.CX0) rfl (by decide) (by kernel_rfl) ⟨rfl, by decide, by decide⟩ ?F (fun _ _ _ _ z => z)
    intro w mg fa h Y G hmg0
    obtain ⟨K, KX, c⟩ := Y
    have hmg : mg ("law" : PySem.Str) = some (.ref fa) := by
      have e : (HandSHeadRun.topDef (OpenLaw.row PySem.Challenge.rw_playrolled_k37_whole_lines_at_their_boun).prog 23).name = ("law" : PySem.Str) := by kernel_rfl
      rw [← e]
      exact hmg0
    obtain ⟨fd, hb, hF⟩ := L37.facts KX G hmg c
    refine ⟨K, fd, _root_.G.spG K (L37.F_law K), KX, hb, fun H a ns hl hO hS => ?_, fun base _ _ => hF _ w base⟩
    obtain ⟨g, rh, dv⟩ := L37.arg_start hO hS (Nat.le_trans hl (by decide))
    obtain ⟨M', e⟩ := L37.law_true (K := K) ns
    refine ⟨g, [], [.arg ns], rh, dv, ?_⟩
    rw [e]
    intro g' H' v _ _ dv'
    cases dv'
    rfl
