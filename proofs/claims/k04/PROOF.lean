import PyProof.Rows.All
import Wide.All
import OpenK.AllK
import Wide.FinOn
import PyProof.EqAt
import PyProof.EqKinds
import PyProof.TupleCall
import HandS.Base
import HandS.Call
import HandS.List
import HandS.Comp
import HandS.Ends
import HandS.Dict
import HandS.Iter
import HandS.Text
import HandS.Words
import HandS.WordsList
import HandS.Walk
import HandS.OwnEq
import HandS.Defaults
import HandS.Codes
import HandS.TryOnly
import HandS.NoneIn
import HandS.Wide
import HandS.WideBits
import HandS.IsInst
import HandS.SortInts
import HandS.SetFor
import HandS.Style
import HandS.TupAny
import HandS.Strs
import HandS.Set
import HandS.Head0
import HandS.Head1
import HandS.Head2
import HandS.HeadHook1
import HandS.Conv
import HandS.Deep
import KE.KSuper
import HandS.ClsMeth
import HandS.Star
import HandS.SlotsOwn
import KE.KTypeName
import HandS.Records
import KE.KStateDown
import HandS.WordsExc
import HandS.HeadEnd
import HandS.HeadHook2
import HandS.Small
import KE.GoesMore
import HandS.More
import HandS.SetIn
import PySem.Challenge.RW_fourthlike_k04_how_far_prices_go
set_option Elab.async false
set_option linter.all false
set_option maxRecDepth 100000
set_option maxHeartbeats 4000000
set_option autoImplicit false
/-! PL1: plain data D, what a value stands for (Rep), environments, the state that lies behind (StOk). -/
namespace PL
open PySem PySem.Spec L2

/-- plain data: what a Python value is, without addresses -/
inductive D where
  | non
  | bl (b : Bool)
  | int (i : Int)
  | str (s : Str)
  | ty (n : String)
  | tup (l : List D)
  | lst (l : List D)
  | dic (ks vs : List D)
  | ins (c : Str) (ns : List Str) (ds : List D)
  | cls (c : Str)
  | scr (l : List Int)
  deriving Inhabited

/-- a key of a dict as data -/
def keyD : Key → D
  | .inl i => .int i
  | .inr s => .str s

mutual
/-- v stands for d, by the objects of F -/
def Rep (K : PySem.W.Frag) (F : Hp) : V → D → Prop
  | v, .non => v = .non
  | v, .bl b => v = .bl b
  | v, .int i => v = .int i
  | v, .str s => v = .str s
  | v, .ty n => v = .ty n
  | v, .tup l => ∃ a vs, v = .ref a ∧ F a = some (.tup vs) ∧ vs.length ≤ sizeLine ∧ RepL K F vs l
  | v, .lst l => ∃ a vs, v = .ref a ∧ F a = some (.lst vs) ∧ vs.length ≤ sizeLine ∧ RepL K F vs l
  | v, .dic ks ws => ∃ a, v = .ref a ∧ ((∃ kvs : List (Key × V), F a = some (.dK kvs) ∧ ks = kvs.map (fun p => keyD p.1) ∧ (kvs.map (·.1)).Nodup ∧ RepL K F (kvs.map (·.2)) ws) ∨
      (∃ kvs : List (List Key × V), F a = some (.dT kvs) ∧ ks = kvs.map (fun p => .tup (p.1.map keyD)) ∧ (kvs.map (·.1)).Nodup ∧ RepL K F (kvs.map (·.2)) ws))
  | v, .ins c ns ds => ∃ a dx fs, v = .ref a ∧ F a = some (.ins (He.ga K c) dx fs) ∧ fs.map (·.1) = ns ∧ RepL K F (fs.map (·.2)) ds
  | v, .cls c => v = .ref (He.ga K c)
  | v, .scr l => ∃ a, v = .ref a ∧ SqL K F a (l.map V.int)
def RepL (K : PySem.W.Frag) (F : Hp) : List V → List D → Prop
  | [], [] => True
  | v :: vs, d :: ds => Rep K F v d ∧ RepL K F vs ds
  | _, _ => False
end

section
variable {K : PySem.W.Frag} {F F' H H' : Hp}
theorem RepL.cons {v : V} {d : D} {vs : List V} {ds : List D} (h : Rep K F v d) (t : RepL K F vs ds) : RepL K F (v :: vs) (d :: ds) := by
  unfold RepL; exact ⟨h, t⟩
theorem RepL.nil : RepL K F [] [] := by unfold RepL; trivial
theorem RepL.hd {v : V} {d : D} {vs : List V} {ds : List D} (h : RepL K F (v :: vs) (d :: ds)) : Rep K F v d := by
  unfold RepL at h; exact h.1
theorem RepL.tl {v : V} {d : D} {vs : List V} {ds : List D} (h : RepL K F (v :: vs) (d :: ds)) : RepL K F vs ds := by
  unfold RepL at h; exact h.2
theorem RepL.not_nc {d : D} {ds : List D} (h : RepL K F [] (d :: ds)) : False := by
  unfold RepL at h; exact h
theorem RepL.not_cn {v : V} {vs : List V} (h : RepL K F (v :: vs) []) : False := by
  unfold RepL at h; exact h

mutual
theorem Rep.mono (e : Ext F F') : ∀ {v : V} {d : D}, Rep K F v d → Rep K F' v d
  | v, .non, h => by unfold Rep at h ⊢; exact h
  | v, .bl b, h => by unfold Rep at h ⊢; exact h
  | v, .int i, h => by unfold Rep at h ⊢; exact h
  | v, .str s, h => by unfold Rep at h ⊢; exact h
  | v, .ty n, h => by unfold Rep at h ⊢; exact h
  | v, .cls c, h => by unfold Rep at h ⊢; exact h
  | v, .scr l, h => by unfold Rep at h ⊢; obtain ⟨a, h1, h2⟩ := h; exact ⟨a, h1, SqL.ext h2 e⟩
  | v, .tup l, h => by
    unfold Rep at h ⊢
    obtain ⟨a, vs, h1, h2, h3, h4⟩ := h
    exact ⟨a, vs, h1, e _ _ h2, h3, RepL.mono e h4⟩
  | v, .lst l, h => by
    unfold Rep at h ⊢
    obtain ⟨a, vs, h1, h2, h3, h4⟩ := h
    exact ⟨a, vs, h1, e _ _ h2, h3, RepL.mono e h4⟩
  | v, .dic ks ws, h => by
    unfold Rep at h ⊢
    obtain ⟨a, h1, h2⟩ := h
    refine ⟨a, h1, ?_⟩
    rcases h2 with ⟨kvs, h2, h3, h4, h5⟩ | ⟨kvs, h2, h3, h4, h5⟩
    · exact .inl ⟨kvs, e _ _ h2, h3, h4, RepL.mono e h5⟩
    · exact .inr ⟨kvs, e _ _ h2, h3, h4, RepL.mono e h5⟩
  | v, .ins c ns ds, h => by
    unfold Rep at h ⊢
    obtain ⟨a, dx, fs, h1, h2, h3, h4⟩ := h
    exact ⟨a, dx, fs, h1, e _ _ h2, h3, RepL.mono e h4⟩
theorem RepL.mono (e : Ext F F') : ∀ {vs : List V} {ds : List D}, RepL K F vs ds → RepL K F' vs ds
  | [], [], _ => .nil
  | v :: vs, d :: ds, h => .cons (Rep.mono e h.hd) (RepL.mono e h.tl)
  | [], _ :: _, h => h.not_nc.elim
  | _ :: _, [], h => h.not_cn.elim
end

theorem RepL.length : ∀ {vs : List V} {ds : List D}, RepL K F vs ds → vs.length = ds.length
  | [], [], _ => rfl
  | v :: vs, d :: ds, h => by rw [List.length_cons, List.length_cons, RepL.length h.tl]
  | [], _ :: _, h => h.not_nc.elim
  | _ :: _, [], h => h.not_cn.elim
theorem RepL.get : ∀ {vs : List V} {ds : List D} {i : Nat} {d : D}, RepL K F vs ds → ds[i]? = some d → ∃ v, vs[i]? = some v ∧ Rep K F v d
  | v :: vs, d :: ds, 0, d', h, e => by
    simp at e; subst e; exact ⟨v, rfl, h.hd⟩
  | v :: vs, d :: ds, i + 1, d', h, e => by
    obtain ⟨w, h1, h2⟩ := RepL.get (i := i) h.tl (by simpa using e)
    exact ⟨w, by simpa using h1, h2⟩
  | [], [], _, _, _, e => by simp at e
  | [], _ :: _, _, _, h, _ => h.not_nc.elim
  | _ :: _, [], _, _, h, _ => h.not_cn.elim
theorem RepL.getV : ∀ {vs : List V} {ds : List D} {i : Nat} {v : V}, RepL K F vs ds → vs[i]? = some v → ∃ d, ds[i]? = some d ∧ Rep K F v d
  | v :: vs, d :: ds, 0, d', h, e => by
    simp at e; subst e; exact ⟨d, rfl, h.hd⟩
  | v :: vs, d :: ds, i + 1, d', h, e => by
    obtain ⟨w, h1, h2⟩ := RepL.getV (i := i) h.tl (by simpa using e)
    exact ⟨w, by simpa using h1, h2⟩
  | [], [], _, _, _, e => by simp at e
  | [], _ :: _, _, _, h, _ => h.not_nc.elim
  | _ :: _, [], _, _, h, _ => h.not_cn.elim
theorem RepL.append : ∀ {vs ws : List V} {ds es : List D}, RepL K F vs ds → RepL K F ws es → RepL K F (vs ++ ws) (ds ++ es)
  | [], _, [], _, _, h => h
  | v :: vs, _, d :: ds, _, h, g => .cons h.hd (RepL.append h.tl g)
  | [], _, _ :: _, _, h, _ => h.not_nc.elim
  | _ :: _, _, [], _, h, _ => h.not_cn.elim
theorem RepL.take : ∀ {vs : List V} {ds : List D} (n : Nat), RepL K F vs ds → RepL K F (vs.take n) (ds.take n)
  | [], [], _, _ => by simp; exact .nil
  | v :: vs, d :: ds, 0, h => .nil
  | v :: vs, d :: ds, n + 1, h => .cons h.hd (RepL.take n h.tl)
  | [], _ :: _, _, h => h.not_nc.elim
  | _ :: _, [], _, h => h.not_cn.elim
theorem RepL.drop : ∀ {vs : List V} {ds : List D} (n : Nat), RepL K F vs ds → RepL K F (vs.drop n) (ds.drop n)
  | [], [], _, _ => by simp; exact .nil
  | v :: vs, d :: ds, 0, h => h
  | v :: vs, d :: ds, n + 1, h => RepL.drop n h.tl
  | [], _ :: _, _, h => h.not_nc.elim
  | _ :: _, [], _, h => h.not_cn.elim
theorem RepL.set : ∀ {vs : List V} {ds : List D} (n : Nat) {v : V} {d : D}, RepL K F vs ds → Rep K F v d → RepL K F (vs.set n v) (ds.set n d)
  | [], [], _, _, _, _, _ => by simp; exact .nil
  | v :: vs, d :: ds, 0, _, _, h, g => .cons g h.tl
  | v :: vs, d :: ds, n + 1, _, _, h, g => .cons h.hd (RepL.set n h.tl g)
  | [], _ :: _, _, _, _, h, _ => h.not_nc.elim
  | _ :: _, [], _, _, _, h, _ => h.not_cn.elim
theorem RepL.eraseIdx : ∀ {vs : List V} {ds : List D} (n : Nat), RepL K F vs ds → RepL K F (vs.eraseIdx n) (ds.eraseIdx n)
  | [], [], _, _ => by simp; exact .nil
  | v :: vs, d :: ds, 0, h => h.tl
  | v :: vs, d :: ds, n + 1, h => .cons h.hd (RepL.eraseIdx n h.tl)
  | [], _ :: _, _, h => h.not_nc.elim
  | _ :: _, [], _, h => h.not_cn.elim
theorem RepL.split : ∀ {vs : List V} {ds es : List D}, RepL K F vs (ds ++ es) → ∃ us ws, vs = us ++ ws ∧ RepL K F us ds ∧ RepL K F ws es
  | vs, [], es, h => ⟨[], vs, rfl, .nil, h⟩
  | v :: vs, d :: ds, es, h => by
    obtain ⟨us, ws, e, h1, h2⟩ := RepL.split (ds := ds) h.tl
    exact ⟨v :: us, ws, by rw [e]; rfl, .cons h.hd h1, h2⟩
  | [], _ :: _, _, h => h.not_nc.elim

theorem Rep.int_iff {v : V} {i : Int} : Rep K F v (.int i) ↔ v = .int i := by unfold Rep; exact Iff.rfl
theorem Rep.bl_iff {v : V} {b : Bool} : Rep K F v (.bl b) ↔ v = .bl b := by unfold Rep; exact Iff.rfl
theorem Rep.non_iff {v : V} : Rep K F v .non ↔ v = .non := by unfold Rep; exact Iff.rfl
theorem Rep.str_iff {v : V} {s : Str} : Rep K F v (.str s) ↔ v = .str s := by unfold Rep; exact Iff.rfl
theorem Rep.ty_iff {v : V} {s : String} : Rep K F v (.ty s) ↔ v = .ty s := by unfold Rep; exact Iff.rfl
theorem Rep.cls_iff {v : V} {s : Str} : Rep K F v (.cls s) ↔ v = .ref (He.ga K s) := by unfold Rep; exact Iff.rfl
theorem Rep.scr_iff {v : V} {l : List Int} : Rep K F v (.scr l) ↔ ∃ a, v = .ref a ∧ SqL K F a (l.map V.int) := by unfold Rep; exact Iff.rfl
theorem Rep.tup_iff {v : V} {l : List D} : Rep K F v (.tup l) ↔ ∃ a vs, v = .ref a ∧ F a = some (.tup vs) ∧ vs.length ≤ sizeLine ∧ RepL K F vs l := by
  constructor
  · intro h; unfold Rep at h; exact h
  · intro h; unfold Rep; exact h
theorem Rep.lst_iff {v : V} {l : List D} : Rep K F v (.lst l) ↔ ∃ a vs, v = .ref a ∧ F a = some (.lst vs) ∧ vs.length ≤ sizeLine ∧ RepL K F vs l := by
  constructor
  · intro h; unfold Rep at h; exact h
  · intro h; unfold Rep; exact h
theorem Rep.ins_iff {v : V} {c : Str} {ns : List Str} {ds : List D} : Rep K F v (.ins c ns ds) ↔ ∃ a dx fs, v = .ref a ∧ F a = some (.ins (He.ga K c) dx fs) ∧ fs.map (·.1) = ns ∧ RepL K F (fs.map (·.2)) ds := by
  constructor
  · intro h; unfold Rep at h; exact h
  · intro h; unfold Rep; exact h
theorem Rep.int {i : Int} : Rep K F (.int i) (.int i) := Rep.int_iff.mpr rfl
theorem Rep.bl {i : Bool} : Rep K F (.bl i) (.bl i) := Rep.bl_iff.mpr rfl
theorem Rep.str {i : Str} : Rep K F (.str i) (.str i) := Rep.str_iff.mpr rfl
theorem Rep.non : Rep K F .non .non := Rep.non_iff.mpr rfl
theorem RepL.ints : ∀ (l : List Int), RepL K F (l.map V.int) (l.map D.int)
  | [] => .nil
  | i :: l => .cons .int (RepL.ints l)
theorem RepL.ints_eq : ∀ {vs : List V} {l : List Int}, RepL K F vs (l.map D.int) → vs = l.map V.int
  | [], [], _ => rfl
  | v :: vs, i :: l, h => by
    have h1 := Rep.int_iff.mp h.hd
    have h2 := RepL.ints_eq (l := l) h.tl
    rw [h1, h2] <;> rfl
  | [], _ :: _, h => h.not_nc.elim
  | _ :: _, [], h => h.not_cn.elim
theorem RepL.bls_eq : ∀ {vs : List V} {l : List Bool}, RepL K F vs (l.map D.bl) → vs = l.map V.bl
  | [], [], _ => rfl
  | v :: vs, i :: l, h => by
    have h1 := Rep.bl_iff.mp h.hd
    have h2 := RepL.bls_eq (l := l) h.tl
    rw [h1, h2] <;> rfl
  | [], _ :: _, h => h.not_nc.elim
  | _ :: _, [], h => h.not_cn.elim
theorem RepL.strs_eq : ∀ {vs : List V} {l : List Str}, RepL K F vs (l.map D.str) → vs = l.map V.str
  | [], [], _ => rfl
  | v :: vs, i :: l, h => by
    have h1 := Rep.str_iff.mp h.hd
    have h2 := RepL.strs_eq (l := l) h.tl
    rw [h1, h2] <;> rfl
  | [], _ :: _, h => h.not_nc.elim
  | _ :: _, [], h => h.not_cn.elim
end

/-! ### growing: what a step without a store does -/
/-- from F ⊆ H to F' ⊆ H': all is kept, what is new in F' is new in the heap -/
structure Grow (F H F' H' : Hp) : Prop where
  f : Ext F F'
  h : Ext H H'
  sub : Ext F' H'
  new : ∀ a o, F' a = some o → F a = some o ∨ H a = none
theorem Grow.rfl' {F H : Hp} (s : Ext F H) : Grow F H F H := ⟨.rfl', .rfl', s, fun _ _ e => .inl e⟩
theorem Grow.trans {F H F1 H1 F2 H2 : Hp} (a : Grow F H F1 H1) (b : Grow F1 H1 F2 H2) : Grow F H F2 H2 :=
  ⟨a.f.trans b.f, a.h.trans b.h, b.sub, fun c o e => by
    rcases b.new c o e with q | q
    · exact a.new c o q
    · right
      cases z : H c with
      | none => rfl
      | some u => rw [a.h c u z] at q; cases q⟩
theorem Grow.upd {F H : Hp} {p : Addr} {o : HO} (s : Ext F H) (n : H p = none) : Grow F H (upd F p o) (upd H p o) := by
  have nF : F p = none := by
    cases z : F p with
    | none => rfl
    | some u => rw [s p u z] at n; cases n
  refine ⟨.upd nF, .upd n, fun a u e => ?_, fun a u e => ?_⟩
  · by_cases h : a = p
    · subst h; rw [upd_same] at e ⊢; exact e
    · rw [upd_ne h] at e ⊢; exact s a u e
  · by_cases h : a = p
    · subst h; exact .inr n
    · rw [upd_ne h] at e; exact .inl e
/-- the heap alone has grown -/
theorem Grow.hp {F H : Hp} {p : Addr} {o : HO} (s : Ext F H) (n : H p = none) : Grow F H F (L2.upd H p o) :=
  ⟨.rfl', .upd n, s.trans (.upd n), fun _ _ e => .inl e⟩

/-! ### environments -/
/-- a slot: nothing known; a value; the j-th cell -/
inductive Sl where
  | un
  | v (d : D)
  | cell (j : Nat)
  deriving Inhabited
/-- a cell: an object of one's own, told by its content; none: there is none (any more) -/
abbrev Cell := Option D

/-- the object at a holds d, its parts by F -/
def Holds (K : PySem.W.Frag) (F H : Hp) (a : Addr) : D → Prop
  | .lst l => ∃ vs, H a = some (.lst vs) ∧ vs.length ≤ sizeLine ∧ RepL K F vs l
  | .dic ks ws => (∃ kvs : List (Key × V), H a = some (.dK kvs) ∧ ks = kvs.map (fun p => keyD p.1) ∧ (kvs.map (·.1)).Nodup ∧ RepL K F (kvs.map (·.2)) ws) ∨
      (∃ kvs : List (List Key × V), H a = some (.dT kvs) ∧ ks = kvs.map (fun p => .tup (p.1.map keyD)) ∧ (kvs.map (·.1)).Nodup ∧ RepL K F (kvs.map (·.2)) ws)
  | .ins c ns ds => ∃ dx fs, H a = some (.ins (He.ga K c) dx fs) ∧ fs.map (·.1) = ns ∧ RepL K F (fs.map (·.2)) ds
  | _ => False
theorem Holds.ob {K : PySem.W.Frag} {F H : Hp} {a : Addr} {d : D} (h : Holds K F H a d) : ∃ o, H a = some o := by
  cases d with
  | lst l => obtain ⟨vs, h1, _⟩ := h; exact ⟨_, h1⟩
  | dic ks ws =>
    rcases h with ⟨kvs, h1, _⟩ | ⟨kvs, h1, _⟩
    · exact ⟨_, h1⟩
    · exact ⟨_, h1⟩
  | ins c ns ds => obtain ⟨dx, fs, h1, _⟩ := h; exact ⟨_, h1⟩
  | _ => exact h.elim
theorem Holds.mono {K : PySem.W.Frag} {F F' H H' : Hp} {a : Addr} {d : D} (h : Holds K F H a d) (e : Ext F F') (g : H' a = H a) : Holds K F' H' a d := by
  cases d with
  | lst l => obtain ⟨vs, h1, h2, h3⟩ := h; exact ⟨vs, g.trans h1, h2, h3.mono e⟩
  | dic ks ws =>
    rcases h with ⟨kvs, h1, h2, h3, h4⟩ | ⟨kvs, h1, h2, h3, h4⟩
    · exact .inl ⟨kvs, g.trans h1, h2, h3, h4.mono e⟩
    · exact .inr ⟨kvs, g.trans h1, h2, h3, h4.mono e⟩
  | ins c ns ds => obtain ⟨dx, fs, h1, h2, h3⟩ := h; exact ⟨dx, fs, g.trans h1, h2, h3.mono e⟩
  | _ => exact h.elim
end PL
/-! PL2: results, the state behind, the readings of expressions, tests and statements over plain data. -/
namespace PL
open PySem PySem.Spec L2

/-- an exception as data: its class, its fields -/
structure XD where
  cls : Str
  ns : List Str
  ds : List D
/-- what a run gives: a value and the cells behind it; an exception; none: nothing is said -/
inductive R (α : Type) where
  | ok (a : α) (p : List Cell)
  | ex (x : XD) (p : List Cell)
  | no
def R.bind {α β : Type} (r : R α) (f : α → List Cell → R β) : R β := match r with
  | .ok a p => f a p
  | .ex x p => .ex x p
  | .no => .no
/-- .. where nothing may be raised -/
def R.bindn {α β : Type} (r : R α) (f : α → List Cell → R β) : R β := match r with
  | .ok a p => f a p
  | _ => .no
@[simp] theorem R.bindn_ok {α β : Type} (a : α) (p : List Cell) (f : α → List Cell → R β) : (R.ok a p).bindn f = f a p := rfl
theorem R.bindn_bind {α β γ : Type} (r : R α) (f : α → List Cell → R β) (g : β → List Cell → R γ) : (r.bindn f).bind g = r.bindn fun a p => (f a p).bind g := by cases r <;> rfl
@[simp] theorem R.bind_ok {α β : Type} (a : α) (p : List Cell) (f : α → List Cell → R β) : (R.ok a p).bind f = f a p := rfl
@[simp] theorem R.bind_ex {α β : Type} (x : XD) (p : List Cell) (f : α → List Cell → R β) : (R.ex x p : R α).bind f = .ex x p := rfl
theorem R.bind_assoc {α β γ : Type} (r : R α) (f : α → List Cell → R β) (g : β → List Cell → R γ) : (r.bind f).bind g = r.bind fun a p => (f a p).bind g := by cases r <;> rfl
@[simp] theorem R.bind_no {α β : Type} (f : α → List Cell → R β) : (R.no : R α).bind f = .no := rfl
/-- a run of an expression -/
abbrev E (α : Type) := List Sl → List Cell → R α
/-- how a statement ends -/
inductive Fl where
  | nx
  | rt (d : D)
  | rn (d : D)
  | bk
  | ct
/-- what a statement gives -/
inductive RS where
  | ok (f : Fl) (ρ : List Sl) (p : List Cell)
  | ex (x : XD) (ρ : List Sl) (p : List Cell)
  | no
abbrev S := List Sl → List Cell → RS

/-- the frame of a def's run: the facts of the text, whose slot a cell is, the wish of an exception -/
structure Cxt where
  K : PySem.W.Frag
  co : List Nat
  na : Nat
  wx : Value → Option Addr → St → Hp → Prop

def SlOk (K : PySem.W.Frag) (F : Hp) (ca : List (Option Addr)) (co : List Nat) (i : Nat) (o : Option (Option V)) : Sl → Prop
  | .un => True
  | .v d => ∃ v, o = some (some v) ∧ Rep K F v d
  | .cell j => co[j]? = some i ∧ ∃ a, o = some (some (.ref a)) ∧ ∀ b, ca[j]? = some (some b) → b = a

/-- z: what must stay besides; as: where the cells stood that were handed in -/
structure Zd where
  z : Hp
  as : List Addr
/-- F: what is frozen; Z: what must stay besides; ca: the cells' addresses -/
structure StOk (C : Cxt) (F : Hp) (Z : Zd) (H : Hp) (ca : List (Option Addr)) (σ : St) (ρ : List Sl) (p : List Cell) : Prop where
  sub : Ext F H
  zs : Ext Z.z H
  zf : ∀ a o, Z.z a = some o → F a = none
  sl : ∀ (i : Nat) (s : Sl), ρ[i]? = some s → SlOk C.K F ca C.co i σ[i]? s
  slen : ρ.length = σ.length
  clen : ca.length = p.length
  asn : Z.as.length ≤ C.na
  dead : ∀ (j : Nat), p[j]? = some (none : Cell) → ca[j]? = some none
  live : ∀ (j : Nat) (d : D), p[j]? = some (some d) → ∃ a, ca[j]? = some (some a) ∧ Holds C.K F H a d ∧ F a = none ∧ Z.z a = none
  dj : ∀ (j k : Nat) (a : Addr), ca[j]? = some (some a) → ca[k]? = some (some a) → j = k
  pas : ∀ (k : Nat) (a : Addr), Z.as[k]? = some a → ca[k]? = some (some a) ∨ (ca[k]? = some none ∧ ∃ o, F a = some o)

/-- the abstract exception -/
def XRep (K : PySem.W.Frag) (F H : Hp) (cls : Value) (od : Option Addr) (x : XD) : Prop :=
  cls = .ref (He.ga K x.cls) ∧ ∃ d fs, od = some d ∧ H d = some (.xd fs) ∧ fs.map (·.1) = x.ns ∧ RepL K F (fs.map (·.2)) x.ds

/-- what is wanted of an exception's way -/
def XWant (C : Cxt) (F : Hp) (Z : Zd) (ca : List (Option Addr)) (σ : St) (ρ : List Sl) (p : List Cell) (x : XD) : Prop :=
  ∀ F' H' cls od, Ext F F' → StOk C F' Z H' ca σ ρ p → XRep C.K F' H' cls od x → C.wx cls od σ H'

section
variable {C : Cxt} {F H F' H' : Hp} {Z : Zd} {ca : List (Option Addr)} {σ : St} {ρ : List Sl} {p : List Cell}
theorem SlOk.mono {i : Nat} {o : Option (Option V)} {s : Sl} (h : SlOk C.K F ca C.co i o s) (e : Ext F F') : SlOk C.K F' ca C.co i o s := by
  cases s with
  | un => trivial
  | v d => obtain ⟨v, h1, h2⟩ := h; exact ⟨v, h1, h2.mono e⟩
  | cell j => exact h
/-- a growth keeps the state -/
theorem StOk.grow (I : StOk C F Z H ca σ ρ p) (g : Grow F H F' H') : StOk C F' Z H' ca σ ρ p where
  sub := g.sub
  zs := I.zs.trans g.h
  zf := fun a o h => by
    cases z : F' a with
    | none => rfl
    | some u =>
      rcases g.new a u z with q | q
      · rw [I.zf a o h] at q; cases q
      · rw [I.zs a o h] at q; cases q
  sl := fun i s h => (I.sl i s h).mono g.f
  slen := I.slen
  clen := I.clen
  asn := I.asn
  dead := I.dead
  live := fun j d h => by
    obtain ⟨a, h1, h2, h3, h4⟩ := I.live j d h
    obtain ⟨o, ho⟩ := h2.ob
    refine ⟨a, h1, h2.mono g.f ((g.h _ _ ho).trans ho.symm), ?_, h4⟩
    cases z : F' a with
    | none => rfl
    | some u =>
      rcases g.new a u z with q | q
      · rw [h3] at q; cases q
      · rw [ho] at q; cases q
  dj := I.dj
  pas := fun k a h => (I.pas k a h).imp_right fun ⟨q, o, w⟩ => ⟨q, o, g.f _ _ w⟩

/-! ### readings -/
/-- a result and what is wanted behind it -/
def Rn {α : Type} (C : Cxt) (F : Hp) (Z : Zd) (ca : List (Option Addr)) (σ : St) (ρ : List Sl) (r : R α) (k : α → Hp → Hp → Prop) : Prop := match r with
  | .ok a p' => ∀ F' H', Ext F F' → StOk C F' Z H' ca σ ρ p' → k a F' H'
  | .ex x p' => XWant C F Z ca σ ρ p' x
  | .no => False
theorem XWant.mono {x : XD} (h : XWant C F Z ca σ ρ p x) (e : Ext F F') : XWant C F' Z ca σ ρ p x := fun F2 H2 cls od e2 I q => h F2 H2 cls od (e.trans e2) I q
theorem Rn.mono {α : Type} {r : R α} {k : α → Hp → Hp → Prop} (h : Rn C F Z ca σ ρ r k) (e : Ext F F') : Rn C F' Z ca σ ρ r k := by
  cases r with
  | ok a p' => exact fun F2 H2 e2 I => h F2 H2 (e.trans e2) I
  | ex x p' => exact XWant.mono h e
  | no => exact h
theorem Rn.bind {α β : Type} {r : R α} {f : α → List Cell → R β} {k : β → Hp → Hp → Prop} {k' : α → Hp → Hp → Prop} (h : Rn C F Z ca σ ρ (r.bind f) k)
    (g : ∀ a p' F' H', Ext F F' → StOk C F' Z H' ca σ ρ p' → Rn C F' Z ca σ ρ (f a p') k → k' a F' H') : Rn C F Z ca σ ρ r k' := by
  cases r with
  | ok a p' => exact fun F2 H2 e2 I => g a p' F2 H2 e2 I (Rn.mono h e2)
  | ex x p' => exact h
  | no => exact h
/-- a value or nothing -/
def lift {α : Type} (o : Option α) (p : List Cell) : R α := match o with
  | some a => .ok a p
  | none => .no
@[simp] theorem lift_some {α : Type} (a : α) (p : List Cell) : lift (some a) p = .ok a p := rfl
@[simp] theorem lift_none {α : Type} (p : List Cell) : lift (none : Option α) p = .no := rfl
theorem Rn.lift {α : Type} {o : Option α} {k : α → Hp → Hp → Prop} (h : Rn C F Z ca σ ρ (PL.lift o p) k) : ∃ a, o = some a ∧ ∀ F' H', Ext F F' → StOk C F' Z H' ca σ ρ p → k a F' H' := by
  cases o with
  | none => exact h.elim
  | some a => exact ⟨a, rfl, h⟩

def kE (C : Cxt) (Q : VK) : D → Hp → Hp → Prop := fun d F' H' => ∀ v, Rep C.K F' v d → Q v H'
def kA (C : Cxt) (Q : List V → Hp → Prop) : List D → Hp → Hp → Prop := fun ds F' H' => ∀ vs, RepL C.K F' vs ds → Q vs H'
def kT (Q : Bool → Hp → Prop) : Bool → Hp → Hp → Prop := fun b _ H' => Q b H'
def tE (C : Cxt) (e : E D) : TE := fun σ H Q => ∃ F Z ca ρ p, StOk C F Z H ca σ ρ p ∧ Rn C F Z ca σ ρ (e ρ p) (kE C Q)
def tA (C : Cxt) (e : E (List D)) : TA := fun σ H Q => ∃ F Z ca ρ p, StOk C F Z H ca σ ρ p ∧ Rn C F Z ca σ ρ (e ρ p) (kA C Q)
def tT (C : Cxt) (e : E Bool) : TT := fun σ H Q => ∃ F Z ca ρ p, StOk C F Z H ca σ ρ p ∧ Rn C F Z ca σ ρ (e ρ p) (kT Q)

/-- a statement's result and what is wanted behind it -/
def RnS (C : Cxt) (F : Hp) (Z : Zd) (r : RS) (De : Ends) : Prop := match r with
  | .ok .nx ρ' p' => ∀ F' H' ca' σ', Ext F F' → StOk C F' Z H' ca' σ' ρ' p' → De.nx σ' H'
  | .ok .bk ρ' p' => ∀ F' H' ca' σ', Ext F F' → StOk C F' Z H' ca' σ' ρ' p' → De.bk σ' H'
  | .ok .ct ρ' p' => ∀ F' H' ca' σ', Ext F F' → StOk C F' Z H' ca' σ' ρ' p' → De.ct σ' H'
  | .ok (.rt d) ρ' p' => ∀ F' H' ca' σ' v, Ext F F' → StOk C F' Z H' ca' σ' ρ' p' → Rep C.K F' v d → De.rt v H'
  | .ok (.rn d) ρ' p' => ∀ F' H' ca' σ' a, Ext F F' → StOk C F' Z H' ca' σ' ρ' p' → Holds C.K F' H' a d → F' a = none → Z.z a = none → (∀ (j : Nat), ca'[j]? ≠ some (some a)) → De.rt (.ref a) H'
  | .ex x ρ' p' => ∀ ca' σ', XWant C F Z ca' σ' ρ' p' x
  | .no => False
def tS (C : Cxt) (s : S) : TS := fun De σ H => ∃ F Z ca ρ p, StOk C F Z H ca σ ρ p ∧ RnS C F Z (s ρ p) De
theorem RnS.mono {r : RS} {De : Ends} (h : RnS C F Z r De) (e : Ext F F') : RnS C F' Z r De := by
  match r, h with
  | .ok .nx _ _, h => exact fun F2 H2 ca σ e2 I => h F2 H2 ca σ (e.trans e2) I
  | .ok .bk _ _, h => exact fun F2 H2 ca σ e2 I => h F2 H2 ca σ (e.trans e2) I
  | .ok .ct _ _, h => exact fun F2 H2 ca σ e2 I => h F2 H2 ca σ (e.trans e2) I
  | .ok (.rt _) _ _, h => exact fun F2 H2 ca σ v e2 I q => h F2 H2 ca σ v (e.trans e2) I q
  | .ok (.rn _) _ _, h => exact fun F2 H2 ca σ a e2 I => h F2 H2 ca σ a (e.trans e2) I
  | .ex _ _ _, h => exact fun ca σ => (h ca σ).mono e
  | .no, h => exact h

theorem PE.imp {X : Cx} {e : Expr} {t t' : TE} (h : PE X e t) (i : ∀ σ H Q, t' σ H Q → t σ H Q) : PE X e t' := ⟨fun pins s σ H Q I q => h.run pins s σ H Q I (i σ H Q q)⟩
theorem PT.imp {X : Cx} {e : Expr} {t t' : TT} (h : PT X e t) (i : ∀ σ H Q, t' σ H Q → t σ H Q) : PT X e t' := ⟨fun pins s σ H Q I q => h.run pins s σ H Q I (i σ H Q q)⟩
theorem PA.imp {X : Cx} {e : List Expr} {t t' : TA} (h : PA X e t) (i : ∀ σ H Q, t' σ H Q → t σ H Q) : PA X e t' := ⟨fun pos pins s σ H Q I q => h.run pos pins s σ H Q I (i σ H Q q)⟩
theorem PS.imp {X : Cx} {e : Stmt} {t t' : TS} (h : PS X e t) (i : ∀ De σ H, t' De σ H → t De σ H) : PS X e t' := ⟨fun pins s σ H De I q => h.run pins s σ H De I (i De σ H q)⟩
theorem PSs.imp {X : Cx} {e : List Stmt} {t t' : TS} (h : PSs X e t) (i : ∀ De σ H, t' De σ H → t De σ H) : PSs X e t' := ⟨fun pins s σ H De I q => h.run pins s σ H De I (i De σ H q)⟩
end

/-! ### the parts of expressions -/
def eVar (i : Nat) : E D := fun ρ p => match ρ[i]? with
  | some (.v d) => .ok d p
  | _ => .no
def eC (d : D) : E D := fun _ p => .ok d p
def eBin (f : D → D → Option D) (a b : E D) : E D := fun ρ p => (a ρ p).bind fun x p1 => (b ρ p1).bind fun y p2 => lift (f x y) p2
def eUn (f : D → Option D) (a : E D) : E D := fun ρ p => (a ρ p).bind fun x p1 => lift (f x) p1
def eNil : E (List D) := fun _ p => .ok [] p
def eCons (a : E D) (r : E (List D)) : E (List D) := fun ρ p => (a ρ p).bind fun x p1 => (r ρ p1).bind fun xs p2 => .ok (x :: xs) p2
def eFn (f : List D → Option D) (a : E (List D)) : E D := fun ρ p => (a ρ p).bind fun xs p1 => lift (f xs) p1
/-- a value that is a bool, as a test -/
def eTest (a : E D) : E Bool := fun ρ p => (a ρ p).bind fun x p1 => match x with
  | .bl b => .ok b p1
  | _ => .no
/-- a test's answer by a function of the value -/
def eTestF (f : D → Option Bool) (a : E D) : E Bool := fun ρ p => (a ρ p).bind fun x p1 => lift (f x) p1
def eNot (a : E Bool) : E Bool := fun ρ p => (a ρ p).bind fun b p1 => .ok (!b) p1
def eAnd (a b : E Bool) : E Bool := fun ρ p => (a ρ p).bind fun x p1 => if x = true then b ρ p1 else .ok false p1
def eOr (a b : E Bool) : E Bool := fun ρ p => (a ρ p).bind fun x p1 => if x = true then .ok true p1 else b ρ p1
/-- a test as a value -/
def eBool (a : E Bool) : E D := fun ρ p => (a ρ p).bind fun b p1 => .ok (.bl b) p1
def eIf (c : E Bool) (a b : E D) : E D := fun ρ p => (c ρ p).bind fun x p1 => if x = true then a ρ p1 else b ρ p1

/-- what a two-place operation by values gives, over data -/
def V2 (K : PySem.W.Frag) (r : R2) (f : D → D → Option D) : Prop :=
  ∀ F H x y dx dy dz Q, Ext F H → Rep K F x dx → Rep K F y dy → f dx dy = some dz → (∀ F' H' v, Grow F H F' H' → Rep K F' v dz → Q v H') → r x y H Q
def V1 (K : PySem.W.Frag) (r : V → Hp → VK → Prop) (f : D → Option D) : Prop :=
  ∀ F H x dx dz Q, Ext F H → Rep K F x dx → f dx = some dz → (∀ F' H' v, Grow F H F' H' → Rep K F' v dz → Q v H') → r x H Q
def VN (K : PySem.W.Frag) (r : List V → Hp → VK → Prop) (f : List D → Option D) : Prop :=
  ∀ F H xs ds dz Q, Ext F H → RepL K F xs ds → f ds = some dz → (∀ F' H' v, Grow F H F' H' → Rep K F' v dz → Q v H') → r xs H Q

section
variable {X : Cx} {C : Cxt} {a b c : Expr} {ea eb ec : E D} {es : List Expr} {ers : E (List D)} {ta tb : E Bool} {pos : Pos}
theorem e_var (i : Nat) {x : Str} (hN : X.N[i]? = some x := by rfl) (hv : Vis X.env.scope x := by first | exact Or.inl rfl | exact Or.inr (Or.inl rfl) | exact Or.inr (Or.inr rfl)) (hd : (x == ("__debug__" : Str)) = false := by decide)
    (hcd : (x == ("__classdict__" : Str)) = false := by decide) : PE X (.Name x pos) (tE C (eVar i)) := PE.imp (pe_var hN hv hd hcd) fun σ H Q ⟨F, Z, ca, ρ, p, I, h⟩ => by
  unfold eVar at h
  split at h
  · rename_i d e
    obtain ⟨v, e1, r⟩ := I.sl i _ e
    exact ⟨v, e1, h F H .rfl' I v r⟩
  · exact h.elim
theorem e_const {e : Expr} {v : V} {d : D} (h : PE X e (tC v)) (r : ∀ F, Rep C.K F v d) : PE X e (tE C (eC d)) := PE.imp h fun σ H Q ⟨F, Z, ca, ρ, p, I, h⟩ => h F H .rfl' I v (r F)
theorem e_int {i : Int} {j} : PE X (.Constant (.int i) j pos) (tE C (eC (.int i))) := e_const pe_int fun _ => .int
theorem e_bl {i : Bool} {j} : PE X (.Constant (.bool i) j pos) (tE C (eC (.bl i))) := e_const pe_bl fun _ => .bl
theorem e_str {i : Str} {j} : PE X (.Constant (.str i) j pos) (tE C (eC (.str i))) := e_const pe_str fun _ => .str
theorem e_non {j} : PE X (.Constant .none j pos) (tE C (eC .non)) := e_const pe_non fun _ => .non

theorem e_op {op : Operator} {r : R2} {f : D → D → Option D} (ho : OpR X (binaryOp op) r) (hf : V2 C.K r f) (ha : PE X a (tE C ea)) (hb : PE X b (tE C eb)) : PE X (.BinOp a op b pos) (tE C (eBin f ea eb)) :=
  PE.imp (pe_op ho ha hb) fun σ H Q ⟨F, Z, ca, ρ, p, I, h⟩ =>
    ⟨F, Z, ca, ρ, p, I, h.bind fun x p1 F1 H1 e1 I1 h1 v hv => ⟨F1, Z, ca, ρ, p1, I1, h1.bind fun y p2 F2 H2 e2 I2 h2 w hw => by
      obtain ⟨z, ez, k⟩ := h2.lift
      exact hf F2 H2 v w x y z Q I2.sub (hv.mono e2) hw ez fun F' H' u g hu => k F' H' g.f (I2.grow g) u hu⟩⟩
theorem e_cmp {op : CmpOp} {r : R2} {f : D → D → Option D} (ho : OpR X (compareOp op) r) (hf : V2 C.K r f) (ha : PE X a (tE C ea)) (hb : PE X b (tE C eb)) (hm : behindInMarks op b = false) : PE X (.Compare a [op] [b] pos) (tE C (eBin f ea eb)) :=
  PE.imp (pe_cmpR ho ha hb hm) fun σ H Q ⟨F, Z, ca, ρ, p, I, h⟩ =>
    ⟨F, Z, ca, ρ, p, I, h.bind fun x p1 F1 H1 e1 I1 h1 v hv => ⟨F1, Z, ca, ρ, p1, I1, h1.bind fun y p2 F2 H2 e2 I2 h2 w hw => by
      obtain ⟨z, ez, k⟩ := h2.lift
      exact hf F2 H2 v w x y z Q I2.sub (hv.mono e2) hw ez fun F' H' u g hu => k F' H' g.f (I2.grow g) u hu⟩⟩
/-- as a test -/
theorem t_cmp {op : CmpOp} {r : R2} {f : D → D → Option D} (ho : OpR X (compareOp op) r) (hf : V2 C.K r f) (ha : PE X a (tE C ea)) (hb : PE X b (tE C eb)) (hm : behindInMarks op b = false) : PT X (.Compare a [op] [b] pos) (tT C (eTest (eBin f ea eb))) :=
  PT.imp (pt_cmpR ho ha hb hm) fun σ H Q ⟨F, Z, ca, ρ, p, I, h⟩ => by
    unfold eTest eBin at h
    simp only [R.bind_assoc] at h
    exact ⟨F, Z, ca, ρ, p, I, h.bind fun x p1 F1 H1 e1 I1 h1 v hv => ⟨F1, Z, ca, ρ, p1, I1, h1.bind fun y p2 F2 H2 e2 I2 h2 w hw => by
      cases ez : f x y with
      | none => rw [ez] at h2; exact h2.elim
      | some z =>
        rw [ez] at h2
        cases z with
        | bl z => exact hf F2 H2 v w x y (.bl z) _ I2.sub (hv.mono e2) hw ez fun F' H' u g hu => ⟨z, Rep.bl_iff.mp hu, h2 F' H' g.f (I2.grow g)⟩
        | _ => exact h2.elim⟩⟩
theorem t_val {e : Expr} {ee : E D} (h : PE X e (tE C ee)) (he : ∀ whole, isTrue e X.env whole = (do let v ← whole; standAt e.pos; holding [v] (truthy v)) := by intro _; rfl) : PT X e (tT C (eTest ee)) :=
  PT.imp (pt_val h he) fun σ H Q ⟨F, Z, ca, ρ, p, I, h⟩ => ⟨F, Z, ca, ρ, p, I, h.bind fun x p1 F1 H1 e1 I1 h1 v hv => by
    cases x with
    | bl b => exact ⟨b, Rep.bl_iff.mp hv, h1 F1 H1 .rfl' I1⟩
    | _ => exact h1.elim⟩
theorem t_not (h : PT X a (tT C ta)) : PT X (.UnaryOp .Not a pos) (tT C (eNot ta)) :=
  PT.imp (pt_not h) fun σ H Q ⟨F, Z, ca, ρ, p, I, h⟩ => ⟨F, Z, ca, ρ, p, I, h.bind fun x p1 F1 H1 e1 I1 h1 => h1 F1 H1 .rfl' I1⟩
theorem PW.imp {X : Cx} {e : Expr} {t t' : TT} (h : PW X e t) (i : ∀ σ H Q, t' σ H Q → t σ H Q) : PW X e t' := ⟨fun wh pins s σ H Q I q => h.run wh pins s σ H Q I (i σ H Q q)⟩
variable {rest : List Expr}
theorem w_and1 (h : PT X a (tT C ta)) : PW X (.BoolOp .And [a] pos) (tT C ta) := pw_and1 h
theorem w_or1 (h : PT X a (tT C ta)) : PW X (.BoolOp .Or [a] pos) (tT C ta) := pw_or1 h
theorem w_and (ha : PT X a (tT C ta)) (hb : PW X (.BoolOp .And (b :: rest) pos) (tT C tb)) : PW X (.BoolOp .And (a :: b :: rest) pos) (tT C (eAnd ta tb)) :=
  PW.imp (pw_and ha hb) fun σ H Q ⟨F, Z, ca, ρ, p, I, h⟩ => ⟨F, Z, ca, ρ, p, I, h.bind fun x p1 F1 H1 e1 I1 h1 => by
    show if x = true then _ else _
    by_cases hx : x = true
    · rw [if_pos hx] at h1 ⊢
      exact ⟨F1, Z, ca, ρ, p1, I1, h1⟩
    · rw [if_neg hx] at h1 ⊢
      exact h1 F1 H1 .rfl' I1⟩
theorem w_or (ha : PT X a (tT C ta)) (hb : PW X (.BoolOp .Or (b :: rest) pos) (tT C tb)) : PW X (.BoolOp .Or (a :: b :: rest) pos) (tT C (eOr ta tb)) :=
  PW.imp (pw_or ha hb) fun σ H Q ⟨F, Z, ca, ρ, p, I, h⟩ => ⟨F, Z, ca, ρ, p, I, h.bind fun x p1 F1 H1 e1 I1 h1 => by
    show if x = true then _ else _
    by_cases hx : x = true
    · rw [if_pos hx] at h1 ⊢
      exact h1 F1 H1 .rfl' I1
    · rw [if_neg hx] at h1 ⊢
      exact ⟨F1, Z, ca, ρ, p1, I1, h1⟩⟩
theorem t_w (h : PW X a (tT C ta)) : PT X a (tT C ta) := h.pt
theorem e_ifExp (hc : PT X c (tT C ta)) (ha : PE X a (tE C ea)) (hb : PE X b (tE C eb)) : PE X (.IfExp c a b pos) (tE C (eIf ta ea eb)) :=
  PE.imp (pe_ifExp hc ha hb) fun σ H Q ⟨F, Z, ca, ρ, p, I, h⟩ => ⟨F, Z, ca, ρ, p, I, h.bind fun x p1 F1 H1 e1 I1 h1 => by
    show if x = true then _ else _
    by_cases hx : x = true
    · rw [if_pos hx] at h1 ⊢
      exact ⟨F1, Z, ca, ρ, p1, I1, h1⟩
    · rw [if_neg hx] at h1 ⊢
      exact ⟨F1, Z, ca, ρ, p1, I1, h1⟩⟩
/-- and, or as values: all parts bools -/
def eAndV (a b : E D) : E D := fun ρ p => (a ρ p).bind fun x p1 => match x with
  | .bl true => b ρ p1
  | .bl false => .ok (.bl false) p1
  | _ => .no
def eOrV (a b : E D) : E D := fun ρ p => (a ρ p).bind fun x p1 => match x with
  | .bl true => .ok (.bl true) p1
  | .bl false => b ρ p1
  | _ => .no
theorem e_one {op} (h : PE X a (tE C ea)) : PE X (.BoolOp op [a] pos) (tE C ea) := pe_one h
theorem e_and (ha : PE X a (tE C ea)) (hb : PE X (.BoolOp .And (b :: rest) pos) (tE C eb)) : PE X (.BoolOp .And (a :: b :: rest) pos) (tE C (eAndV ea eb)) :=
  PE.imp (pe_and ha hb) fun σ H Q ⟨F, Z, ca, ρ, p, I, h⟩ => ⟨F, Z, ca, ρ, p, I, h.bind fun x p1 F1 H1 e1 I1 h1 v hv => by
    cases x with
    | bl z =>
      refine ⟨z, Rep.bl_iff.mp hv, ?_⟩
      cases z with
      | true => rw [if_pos rfl]; exact ⟨F1, Z, ca, ρ, p1, I1, h1⟩
      | false => rw [if_neg Bool.false_ne_true]; exact h1 F1 H1 .rfl' I1 _ .bl
    | _ => exact h1.elim⟩
theorem e_or (ha : PE X a (tE C ea)) (hb : PE X (.BoolOp .Or (b :: rest) pos) (tE C eb)) : PE X (.BoolOp .Or (a :: b :: rest) pos) (tE C (eOrV ea eb)) :=
  PE.imp (pe_or ha hb) fun σ H Q ⟨F, Z, ca, ρ, p, I, h⟩ => ⟨F, Z, ca, ρ, p, I, h.bind fun x p1 F1 H1 e1 I1 h1 v hv => by
    cases x with
    | bl z =>
      refine ⟨z, Rep.bl_iff.mp hv, ?_⟩
      cases z with
      | true => rw [if_pos rfl]; exact h1 F1 H1 .rfl' I1 _ .bl
      | false => rw [if_neg Bool.false_ne_true]; exact ⟨F1, Z, ca, ρ, p1, I1, h1⟩
    | _ => exact h1.elim⟩
/-- not, of a bool, as a value -/
def eNotV (a : E D) : E D := fun ρ p => (a ρ p).bind fun x p1 => match x with
  | .bl b => .ok (.bl (!b)) p1
  | _ => .no
theorem e_not (ha : PE X a (tE C ea)) : PE X (.UnaryOp .Not a pos) (tE C (eNotV ea)) :=
  PE.imp (pe_not ha) fun σ H Q ⟨F, Z, ca, ρ, p, I, h⟩ => ⟨F, Z, ca, ρ, p, I, h.bind fun x p1 F1 H1 e1 I1 h1 v hv => by
    cases x with
    | bl z => exact ⟨z, Rep.bl_iff.mp hv, h1 F1 H1 .rfl' I1 _ .bl⟩
    | _ => exact h1.elim⟩
/-- argument lists -/
theorem a_nil : PA X [] (tA C eNil) := PA.imp pa_nil fun σ H Q ⟨F, Z, ca, ρ, p, I, h⟩ => h F H .rfl' I [] .nil
theorem a_cons (ha : PE X a (tE C ea)) (hr : PA X es (tA C ers)) (hs : starEach (a :: es) X.env = (false, eval a X.env) :: starEach es X.env := by rfl) : PA X (a :: es) (tA C (eCons ea ers)) :=
  PA.imp (pa_cons ha hr hs) fun σ H Q ⟨F, Z, ca, ρ, p, I, h⟩ => ⟨F, Z, ca, ρ, p, I, h.bind fun x p1 F1 H1 e1 I1 h1 v hv => ⟨F1, Z, ca, ρ, p1, I1, h1.bind fun xs p2 F2 H2 e2 I2 h2 vs hvs =>
    h2 F2 H2 .rfl' I2 _ (.cons (hv.mono e2) hvs)⟩⟩
/-- a call of a builtin by values -/
theorem fn_end {r : List V → Hp → VK → Prop} {f : List D → Option D} (hf : VN C.K r f) {σ : St} {H : Hp} {Q : VK} (h : tE C (eFn f ers) σ H Q) : tA C ers σ H fun vs H1 => r vs H1 Q := by
  obtain ⟨F, Z, ca, ρ, p, I, h⟩ := h
  exact ⟨F, Z, ca, ρ, p, I, h.bind fun x p1 F1 H1 e1 I1 h1 vs hvs => by
    obtain ⟨z, ez, k⟩ := h1.lift
    exact hf F1 H1 vs x z Q I1.sub hvs ez fun F' H' u g hu => k F' H' g.f (I1.grow g) u hu⟩
theorem e_callB {id : String} {r : List V → Hp → VK → Prop} {f : List D → Option D} {x : Str} {p : Pos} (hc : CallR X (.builtin id) r) (hf : VN C.K r f) (hg : Gl X x) (hm : X.mg x = none) (hv : bootBuiltins x = some (.builtin id)) (ha : PA X (a :: es) (tA C ers))
    (hn : x ≠ "__name__" := by decide) (hdb : (x == ("__debug__" : Str)) = false := by decide)
    (he : starEach (a :: es) X.env = (false, eval a X.env) :: starEach es X.env := by rfl) (hpl : (backTo pos (starEach es X.env)).any (·.1) = false := by rfl) : PE X (.Call (.Name x p) (a :: es) [] pos) (tE C (eFn f ers)) :=
  PE.imp (pe_callB hc hg hm hv ha hn hdb he hpl) fun σ H Q h => fn_end hf h
theorem e_callTy {T : String} {r : List V → Hp → VK → Prop} {f : List D → Option D} {x : Str} {p : Pos} (hc : CallR X (.type T) r) (hf : VN C.K r f) (hg : Gl X x) (hm : X.mg x = none) (hv : bootBuiltins x = some (.type T)) (ha : PA X (a :: es) (tA C ers))
    (hn : x ≠ "__name__" := by decide) (hdb : (x == ("__debug__" : Str)) = false := by decide)
    (he : starEach (a :: es) X.env = (false, eval a X.env) :: starEach es X.env := by rfl) (hpl : (backTo pos (starEach es X.env)).any (·.1) = false := by rfl) : PE X (.Call (.Name x p) (a :: es) [] pos) (tE C (eFn f ers)) :=
  PE.imp (pe_callTy hc hg hm hv ha hn hdb he hpl) fun σ H Q h => fn_end hf h
/-- displays -/
def dTup (l : List D) : Option D := if l.length ≤ 1000 then some (.tup l) else none
def dLst (l : List D) : Option D := if l.length ≤ 1000 then some (.lst l) else none
theorem le_line {n : Nat} (h : n ≤ 1000) : n ≤ sizeLine := Nat.le_of_lt (small1000 h)
theorem e_tup {x1} (h : PA X es (tA C ers)) : PE X (.Tuple es x1 pos) (tE C (eFn dTup ers)) :=
  PE.imp (pe_tup h) fun σ H Q ⟨F, Z, ca, ρ, p, I, h⟩ => ⟨F, Z, ca, ρ, p, I, h.bind fun ds p1 F1 H1 e1 I1 h1 vs hvs => by
    obtain ⟨z, ez, k⟩ := h1.lift
    unfold dTup at ez
    split at ez
    · rename_i hl
      cases ez
      have hl' : vs.length ≤ sizeLine := by rw [hvs.length]; exact le_line hl
      refine ⟨hl', fun q hq => ?_⟩
      have g := Grow.upd (o := .tup vs) I1.sub hq
      exact k _ _ g.f (I1.grow g) _ (Rep.tup_iff.mpr ⟨q, vs, rfl, upd_same, hl', hvs.mono g.f⟩)
    · cases ez⟩
theorem e_lst (h : PA X es (tA C ers)) : PE X (.List es pos) (tE C (eFn dLst ers)) :=
  PE.imp (pe_lst h) fun σ H Q ⟨F, Z, ca, ρ, p, I, h⟩ => ⟨F, Z, ca, ρ, p, I, h.bind fun ds p1 F1 H1 e1 I1 h1 vs hvs => by
    obtain ⟨z, ez, k⟩ := h1.lift
    unfold dLst at ez
    split at ez
    · rename_i hl
      cases ez
      have hl' : vs.length ≤ sizeLine := by rw [hvs.length]; exact le_line hl
      refine ⟨hl', fun q hq => ?_⟩
      have g := Grow.upd (o := .lst vs) I1.sub hq
      exact k _ _ g.f (I1.grow g) _ (Rep.lst_iff.mpr ⟨q, vs, rfl, upd_same, hl', hvs.mono g.f⟩)
    · cases ez⟩
end
end PL
/-! PL3: statements, targets, loops, comprehensions, the promise of a def. -/
namespace PL
open PySem PySem.Spec L2

section
variable {C : Cxt} {F H F' H' : Hp} {Z : Zd} {ca : List (Option Addr)} {σ σ' : St} {ρ ρ' : List Sl} {p p' : List Cell}
theorem StOk.set (I : StOk C F Z H ca σ ρ p) {i : Nat} {v : V} {d : D} (hi : i < ρ.length) (r : Rep C.K F v d) : StOk C F Z H ca (σ.set i (some v)) (ρ.set i (.v d)) p :=
  { I with
    sl := fun k s h => by
      by_cases e : k = i
      · subst e
        rw [List.getElem?_set_self hi] at h
        cases h
        refine ⟨v, ?_, r⟩
        rw [List.getElem?_set_self (by rw [← I.slen]; exact hi)]
      · rw [List.getElem?_set_ne (Ne.symm e)] at h ⊢
        exact I.sl k s h
    slen := by rw [List.length_set, List.length_set]; exact I.slen }
/-- what a target does: the slots that it stores to, and the store -/
structure G where
  run : D → List Sl → Option (List Sl)
  ts : List Nat
/-- slots outside of ts are kept -/
def Off (ts : List Nat) (σ σ' : St) : Prop := σ'.length = σ.length ∧ ∀ i, i ∉ ts → σ'[i]? = σ[i]?
theorem Off.refl {ts : List Nat} {σ : St} : Off ts σ σ := ⟨rfl, fun _ _ => rfl⟩
theorem Off.trans {ts us : List Nat} {σ σ1 σ2 : St} (a : Off ts σ σ1) (b : Off us σ1 σ2) : Off (ts ++ us) σ σ2 :=
  ⟨b.1.trans a.1, fun i h => (b.2 i fun q => h (List.mem_append_right _ q)).trans (a.2 i fun q => h (List.mem_append_left _ q))⟩
def tG (C : Cxt) (g : G) : TG := fun v σ H Q => ∃ F Z ca ρ p d, StOk C F Z H ca σ ρ p ∧ Rep C.K F v d ∧ ∃ ρ', g.run d ρ = some ρ' ∧ ∀ σ', Off g.ts σ σ' → StOk C F Z H ca σ' ρ' p → Q σ' H
/-- several targets -/
structure Gs where
  run : List D → List Sl → Option (List Sl)
  ts : List Nat
def tGs (C : Cxt) (g : Gs) : TGs := fun vs σ H Q => ∃ F Z ca ρ p ds, StOk C F Z H ca σ ρ p ∧ RepL C.K F vs ds ∧ ∃ ρ', g.run ds ρ = some ρ' ∧ ∀ σ', Off g.ts σ σ' → StOk C F Z H ca σ' ρ' p → Q σ' H
def gV (i : Nat) : G := ⟨fun d ρ => if i < ρ.length then some (ρ.set i (.v d)) else none, [i]⟩
def gNl : Gs := ⟨fun ds ρ => match ds with | [] => some ρ | _ => none, []⟩
def gCn (g : G) (gs : Gs) : Gs := ⟨fun ds ρ => match ds with | [] => none | d :: r => (g.run d ρ).bind fun ρ1 => gs.run r ρ1, g.ts ++ gs.ts⟩
/-- a tuple taken apart -/
def gTp (gs : Gs) : G := ⟨fun d ρ => match d with | .tup ds => gs.run ds ρ | _ => none, gs.ts⟩
/-- a list taken apart -/
def gLs (gs : Gs) : G := ⟨fun d ρ => match d with | .lst ds => gs.run ds ρ | _ => none, gs.ts⟩
theorem Gs.len {gs : Gs} {n : Nat} (h : ∀ ds ρ ρ', gs.run ds ρ = some ρ' → ds.length = n) : ∀ ds ρ ρ', gs.run ds ρ = some ρ' → ds.length = n := h
theorem off_set {σ : St} {i : Nat} {x : Option V} : Off [i] σ (σ.set i x) := ⟨List.length_set, fun k h => List.getElem?_set_ne (fun e => h (by simp [e]))⟩
end

section
variable {X : Cx} {C : Cxt} {pos : Pos}
theorem PG.imp {X : Cx} {e : Expr} {t t' : TG} (h : PG X e t) (i : ∀ v σ H Q, t' v σ H Q → t v σ H Q) : PG X e t' := ⟨fun pins s σ H v u Q I r q => h.run pins s σ H v u Q I r (i v σ H Q q)⟩
theorem PGs.imp {X : Cx} {e : List Expr} {t t' : TGs} (h : PGs X e t) (i : ∀ v σ H Q, t' v σ H Q → t v σ H Q) : PGs X e t' := ⟨fun pins s σ H v u Q I r q => h.run pins s σ H v u Q I r (i v σ H Q q)⟩
theorem g_name (i : Nat) {x : Str} (hN : X.N.Nodup) (hi : X.N[i]? = some x := by rfl) (hx : Loc X.env.scope x := by first | exact .inl rfl | exact .inr rfl) (hf : X.fn x = true ∨ X.env.scope.names.lookup x = some .local := by first | exact .inl rfl | exact .inr rfl | assumption) : PG X (.Name x pos) (tG C (gV i)) :=
  PG.imp (pg_name hN hi hx hf) fun v σ H Q ⟨F, Z, ca, ρ, p, d, I, r, ρ', e, k⟩ => by
    unfold gV at e
    dsimp only at e
    split at e
    · rename_i hl
      cases e
      exact k _ off_set (I.set hl r)
    · cases e
theorem gs_nil : PGs X [] (tGs C gNl) := PGs.imp pgs_nil fun v σ H Q ⟨F, Z, ca, ρ, p, d, I, r, ρ', e, k⟩ => by
  cases d with
  | nil =>
    cases e
    cases v with
    | nil => exact ⟨rfl, k σ .refl I⟩
    | cons v vs => exact r.not_cn.elim
  | cons d ds => cases e
theorem gs_cons {e : Expr} {es : List Expr} {g : G} {gs : Gs} (h1 : PG X e (tG C g)) (h2 : PGs X es (tGs C gs))
    (hs : (assignEach (e :: es) X.env).map (·.2) = assign e X.env :: (assignEach es X.env).map (·.2) := by rfl) : PGs X (e :: es) (tGs C (gCn g gs)) :=
  PGs.imp (pgs_cons h1 h2 hs) fun v σ H Q ⟨F, Z, ca, ρ, p, d, I, r, ρ', e, k⟩ => by
    cases d with
    | nil => cases e
    | cons d ds =>
      cases v with
      | nil => exact r.not_nc.elim
      | cons v vs =>
        have e' : (g.run d ρ).bind (fun ρ1 => gs.run ds ρ1) = some ρ' := e
        cases q : g.run d ρ with
        | none => rw [q] at e'; cases e'
        | some ρ1 =>
          rw [q] at e'
          exact ⟨v, vs, rfl, F, Z, ca, ρ, p, d, I, r.hd, ρ1, q, fun σ1 o1 I1 => ⟨F, Z, ca, ρ1, p, ds, I1, r.tl, ρ', e', fun σ2 o2 I2 => k σ2 (o1.trans o2) I2⟩⟩
theorem g_tup {es : List Expr} {k : Nat} {gs : Gs} {n : Nat} (hc : X.calm = true) (h : PGs X es (tGs C gs)) (hg : ∀ ds ρ ρ', gs.run ds ρ = some ρ' → ds.length = n)
    (hK : X.K = C.K) (hn : (assignEach es X.env).length = n := by rfl) (hst : (assignEach es X.env).findIdx? (·.1) = none := by rfl) : PG X (.Tuple es k pos) (tG C (gTp gs)) :=
  PG.imp (pg_tup hc h hn hst) fun v σ H Q ⟨F, Z, ca, ρ, p, d, I, r, ρ', e, k⟩ => by
    cases d with
    | tup ds =>
      obtain ⟨a, vs, e1, e2, e3, e4⟩ := Rep.tup_iff.mp r
      exact ⟨a, vs, e1, SqT.of (I.sub _ _ e2), by rw [e4.length]; exact hg ds ρ ρ' e, F, Z, ca, ρ, p, ds, I, e4, ρ', e, k⟩
    | _ => cases e
theorem g_lst {es : List Expr} {k : Nat} {gs : Gs} {n : Nat} (hc : X.calm = true) (h : PGs X es (tGs C gs)) (hg : ∀ ds ρ ρ', gs.run ds ρ = some ρ' → ds.length = n)
    (hn : (assignEach es X.env).length = n := by rfl) (hst : (assignEach es X.env).findIdx? (·.1) = none := by rfl) : PG X (.Tuple es k pos) (tG C (gLs gs)) :=
  PG.imp (pg_lst hc h hn hst) fun v σ H Q ⟨F, Z, ca, ρ, p, d, I, r, ρ', e, k⟩ => by
    cases d with
    | lst ds =>
      obtain ⟨a, vs, e1, e2, e3, e4⟩ := Rep.lst_iff.mp r
      exact ⟨a, vs, e1, SqL.of (I.sub _ _ e2), by rw [e4.length]; exact hg ds ρ ρ' e, F, Z, ca, ρ, p, ds, I, e4, ρ', e, k⟩
    | _ => cases e
theorem gNl_len : ∀ ds ρ ρ', gNl.run ds ρ = some ρ' → ds.length = 0 := fun ds ρ ρ' e => by
  cases ds with
  | nil => rfl
  | cons _ _ => cases e
theorem gCn_len {g : G} {gs : Gs} {n : Nat} (h : ∀ ds ρ ρ', gs.run ds ρ = some ρ' → ds.length = n) : ∀ ds ρ ρ', (gCn g gs).run ds ρ = some ρ' → ds.length = n + 1 := fun ds ρ ρ' e => by
  cases ds with
  | nil => cases e
  | cons d ds =>
    have e' : (g.run d ρ).bind (fun ρ1 => gs.run ds ρ1) = some ρ' := e
    cases q : g.run d ρ with
    | none => rw [q] at e'; cases e'
    | some ρ1 =>
      rw [q] at e'
      rw [List.length_cons, h ds ρ1 ρ' e']
end

/-! ### statements -/
def RS.andThen (r : RS) (t : S) : RS := match r with
  | .ok .nx ρ p => t ρ p
  | r => r
def xSkip : S := fun ρ p => .ok .nx ρ p
def xSeq (s t : S) : S := fun ρ p => (s ρ p).andThen t
def RS.of {α : Type} (r : R α) (ρ : List Sl) (f : α → List Cell → RS) : RS := match r with
  | .ok a p => f a p
  | .ex x p => .ex x ρ p
  | .no => .no
def xAsg (e : E D) (g : G) : S := fun ρ p => RS.of (e ρ p) ρ fun d p1 => match g.run d ρ with
  | some ρ1 => .ok .nx ρ1 p1
  | none => .no
def xRet (e : E D) : S := fun ρ p => RS.of (e ρ p) ρ fun d p1 => .ok (.rt d) ρ p1
def xRetN : S := fun ρ p => .ok (.rt .non) ρ p
def xExpr (e : E D) : S := fun ρ p => RS.of (e ρ p) ρ fun _ p1 => .ok .nx ρ p1
def xIf (c : E Bool) (s t : S) : S := fun ρ p => RS.of (c ρ p) ρ fun b p1 => if b = true then s ρ p1 else t ρ p1
def xBrk : S := fun ρ p => .ok .bk ρ p
def xCnt : S := fun ρ p => .ok .ct ρ p
def xNever : S := fun _ _ => .no
/-- how a loop's turn goes on -/
def RS.turn (r : RS) (t : S) : RS := match r with
  | .ok .nx ρ p => t ρ p
  | .ok .ct ρ p => t ρ p
  | .ok .bk ρ p => .ok .nx ρ p
  | r => r
def forGo (g : G) (s : S) : List D → S
  | [] => fun ρ p => .ok .nx ρ p
  | d :: ds => fun ρ p => match g.run d ρ with
    | some ρ1 => (s ρ1 p).turn (forGo g s ds)
    | none => .no
def xFor (it : E (List D)) (g : G) (s : S) : S := fun ρ p => RS.of (it ρ p) ρ fun ds p1 => forGo g s ds ρ p1
def whileGo (c : E Bool) (s : S) : Nat → S
  | 0 => fun _ _ => .no
  | n + 1 => fun ρ p => RS.of (c ρ p) ρ fun b p1 => if b = true then (s ρ p1).turn (whileGo c s n) else .ok .nx ρ p1
def xWhile (n : Nat) (c : E Bool) (s : S) : S := whileGo c s n

section
variable {C : Cxt} {F H F' H' : Hp} {Z : Zd} {ca : List (Option Addr)} {σ σ' : St} {ρ ρ' : List Sl} {p p' : List Cell}
theorem RnS.of {α : Type} {r : R α} {f : α → List Cell → RS} {De : Ends} {k' : α → Hp → Hp → Prop} (h : RnS C F Z (RS.of r ρ f) De)
    (g : ∀ a p' F' H', Ext F F' → StOk C F' Z H' ca σ ρ p' → RnS C F' Z (f a p') De → k' a F' H') : Rn C F Z ca σ ρ r k' := by
  cases r with
  | ok a p' => exact fun F2 H2 e2 I => g a p' F2 H2 e2 I (RnS.mono h e2)
  | ex x p' => exact h ca σ
  | no => exact h
theorem RnS.andThen {r : RS} {t : S} {De : Ends} {De' : Ends} (h : RnS C F Z (r.andThen t) De)
    (hn : ∀ F' H' ca' σ' ρ' p', Ext F F' → StOk C F' Z H' ca' σ' ρ' p' → RnS C F' Z (t ρ' p') De → De'.nx σ' H') (hr : ∀ v H, De.rt v H → De'.rt v H) (hb : ∀ σ H, De.bk σ H → De'.bk σ H) (hc : ∀ σ H, De.ct σ H → De'.ct σ H) : RnS C F Z r De' := by
  match r, h with
  | .ok .nx ρ' p', h => exact fun F2 H2 ca2 σ2 e2 I => hn F2 H2 ca2 σ2 ρ' p' e2 I (RnS.mono h e2)
  | .ok .bk _ _, h => exact fun F2 H2 ca2 σ2 e2 I => hb _ _ (h F2 H2 ca2 σ2 e2 I)
  | .ok .ct _ _, h => exact fun F2 H2 ca2 σ2 e2 I => hc _ _ (h F2 H2 ca2 σ2 e2 I)
  | .ok (.rt _) _ _, h => exact fun F2 H2 ca2 σ2 v e2 I q => hr _ _ (h F2 H2 ca2 σ2 v e2 I q)
  | .ok (.rn _) _ _, h => exact fun F2 H2 ca2 σ2 a e2 I q1 q2 q3 q4 => hr _ _ (h F2 H2 ca2 σ2 a e2 I q1 q2 q3 q4)
  | .ex _ _ _, h => exact h
  | .no, h => exact h
theorem RnS.turn {r : RS} {t : S} {De : Ends} {N : L2.St → Hp → Prop} (h : RnS C F Z (r.turn t) De)
    (hn : ∀ F' H' ca' σ' ρ' p', Ext F F' → StOk C F' Z H' ca' σ' ρ' p' → RnS C F' Z (t ρ' p') De → N σ' H') : RnS C F Z r { De with nx := N, ct := N, bk := De.nx } := by
  match r, h with
  | .ok .nx ρ' p', h => exact fun F2 H2 ca2 σ2 e2 I => hn F2 H2 ca2 σ2 ρ' p' e2 I (RnS.mono h e2)
  | .ok .ct ρ' p', h => exact fun F2 H2 ca2 σ2 e2 I => hn F2 H2 ca2 σ2 ρ' p' e2 I (RnS.mono h e2)
  | .ok .bk _ _, h => exact fun F2 H2 ca2 σ2 e2 I => h F2 H2 ca2 σ2 e2 I
  | .ok (.rt _) _ _, h => exact fun F2 H2 ca2 σ2 v e2 I q => h F2 H2 ca2 σ2 v e2 I q
  | .ok (.rn _) _ _, h => exact h
  | .ex _ _ _, h => exact h
  | .no, h => exact h
end

/-! ### what a loop walks -/
/-- the reading of what a loop walks: it yields the items, one by one, while what is frozen stands -/
structure Src (K : PySem.W.Frag) (F : Hp) (ds : List D) (J : It) : Prop where
  le : ds.length ≤ sizeLine
  ex : ∃ (n : Nat) (G : Hp → Prop) (Y : Nat → Hp → V → Hp → Prop), Walk J n G Y ∧ n = ds.length ∧ (∀ H, Ext F H → G H) ∧
    ∀ i H x H' F2, i < n → Ext F F2 → Ext F2 H → Y i H x H' → ∃ F3 d, ds[i]? = some d ∧ Grow F2 H F3 H' ∧ Rep K F3 x d
def kI (C : Cxt) (Rr : It → Hp → Prop) : List D → Hp → Hp → Prop := fun ds F' H' => ∀ J F2 H2, Grow F' H' F2 H2 → Src C.K F2 ds J → Rr J H2
def tI (C : Cxt) (e : E (List D)) : TI := fun σ H Rr => ∃ F Z ca ρ p, StOk C F Z H ca σ ρ p ∧ Rn C F Z ca σ ρ (e ρ p) (kI C Rr)
theorem PI.imp {X : Cx} {tg e : Expr} {t t' : TI} (h : PI X tg e t) (i : ∀ σ H Q, t' σ H Q → t σ H Q) : PI X tg e t' := ⟨fun pins s σ H Q I q => h.run pins s σ H Q I (i σ H Q q)⟩

section
variable {X : Cx} {C : Cxt} {pos : Pos} {st : Stmt} {rest sts sts2 : List Stmt} {s t : S} {e c : Expr} {ee : E D} {ec : E Bool} {g : G}
theorem x_nil : PSs X [] (tS C xSkip) := PSs.imp pss_nil fun De σ H ⟨F, Z, ca, ρ, p, I, h⟩ => h F H ca σ .rfl' I
theorem x_cons (h1 : PS X st (tS C s)) (h2 : PSs X rest (tS C t)) : PSs X (st :: rest) (tS C (xSeq s t)) :=
  PSs.imp (pss_cons h1 h2) fun De σ H ⟨F, Z, ca, ρ, p, I, h⟩ => ⟨F, Z, ca, ρ, p, I, RnS.andThen h (fun F' H' ca' σ' ρ' p' e' I' h' => ⟨F', Z, ca', ρ', p', I', h'⟩) (fun _ _ q => q) (fun _ _ q => q) (fun _ _ q => q)⟩
theorem x_one (h1 : PS X st (tS C s)) : PSs X [st] (tS C s) := pss_one h1
theorem x_asg {tg : Expr} (he : PE X e (tE C ee)) (hg : PG X tg (tG C g)) (hs : swapsWithSole [tg] e pos.line X.env = pure false := by rfl) (hw : swappedStores [tg] e X.env = pure none := by rfl)
    (h1 : (assignEach [tg] X.env).map (·.2) = [assign tg X.env] := by rfl) : PS X (.Assign [tg] e pos) (tS C (xAsg ee g)) :=
  PS.imp (ps_asg he hg hs hw h1) fun De σ H ⟨F, Z, ca, ρ, p, I, h⟩ => ⟨F, Z, ca, ρ, p, I, h.of fun d p1 F1 H1 e1 I1 h1 v hv => by
    cases q : g.run d ρ with
    | none => rw [q] at h1; exact h1.elim
    | some ρ1 =>
      rw [q] at h1
      exact ⟨F1, Z, ca, ρ, p1, d, I1, hv, ρ1, q, fun σ' _ I' => h1 F1 H1 ca σ' .rfl' I'⟩⟩
theorem x_set (i : Nat) {x : Str} {pos' : Pos} (he : PE X e (tE C ee)) (hN : X.N.Nodup) (hi : X.N[i]? = some x := by rfl) (hx : Loc X.env.scope x := by first | exact .inl rfl | exact .inr rfl) (hs : swapsWith e (some (.Name x pos')) pos.line X.env = pure false := by rfl) (hf : X.fn x = true ∨ X.env.scope.names.lookup x = some .local := by first | exact .inl rfl | exact .inr rfl | assumption) :
    PS X (.Assign [.Name x pos'] e pos) (tS C (xAsg ee (gV i))) :=
  PS.imp (ps_set hN hi hx he hs hf) fun De σ H ⟨F, Z, ca, ρ, p, I, h⟩ => ⟨F, Z, ca, ρ, p, I, h.of fun d p1 F1 H1 e1 I1 h1 v hv => by
    have h1' : RnS C F1 Z (match (if i < ρ.length then some (ρ.set i (.v d)) else none) with | some ρ1 => RS.ok .nx ρ1 p1 | none => .no) De := h1
    split at h1'
    · rename_i ρ1 q
      split at q
      · rename_i hl
        cases q
        exact h1' F1 H1 ca _ .rfl' (I1.set hl hv)
      · cases q
    · exact h1'.elim⟩
theorem x_ret (he : PE X e (tE C ee)) : PS X (.Return (some e) pos) (tS C (xRet ee)) :=
  PS.imp (ps_ret he) fun De σ H ⟨F, Z, ca, ρ, p, I, h⟩ => ⟨F, Z, ca, ρ, p, I, h.of fun d p1 F1 H1 e1 I1 h1 v hv => h1 F1 H1 ca σ v .rfl' I1 hv⟩
theorem x_retN : PS X (.Return none pos) (tS C xRetN) := PS.imp ps_retN fun De σ H ⟨F, Z, ca, ρ, p, I, h⟩ => h F H ca σ _ .rfl' I .non
theorem x_expr (he : PE X e (tE C ee)) (hs : swapsWith e none pos.line X.env = pure false := by rfl) : PS X (.Expr e pos) (tS C (xExpr ee)) :=
  PS.imp (ps_expr he hs) fun De σ H ⟨F, Z, ca, ρ, p, I, h⟩ => ⟨F, Z, ca, ρ, p, I, h.of fun d p1 F1 H1 e1 I1 h1 v hv => h1 F1 H1 ca σ .rfl' I1⟩
theorem x_if (hc : PT X c (tT C ec)) (ha : PSs X sts (tS C s)) (hb : PSs X sts2 (tS C t)) : PS X (.If c sts sts2 pos) (tS C (xIf ec s t)) :=
  PS.imp (ps_if hc ha hb) fun De σ H ⟨F, Z, ca, ρ, p, I, h⟩ => ⟨F, Z, ca, ρ, p, I, h.of fun d p1 F1 H1 e1 I1 h1 => by
    show if d = true then _ else _
    by_cases hd : d = true
    · rw [if_pos hd] at h1 ⊢
      exact ⟨F1, Z, ca, ρ, p1, I1, h1⟩
    · rw [if_neg hd] at h1 ⊢
      exact ⟨F1, Z, ca, ρ, p1, I1, h1⟩⟩
theorem x_pass : PS X (.Pass pos) (tS C xSkip) := PS.imp ps_pass fun De σ H ⟨F, Z, ca, ρ, p, I, h⟩ => h F H ca σ .rfl' I
theorem x_brk : PS X (.Break pos) (tS C xBrk) := PS.imp ps_break fun De σ H ⟨F, Z, ca, ρ, p, I, h⟩ => h F H ca σ .rfl' I
theorem x_cnt : PS X (.Continue pos) (tS C xCnt) := PS.imp ps_continue fun De σ H ⟨F, Z, ca, ρ, p, I, h⟩ => h F H ca σ .rfl' I
theorem x_never : PS X st (tS C xNever) := PS.imp ps_never fun De σ H ⟨F, Z, ca, ρ, p, I, h⟩ => h
theorem xs_never : PSs X sts (tS C xNever) := PSs.imp pss_never fun De σ H ⟨F, Z, ca, ρ, p, I, h⟩ => h
theorem x_while (n : Nat) (hp : PassesOwn (model X.prog X.w) X.A X.env X.xe) (hc : PT X c (tT C ec)) (hb : PSs X sts (tS C s)) : PS X (.While c sts [] pos) (tS C (xWhile n ec s)) :=
  PS.imp (ps_while hp hc hb) fun De σ H ⟨F, Z, ca, ρ, p, I, h⟩ => by
    refine ⟨fun m σ H => ∃ F Z ca ρ p, StOk C F Z H ca σ ρ p ∧ RnS C F Z (whileGo ec s m ρ p) De, ⟨n, F, Z, ca, ρ, p, I, h⟩, fun m σ H hw => ?_⟩
    obtain ⟨F, Z, ca, ρ, p, I, h⟩ := hw
    cases m with
    | zero => exact h.elim
    | succ m =>
      refine ⟨F, Z, ca, ρ, p, I, h.of fun d p1 F1 H1 e1 I1 h1 => ?_⟩
      show if d = true then _ else _
      by_cases hd : d = true
      · rw [if_pos hd] at h1 ⊢
        exact ⟨fun σ' H' => ∃ F Z ca ρ p, StOk C F Z H' ca σ' ρ p ∧ RnS C F Z (whileGo ec s m ρ p) De, fun σ' H' q => ⟨m, Nat.lt_succ_self _, q⟩, F1, Z, ca, ρ, p1, I1, h1.turn fun F' H' ca' σ' ρ' p' e' I' h' => ⟨F', Z, ca', ρ', p', I', h'⟩⟩
      · rw [if_neg hd] at h1 ⊢
        exact h1 F1 H1 ca σ .rfl' I1
theorem x_for {tg it : Expr} {ei : E (List D)} (hp : PassesOwn (model X.prog X.w) X.A X.env X.xe) (hc : X.calm = true) (hi : PI X tg it (tI C ei)) (hg : PG X tg (tG C g)) (hb : PSs X sts (tS C s)) (hs : ∀ x, foldedSetIterable it X.env x = pure x := by intro _; rfl) : PS X (.For tg it sts [] pos) (tS C (xFor ei g s)) :=
  PS.imp (ps_for hp hc hi hg hb (hs := hs)) fun De σ H ⟨F, Z, ca, ρ, p, I, h⟩ => ⟨F, Z, ca, ρ, p, I, h.of fun ds p1 F1 H1 e1 I1 h1 J F2 H2 g2 src => by
    obtain ⟨n, Gd, Y, w, en, hG, hY⟩ := src.ex
    have I2 := I1.grow g2
    refine for_it w (fun i σ H => ∃ F ca ρ p, Ext F2 F ∧ StOk C F Z H ca σ ρ p ∧ RnS C F Z (forGo g s (ds.drop i) ρ p) De) ⟨F2, ca, ρ, p1, .rfl', I2, (RnS.mono h1 g2.f)⟩ (fun i σ H _ q => ?_) (fun i x σ H H' hi q y => ?_) (fun σ H q => ?_)
    · obtain ⟨F, ca, ρ, p, e, I, _⟩ := q
      exact hG H (e.trans I.sub)
    · obtain ⟨F, ca, ρ, p, e, I, hr⟩ := q
      obtain ⟨F3, d, ed, g3, rd⟩ := hY i H x H' F hi e I.sub y
      have hlt : i < ds.length := by omega
      have e2 : ds.drop i = d :: ds.drop (i + 1) := by
        rw [List.drop_eq_getElem_cons hlt]
        rw [List.getElem?_eq_getElem hlt] at ed
        rw [Option.some.inj ed]
      rw [e2] at hr
      have hr' : RnS C F Z (match g.run d ρ with | some ρ1 => (s ρ1 p).turn (forGo g s (ds.drop (i + 1))) | none => .no) De := hr
      cases q : g.run d ρ with
      | none => rw [q] at hr'; exact hr'.elim
      | some ρ1 =>
        rw [q] at hr'
        refine ⟨F3, Z, ca, ρ, p, d, I.grow g3, rd, ρ1, q, fun σ' _ I' => ⟨F3, Z, ca, ρ1, p, I', RnS.turn (RnS.mono hr' g3.f) fun F' H' ca' σ' ρ' p' e' I' h' => ⟨F', ca', ρ', p', (e.trans g3.f).trans e', I', h'⟩⟩⟩
    · obtain ⟨F, ca, ρ, p, e, I, hr⟩ := q
      rw [List.drop_of_length_le (by omega)] at hr
      exact hr F H ca σ .rfl' I⟩
end
end PL
/-! PL4: what loops walk, new lists, comprehensions. -/
namespace PL
open PySem PySem.Spec L2

/-! ### sources -/
/-- the items of a value that is walked -/
def itemsOf : D → Option (List D)
  | .lst l => some l
  | .tup l => some l
  | .str s => if s.length ≤ 100000 then some (s.cps.toList.map fun c => .str ⟨#[c]⟩) else none
  | _ => none
def iAny (e : E D) : E (List D) := fun ρ p => (e ρ p).bind fun d p1 => lift (itemsOf d) p1
theorem small100000 {n : Nat} (h : n ≤ 100000) : n ≤ sizeLine := Nat.le_trans h (by decide)
def rangeD (lo : Int) (n : Nat) : List D := (List.range n).map fun (i : Nat) => D.int (lo + (i : Int))
def rng1 : List D → Option (List D)
  | [.int j] => if -100000000 ≤ j ∧ j ≤ 100000 then some (rangeD 0 j.toNat) else none
  | _ => none
def rng2 : List D → Option (List D)
  | [.int i, .int j] => if -100000000 ≤ i ∧ -100000000 ≤ j ∧ j ≤ i + 100000 ∧ i ≤ 100000000 then some (rangeD i (j - i).toNat) else none
  | _ => none
def zip2 : List D → Option (List D)
  | [.lst xs, .lst ys] => some (List.zipWith (fun x y => .tup [x, y]) xs ys)
  | _ => none
def enumL : Nat → List D → List D
  | _, [] => []
  | i, x :: xs => .tup [.int (i : Nat), x] :: enumL (i + 1) xs
def enum1 : List D → Option (List D)
  | [.lst xs] => some (enumL 0 xs)
  | _ => none
def iFn (f : List D → Option (List D)) (a : E (List D)) : E (List D) := fun ρ p => (a ρ p).bind fun xs p1 => lift (f xs) p1

section
variable {K : PySem.W.Frag} {F H : Hp}
theorem src_list {a : Addr} {vs : List V} {ds : List D} (e : F a = some (.lst vs)) (hl : vs.length ≤ sizeLine) (r : RepL K F vs ds) : Src K F ds (Itl K a) :=
  ⟨by rw [← r.length]; exact hl, vs.length, _, _, walk_list, r.length, fun H s => SqL.of (s _ _ e), fun i x' x H' F2 hi e2 s y => by
    obtain ⟨rfl, hx⟩ := y
    obtain ⟨d, hd, rd⟩ := r.getV hx
    exact ⟨F2, d, hd, .rfl' s, rd.mono e2⟩⟩
theorem src_tup {a : Addr} {vs : List V} {ds : List D} (e : F a = some (.tup vs)) (hl : vs.length ≤ sizeLine) (r : RepL K F vs ds) : Src K F ds (Itt K a) :=
  ⟨by rw [← r.length]; exact hl, vs.length, _, _, walk_tup, r.length, fun H s => SqT.of (s _ _ e), fun i x' x H' F2 hi e2 s y => by
    obtain ⟨rfl, hx⟩ := y
    obtain ⟨d, hd, rd⟩ := r.getV hx
    exact ⟨F2, d, hd, .rfl' s, rd.mono e2⟩⟩
theorem src_str {z : Str} (h : z.length ≤ 100000) : Src K F (z.cps.toList.map fun c => .str ⟨#[c]⟩) (Its z) :=
  ⟨by rw [List.length_map]; exact small100000 (by simpa [Str.length] using h), z.cps.size, _, _, walk_str, by simp, fun H s => trivial, fun i x' x H' F2 hi e2 s y => by
    obtain ⟨rfl, c, hc, rfl⟩ := y
    refine ⟨F2, .str ⟨#[c]⟩, ?_, .rfl' s, .str⟩
    rw [List.getElem?_map, Array.getElem?_toList, hc] <;> rfl⟩
theorem rangeD_len (lo : Int) (n : Nat) : (rangeD lo n).length = n := by unfold rangeD; rw [List.length_map, List.length_range]
theorem rangeD_get {lo : Int} {n i : Nat} (h : i < n) : (rangeD lo n)[i]? = some (.int (lo + (i : Int))) := by
  unfold rangeD
  rw [List.getElem?_map, List.getElem?_range h] <;> rfl
theorem src_range {lo : Int} {n : Nat} (h : n ≤ 100000) : Src K F (rangeD lo n) (Itr lo n) :=
  ⟨by rw [rangeD_len]; exact small100000 h, n, _, _, walk_range, (rangeD_len lo n).symm, fun H s => trivial, fun i x' x H' F2 hi e2 s y => by
    obtain ⟨rfl, rfl⟩ := y
    exact ⟨F2, _, rangeD_get hi, .rfl' s, .int⟩⟩
theorem rep_pair {F2 H2 : Hp} {T : Addr} {x y : V} {dx dy : D} (s : Ext F2 H2) (n : H2 T = none) (hx : Rep K F2 x dx) (hy : Rep K F2 y dy) :
    Grow F2 H2 (upd F2 T (.tup [x, y])) (upd H2 T (.tup [x, y])) ∧ Rep K (upd F2 T (.tup [x, y])) (.ref T) (.tup [dx, dy]) := by
  have g := Grow.upd (o := .tup [x, y]) s n
  exact ⟨g, Rep.tup_iff.mpr ⟨T, [x, y], rfl, upd_same, by show 2 ≤ sizeLine; decide, .cons (hx.mono g.f) (.cons (hy.mono g.f) .nil)⟩⟩
theorem src_zip {a b : Addr} {vs ws : List V} {ds es : List D} (e : F a = some (.lst vs)) (hl : vs.length ≤ sizeLine) (r : RepL K F vs ds) (e' : F b = some (.lst ws)) (r' : RepL K F ws es) :
    Src K F (List.zipWith (fun x y => .tup [x, y]) ds es) (Itz K a b) :=
  ⟨by rw [List.length_zipWith, ← r.length]; exact Nat.le_trans (Nat.min_le_left _ _) hl, min vs.length ws.length, _, _, walk_zip rfl, by rw [List.length_zipWith, r.length, r'.length], fun H s => ⟨SqL.of (s _ _ e), SqL.of (s _ _ e')⟩, fun i H2 x H' F2 hi e2 s y => by
    obtain ⟨T, x1, y1, rfl, nT, rfl, hx, hy⟩ := y
    obtain ⟨d, hd, rd⟩ := r.getV hx
    obtain ⟨d', hd', rd'⟩ := r'.getV hy
    obtain ⟨g, rp⟩ := rep_pair s nT (rd.mono e2) (rd'.mono e2)
    exact ⟨_, .tup [d, d'], by rw [List.getElem?_zipWith, hd, hd'], g, rp⟩⟩
theorem enumL_len : ∀ (i : Nat) (l : List D), (enumL i l).length = l.length
  | _, [] => rfl
  | i, x :: xs => by unfold enumL; rw [List.length_cons, List.length_cons, enumL_len (i + 1) xs]
theorem enumL_get : ∀ {i j : Nat} {l : List D} {d : D}, l[j]? = some d → (enumL i l)[j]? = some (.tup [.int ((i + j : Nat) : Int), d])
  | i, 0, x :: xs, d, h => by simp at h; subst h; rfl
  | i, j + 1, x :: xs, d, h => by
    unfold enumL
    have := enumL_get (i := i + 1) (j := j) (l := xs) (d := d) (by simpa using h)
    rw [List.getElem?_cons_succ, this]
    rw [show i + 1 + j = i + (j + 1) by omega]
  | _, _, [], _, h => by simp at h
theorem src_enum {a : Addr} {vs : List V} {ds : List D} (e : F a = some (.lst vs)) (hl : vs.length ≤ sizeLine) (r : RepL K F vs ds) : Src K F (enumL 0 ds) (Ite K a) :=
  ⟨by rw [enumL_len, ← r.length]; exact hl, vs.length, _, _, walk_enum, by rw [enumL_len, r.length], fun H s => SqL.of (s _ _ e), fun i H2 x H' F2 hi e2 s y => by
    obtain ⟨T, x1, y1, rfl, nT, rfl, hx, hy⟩ := y
    obtain ⟨d, hd, rd⟩ := r.getV hy
    have ex : x1 = .int (i : Nat) := (Option.some.inj hx).symm
    subst ex
    obtain ⟨g, rp⟩ := rep_pair (x := .int (i : Nat)) (dx := .int (i : Nat)) s nT .int (rd.mono e2)
    exact ⟨_, _, by rw [enumL_get hd, Nat.zero_add], g, rp⟩⟩
end

section
variable {X : Cx} {C : Cxt} {tg e a b : Expr} {ee : E D} {es : List Expr} {ers : E (List D)} {pos p tpos : Pos} {elts : List Expr} {kk : Nat}
theorem PI.or {t t' : TI} (h : PI X tg e t) (h' : PI X tg e t') : PI X tg e (fun σ H R => t σ H R ∨ t' σ H R) := ⟨fun pins s σ H R I q => q.elim (h.run pins s σ H R I) (h'.run pins s σ H R I)⟩
theorem i_any (he : PE X e (tE C ee)) (hK : X.K = C.K := by rfl) : PI X tg e (tI C (iAny ee)) :=
  PI.imp (PI.or (pi_list he) (PI.or (pi_tup he) (pi_str he))) fun σ H Rr ⟨F, Z, ca, ρ, p, I, h⟩ => by
    unfold iAny at h
    cases q : ee ρ p with
    | no => rw [q] at h; exact h.elim
    | ex x p' =>
      rw [q] at h
      exact .inl ⟨F, Z, ca, ρ, p, I, by rw [q]; exact h⟩
    | ok d p1 =>
      rw [q] at h
      obtain ⟨ds, ed, k⟩ := h.lift
      cases d with
      | lst l =>
        cases ed
        refine .inl ⟨F, Z, ca, ρ, p, I, ?_⟩
        rw [q]
        intro F1 H1 e1 I1 v hv
        obtain ⟨a, vs, ev, ea, hl, r⟩ := Rep.lst_iff.mp hv
        rw [hK]
        exact ⟨a, ev, ⟨vs, SqL.of (I1.sub _ _ ea)⟩, k F1 H1 e1 I1 _ F1 H1 (.rfl' I1.sub) (src_list ea hl r)⟩
      | tup l =>
        cases ed
        refine .inr (.inl ⟨F, Z, ca, ρ, p, I, ?_⟩)
        rw [q]
        intro F1 H1 e1 I1 v hv
        obtain ⟨a, vs, ev, ea, hl, r⟩ := Rep.tup_iff.mp hv
        rw [hK]
        exact ⟨a, ev, ⟨vs, SqT.of (I1.sub _ _ ea)⟩, k F1 H1 e1 I1 _ F1 H1 (.rfl' I1.sub) (src_tup ea hl r)⟩
      | str z =>
        have ed' : (if z.length ≤ 100000 then some (z.cps.toList.map fun c => D.str ⟨#[c]⟩) else none) = some ds := ed
        split at ed'
        · rename_i hz
          cases ed'
          refine .inr (.inr ⟨F, Z, ca, ρ, p, I, ?_⟩)
          rw [q]
          intro F1 H1 e1 I1 v hv
          exact ⟨z, Rep.str_iff.mp hv, k F1 H1 e1 I1 _ F1 H1 (.rfl' I1.sub) (src_str hz)⟩
        · cases ed'
      | _ => cases ed
theorem i_range1 (hg : Gl X "range") (hm : X.mg "range" = none) (ha : PA X [a] (tA C ers)) (hs : starEach [a] X.env = [(false, eval a X.env)] := by rfl) : PI X tg (.Call (.Name "range" p) [a] [] pos) (tI C (iFn rng1 ers)) :=
  PI.imp (pi_range1 hg hm ha hs) fun σ H Rr ⟨F, Z, ca, ρ, p, I, h⟩ => ⟨F, Z, ca, ρ, p, I, h.bind fun ds p1 F1 H1 e1 I1 h1 vs hvs => by
    obtain ⟨z, ez, k⟩ := h1.lift
    unfold rng1 at ez
    split at ez
    · rename_i j
      split at ez
      · rename_i hj
        cases ez
        obtain ⟨v, rfl, hv⟩ : ∃ v, vs = [v] ∧ Rep C.K F1 v (.int j) := by
          cases vs with
          | nil => exact hvs.not_nc.elim
          | cons v vs =>
            cases vs with
            | nil => exact ⟨v, rfl, hvs.hd⟩
            | cons _ _ => exact hvs.tl.not_cn.elim
        have e := Rep.int_iff.mp hv
        subst e
        exact ⟨j, rfl, by omega, by omega, k F1 H1 .rfl' I1 _ F1 H1 (.rfl' I1.sub) (src_range (by omega))⟩
      · cases ez
    · cases ez⟩
theorem RepL.two {K : PySem.W.Frag} {F : Hp} {vs : List V} {d d' : D} (h : RepL K F vs [d, d']) : ∃ v v', vs = [v, v'] ∧ Rep K F v d ∧ Rep K F v' d' := by
  cases vs with
  | nil => exact h.not_nc.elim
  | cons v vs =>
    cases vs with
    | nil => exact h.tl.not_nc.elim
    | cons w vs =>
      cases vs with
      | nil => exact ⟨v, w, rfl, h.hd, h.tl.hd⟩
      | cons _ _ => exact h.tl.tl.not_cn.elim
theorem RepL.one {K : PySem.W.Frag} {F : Hp} {vs : List V} {d : D} (h : RepL K F vs [d]) : ∃ v, vs = [v] ∧ Rep K F v d := by
  cases vs with
  | nil => exact h.not_nc.elim
  | cons v vs =>
    cases vs with
    | nil => exact ⟨v, rfl, h.hd⟩
    | cons w vs => exact h.tl.not_cn.elim
theorem i_range2 (hg : Gl X "range") (hm : X.mg "range" = none) (ha : PA X [a, b] (tA C ers)) (hs : starEach [a, b] X.env = [(false, eval a X.env), (false, eval b X.env)] := by rfl) (hs2 : starEach [b] X.env = [(false, eval b X.env)] := by rfl) : PI X tg (.Call (.Name "range" p) [a, b] [] pos) (tI C (iFn rng2 ers)) :=
  PI.imp (pi_range2 hg hm ha hs hs2) fun σ H Rr ⟨F, Z, ca, ρ, p, I, h⟩ => ⟨F, Z, ca, ρ, p, I, h.bind fun ds p1 F1 H1 e1 I1 h1 vs hvs => by
    obtain ⟨z, ez, k⟩ := h1.lift
    unfold rng2 at ez
    split at ez
    · rename_i i j
      split at ez
      · rename_i hj
        cases ez
        obtain ⟨v, v', rfl, hv, hv'⟩ := hvs.two
        have e := Rep.int_iff.mp hv
        have e' := Rep.int_iff.mp hv'
        subst e e'
        exact ⟨i, j, rfl, by omega, k F1 H1 .rfl' I1 _ F1 H1 (.rfl' I1.sub) (src_range (by omega))⟩
      · cases ez
    · cases ez⟩
theorem i_zip (hg : Gl X "zip") (hm : X.mg "zip" = none) (ha : PA X [a, b] (tA C ers)) (hK : X.K = C.K := by rfl) (he : starEach [a, b] X.env = (false, eval a X.env) :: starEach [b] X.env := by rfl) (hpl : (backTo pos (starEach [b] X.env)).any (·.1) = false := by rfl) :
    PI X (.Tuple elts kk tpos) (.Call (.Name "zip" p) [a, b] [] pos) (tI C (iFn zip2 ers)) :=
  PI.imp (pi_zip hg hm ha he hpl) fun σ H Rr ⟨F, Z, ca, ρ, p, I, h⟩ => ⟨F, Z, ca, ρ, p, I, h.bind fun ds p1 F1 H1 e1 I1 h1 vs hvs => by
    obtain ⟨z, ez, k⟩ := h1.lift
    unfold zip2 at ez
    split at ez
    · rename_i xs ys
      cases ez
      obtain ⟨v, v', rfl, hv, hv'⟩ := hvs.two
      obtain ⟨q, us, rfl, ea, hl, r⟩ := Rep.lst_iff.mp hv
      obtain ⟨q', us', rfl, ea', hl', r'⟩ := Rep.lst_iff.mp hv'
      rw [hK]
      exact ⟨q, q', us, us', rfl, SqL.of (I1.sub _ _ ea), SqL.of (I1.sub _ _ ea'), k F1 H1 .rfl' I1 _ F1 H1 (.rfl' I1.sub) (src_zip ea hl r ea' r')⟩
    · cases ez⟩
theorem i_enum (hg : Gl X "enumerate") (hm : X.mg "enumerate" = none) (ha : PA X [a] (tA C ers)) (hK : X.K = C.K := by rfl) (hs : starEach [a] X.env = [(false, eval a X.env)] := by rfl) :
    PI X (.Tuple elts kk tpos) (.Call (.Name "enumerate" p) [a] [] pos) (tI C (iFn enum1 ers)) :=
  PI.imp (pi_enum hg hm ha hs) fun σ H Rr ⟨F, Z, ca, ρ, p, I, h⟩ => ⟨F, Z, ca, ρ, p, I, h.bind fun ds p1 F1 H1 e1 I1 h1 vs hvs => by
    obtain ⟨z, ez, k⟩ := h1.lift
    unfold enum1 at ez
    split at ez
    · rename_i xs
      cases ez
      obtain ⟨v, rfl, hv⟩ := hvs.one
      obtain ⟨q, us, rfl, ea, hl, r⟩ := Rep.lst_iff.mp hv
      rw [hK]
      exact ⟨q, us, rfl, SqL.of (I1.sub _ _ ea), k F1 H1 .rfl' I1 _ F1 H1 (.rfl' I1.sub) (src_enum ea hl r)⟩
    · cases ez⟩
end

/-! ### new objects -/
def kN (C : Cxt) (Z : Zd) (ca : List (Option Addr)) (Q : VK) : D → Hp → Hp → Prop := fun d F' H' => ∀ a, Holds C.K F' H' a d → F' a = none → Z.z a = none → (∀ (j : Nat), ca[j]? ≠ some (some a)) → Q (.ref a) H'
/-- the value is a new object, nobody else's -/
def tN (C : Cxt) (e : E D) : TE := fun σ H Q => ∃ F Z ca ρ p, StOk C F Z H ca σ ρ p ∧ Rn C F Z ca σ ρ (e ρ p) (kN C Z ca Q)
section
variable {C : Cxt} {F H F' H' : Hp} {Z : Zd} {ca : List (Option Addr)} {σ σ' : St} {ρ ρ' : List Sl} {p p' : List Cell}
/-- an object of nobody's is frozen -/
theorem StOk.freeze (I : StOk C F Z H ca σ ρ p) {a : Addr} {o : HO} (ho : H a = some o) (hf : F a = none) (hz : Z.z a = none) (hc : ∀ (j : Nat), ca[j]? ≠ some (some a)) : Ext F (upd F a o) ∧ StOk C (upd F a o) Z H ca σ ρ p := by
  have e : Ext F (upd F a o) := .upd hf
  refine ⟨e, fun b u h => ?_, I.zs, fun b u h => ?_, fun i s h => (I.sl i s h).mono e, I.slen, I.clen, I.asn, I.dead, fun j d h => ?_, I.dj, fun k a h => (I.pas k a h).imp_right fun ⟨q, o, w⟩ => ⟨q, o, e _ _ w⟩⟩
  · by_cases hb : b = a
    · subst hb; rw [upd_same] at h; rw [← h]; exact ho
    · rw [upd_ne hb] at h; exact I.sub _ _ h
  · have hb : b ≠ a := fun q => by rw [q, hz] at h; cases h
    rw [upd_ne hb]; exact I.zf _ _ h
  · obtain ⟨b, h1, h2, h3, h4⟩ := I.live j d h
    have hb : b ≠ a := fun q => hc j (by rw [h1, q])
    exact ⟨b, h1, h2.mono e rfl, by rw [upd_ne hb]; exact h3, h4⟩
theorem Holds.rep {K : PySem.W.Frag} {a : Addr} {o : HO} {d : D} (h : Holds K F H a d) (ho : H a = some o) (hf : F a = none) : Rep K (upd F a o) (.ref a) d := by
  have e : Ext F (upd F a o) := .upd hf
  cases d with
  | lst l =>
    obtain ⟨vs, h1, h2, h3⟩ := h
    rw [ho] at h1; cases h1
    exact Rep.lst_iff.mpr ⟨a, vs, rfl, upd_same, h2, h3.mono e⟩
  | dic ks ws =>
    unfold Rep
    rcases h with ⟨kvs, h1, h2, h3, h4⟩ | ⟨kvs, h1, h2, h3, h4⟩
    · rw [ho] at h1; cases h1
      exact ⟨a, rfl, .inl ⟨kvs, upd_same, h2, h3, h4.mono e⟩⟩
    · rw [ho] at h1; cases h1
      exact ⟨a, rfl, .inr ⟨kvs, upd_same, h2, h3, h4.mono e⟩⟩
  | ins c ns ds =>
    obtain ⟨dx, fs, h1, h2, h3⟩ := h
    rw [ho] at h1; cases h1
    exact Rep.ins_iff.mpr ⟨a, dx, fs, rfl, upd_same, h2, h3.mono e⟩
  | _ => exact h.elim
/-- what is new is nobody's -/
theorem StOk.fresh (I : StOk C F Z H ca σ ρ p) {a : Addr} (n : H a = none) : F a = none ∧ Z.z a = none ∧ ∀ (j : Nat), ca[j]? ≠ some (some a) := by
  refine ⟨?_, ?_, fun j h => ?_⟩
  · cases q : F a with
    | none => rfl
    | some u => rw [I.sub _ _ q] at n; cases n
  · cases q : Z.z a with
    | none => rfl
    | some u => rw [I.zs _ _ q] at n; cases n
  · have hj : j < ca.length := (List.getElem?_eq_some_iff.mp h).1
    rw [I.clen] at hj
    cases q : p[j] with
    | none =>
      have := I.dead j (by rw [List.getElem?_eq_getElem hj, q])
      rw [h] at this; cases this
    | some d =>
      obtain ⟨b, h1, h2, _⟩ := I.live j d (by rw [List.getElem?_eq_getElem hj, q])
      rw [h] at h1; cases h1
      obtain ⟨o, ho⟩ := h2.ob
      rw [n] at ho; cases ho
/-- the heap has a new object besides -/
theorem StOk.hp (I : StOk C F Z H ca σ ρ p) {a : Addr} {o : HO} (n : H a = none) : StOk C F Z (upd H a o) ca σ ρ p := I.grow (.hp I.sub n)
end
section
variable {X : Cx} {C : Cxt} {e : Expr} {ee : E D} {es : List Expr} {ers : E (List D)} {pos p : Pos} {a b : Expr} {ea eb : E D}
theorem tE_tN {σ : St} {H : Hp} {Q : VK} (h : tE C ee σ H Q) : tN C ee σ H Q := by
  obtain ⟨F, Z, ca, ρ, p, I, h⟩ := h
  refine ⟨F, Z, ca, ρ, p, I, ?_⟩
  cases q : ee ρ p with
  | no => rw [q] at h; exact h
  | ex x p' => rw [q] at h; exact h
  | ok d p' =>
    rw [q] at h
    intro F1 H1 e1 I1 a hd hf hz hc
    obtain ⟨o, ho⟩ := hd.ob
    obtain ⟨e2, I2⟩ := I1.freeze ho hf hz hc
    exact h _ _ (e1.trans e2) I2 _ (hd.rep ho hf)
theorem n_e (h : PE X e (tN C ee)) : PE X e (tE C ee) := PE.imp h fun σ H Q => tE_tN
/-- what a builtin by values gives, a new list -/
def VL (K : PySem.W.Frag) (r : List V → Hp → VK → Prop) (f : List D → Option (List D)) : Prop :=
  ∀ F H xs ds l Q, Ext F H → RepL K F xs ds → f ds = some l → (∀ a vs, H a = none → vs.length ≤ sizeLine → RepL K F vs l → Q (.ref a) (upd H a (.lst vs))) → r xs H Q
def eFnL (f : List D → Option (List D)) (a : E (List D)) : E D := fun ρ p => (a ρ p).bind fun xs p1 => (lift (f xs) p1).bind fun l p2 => .ok (.lst l) p2
theorem nl_end {F H : Hp} {Z : Zd} {ca : List (Option Addr)} {σ : St} {ρ : List Sl} {p1 : List Cell} {l : List D} {Q : VK} (I1 : StOk C F Z H ca σ ρ p1) (k : ∀ F' H', Ext F F' → StOk C F' Z H' ca σ ρ p1 → kN C Z ca Q (.lst l) F' H')
    {a : Addr} {vs : List V} (n : H a = none) (hl : vs.length ≤ sizeLine) (r : RepL C.K F vs l) : Q (.ref a) (upd H a (.lst vs)) := by
  obtain ⟨h1, h2, h3⟩ := I1.fresh n
  exact k F _ .rfl' (I1.hp n) a ⟨vs, upd_same, hl, r⟩ h1 h2 h3
theorem fnl_end {r : List V → Hp → VK → Prop} {f : List D → Option (List D)} (hf : VL C.K r f) {σ : St} {H : Hp} {Q : VK} (h : tN C (eFnL f ers) σ H Q) : tA C ers σ H fun vs H1 => r vs H1 Q := by
  obtain ⟨F, Z, ca, ρ, p, I, h⟩ := h
  exact ⟨F, Z, ca, ρ, p, I, h.bind fun x p1 F1 H1 e1 I1 h1 vs hvs => by
    cases ez : f x with
    | none => rw [ez] at h1; exact h1.elim
    | some l =>
      rw [ez] at h1
      exact hf F1 H1 vs x l Q I1.sub hvs ez fun a ws n hl r => nl_end I1 h1 n hl r⟩
theorem n_callB {id : String} {r : List V → Hp → VK → Prop} {f : List D → Option (List D)} {x : Str} {p : Pos} (hc : CallR X (.builtin id) r) (hf : VL C.K r f) (hg : Gl X x) (hm : X.mg x = none) (hv : bootBuiltins x = some (.builtin id)) (ha : PA X (a :: es) (tA C ers))
    (hn : x ≠ "__name__" := by decide) (hdb : (x == ("__debug__" : Str)) = false := by decide)
    (he : starEach (a :: es) X.env = (false, eval a X.env) :: starEach es X.env := by rfl) (hpl : (backTo pos (starEach es X.env)).any (·.1) = false := by rfl) : PE X (.Call (.Name x p) (a :: es) [] pos) (tN C (eFnL f ers)) :=
  PE.imp (pe_callB hc hg hm hv ha hn hdb he hpl) fun σ H Q h => fnl_end hf h
theorem n_callTy {T : String} {r : List V → Hp → VK → Prop} {f : List D → Option (List D)} {x : Str} {p : Pos} (hc : CallR X (.type T) r) (hf : VL C.K r f) (hg : Gl X x) (hm : X.mg x = none) (hv : bootBuiltins x = some (.type T)) (ha : PA X (a :: es) (tA C ers))
    (hn : x ≠ "__name__" := by decide) (hdb : (x == ("__debug__" : Str)) = false := by decide)
    (he : starEach (a :: es) X.env = (false, eval a X.env) :: starEach es X.env := by rfl) (hpl : (backTo pos (starEach es X.env)).any (·.1) = false := by rfl) : PE X (.Call (.Name x p) (a :: es) [] pos) (tN C (eFnL f ers)) :=
  PE.imp (pe_callTy hc hg hm hv ha hn hdb he hpl) fun σ H Q h => fnl_end hf h
def dispL (l : List D) : Option (List D) := if l.length ≤ 1000 then some l else none
theorem n_lst (h : PA X es (tA C ers)) : PE X (.List es pos) (tN C (eFnL dispL ers)) :=
  PE.imp (pe_lst h) fun σ H Q ⟨F, Z, ca, ρ, p, I, h⟩ => ⟨F, Z, ca, ρ, p, I, h.bind fun ds p1 F1 H1 e1 I1 h1 vs hvs => by
    unfold dispL at h1
    split at h1
    · rename_i hl
      have hl' : vs.length ≤ sizeLine := by rw [hvs.length]; exact le_line hl
      exact ⟨hl', fun q hq => nl_end I1 h1 hq hl' hvs⟩
    · exact h1.elim⟩
/-- a two-place operation that makes a list -/
def V2L (K : PySem.W.Frag) (r : R2) (f : D → D → Option (List D)) : Prop :=
  ∀ F H x y dx dy l Q, Ext F H → Rep K F x dx → Rep K F y dy → f dx dy = some l → (∀ a vs, H a = none → vs.length ≤ sizeLine → RepL K F vs l → Q (.ref a) (upd H a (.lst vs))) → r x y H Q
end

/-! ### comprehensions -/
def wipeS (ρ : List Sl) : List Nat → List Sl
  | [] => ρ
  | v :: vs => (wipeS ρ vs).set v .un
def compGo (g : G) (c : E Bool) (elt : E D) (ρ : List Sl) : List D → List Cell → R (List D)
  | [], p => .ok [] p
  | d :: ds, p => match g.run d ρ with
    | some ρ1 => (c ρ1 p).bindn fun b p1 => if b = true then (elt ρ1 p1).bindn fun y p2 => (compGo g c elt ρ ds p2).bind fun ys p3 => .ok (y :: ys) p3 else compGo g c elt ρ ds p1
    | none => .no
def eComp (it : E (List D)) (g : G) (c : E Bool) (elt : E D) (vs : List Nat) : E D := fun ρ p => (it ρ p).bind fun ds p1 => (compGo g c elt (wipeS ρ vs) ds p1).bind fun rs p2 => .ok (.lst rs) p2
def eYes : E Bool := fun _ p => .ok true p
section
variable {C : Cxt} {F H F' H' : Hp} {Z : Zd} {ca : List (Option Addr)} {σ σ' : St} {ρ ρ' : List Sl} {p p' : List Cell}
theorem wipeS_len : ∀ (vs : List Nat), (wipeS ρ vs).length = ρ.length
  | [] => rfl
  | v :: vs => by unfold wipeS; rw [List.length_set, wipeS_len vs]
theorem StOk.un (I : StOk C F Z H ca σ ρ p) (i : Nat) : StOk C F Z H ca (σ.set i none) (ρ.set i .un) p :=
  { I with
    sl := fun k s h => by
      by_cases e : k = i
      · subst e
        by_cases hk : k < ρ.length
        · rw [List.getElem?_set_self hk] at h
          cases h
          trivial
        · rw [List.getElem?_eq_none (by rw [List.length_set]; omega)] at h
          cases h
      · rw [List.getElem?_set_ne (Ne.symm e)] at h ⊢
        exact I.sl k s h
    slen := by rw [List.length_set, List.length_set]; exact I.slen }
theorem StOk.wipe (I : StOk C F Z H ca σ ρ p) : ∀ (vs : List Nat), StOk C F Z H ca (wipe σ vs) (wipeS ρ vs) p
  | [] => I
  | v :: vs => (I.wipe vs).un v
/-- back from a state of wiped slots -/
theorem StOk.back {Z' : Zd} (I : StOk C F Z H ca σ ρ p) (J : StOk C F' Z' H' ca σ' ρ' p') (e : Ext F F') : StOk C F' Z' H' ca σ ρ p' :=
  { J with
    sl := fun i s h => (I.sl i s h).mono e
    slen := I.slen }
/-- an object is held besides -/
theorem StOk.hold (I : StOk C F Z H ca σ ρ p) {a : Addr} {o : HO} (n : H a = some o) (hf : F a = none) (hc : ∀ (j : Nat), ca[j]? ≠ some (some a)) : StOk C F { Z with z := upd Z.z a o } H ca σ ρ p :=
  { I with
    zs := fun b u (h : upd Z.z a o b = some u) => by
      by_cases hb : b = a
      · subst hb; rw [upd_same] at h; rw [← h]; exact n
      · rw [upd_ne hb] at h; exact I.zs _ _ h
    zf := fun b u (h : upd Z.z a o b = some u) => by
      by_cases hb : b = a
      · subst hb; exact hf
      · rw [upd_ne hb] at h; exact I.zf _ _ h
    live := fun j d h => by
      obtain ⟨b, h1, h2, h3, h4⟩ := I.live j d h
      have hb : b ≠ a := fun q => hc j (by rw [h1, q])
      exact ⟨b, h1, h2, h3, by show upd Z.z a o b = none; rw [upd_ne hb]; exact h4⟩ }
/-- .. and let go -/
theorem StOk.loose {a : Addr} {o : HO} (I : StOk C F { Z with z := upd Z.z a o } H ca σ ρ p) (n : Z.z a = none) : StOk C F Z H ca σ ρ p ∧ H a = some o ∧ F a = none :=
  ⟨{ I with
    zs := fun b u h => by
      have hb : b ≠ a := fun q => by rw [q, n] at h; cases h
      exact I.zs b u (by show upd Z.z a o b = some u; rw [upd_ne hb]; exact h)
    zf := fun b u h => by
      have hb : b ≠ a := fun q => by rw [q, n] at h; cases h
      exact I.zf b u (by show upd Z.z a o b = some u; rw [upd_ne hb]; exact h)
    live := fun j d h => by
      obtain ⟨b, h1, h2, h3, h4⟩ := I.live j d h
      refine ⟨b, h1, h2, h3, ?_⟩
      have h4' : upd Z.z a o b = none := h4
      by_cases hb : b = a
      · subst hb; exact n
      · rw [upd_ne hb] at h4'; exact h4' }, I.zs a o upd_same, I.zf a o upd_same⟩
/-- an object of nobody's is changed -/
theorem StOk.poke (I : StOk C F Z H ca σ ρ p) {a : Addr} {o : HO} (hf : F a = none) (hz : Z.z a = none) (hc : ∀ (j : Nat), ca[j]? ≠ some (some a)) : StOk C F Z (upd H a o) ca σ ρ p :=
  { I with
    sub := fun b u h => by
      have hb : b ≠ a := fun q => by rw [q, hf] at h; cases h
      rw [upd_ne hb]; exact I.sub _ _ h
    zs := fun b u h => by
      have hb : b ≠ a := fun q => by rw [q, hz] at h; cases h
      rw [upd_ne hb]; exact I.zs _ _ h
    live := fun j d h => by
      obtain ⟨b, h1, h2, h3, h4⟩ := I.live j d h
      have hb : b ≠ a := fun q => hc j (by rw [h1, q])
      exact ⟨b, h1, h2.mono .rfl' (by rw [upd_ne hb]), h3, h4⟩ }
theorem wipe_get : ∀ (σ : St) (ws : List Nat) (i : Nat), i ∉ ws → (wipe σ ws)[i]? = σ[i]? := fun σ ws => by
  induction ws with
  | nil => intro i _; rfl
  | cons w ws ih =>
    intro i hi
    unfold wipe
    rw [List.getElem?_set_ne (fun e => hi (by simp [e])), ih i fun q => hi (List.mem_cons_of_mem _ q)]
theorem wipe_get2 : ∀ (σ : St) (ws : List Nat) (i : Nat), i ∈ ws → (wipe σ ws)[i]? = if i < σ.length then some none else none := fun σ ws => by
  induction ws with
  | nil => intro i hi; cases hi
  | cons w ws ih =>
    intro i hi
    unfold wipe
    by_cases e : w = i
    · subst e
      by_cases hl : w < σ.length
      · rw [List.getElem?_set_self (by rw [wipe_length]; exact hl), if_pos hl]
      · rw [List.getElem?_eq_none (by rw [List.length_set, wipe_length]; omega), if_neg hl]
    · rw [List.getElem?_set_ne e]
      exact ih i (by
        rcases List.mem_cons.mp hi with q | q
        · exact absurd q.symm e
        · exact q)
theorem wipe_wipe {σ : St} {vs : List Nat} : wipe (wipe σ vs) vs = wipe σ vs := by
  apply List.ext_getElem?
  intro i
  by_cases hi : i ∈ vs
  · rw [wipe_get2 _ _ _ hi, wipe_get2 _ _ _ hi, wipe_length]
  · rw [wipe_get _ _ _ hi]
theorem wipe_off {ts vs : List Nat} {σ σ2 : St} (h : Off ts σ σ2) (hs : ∀ i ∈ ts, i ∈ vs) : ∀ (ws : List Nat), (∀ i ∈ vs, i ∈ ws) → wipe σ2 ws = wipe σ ws := by
  intro ws hw
  apply List.ext_getElem?
  intro i
  by_cases hi : i ∈ ws
  · rw [wipe_get2 _ _ _ hi, wipe_get2 _ _ _ hi, h.1]
  · rw [wipe_get _ _ _ hi, wipe_get _ _ _ hi]
    exact h.2 i fun q => hi (hw i (hs i q))
end
end PL
/-! PL5: comprehensions, the promise of a def, calls. -/
namespace PL
open PySem PySem.Spec L2

section
variable {X : Cx} {C : Cxt} {pos : Pos} {elt tg it : Expr} {ifs : List Expr} {scope : Scope} {own : List (Str × Nat)} {ei : E (List D)} {g : G} {ec : E Bool} {ee : E D}
/-- a clause's tests as data -/
theorem ts_nil : PTs X [] (tT C eYes) := ⟨fun pins s σ H Q I ⟨F, Z, ca, ρ, p, I', h⟩ => pts_nil.run pins s σ H Q I (h F H .rfl' I')⟩
theorem ts_one {c : Expr} (h : PT X c (tT C ec)) : PTs X [c] (tT C ec) := pts_one h
theorem lc_imp {vs : List Nat} {wi : TI} (hw : wi = tI C ei) (hts : ∀ i ∈ g.ts, i ∈ vs) {σ : St} {H : Hp} {Q : VK} (h : tN C (eComp ei g ec ee vs) σ H Q) : tLc wi (tG C g) (tT C ec) (tE C ee) vs σ H Q := by
    subst hw
    obtain ⟨F, Z, ca, ρ, p, I, h⟩ := h
    refine ⟨F, Z, ca, ρ, p, I, h.bind fun ds p1 F1 H1 e1 I1 h1 J F2 H2 g2 src D hD => ?_⟩
    obtain ⟨n, Gd, Y, w, en, hG, hY⟩ := src.ex
    have I2 := I1.grow g2
    have h2 := h1.mono g2.f
    obtain ⟨f1, f2, f3⟩ := I2.fresh hD
    refine lc_it w (fun i H => ∃ F p acc accV, Ext F2 F ∧ StOk C F Z H ca (wipe σ vs) (wipeS ρ vs) p ∧ H D = some (.lst accV) ∧ F D = none ∧ RepL C.K F accV acc ∧ accV.length ≤ i ∧
        Rn C F Z ca σ ρ ((compGo g ec ee (wipeS ρ vs) (ds.drop i) p).bind fun rs p2 => .ok (.lst (acc ++ rs)) p2) (kN C Z ca Q)) ?_ (fun i H hi q => ?_) (fun i x H H' hi q y => ?_) (fun H q => ?_)
    · exact ⟨F2, p1, [], [], .rfl', (I2.hp hD).wipe vs, upd_same, f1, .nil, Nat.le_refl _, h2⟩
    · obtain ⟨F, p, acc, accV, e, I, _⟩ := q
      exact hG H (e.trans I.sub)
    · obtain ⟨F, p, acc, accV, e, I, a1, a2, a3, a4, hr⟩ := q
      have IH := I.hold a1 a2 f3
      obtain ⟨F3, d, ed, g3, rd⟩ := hY i H x H' F hi e I.sub y
      have IH3 := IH.grow g3
      have hlt : i < ds.length := by omega
      have e2 : ds.drop i = d :: ds.drop (i + 1) := by
        rw [List.drop_eq_getElem_cons hlt]
        rw [List.getElem?_eq_getElem hlt] at ed
        rw [Option.some.inj ed]
      rw [e2] at hr
      have hr' : Rn C F Z ca σ ρ ((match g.run d (wipeS ρ vs) with
        | some ρ1 => (ec ρ1 p).bindn fun b p1 => if b = true then (ee ρ1 p1).bindn fun y p2 => (compGo g ec ee (wipeS ρ vs) (ds.drop (i + 1)) p2).bind fun ys p3 => .ok (y :: ys) p3 else compGo g ec ee (wipeS ρ vs) (ds.drop (i + 1)) p1
        | none => .no).bind fun rs p2 => .ok (.lst (acc ++ rs)) p2) (kN C Z ca Q) := hr
      cases q : g.run d (wipeS ρ vs) with
      | none => rw [q] at hr'; exact hr'.elim
      | some ρ1 =>
        rw [q] at hr'
        simp only [R.bindn_bind] at hr'
        refine ⟨F3, _, ca, wipeS ρ vs, p, d, IH3, rd, ρ1, q, fun σ1 o1 I4 => ⟨wipe_off o1 hts _ (fun _ h => h) |>.trans ?_, ?_⟩⟩
        · exact wipe_wipe
        · have lw := wipe_off o1 hts _ (fun _ h => h)
          -- the test
          have key : Rn C F3 { Z with z := upd Z.z D (.lst accV) } ca σ1 ρ1 (ec ρ1 p) (kT fun b H3 => if b = true then tE C ee σ1 H3 fun y H4 => ∃ acc, H4 D = some (.lst acc) ∧ acc.length < sizeLine ∧
              ∃ F p acc_1 accV, Ext F2 F ∧ StOk C F Z (upd H4 D (.lst (acc ++ [y]))) ca (wipe σ vs) (wipeS ρ vs) p ∧ upd H4 D (.lst (acc ++ [y])) D = some (.lst accV) ∧ F D = none ∧ RepL C.K F accV acc_1 ∧ accV.length ≤ i + 1 ∧
                Rn C F Z ca σ ρ ((compGo g ec ee (wipeS ρ vs) (ds.drop (i + 1)) p).bind fun rs p2 => .ok (.lst (acc_1 ++ rs)) p2) (kN C Z ca Q)
            else ∃ F p acc accV, Ext F2 F ∧ StOk C F Z H3 ca (wipe σ vs) (wipeS ρ vs) p ∧ H3 D = some (.lst accV) ∧ F D = none ∧ RepL C.K F accV acc ∧ accV.length ≤ i + 1 ∧
                Rn C F Z ca σ ρ ((compGo g ec ee (wipeS ρ vs) (ds.drop (i + 1)) p).bind fun rs p2 => .ok (.lst (acc ++ rs)) p2) (kN C Z ca Q)) := by
            cases qc : ec ρ1 p with
            | no => rw [qc] at hr'; exact hr'.elim
            | ex x p' => rw [qc] at hr'; exact hr'.elim
            | ok b p2 =>
              rw [qc] at hr'
              intro F4 H4 e4 I5
              have J5 := I.back I5 (g3.f.trans e4)
              cases b with
              | false =>
                dsimp only [kT]
                rw [if_neg Bool.false_ne_true]
                obtain ⟨K1, K2, K3⟩ := J5.loose f2
                exact ⟨F4, p2, acc, accV, (e.trans g3.f).trans e4, K1, K2, K3, a3.mono (g3.f.trans e4), Nat.le_succ_of_le a4, Rn.mono hr' (g3.f.trans e4)⟩
              | true =>
                dsimp only [kT]
                rw [if_pos rfl]
                refine ⟨F4, _, ca, ρ1, p2, I5, ?_⟩
                have hr2 : Rn C F Z ca σ ρ ((ee ρ1 p2).bindn fun y p2 => ((compGo g ec ee (wipeS ρ vs) (ds.drop (i + 1)) p2).bind fun ys p3 => .ok (y :: ys) p3).bind fun rs p2 => .ok (.lst (acc ++ rs)) p2) (kN C Z ca Q) := by
                  rw [← R.bindn_bind]; exact hr'
                cases qe : ee ρ1 p2 with
                | no => rw [qe] at hr2; exact hr2.elim
                | ex x p' => rw [qe] at hr2; exact hr2.elim
                | ok dy p3 =>
                  rw [qe] at hr2
                  intro F5 H5 e5 I6 y hy
                  have J6 := I.back I6 ((g3.f.trans e4).trans e5)
                  obtain ⟨K1, K2, K3⟩ := J6.loose f2
                  have eF : Ext F F5 := (g3.f.trans e4).trans e5
                  refine ⟨accV, K2, Nat.lt_of_le_of_lt a4 (Nat.lt_of_lt_of_le hlt src.le), F5, p3, acc ++ [dy], accV ++ [y], e.trans eF, K1.poke K3 f2 f3, upd_same, K3, (a3.mono eF).append (.cons hy .nil), ?_, ?_⟩
                  · rw [List.length_append]
                    show accV.length + 1 ≤ i + 1
                    omega
                  · have := Rn.mono hr2 eF
                    simp only [R.bindn_ok, R.bind_ok, R.bind_assoc] at this
                    simpa [List.append_assoc] using this
          exact ⟨F3, _, ca, ρ1, p, I4, key⟩
    · obtain ⟨F, p, acc, accV, e, I, a1, a2, a3, a4, hr⟩ := q
      rw [List.drop_of_length_le (by omega)] at hr
      have hr' : ∀ F' H', Ext F F' → StOk C F' Z H' ca σ ρ p → kN C Z ca Q (.lst (acc ++ [])) F' H' := hr
      have := hr' F H .rfl' (I2.back I e) D ⟨accV, a1, Nat.le_trans a4 (by rw [en]; exact src.le), by rw [List.append_nil]; exact a3⟩ a2 f2 f3
      exact this
/-- a block's scope, checked -/
def blkB (N : List Str) (sc scope : Scope) (own : List (Str × Nat)) : Bool :=
  (scope.kind == .function) && scope.names.all (fun y => scope.names.lookup y.1 == some y.2) && own.all (fun p => N[p.2]? == some p.1) &&
  scope.names.all (fun y => y.2 != .free || (sc.names.lookup y.1 == some .cell || sc.names.lookup y.1 == some .free)) &&
  scope.names.all (fun y => !(y.2 == .local || y.2 == .cell) || ((own.map (·.1)).contains y.1 || !N.contains y.1))
theorem blk_ok {N : List Str} {sc : Scope} {own : List (Str × Nat)} (h : blkB N sc scope own = true) : BlkOk N sc scope own := by
  unfold blkB at h
  simp only [Bool.and_eq_true, List.all_eq_true] at h
  obtain ⟨⟨⟨⟨h1, h2⟩, h3⟩, h4⟩, h5⟩ := h
  refine ⟨by simpa using h1, fun y hy => by simpa using h2 y hy, fun p hp => by simpa using h3 p hp, fun y hy e => ?_, fun y hy e => ?_⟩
  · have := h4 y hy
    rw [e] at this
    simpa using this
  · have := h5 y hy
    rcases e with e | e <;> (rw [e] at this; simpa using this)
theorem n_lc (hc : X.calm = true) (hN : X.N.Nodup) (hi : PI X tg it (tI C ei)) (ok : blkB X.N X.env.scope scope own = true)
    (hg : ∀ (s : Shared) (H : Hp) (Cc : Addr) (cl : List (Str × Addr)) (fp : List Addr), PG (X.blk s H scope (compEnvC scope cl Cc X.env) fp) tg (tG C g))
    (ht : ∀ (s : Shared) (H : Hp) (Cc : Addr) (cl : List (Str × Addr)) (fp : List Addr), PTs (X.blk s H scope (compEnvC scope cl Cc X.env) fp) ifs (tT C ec))
    (he : ∀ (s : Shared) (H : Hp) (Cc : Addr) (cl : List (Str × Addr)) (fp : List Addr), PE (X.blk s H scope (compEnvC scope cl Cc X.env) fp) elt (tE C ee))
    (hts : ∀ i ∈ g.ts, i ∈ own.map (·.2)) (hs : ∀ x, foldedSetIterable it X.env x = pure x := by intro _; rfl) :
    PE X (.ListComp elt [⟨tg, it, ifs, 0⟩] scope pos) (tN C (eComp ei g ec ee (own.map (·.2)))) :=
  PE.imp (pe_lc hc hN hi (blk_ok ok) hg ht he hs) fun σ H Q => lc_imp rfl hts
/-- name = [..] -/
theorem x_setLc (i : Nat) {y : Str} {py spos : Pos} (hc : X.calm = true) (hN : X.N.Nodup) (hi : PI X tg it (tI C ei)) (ok : blkB X.N X.env.scope scope own = true)
    (hg : ∀ (s : Shared) (H : Hp) (Cc : Addr) (cl : List (Str × Addr)) (fp : List Addr), PG (X.blk s H scope (compEnvC scope cl Cc X.env) fp) tg (tG C g))
    (ht : ∀ (s : Shared) (H : Hp) (Cc : Addr) (cl : List (Str × Addr)) (fp : List Addr), PTs (X.blk s H scope (compEnvC scope cl Cc X.env) fp) ifs (tT C ec))
    (he : ∀ (s : Shared) (H : Hp) (Cc : Addr) (cl : List (Str × Addr)) (fp : List Addr), PE (X.blk s H scope (compEnvC scope cl Cc X.env) fp) elt (tE C ee))
    (hts : ∀ i ∈ g.ts, i ∈ own.map (·.2)) (hs : ∀ x, foldedSetIterable it X.env x = pure x := by intro _; rfl) (hy : X.N[i]? = some y := by rfl) (hyl : X.env.scope.names.lookup y = some .local := by rfl)
    (hsw : swapsWith (.ListComp elt [⟨tg, it, ifs, 0⟩] scope pos) (some (.Name y py)) spos.line X.env = pure true := by rfl) :
    PS X (.Assign [.Name y py] (.ListComp elt [⟨tg, it, ifs, 0⟩] scope pos) spos) (tS C (xAsg (eComp ei g ec ee (own.map (·.2))) (gV i))) :=
  PS.imp (ps_setLc hc hN hy hyl hsw hi (blk_ok ok) hg ht he hs) fun De σ H ⟨F, Z, ca, ρ, p, I, h⟩ => lc_imp rfl hts (tE_tN ⟨F, Z, ca, ρ, p, I, h.of fun d p1 F1 H1 e1 I1 h1 v hv => by
    have h1' : RnS C F1 Z (match (if i < ρ.length then some (ρ.set i (.v d)) else none) with | some ρ1 => RS.ok .nx ρ1 p1 | none => .no) De := h1
    split at h1'
    · rename_i ρ1 q
      split at q
      · rename_i hl
        cases q
        exact h1' F1 H1 ca _ .rfl' (I1.set hl hv)
      · cases q
    · exact h1'.elim⟩)
end
end PL
/-! PL6: the promise of a def over data, calls, cells. -/
namespace PL
open PySem PySem.Spec L2

/-- the arguments of a call: values; cells by number, as: their addresses; co: in which slot a cell is to stand -/
def RArgs (K : PySem.W.Frag) (F : Hp) (as : List Addr) (co : List Nat) : Nat → List V → List Sl → Prop
  | _, [], [] => True
  | i, v :: vs, .v d :: ss => Rep K F v d ∧ RArgs K F as co (i + 1) vs ss
  | i, v :: vs, .cell k :: ss => (co[k]? = some i ∧ ∃ a, as[k]? = some a ∧ v = .ref a) ∧ RArgs K F as co (i + 1) vs ss
  | _, _, _ => False
/-- what is so behind a call -/
structure FnEnd (K : PySem.W.Frag) (F H : Hp) (as : List Addr) (F' H' : Hp) (p' : List Cell) : Prop where
  f : Ext F F'
  sub : Ext F' H'
  kept : ∀ a o, H a = some o → a ∉ as → H' a = some o
  new : ∀ a o, F' a = some o → F a = some o ∨ H a = none ∨ a ∈ as
  cells : ∀ (k : Nat) (a : Addr) (d : D), as[k]? = some a → p'[k]? = some (some d) → Holds K F' H' a d ∧ F' a = none
/-- what a def promises: it gives what f gives -/
def spF (K : PySem.W.Frag) (co : List Nat) (f : List Sl → List Cell → R D) : Sp := fun vs H Q _ => ∃ (F : Hp) (as : List Addr) (args : List Sl) (ds : List D), Ext F H ∧ RArgs K F as co 0 vs args ∧ as.Nodup ∧ as.length = ds.length ∧
  (∀ (k : Nat) (a : Addr) (d : D), as[k]? = some a → ds[k]? = some d → Holds K F H a d ∧ F a = none) ∧ ∃ d p', f args (ds.map some) = .ok d p' ∧ ∀ F' H' v, FnEnd K F H as F' H' p' → Rep K F' v d → Q v H'
/-- a def by its body: np parameters, N slots, nc cells -/
def fnB (np N na nc : Nat) (body : S) : List Sl → List Cell → R D := fun args p =>
  if args.length = np ∧ p.length ≤ na then match body (args ++ List.replicate (N - args.length) .un) (p ++ List.replicate (nc - p.length) none) with
    | .ok (.rt d) _ p' => .ok d (p'.take p.length)
    | .ok (.rn d) _ p' => .ok d (p'.take p.length)
    | .ok .nx _ p' => .ok .non (p'.take p.length)
    | .ok _ _ _ => .no
    | .ex x _ p' => .ex x (p'.take p.length)
    | .no => .no
  else .no
theorem RArgs.length {K : PySem.W.Frag} {F : Hp} {as : List Addr} {co : List Nat} : ∀ {i : Nat} {vs : List V} {ss : List Sl}, RArgs K F as co i vs ss → vs.length = ss.length
  | _, [], [], _ => rfl
  | i, v :: vs, .v d :: ss, h => by
    unfold RArgs at h
    rw [List.length_cons, List.length_cons, RArgs.length h.2]
  | i, v :: vs, .cell k :: ss, h => by
    unfold RArgs at h
    rw [List.length_cons, List.length_cons, RArgs.length h.2]
  | _, v :: vs, .un :: ss, h => by unfold RArgs at h; exact h.elim
  | _, [], _ :: _, h => by unfold RArgs at h; exact h.elim
  | _, _ :: _, [], h => by unfold RArgs at h; exact h.elim
theorem RArgs.get {K : PySem.W.Frag} {F : Hp} {as : List Addr} {co : List Nat} : ∀ {i j : Nat} {vs : List V} {ss : List Sl} {s : Sl}, RArgs K F as co i vs ss → ss[j]? = some s →
    ∃ v, vs[j]? = some v ∧ ((∃ d, s = .v d ∧ Rep K F v d) ∨ ∃ k a, s = .cell k ∧ co[k]? = some (i + j) ∧ as[k]? = some a ∧ v = .ref a)
  | i, 0, v :: vs, .v d :: ss, s, h, e => by
    unfold RArgs at h
    simp at e; subst e
    exact ⟨v, rfl, .inl ⟨d, rfl, h.1⟩⟩
  | i, 0, v :: vs, .cell k :: ss, s, h, e => by
    unfold RArgs at h
    simp at e; subst e
    obtain ⟨⟨h1, a, h2, h3⟩, _⟩ := h
    exact ⟨v, rfl, .inr ⟨k, a, rfl, h1, h2, h3⟩⟩
  | i, j + 1, v :: vs, .v d :: ss, s, h, e => by
    unfold RArgs at h
    obtain ⟨w, h1, h2⟩ := RArgs.get (j := j) h.2 (by simpa using e)
    exact ⟨w, by simpa using h1, by rw [show i + (j + 1) = i + 1 + j by omega]; exact h2⟩
  | i, j + 1, v :: vs, .cell k :: ss, s, h, e => by
    unfold RArgs at h
    obtain ⟨w, h1, h2⟩ := RArgs.get (j := j) h.2 (by simpa using e)
    exact ⟨w, by simpa using h1, by rw [show i + (j + 1) = i + 1 + j by omega]; exact h2⟩
  | _, _, v :: vs, .un :: ss, _, h, _ => by unfold RArgs at h; exact h.elim
  | _, _, [], _ :: _, _, h, _ => by unfold RArgs at h; exact h.elim
  | _, _, [], [], _, _, e => by simp at e
  | _, _, _ :: _, [], _, h, _ => by unfold RArgs at h; exact h.elim
theorem RArgs.vals {K : PySem.W.Frag} {F : Hp} {as : List Addr} {co : List Nat} : ∀ {i : Nat} {vs : List V} {ds : List D}, RepL K F vs ds → RArgs K F as co i vs (ds.map .v)
  | _, [], [], _ => by unfold RArgs; trivial
  | i, v :: vs, d :: ds, h => by
    show RArgs K F as co i (v :: vs) (.v d :: ds.map .v)
    unfold RArgs
    exact ⟨h.hd, RArgs.vals h.tl⟩
  | _, [], _ :: _, h => h.not_nc.elim
  | _, _ :: _, [], h => h.not_cn.elim

section
variable {P : Program} {w : World} {K : PySem.W.Frag} {mg : Str → Option Value} {base : Heap} {x qual : Str} {params : Arguments} {body : List Stmt} {scope : Scope} {dvs : List V} {kws : List (Str × V)} {f : Addr} {fd : FuncData}
/-- the state at a def's entry -/
theorem st_start {C : Cxt} {F H : Hp} {as : List Addr} {vs : List V} {args : List Sl} {ds : List D} {N : List Str} {nc : Nat} (s : Ext F H) (ra : RArgs C.K F as C.co 0 vs args) (nd : as.Nodup) (hl : as.length = ds.length)
    (hh : ∀ (k : Nat) (a : Addr) (d : D), as[k]? = some a → ds[k]? = some d → Holds C.K F H a d ∧ F a = none) (hN : vs.length ≤ N.length) (hna : as.length ≤ C.na) :
    StOk C F ⟨fun b => if F b = none ∧ b ∉ as then H b else none, as⟩ H (as.map some ++ List.replicate (nc - ds.length) none) (L2.start N vs) (args ++ List.replicate (N.length - args.length) .un) (ds.map some ++ List.replicate (nc - (ds.map some).length) none) where
  sub := s
  zs := fun b o h => by
    have h' : (if F b = none ∧ b ∉ as then H b else none) = some o := h
    split at h'
    · exact h'
    · cases h'
  zf := fun b o h => by
    have h' : (if F b = none ∧ b ∉ as then H b else none) = some o := h
    split at h'
    · rename_i q; exact q.1
    · cases h'
  sl := fun i sl h => by
    have la := ra.length
    by_cases hi : i < args.length
    · rw [List.getElem?_append_left hi] at h
      obtain ⟨v, hv, q⟩ := ra.get h
      have hs : (L2.start N vs)[i]? = some (some v) := by
        unfold L2.start
        rw [List.getElem?_append_left (by rw [List.length_map]; omega), List.getElem?_map, hv] <;> rfl
      rcases q with ⟨d, rfl, r⟩ | ⟨k, a, rfl, e1, e2, e3⟩
      · exact ⟨v, hs, r⟩
      · refine ⟨by rw [e1, Nat.zero_add], a, by rw [hs, e3], fun b hb => ?_⟩
        have hk : k < as.length := (List.getElem?_eq_some_iff.mp e2).1
        rw [List.getElem?_append_left (by rw [List.length_map]; exact hk), List.getElem?_map, e2] at hb
        have : a = b := by simpa using hb
        exact this.symm
    · rw [List.getElem?_append_right (by omega), List.getElem?_replicate] at h
      split at h
      · cases h; trivial
      · cases h
  slen := by
    unfold L2.start
    rw [List.length_append, List.length_append, List.length_map, List.length_replicate, List.length_replicate, ra.length]
  clen := by simp [hl]
  asn := hna
  dead := fun j h => by
    by_cases hj : j < ds.length
    · rw [List.getElem?_append_left (by rw [List.length_map]; exact hj), List.getElem?_map, List.getElem?_eq_getElem hj] at h
      cases h
    · rw [List.getElem?_append_right (by rw [List.length_map]; omega), List.getElem?_replicate] at h
      rw [List.getElem?_append_right (by rw [List.length_map]; omega), List.getElem?_replicate]
      simp only [List.length_map] at h ⊢
      rw [hl]
      split at h
      · rename_i q; rw [if_pos q]
      · cases h
  live := fun j d h => by
    by_cases hj : j < ds.length
    · rw [List.getElem?_append_left (by rw [List.length_map]; exact hj), List.getElem?_map] at h
      have hd : ds[j]? = some d := by
        cases q : ds[j]? with
        | none => rw [q] at h; cases h
        | some e => rw [q] at h; cases h; rfl
      have hj2 : j < as.length := by omega
      obtain ⟨h1, h2⟩ := hh j as[j] d (List.getElem?_eq_getElem hj2) hd
      refine ⟨as[j], by rw [List.getElem?_append_left (by rw [List.length_map]; exact hj2), List.getElem?_map, List.getElem?_eq_getElem hj2] <;> rfl, h1, h2, ?_⟩
      show (if F as[j] = none ∧ as[j] ∉ as then H as[j] else none) = none
      rw [if_neg fun q => q.2 (List.getElem_mem hj2)]
    · rw [List.getElem?_append_right (by rw [List.length_map]; omega), List.getElem?_replicate] at h
      split at h <;> cases h
  dj := fun j k a h1 h2 => by
    have key : ∀ {j : Nat}, (as.map some ++ List.replicate (nc - ds.length) none)[j]? = some (some a) → as[j]? = some a := fun {j} h => by
      by_cases hj : j < as.length
      · rw [List.getElem?_append_left (by rw [List.length_map]; exact hj), List.getElem?_map, List.getElem?_eq_getElem hj] at h
        rw [List.getElem?_eq_getElem hj]
        simpa using h
      · rw [List.getElem?_append_right (by rw [List.length_map]; omega), List.getElem?_replicate] at h
        split at h <;> cases h
    obtain ⟨hj, ej⟩ := List.getElem?_eq_some_iff.mp (key h1)
    obtain ⟨hk, ek⟩ := List.getElem?_eq_some_iff.mp (key h2)
    exact (List.getElem_inj nd).mp (ej.trans ek.symm)
  pas := fun k a h => .inl (by
    have hk : k < as.length := (List.getElem?_eq_some_iff.mp h).1
    rw [List.getElem?_append_left (by rw [List.length_map]; exact hk), List.getElem?_map, h] <;> rfl)
/-- .. and at its end -/
theorem st_end {C : Cxt} {F H F' H' : Hp} {as : List Addr} {ca : List (Option Addr)} {σ : St} {ρ : List Sl} {p' : List Cell} {n : Nat} (s : Ext F H) (e : Ext F F') (I : StOk C F' ⟨fun b => if F b = none ∧ b ∉ as then H b else none, as⟩ H' ca σ ρ p') : FnEnd C.K F H as F' H' (p'.take n) where
  f := e
  sub := I.sub
  kept := fun a o h n => by
    cases q : F a with
    | none => exact I.zs a o (by show (if F a = none ∧ a ∉ as then H a else none) = some o; rw [if_pos ⟨q, n⟩]; exact h)
    | some u =>
      rw [s a u q] at h
      rw [← h]
      exact I.sub a u (e a u q)
  new := fun a o h => by
    cases q : F a with
    | some u => left; rw [← h, e a u q]
    | none =>
      right
      cases r : H a with
      | none => exact .inl rfl
      | some u =>
        by_cases m : a ∈ as
        · exact .inr m
        · have := I.zf a u (by show (if F a = none ∧ a ∉ as then H a else none) = some u; rw [if_pos ⟨q, m⟩]; exact r)
          rw [h] at this; cases this
  cells := fun k a d h1 h2 => by
    have h3 : p'[k]? = some (some d) := by
      rw [List.getElem?_take] at h2
      split at h2
      · exact h2
      · cases h2
    obtain ⟨b, e1, e2, e3, _⟩ := I.live k d h3
    rcases I.pas k a h1 with q | ⟨q, _⟩
    · rw [q] at e1; cases e1
      exact ⟨e2, e3⟩
    · rw [q] at e1; cases e1

/-- a def that gives a new object -/
def spFN (K : PySem.W.Frag) (co : List Nat) (f : List Sl → List Cell → R D) : Sp := fun vs H Q _ => ∃ (F : Hp) (as : List Addr) (args : List Sl) (ds : List D), Ext F H ∧ RArgs K F as co 0 vs args ∧ as.Nodup ∧ as.length = ds.length ∧
  (∀ (k : Nat) (a : Addr) (d : D), as[k]? = some a → ds[k]? = some d → Holds K F H a d ∧ F a = none) ∧ ∃ d p', f args (ds.map some) = .ok d p' ∧ ∀ F' H' a, FnEnd K F H as F' H' p' → Holds K F' H' a d → F' a = none → H a = none → Q (.ref a) H'
def fnBN (np N na nc : Nat) (body : S) : List Sl → List Cell → R D := fun args p =>
  if args.length = np ∧ p.length ≤ na then match body (args ++ List.replicate (N - args.length) .un) (p ++ List.replicate (nc - p.length) none) with
    | .ok (.rn d) _ p' => .ok d (p'.take p.length)
    | .ex x _ p' => .ex x (p'.take p.length)
    | _ => .no
  else .no
theorem st_new {C : Cxt} {F H F' H' : Hp} {as : List Addr} {ca : List (Option Addr)} {σ : St} {ρ : List Sl} {p' : List Cell} {a : Addr} (e : Ext F F') (I : StOk C F' ⟨fun b => if F b = none ∧ b ∉ as then H b else none, as⟩ H' ca σ ρ p')
    (hf : F' a = none) (hz : (if F a = none ∧ a ∉ as then H a else none) = none) (hc : ∀ (j : Nat), ca[j]? ≠ some (some a)) : H a = none := by
  have nF : F a = none := by
    cases q : F a with
    | none => rfl
    | some u => rw [e _ _ q] at hf; cases hf
  by_cases m : a ∈ as
  · obtain ⟨k, hk⟩ := List.mem_iff_getElem?.mp m
    rcases I.pas k a hk with q | ⟨_, o, q⟩
    · exact absurd q (hc k)
    · rw [hf] at q; cases q
  · rw [if_pos ⟨nF, m⟩] at hz; exact hz
/-- THE RULE of a def: its body's run is its promise -/
theorem fn_ok {N ps : List Str} {k na nc : Nat} {co : List Nat} {sb : S} (F : FunD K x qual params body scope dvs kws f fd) (Sc : FnScope N ps scope)
    (hbody : ∀ (cdv : Value) (A : Around) (outer : List Env) (s : Shared) (H : Hp) (E : XK), Room k (A.deeper (PyProof.Rows.envOfC qual scope s.heap.objs.size f cdv)) →
      PSs (cxOf CX0 P w K mg base N qual scope f cdv A outer s H E).nox body (tS ⟨K, co, na, fun _ _ _ _ => False⟩ sb)) : FnOk P w K mg base CX0 (k + 1) f fd ps (spF K co (fnB ps.length N.length na nc sb)) := by
  have hlen : ∀ vs H Q E, spF K co (fnB ps.length N.length na nc sb) vs H Q E → vs.length = ps.length := fun vs H Q E h => by
    obtain ⟨F, as, args, ds, _, ra, _, _, _, d, p', e, _⟩ := h
    unfold fnB at e
    split at e
    · rename_i q; rw [ra.length]; exact q.1
    · cases e
  have hpl : ps.length ≤ N.length := by have := congrArg List.length Sc.pre; rw [List.length_take] at this; omega
  refine F.ok Sc hlen fun cdv A outer s H vs Q E hr h => ⟨tS ⟨K, co, na, fun _ _ _ _ => False⟩ sb, PSs.nox (hbody cdv A outer s H E hr), ?_⟩
  have hl := hlen _ _ _ _ h
  obtain ⟨F, as, args, ds, hs, ra, nd, al, hh, d, p', e, k⟩ := h
  unfold fnB at e
  have hna : as.length ≤ na := by
    split at e
    · rename_i q; rw [al]; simpa using q.2
    · cases e
  have I := st_start (C := ⟨K, co, na, fun _ _ _ _ => False⟩) (N := N) (nc := nc) hs ra nd al hh (by omega) hna
  refine ⟨F, _, _, _, _, I, ?_⟩
  rw [if_pos ⟨by rw [← ra.length]; exact hl, by rw [List.length_map, ← al]; exact hna⟩] at e
  split at e
  · rename_i q
    rw [q]
    cases e
    intro F' H' ca' σ' v eF I' hv
    exact k F' H' v (st_end hs eF I') hv
  · rename_i q
    rw [q]
    cases e
    intro F' H' ca' σ' a eF I' hd hf hz hc
    obtain ⟨o, ho⟩ := hd.ob
    obtain ⟨e2, I2⟩ := I'.freeze ho hf hz hc
    exact k _ H' _ (st_end hs (eF.trans e2) I2) (hd.rep ho hf)
  · rename_i q
    rw [q]
    cases e
    intro F' H' ca' σ' eF I'
    exact k F' H' _ (st_end hs eF I') .non
  · cases e
  · cases e
  · cases e
/-- .. that it gives a new object -/
theorem fn_okN {N ps : List Str} {k na nc : Nat} {co : List Nat} {sb : S} (F : FunD K x qual params body scope dvs kws f fd) (Sc : FnScope N ps scope)
    (hbody : ∀ (cdv : Value) (A : Around) (outer : List Env) (s : Shared) (H : Hp) (E : XK), Room k (A.deeper (PyProof.Rows.envOfC qual scope s.heap.objs.size f cdv)) →
      PSs (cxOf CX0 P w K mg base N qual scope f cdv A outer s H E).nox body (tS ⟨K, co, na, fun _ _ _ _ => False⟩ sb)) : FnOk P w K mg base CX0 (k + 1) f fd ps (spFN K co (fnBN ps.length N.length na nc sb)) := by
  have hlen : ∀ vs H Q E, spFN K co (fnBN ps.length N.length na nc sb) vs H Q E → vs.length = ps.length := fun vs H Q E h => by
    obtain ⟨F, as, args, ds, _, ra, _, _, _, d, p', e, _⟩ := h
    unfold fnBN at e
    split at e
    · rename_i q; rw [ra.length]; exact q.1
    · cases e
  have hpl : ps.length ≤ N.length := by have := congrArg List.length Sc.pre; rw [List.length_take] at this; omega
  refine F.ok Sc hlen fun cdv A outer s H vs Q E hr h => ⟨tS ⟨K, co, na, fun _ _ _ _ => False⟩ sb, PSs.nox (hbody cdv A outer s H E hr), ?_⟩
  have hl := hlen _ _ _ _ h
  obtain ⟨F, as, args, ds, hs, ra, nd, al, hh, d, p', e, k⟩ := h
  unfold fnBN at e
  have hna : as.length ≤ na := by
    split at e
    · rename_i q; rw [al]; simpa using q.2
    · cases e
  have I := st_start (C := ⟨K, co, na, fun _ _ _ _ => False⟩) (N := N) (nc := nc) hs ra nd al hh (by omega) hna
  refine ⟨F, _, _, _, _, I, ?_⟩
  rw [if_pos ⟨by rw [← ra.length]; exact hl, by rw [List.length_map, ← al]; exact hna⟩] at e
  split at e
  · rename_i q
    rw [q]
    cases e
    intro F' H' ca' σ' a eF I' hd hf hz hc
    exact k F' H' a (st_end hs eF I') hd hf (st_new eF I' hf hz hc)
  · cases e
  · cases e
end

/-! ### calls of defs -/
/-- a call with values alone -/
def eCall (f : List Sl → List Cell → R D) (a : E (List D)) : E D := fun ρ p => (a ρ p).bind fun ds p1 => match f (ds.map .v) [] with
  | .ok d _ => .ok d p1
  | _ => .no
theorem FnEnd.grow {K : PySem.W.Frag} {F H F' H' : Hp} {p' : List Cell} (e : FnEnd K F H [] F' H' p') : Grow F H F' H' :=
  ⟨e.f, fun a o h => e.kept a o h (fun z => nomatch z), e.sub, fun a o h => (e.new a o h).imp_right fun q => q.elim id fun z => nomatch z⟩
section
variable {X : Cx} {C : Cxt} {x : Str} {k j : Nat} {f : List Sl → List Cell → R D} {co : List Nat} {e : Expr} {es : List Expr} {ers : E (List D)} {p pos : Pos}
theorem e_call (c : C8.Cal X.prog X.w X.K X.mg X.base k x (spF C.K co f) []) (hr : Room j X.A) (hk : k ≤ j) (hg : Gl X x) (ha : PA X (e :: es) (tA C ers))
    (hdb : (x == ("__debug__" : Str)) = false := by decide) (he : starEach (e :: es) X.env = (false, eval e X.env) :: starEach es X.env := by rfl) (hpl : (backTo pos (starEach es X.env)).any (·.1) = false := by rfl) :
    PE X (.Call (.Name x p) (e :: es) [] pos) (tE C (eCall f ers)) :=
  PE.imp (C8.pe_c c hr hk hg ha hdb he hpl) fun σ H Q ⟨F, Z, ca, ρ, p, I, h⟩ => ⟨F, Z, ca, ρ, p, I, h.bind fun ds p1 F1 H1 e1 I1 h1 vs hvs => by
    split at h1
    · rename_i d p2 q
      refine ⟨F1, [], ds.map .v, [], I1.sub, ?_, .nil, rfl, fun k a d h => by simp at h, d, p2, q, fun F' H' v fe hv => ?_⟩
      · rw [List.append_nil]; exact RArgs.vals hvs
      · have g := fe.grow
        exact h1 F' H' g.f (I1.grow g) v hv
    · exact h1.elim⟩
/-- .. that gives a new object -/
theorem n_call (c : C8.Cal X.prog X.w X.K X.mg X.base k x (spFN C.K co f) []) (hr : Room j X.A) (hk : k ≤ j) (hg : Gl X x) (ha : PA X (e :: es) (tA C ers))
    (hdb : (x == ("__debug__" : Str)) = false := by decide) (he : starEach (e :: es) X.env = (false, eval e X.env) :: starEach es X.env := by rfl) (hpl : (backTo pos (starEach es X.env)).any (·.1) = false := by rfl) :
    PE X (.Call (.Name x p) (e :: es) [] pos) (tN C (eCall f ers)) :=
  PE.imp (C8.pe_c c hr hk hg ha hdb he hpl) fun σ H Q ⟨F, Z, ca, ρ, p, I, h⟩ => ⟨F, Z, ca, ρ, p, I, h.bind fun ds p1 F1 H1 e1 I1 h1 vs hvs => by
    split at h1
    · rename_i d p2 q
      refine ⟨F1, [], ds.map .v, [], I1.sub, ?_, .nil, rfl, fun k a d h => by simp at h, d, p2, q, fun F' H' a fe hd hf hn => ?_⟩
      · rw [List.append_nil]; exact RArgs.vals hvs
      · have g := fe.grow
        obtain ⟨n1, n2, n3⟩ := I1.fresh hn
        exact h1 F' H' g.f (I1.grow g) a hd hf n2 n3
    · exact h1.elim⟩
end

/-! ### cells -/
/-- arguments: values, and cells (told by their place among those handed over) -/
def aVal (a : E D) : E Sl := fun ρ p => (a ρ p).bind fun d p1 => .ok (.v d) p1
/-- slot i holds the cell j; it is the k-th that is handed over -/
def aCell (i j k : Nat) : E Sl := fun ρ p => match ρ[i]? with
  | some (.cell j') => if j' = j then .ok (.cell k) p else .no
  | _ => .no
def asNil : E (List Sl) := fun _ p => .ok [] p
def asCons (a : E Sl) (r : E (List Sl)) : E (List Sl) := fun ρ p => (a ρ p).bind fun x p1 => (r ρ p1).bind fun xs p2 => .ok (x :: xs) p2
def getC : List Nat → List Cell → Option (List D)
  | [], _ => some []
  | j :: js, p => match p[j]? with
    | some (some d) => (getC js p).map (d :: ·)
    | _ => none
def putC : List Nat → List Cell → List Cell → Option (List Cell)
  | [], _, p => some p
  | j :: js, some d :: cs, p => putC js cs (p.set j (some d))
  | _ :: _, _, _ => none
/-- a call that hands over the cells js -/
def eCallC (js : List Nat) (f : List Sl → List Cell → R D) (a : E (List Sl)) : E D := fun ρ p => (a ρ p).bind fun args p1 => match getC js p1 with
  | some ds => (match f args (ds.map some) with
    | .ok d cs => (match putC js cs p1 with
      | some p2 => .ok d p2
      | none => .no)
    | _ => .no)
  | none => .no
/-- the arguments as they stand: js the cells -/
def kAs (C : Cxt) (ca : List (Option Addr)) (js co : List Nat) (i : Nat) (Q : List V → Hp → Prop) : List Sl → Hp → Hp → Prop := fun ss F' H' => ∀ vs, (∀ as, (∀ (k : Nat) j, js[k]? = some j → ∀ a, ca[j]? = some (some a) → as[k]? = some a) → (∀ j ∈ js, ∃ a, ca[j]? = some (some a)) → RArgs C.K F' as co i vs ss) → Q vs H'
def tAs (C : Cxt) (js co : List Nat) (i : Nat) (e : E (List Sl)) : TA := fun σ H Q => ∃ F Z ca ρ p, StOk C F Z H ca σ ρ p ∧ Rn C F Z ca σ ρ (e ρ p) (kAs C ca js co i Q)
section
variable {X : Cx} {C : Cxt} {x : Str} {k j i : Nat} {js co : List Nat} {f : List Sl → List Cell → R D} {e : Expr} {es : List Expr} {ee : E D} {ers : E (List Sl)} {p pos : Pos}
theorem as_nil : PA X [] (tAs C js co i asNil) := PA.imp pa_nil fun σ H Q ⟨F, Z, ca, ρ, p, I, h⟩ => h F H .rfl' I [] fun as _ _ => by unfold RArgs; trivial
theorem RArgs.mono {K : PySem.W.Frag} {F F' : Hp} (e : Ext F F') {as : List Addr} {co : List Nat} : ∀ {i : Nat} {vs : List V} {ss : List Sl}, RArgs K F as co i vs ss → RArgs K F' as co i vs ss
  | _, [], [], _ => by unfold RArgs; trivial
  | i, v :: vs, .v d :: ss, h => by
    unfold RArgs at h ⊢
    exact ⟨h.1.mono e, RArgs.mono e h.2⟩
  | i, v :: vs, .cell k :: ss, h => by
    unfold RArgs at h ⊢
    exact ⟨h.1, RArgs.mono e h.2⟩
  | _, v :: vs, .un :: ss, h => by unfold RArgs at h; exact h.elim
  | _, [], _ :: _, h => by unfold RArgs at h; exact h.elim
  | _, _ :: _, [], h => by unfold RArgs at h; exact h.elim
theorem as_val (ha : PE X e (tE C ee)) (hr : PA X es (tAs C js co (i + 1) ers)) (hs : starEach (e :: es) X.env = (false, eval e X.env) :: starEach es X.env := by rfl) : PA X (e :: es) (tAs C js co i (asCons (aVal ee) ers)) :=
  PA.imp (pa_cons ha hr hs) fun σ H Q ⟨F, Z, ca, ρ, p, I, h⟩ => by
    unfold asCons aVal at h
    simp only [R.bind_assoc, R.bind_ok] at h
    exact ⟨F, Z, ca, ρ, p, I, h.bind fun x p1 F1 H1 e1 I1 h1 v hv => ⟨F1, Z, ca, ρ, p1, I1, h1.bind fun xs p2 F2 H2 e2 I2 h2 vs hvs =>
      h2 F2 H2 .rfl' I2 _ fun as c1 c2 => by
        unfold RArgs
        exact ⟨hv.mono e2, hvs as c1 c2⟩⟩⟩
theorem as_cell (si : Nat) {x : Str} {px : Pos} (hr : PA X es (tAs C js co (i + 1) ers)) (hN : X.N[si]? = some x := by rfl) (hj : js[k]? = some j := by rfl) (hco : co[k]? = some i := by rfl)
    (hv : Vis X.env.scope x := by first | exact Or.inl rfl | exact Or.inr (Or.inl rfl) | exact Or.inr (Or.inr rfl)) (hd : (x == ("__debug__" : Str)) = false := by decide)
    (hcd : (x == ("__classdict__" : Str)) = false := by decide) (hs : starEach (.Name x px :: es) X.env = (false, eval (.Name x px) X.env) :: starEach es X.env := by rfl) : PA X (.Name x px :: es) (tAs C js co i (asCons (aCell si j k) ers)) :=
  PA.imp (pa_cons (pe_var hN hv hd hcd) hr hs) fun σ H Q ⟨F, Z, ca, ρ, p, I, h⟩ => by
    unfold asCons aCell at h
    split at h
    · rename_i j' ej
      split at h
      · rename_i ejj
        subst ejj
        obtain ⟨c1, a, ev, c2⟩ := I.sl si _ ej
        simp only [R.bind_ok] at h
        exact ⟨.ref a, ev, F, Z, ca, ρ, p, I, h.bind fun xs p2 F2 H2 e2 I2 h2 vs hvs => h2 F2 H2 .rfl' I2 _ fun as d1 d2 => by
          unfold RArgs
          obtain ⟨b, eb⟩ := d2 j' (List.mem_of_getElem? hj)
          exact ⟨⟨hco, a, by rw [← c2 b eb]; exact d1 k j' hj b eb, rfl⟩, hvs as d1 d2⟩⟩
      · exact h.elim
    · exact h.elim
end
end PL
/-! PL7: the operators by values. -/
namespace PL
open PySem PySem.Spec L2

/-! ### numbers -/
def mulOk (a b : Int) : Bool := decide (a.natAbs < 18446744073709551616) || decide (b.natAbs < 18446744073709551616) || decide (a.natAbs.log2 + b.natAbs.log2 < 1000000)
def powOk (a n : Int) : Bool := decide (0 ≤ n) && decide (n ≤ 1000) && decide (a.natAbs.log2 ≤ 100000)
def fAdd : D → D → Option D
  | .int a, .int b => some (.int (a + b))
  | .str a, .str b => if a.length + b.length ≤ 100000 then some (.str (a ++ b)) else none
  | .lst a, .lst b => if a.length + b.length ≤ 1000000 then some (.lst (a ++ b)) else none
  | .tup a, .tup b => if a.length + b.length ≤ 1000000 then some (.tup (a ++ b)) else none
  | _, _ => none
def fSub : D → D → Option D
  | .int a, .int b => some (.int (a - b))
  | _, _ => none
def fMul : D → D → Option D
  | .int a, .int b => if mulOk a b = true then some (.int (a * b)) else none
  | .lst a, .int k => if -100000000 ≤ k ∧ k ≤ 100000000 ∧ a.length * k.toNat ≤ 1000000 then some (.lst (List.replicate k.toNat a).flatten) else none
  | _, _ => none
def fDiv : D → D → Option D
  | .int a, .int b => if 0 < b ∧ b.natAbs.log2 < 9000 then some (.int (a / b)) else none
  | _, _ => none
def fMod : D → D → Option D
  | .int a, .int b => if 0 < b then some (.int (a % b)) else none
  | _, _ => none
def fPow : D → D → Option D
  | .int a, .int b => if powOk a b = true then some (.int (a ^ b.toNat)) else none
  | _, _ => none
def fNeg : D → Option D
  | .int a => some (.int (-a))
  | _ => none
def fLt : D → D → Option D
  | .int a, .int b => some (.bl (decide (a < b)))
  | .str a, .str b => some (.bl (decide (a.cps.toList < b.cps.toList)))
  | _, _ => none
def fGt : D → D → Option D
  | .int a, .int b => some (.bl (decide (b < a)))
  | _, _ => none
def fLe : D → D → Option D
  | .int a, .int b => some (.bl (decide (a ≤ b)))
  | _, _ => none
def fGe : D → D → Option D
  | .int a, .int b => some (.bl (decide (b ≤ a)))
  | _, _ => none

section
variable {K : PySem.W.Frag} {X : Cx}
theorem V2.flat {r : R2} {f : D → D → Option D} (h : ∀ F H x y dx dy dz Q, Ext F H → Rep K F x dx → Rep K F y dy → f dx dy = some dz → (∀ v, Rep K F v dz → Q v H) → r x y H Q) : V2 K r f :=
  fun F H x y dx dy dz Q s hx hy e q => h F H x y dx dy dz Q s hx hy e fun v hv => q F H v (.rfl' s) hv
theorem VN.flat {r : List V → Hp → VK → Prop} {f : List D → Option D} (h : ∀ F H xs ds dz Q, Ext F H → RepL K F xs ds → f ds = some dz → (∀ v, Rep K F v dz → Q v H) → r xs H Q) : VN K r f :=
  fun F H xs ds dz Q s hx e q => h F H xs ds dz Q s hx e fun v hv => q F H v (.rfl' s) hv
theorem V2.or {r r' : R2} {f f' : D → D → Option D} (h : V2 K r f) (h' : V2 K r' f') : V2 K (fun x y H Q => r x y H Q ∨ r' x y H Q) (fun x y => (f x y).or (f' x y)) := fun F H x y dx dy dz Q s hx hy e q => by
  cases q1 : f dx dy with
  | some z =>
    have e' : ((f dx dy).or (f' dx dy)) = some dz := e
    rw [q1] at e'
    cases e'
    exact .inl (h F H x y dx dy _ Q s hx hy q1 q)
  | none =>
    have e' : ((f dx dy).or (f' dx dy)) = some dz := e
    rw [q1] at e'
    exact .inr (h' F H x y dx dy dz Q s hx hy e' q)
theorem rep_tup {F H : Hp} {a : Addr} {vs : List V} {l : List D} (hl : vs.length ≤ sizeLine) (r : RepL K F vs l) (g : Grow F H (upd F a (.tup vs)) (upd H a (.tup vs))) : Rep K (upd F a (.tup vs)) (.ref a) (.tup l) :=
  Rep.tup_iff.mpr ⟨a, vs, rfl, upd_same, hl, r.mono g.f⟩
theorem rep_lst {F H : Hp} {a : Addr} {vs : List V} {l : List D} (hl : vs.length ≤ sizeLine) (r : RepL K F vs l) (g : Grow F H (upd F a (.lst vs)) (upd H a (.lst vs))) : Rep K (upd F a (.lst vs)) (.ref a) (.lst l) :=
  Rep.lst_iff.mpr ⟨a, vs, rfl, upd_same, hl, r.mono g.f⟩
theorem line1M {n : Nat} (h : n ≤ 1000000) : n ≤ sizeLine := Nat.le_trans h (by decide)
abbrev rAdd (K : PySem.W.Frag) : R2 := fun x y H Q => rI0 (fun i j => .int (i + j)) x y H Q ∨ ((∃ i j, x = .str i ∧ y = .str j ∧ i.length + j.length ≤ sizeLine ∧ Q (.str (i ++ j)) H) ∨ (rCat x y H Q ∨ rCatA K x y H Q))
theorem o_add : OpR X (binaryOp .Add) (rAdd X.K) := .or op_add (.or op_add_str (.or op_cat op_catA))
theorem v_add : V2 K (rAdd K) fAdd := fun F H x y dx dy dz Q s hx hy e q => by
  unfold fAdd at e
  split at e
  · cases e
    rw [Rep.int_iff.mp hx, Rep.int_iff.mp hy]
    exact .inl ⟨_, _, rfl, rfl, q F H _ (.rfl' s) .int⟩
  · split at e
    · rename_i hl
      cases e
      rw [Rep.str_iff.mp hx, Rep.str_iff.mp hy]
      exact .inr (.inl ⟨_, _, rfl, rfl, small100000 hl, q F H _ (.rfl' s) .str⟩)
    · cases e
  · split at e
    · rename_i hl
      cases e
      obtain ⟨a, vs, rfl, ea, la, ra⟩ := Rep.lst_iff.mp hx
      obtain ⟨b, ws, rfl, eb, lb, rb⟩ := Rep.lst_iff.mp hy
      have hl' : (vs ++ ws).length ≤ sizeLine := by rw [List.length_append, ra.length, rb.length]; exact line1M hl
      refine .inr (.inr (.inl ⟨a, b, vs, ws, rfl, rfl, s _ _ ea, s _ _ eb, by rw [← List.length_append]; exact hl', fun p hp => ?_⟩))
      have g := Grow.upd (o := .lst (vs ++ ws)) s hp
      exact q _ _ _ g (rep_lst hl' (ra.append rb) g)
    · cases e
  · split at e
    · rename_i hl
      cases e
      obtain ⟨a, vs, rfl, ea, la, ra⟩ := Rep.tup_iff.mp hx
      obtain ⟨b, ws, rfl, eb, lb, rb⟩ := Rep.tup_iff.mp hy
      have hl' : (vs ++ ws).length ≤ sizeLine := by rw [List.length_append, ra.length, rb.length]; exact line1M hl
      refine .inr (.inr (.inr ⟨a, b, vs, ws, rfl, rfl, SqT.of (s _ _ ea), SqT.of (s _ _ eb), by rw [← List.length_append]; exact hl', fun h => ?_, fun h1 h2 => ?_, fun h1 h2 p hp => ?_⟩))
      · subst h
        have r := ra.append rb
        exact q F H _ (.rfl' s) (Rep.tup_iff.mpr ⟨b, ws, rfl, eb, lb, r⟩)
      · subst h2
        have r := ra.append rb
        rw [List.append_nil] at r
        exact q F H _ (.rfl' s) (Rep.tup_iff.mpr ⟨a, vs, rfl, ea, la, r⟩)
      · have g := Grow.upd (o := .tup (vs ++ ws)) s hp
        exact q _ _ _ g (rep_tup hl' (ra.append rb) g)
    · cases e
  · cases e
theorem v_sub : V2 K (rI0 fun i j => .int (i - j)) fSub := .flat fun F H x y dx dy dz Q s hx hy e q => by
  unfold fSub at e
  split at e
  · cases e
    rw [Rep.int_iff.mp hx, Rep.int_iff.mp hy]
    exact ⟨_, _, rfl, rfl, q _ .int⟩
  · cases e
abbrev rMulA : R2 := fun x y H Q => rI CMul (fun i j => .int (i * j)) x y H Q ∨ (rI CMulW (fun i j => .int (i * j)) x y H Q ∨ rRep x y H Q)
theorem o_mul : OpR X (binaryOp .Mult) rMulA := .or op_mul (.or op_mulW op_rep)
theorem RepL.rep {F : Hp} {vs : List V} {l : List D} (h : RepL K F vs l) : ∀ (n : Nat), RepL K F (List.replicate n vs).flatten (List.replicate n l).flatten
  | 0 => .nil
  | n + 1 => by
    rw [List.replicate_succ, List.replicate_succ, List.flatten_cons, List.flatten_cons]
    exact h.append (RepL.rep h n)
theorem v_mul : V2 K rMulA fMul := fun F H x y dx dy dz Q s hx hy e q => by
  unfold fMul at e
  split at e
  · split at e
    · rename_i hm
      cases e
      rw [Rep.int_iff.mp hx, Rep.int_iff.mp hy]
      unfold mulOk at hm
      rw [Bool.or_eq_true, Bool.or_eq_true, decide_eq_true_eq, decide_eq_true_eq, decide_eq_true_eq] at hm
      rcases hm with (h | h) | h
      · exact .inl ⟨_, _, rfl, rfl, .inl ⟨by omega, by omega⟩, q F H _ (.rfl' s) .int⟩
      · exact .inl ⟨_, _, rfl, rfl, .inr ⟨by omega, by omega⟩, q F H _ (.rfl' s) .int⟩
      · exact .inr (.inl ⟨_, _, rfl, rfl, h, q F H _ (.rfl' s) .int⟩)
    · cases e
  · split at e
    · rename_i l k hm
      cases e
      obtain ⟨a, vs, rfl, ea, la, ra⟩ := Rep.lst_iff.mp hx
      rw [Rep.int_iff.mp hy]
      refine .inr (.inr ⟨a, _, vs, rfl, rfl, s _ _ ea, by omega, by omega, by rw [ra.length]; exact line1M hm.2.2, fun p hp => ?_⟩)
      have g := Grow.upd (o := .lst (List.replicate k.toNat vs).flatten) s hp
      refine q _ _ _ g (rep_lst ?_ (ra.rep _) g)
      rw [(ra.rep _).length, List.length_flatten, List.map_replicate, List.sum_replicate_nat, Nat.mul_comm]
      exact line1M hm.2.2
    · cases e
  · cases e
theorem v_fdiv : V2 K (rI CDivW fun i j => .int (i / j)) fDiv := .flat fun F H x y dx dy dz Q s hx hy e q => by
  unfold fDiv at e
  split at e
  · split at e
    · rename_i hm
      cases e
      rw [Rep.int_iff.mp hx, Rep.int_iff.mp hy]
      exact ⟨_, _, rfl, rfl, hm, q _ .int⟩
    · cases e
  · cases e
theorem v_mod : V2 K (rI (fun _ j => 0 < j) fun i j => .int (i % j)) fMod := .flat fun F H x y dx dy dz Q s hx hy e q => by
  unfold fMod at e
  split at e
  · split at e
    · rename_i hm
      cases e
      rw [Rep.int_iff.mp hx, Rep.int_iff.mp hy]
      exact ⟨_, _, rfl, rfl, hm, q _ .int⟩
    · cases e
  · cases e
theorem intBits_le (a : Int) : Builtin.Int.intBits a ≤ a.natAbs.log2 + 1 := by
  unfold Builtin.Int.intBits
  split <;> omega
theorem o_pow : OpR X (binaryOp .Pow) (rI (fun i j => powOk i j = true) fun i j => .int (i ^ j.toNat)) := opI fun i j t u s Q E hc q => by
  unfold powOk at hc
  rw [Bool.and_eq_true, Bool.and_eq_true, decide_eq_true_eq, decide_eq_true_eq, decide_eq_true_eq] at hc
  obtain ⟨⟨h1, h2⟩, h3⟩ := hc
  refine PyProof.Rows.pow_int h1 ?_ q
  have h4 := intBits_le i
  have h5 : (Builtin.Int.intBits i : Int) * j ≤ 100001 * 1000 := Int.mul_le_mul (by omega) h2 h1 (by decide)
  omega
theorem v_pow : V2 K (rI (fun i j => powOk i j = true) fun i j => .int (i ^ j.toNat)) fPow := .flat fun F H x y dx dy dz Q s hx hy e q => by
  unfold fPow at e
  split at e
  · split at e
    · rename_i hm
      cases e
      rw [Rep.int_iff.mp hx, Rep.int_iff.mp hy]
      exact ⟨_, _, rfl, rfl, hm, q _ .int⟩
    · cases e
  · cases e
theorem v_gt : V2 K (rI0 fun i j => .bl (decide (j < i))) fGt := .flat fun F H x y dx dy dz Q s hx hy e q => by
  unfold fGt at e
  split at e
  · cases e
    rw [Rep.int_iff.mp hx, Rep.int_iff.mp hy]
    exact ⟨_, _, rfl, rfl, q _ .bl⟩
  · cases e
theorem v_le : V2 K (rI0 fun i j => .bl (decide (i ≤ j))) fLe := .flat fun F H x y dx dy dz Q s hx hy e q => by
  unfold fLe at e
  split at e
  · cases e
    rw [Rep.int_iff.mp hx, Rep.int_iff.mp hy]
    exact ⟨_, _, rfl, rfl, q _ .bl⟩
  · cases e
theorem v_ge : V2 K (rI0 fun i j => .bl (decide (j ≤ i))) fGe := .flat fun F H x y dx dy dz Q s hx hy e q => by
  unfold fGe at e
  split at e
  · cases e
    rw [Rep.int_iff.mp hx, Rep.int_iff.mp hy]
    exact ⟨_, _, rfl, rfl, q _ .bl⟩
  · cases e
abbrev rLtA : R2 := fun x y H Q => rI0 (fun i j => .bl (decide (i < j))) x y H Q ∨ (∃ i j, x = .str i ∧ y = .str j ∧ Q (.bl (decide (i.cps.toList < j.cps.toList))) H)
theorem o_lt : OpR X (compareOp .Lt) rLtA := .or op_lt op_lt_str
theorem v_lt : V2 K rLtA fLt := .flat fun F H x y dx dy dz Q s hx hy e q => by
  unfold fLt at e
  split at e
  · cases e
    rw [Rep.int_iff.mp hx, Rep.int_iff.mp hy]
    exact .inl ⟨_, _, rfl, rfl, q _ .bl⟩
  · cases e
    rw [Rep.str_iff.mp hx, Rep.str_iff.mp hy]
    exact .inr ⟨_, _, rfl, rfl, q _ .bl⟩
  · cases e
end

/-! ### equality of plain data -/
mutual
/-- no dict, no instance; of depth below n -/
def flatD : Nat → D → Bool
  | _, .non => true
  | _, .bl _ => true
  | _, .int _ => true
  | _, .str s => s.cps.all (· < 0x110000)
  | 0, _ => false
  | n + 1, .tup l => flatL n l
  | n + 1, .lst l => flatL n l
  | _, _ => false
def flatL : Nat → List D → Bool
  | _, [] => true
  | n, d :: ds => flatD n d && flatL n ds
end
mutual
def toP : D → PyData
  | .non => .none
  | .bl b => .bool b
  | .int i => .int i
  | .str s => .str s
  | .tup l => .tuple (toPL l)
  | .lst l => .list (toPL l)
  | _ => .none
def toPL : List D → List PyData
  | [] => []
  | d :: ds => toP d :: toPL ds
end
mutual
def eqD : D → D → Bool
  | .non, .non => true
  | .bl a, .bl b => a == b
  | .bl a, .int j => (if a then 1 else 0) == j
  | .int i, .bl b => i == (if b then 1 else 0)
  | .int i, .int j => i == j
  | .str x, .str y => x == y
  | .lst xs, .lst ys => eqL xs ys
  | .tup xs, .tup ys => eqL xs ys
  | _, _ => false
def eqL : List D → List D → Bool
  | [], [] => true
  | x :: xs, y :: ys => eqD x y && eqL xs ys
  | _, _ => false
end
end PL
/-! PL8: equality of plain data, membership, subscripts, slices, builtins by values. -/
namespace PL
open PySem PySem.Spec L2

mutual
theorem eqD_toP : ∀ {n m : Nat} {x y : D}, flatD n x = true → flatD m y = true → PyData.eqv (toP x) (toP y) = eqD x y
  | n, m, .lst xs, .lst ys, hx, hy => by
    cases n with
    | zero => unfold flatD at hx; cases hx
    | succ n =>
      cases m with
      | zero => unfold flatD at hy; cases hy
      | succ m =>
        unfold flatD at hx hy
        unfold toP eqD PyData.eqv
        exact eqL_toP hx hy
  | n, m, .tup xs, .tup ys, hx, hy => by
    cases n with
    | zero => unfold flatD at hx; cases hx
    | succ n =>
      cases m with
      | zero => unfold flatD at hy; cases hy
      | succ m =>
        unfold flatD at hx hy
        unfold toP eqD PyData.eqv
        exact eqL_toP hx hy
  | n, m, x, y, hx, hy => by
    cases x <;> cases y <;> first
      | (unfold toP eqD PyData.eqv; rfl; done)
      | (exfalso; cases n <;> simp [flatD] at hx; done)
      | (exfalso; cases m <;> simp [flatD] at hy; done)
      | (rename_i xs ys
         cases n with
         | zero => simp [flatD] at hx
         | succ n =>
           cases m with
           | zero => simp [flatD] at hy
           | succ m =>
             unfold flatD at hx hy
             unfold toP eqD PyData.eqv
             exact eqL_toP hx hy)
theorem eqL_toP : ∀ {n m : Nat} {x y : List D}, flatL n x = true → flatL m y = true → PyData.eqvAll (toPL x) (toPL y) = eqL x y
  | n, m, [], [], _, _ => by unfold toPL eqL PyData.eqvAll; rfl
  | n, m, [], _ :: _, _, _ => by unfold toPL eqL PyData.eqvAll; rfl
  | n, m, _ :: _, [], _, _ => by unfold toPL eqL PyData.eqvAll; rfl
  | n, m, x :: xs, y :: ys, hx, hy => by
    unfold flatL at hx hy
    rw [Bool.and_eq_true] at hx hy
    unfold toPL eqL PyData.eqvAll
    rw [eqD_toP hx.1 hy.1, eqL_toP hx.2 hy.2]
end
mutual
theorem dp_of {K : PySem.W.Frag} {F H : Hp} (s : Ext F H) : ∀ {n : Nat} {v : V} {d : D}, flatD n d = true → Rep K F v d → Dp K H v (toP d)
  | n, v, .non, _, h => by rw [Rep.non_iff.mp h]; exact .non
  | n, v, .bl b, _, h => by rw [Rep.bl_iff.mp h]; exact .bl b
  | n, v, .int b, _, h => by rw [Rep.int_iff.mp h]; exact .int b
  | n, v, .str b, _, h => by rw [Rep.str_iff.mp h]; exact .str b
  | 0, v, .lst l, f, h => by simp [flatD] at f
  | n + 1, v, .lst l, f, h => by
    obtain ⟨a, vs, rfl, ea, la, ra⟩ := Rep.lst_iff.mp h
    unfold toP
    exact .lst (SqL.of (s _ _ ea)) (dpL_of s (by simpa [flatD] using f) ra)
  | 0, v, .tup l, f, h => by simp [flatD] at f
  | n + 1, v, .tup l, f, h => by
    obtain ⟨a, vs, rfl, ea, la, ra⟩ := Rep.tup_iff.mp h
    unfold toP
    exact .tup (SqT.of (s _ _ ea)) (dpL_of s (by simpa [flatD] using f) ra)
  | n, v, .ty _, f, h => by cases n <;> simp [flatD] at f
  | n, v, .dic _ _, f, h => by cases n <;> simp [flatD] at f
  | n, v, .ins _ _ _, f, h => by cases n <;> simp [flatD] at f
  | n, v, .cls _, f, h => by cases n <;> simp [flatD] at f
  | n, v, .scr _, f, h => by cases n <;> simp [flatD] at f
theorem dpL_of {K : PySem.W.Frag} {F H : Hp} (s : Ext F H) : ∀ {n : Nat} {vs : List V} {ds : List D}, flatL n ds = true → RepL K F vs ds → DpAll K H vs (toPL ds)
  | n, [], [], _, _ => by unfold toPL; exact .nil
  | n, v :: vs, d :: ds, f, h => by
    unfold flatL at f
    rw [Bool.and_eq_true] at f
    unfold toPL
    exact .cons (dp_of s f.1 h.hd) (dpL_of s f.2 h.tl)
  | n, [], _ :: _, _, h => h.not_nc.elim
  | n, _ :: _, [], _, h => h.not_cn.elim
end
mutual
theorem lay_of : ∀ {n : Nat} {d : D}, flatD n d = true → PyData.canLay0 (toP d) = true ∧ PyData.depth (toP d) ≤ n
  | n, .non, _ => by unfold toP; simp [PyData.canLay0, PyData.depth]
  | n, .bl b, _ => by unfold toP; simp [PyData.canLay0, PyData.depth]
  | n, .int b, _ => by unfold toP; simp [PyData.canLay0, PyData.depth]
  | n, .str b, f => by
    have f' : b.cps.all (· < 0x110000) = true := by cases n <;> simpa [flatD] using f
    unfold toP
    exact ⟨by simpa [PyData.canLay0, PyData.strOk] using f', by simp [PyData.depth]⟩
  | 0, .lst l, f => by simp [flatD] at f
  | n + 1, .lst l, f => by
    have := layL_of (n := n) (ds := l) (by simpa [flatD] using f)
    unfold toP
    simp only [PyData.canLay0, PyData.depth]
    exact ⟨this.1, by omega⟩
  | 0, .tup l, f => by simp [flatD] at f
  | n + 1, .tup l, f => by
    have := layL_of (n := n) (ds := l) (by simpa [flatD] using f)
    unfold toP
    simp only [PyData.canLay0, PyData.depth]
    exact ⟨this.1, by omega⟩
  | n, .ty _, f => by cases n <;> simp [flatD] at f
  | n, .dic _ _, f => by cases n <;> simp [flatD] at f
  | n, .ins _ _ _, f => by cases n <;> simp [flatD] at f
  | n, .cls _, f => by cases n <;> simp [flatD] at f
  | n, .scr _, f => by cases n <;> simp [flatD] at f
theorem layL_of : ∀ {n : Nat} {ds : List D}, flatL n ds = true → PyData.canLayAll0 (toPL ds) = true ∧ PyData.depthAll (toPL ds) ≤ n
  | n, [], _ => by unfold toPL; simp [PyData.canLayAll0, PyData.depthAll]
  | n, d :: ds, f => by
    unfold flatL at f
    rw [Bool.and_eq_true] at f
    have h1 := lay_of f.1
    have h2 := layL_of f.2
    unfold toPL
    simp only [PyData.canLayAll0, PyData.depthAll, h1.1, h2.1]
    exact ⟨rfl, by omega⟩
end
theorem shaped_of {n : Nat} {d : D} (f : flatD n d = true) (h : n ≤ 64) : SeqAt.shaped (toP d) = true := by
  have := lay_of f
  unfold SeqAt.shaped
  rw [this.1, Bool.true_and, decide_eq_true_eq]
  exact Nat.le_trans this.2 h

/-- == of plain data -/
def fEq : D → D → Option D := fun x y => if flatD 12 x = true ∧ flatD 12 y = true then some (.bl (eqD x y)) else none
def fNe : D → D → Option D := fun x y => if flatD 12 x = true ∧ flatD 12 y = true then some (.bl (!eqD x y)) else none
section
variable {K : PySem.W.Frag} {X : Cx}
theorem v_eq : V2 K (rEqD K) fEq := .flat fun F H x y dx dy dz Q s hx hy e q => by
  unfold fEq at e
  split at e
  · rename_i h
    cases e
    exact ⟨_, _, dp_of s h.1 hx, dp_of s h.2 hy, shaped_of h.1 (by decide), shaped_of h.2 (by decide), by rw [eqD_toP h.1 h.2]; exact q _ .bl⟩
  · cases e
theorem v_ne : V2 K (rNeD K) fNe := .flat fun F H x y dx dy dz Q s hx hy e q => by
  unfold fNe at e
  split at e
  · rename_i h
    cases e
    exact ⟨_, _, dp_of s h.1 hx, dp_of s h.2 hy, shaped_of h.1 (by decide), shaped_of h.2 (by decide), by rw [eqD_toP h.1 h.2]; exact q _ .bl⟩
  · cases e
/-- is None -/
def isNon : D → Bool
  | .non => true
  | _ => false
theorem rep_isNon {F : Hp} {v : V} {d : D} (h : Rep K F v d) : decide (v = .non) = isNon d := by
  cases d with
  | non => rw [Rep.non_iff.mp h]; rfl
  | bl b => rw [Rep.bl_iff.mp h]; rfl
  | int b => rw [Rep.int_iff.mp h]; rfl
  | str b => rw [Rep.str_iff.mp h]; rfl
  | ty b => rw [Rep.ty_iff.mp h]; rfl
  | cls b => rw [Rep.cls_iff.mp h]; rfl
  | tup l => obtain ⟨a, vs, rfl, _⟩ := Rep.tup_iff.mp h; rfl
  | lst l => obtain ⟨a, vs, rfl, _⟩ := Rep.lst_iff.mp h; rfl
  | ins c ns ds => obtain ⟨a, dx, fs, rfl, _⟩ := Rep.ins_iff.mp h; rfl
  | dic ks vs => unfold Rep at h; obtain ⟨a, rfl, _⟩ := h; rfl
  | scr l => obtain ⟨a, rfl, _⟩ := Rep.scr_iff.mp h; rfl
def fIs : D → D → Option D
  | x, .non => some (.bl (isNon x))
  | .bl a, .bl b => some (.bl (a == b))
  | _, _ => none
def fIsNot : D → D → Option D
  | x, .non => some (.bl (!isNon x))
  | .bl a, .bl b => some (.bl (!(a == b)))
  | _, _ => none
end
end PL
/-! PL9: is, in, subscripts, slices, builtins by values. -/
namespace PL
open PySem PySem.Spec L2

section
variable {K : PySem.W.Frag} {X : Cx}
abbrev rIsA : R2 := fun x y H Q => (y = .non ∧ Q (.bl (decide (x = .non))) H) ∨ rIsB x y H Q
abbrev rNotA : R2 := fun x y H Q => (y = .non ∧ Q (.bl (!decide (x = .non))) H) ∨ rNotB x y H Q
theorem o_is : OpR X (compareOp .Is) rIsA := .or op_isN op_isBl
theorem o_isnot : OpR X (compareOp .IsNot) rNotA := .or op_notN op_notBl
theorem v_is : V2 K rIsA fIs := .flat fun F H x y dx dy dz Q s hx hy e q => by
  unfold fIs at e
  split at e
  · cases e
    exact .inl ⟨Rep.non_iff.mp hy, by rw [rep_isNon hx]; exact q _ .bl⟩
  · cases e
    rw [Rep.bl_iff.mp hx, Rep.bl_iff.mp hy]
    exact .inr ⟨_, _, rfl, rfl, by rw [← Bool.beq_eq_decide_eq]; exact q _ .bl⟩
  · cases e
theorem v_isnot : V2 K rNotA fIsNot := .flat fun F H x y dx dy dz Q s hx hy e q => by
  unfold fIsNot at e
  split at e
  · cases e
    exact .inl ⟨Rep.non_iff.mp hy, by rw [rep_isNon hx]; exact q _ .bl⟩
  · cases e
    rw [Rep.bl_iff.mp hx, Rep.bl_iff.mp hy]
    exact .inr ⟨_, _, rfl, rfl, by rw [← Bool.beq_eq_decide_eq]; exact q _ .bl⟩
  · cases e

/-! ### membership -/
def flat0 : D → Bool
  | .non => true
  | .bl _ => true
  | .int _ => true
  | .str _ => true
  | _ => false
theorem rep_flat0 {F : Hp} {v : V} {d : D} (h : Rep K F v d) (f : flat0 d = true) : flatV v = true := by
  cases d with
  | non => rw [Rep.non_iff.mp h]; rfl
  | bl b => rw [Rep.bl_iff.mp h]; rfl
  | int b => rw [Rep.int_iff.mp h]; rfl
  | str b => rw [Rep.str_iff.mp h]; rfl
  | _ => cases f
theorem rep_eqV {F : Hp} {v w : V} {d e : D} (h : Rep K F v d) (g : Rep K F w e) (f : flat0 d = true) (f' : flat0 e = true) : eqV v w = eqD d e := by
  cases d <;> first
    | (cases f; done)
    | (cases e <;> first
        | (cases f'; done)
        | (first | rw [Rep.non_iff.mp h] | rw [Rep.bl_iff.mp h] | rw [Rep.int_iff.mp h] | rw [Rep.str_iff.mp h]
           first | rw [Rep.non_iff.mp g] | rw [Rep.bl_iff.mp g] | rw [Rep.int_iff.mp g] | rw [Rep.str_iff.mp g]
           unfold eqD
           rfl))
theorem repL_flat0 {F : Hp} : ∀ {vs : List V} {ds : List D}, RepL K F vs ds → ds.all flat0 = true → vs.all flatV = true
  | [], [], _, _ => rfl
  | v :: vs, d :: ds, h, f => by
    rw [List.all_cons, Bool.and_eq_true] at f ⊢
    exact ⟨rep_flat0 h.hd f.1, repL_flat0 h.tl f.2⟩
  | [], _ :: _, h, _ => h.not_nc.elim
  | _ :: _, [], h, _ => h.not_cn.elim
theorem repL_in {F : Hp} {v : V} {d : D} (h : Rep K F v d) (f : flat0 d = true) : ∀ {vs : List V} {ds : List D}, RepL K F vs ds → ds.all flat0 = true → inV v vs = ds.any fun z => eqD z d
  | [], [], _, _ => rfl
  | w :: vs, e :: ds, g, fs => by
    rw [List.all_cons, Bool.and_eq_true] at fs
    have := repL_in h f g.tl fs.2
    unfold inV at this ⊢
    rw [List.any_cons, List.any_cons, this, rep_eqV g.hd h fs.1 f]
  | [], _ :: _, h, _ => h.not_nc.elim
  | _ :: _, [], h, _ => h.not_cn.elim
theorem any_toP {n m : Nat} {d : D} (f : flatD n d = true) : ∀ {ds : List D}, flatL m ds = true → (toPL ds).any (fun z => PyData.eqv z (toP d)) = ds.any fun z => eqD z d
  | [], _ => by unfold toPL; rfl
  | e :: ds, fs => by
    unfold flatL at fs
    rw [Bool.and_eq_true] at fs
    unfold toPL
    rw [List.any_cons, List.any_cons, any_toP f fs.2, eqD_toP fs.1 f]
/-- x in y -/
def inD : D → D → Option Bool
  | x, .lst l => if flatD 12 x = true ∧ flatD 12 (.lst l) = true then some (l.any fun z => eqD z x) else none
  | x, .tup l => if flat0 x = true ∧ l.all flat0 = true then some (l.any fun z => eqD z x) else none
  | .str a, .str b => some (!(Builtin.Str.occurrences b a 0 b.length 1).isEmpty)
  | _, _ => none
def fIn : D → D → Option D := fun x y => (inD x y).map .bl
def fNotIn : D → D → Option D := fun x y => (inD x y).map fun b => .bl (!b)
abbrev rInA (K : PySem.W.Frag) : R2 := fun x y H Q => rInD K x y H Q ∨ (rIn K false x y H Q ∨ (∃ i j, x = .str i ∧ y = .str j ∧ Q (.bl (!(Builtin.Str.occurrences j i 0 j.length 1).isEmpty)) H))
abbrev rNotInA (K : PySem.W.Frag) : R2 := fun x y H Q => rNotInD K x y H Q ∨ (rIn K true x y H Q ∨ (∃ i j, x = .str i ∧ y = .str j ∧ Q (.bl (!(!(Builtin.Str.occurrences j i 0 j.length 1).isEmpty))) H))
theorem o_in (hu : X.A.units + 65 < cLine) : OpR X (compareOp .In) (rInA X.K) := .or (op_inD hu) (.or op_in_seq op_in_str)
theorem o_notin (hu : X.A.units + 65 < cLine) : OpR X (compareOp .NotIn) (rNotInA X.K) := .or (op_notInD hu) (.or op_notIn_seq op_notin_str)
theorem v_in : V2 K (rInA K) fIn := .flat fun F H x y dx dy dz Q s hx hy e q => by
  unfold fIn at e
  cases ei : inD dx dy with
  | none => rw [ei] at e; cases e
  | some b =>
    rw [ei] at e
    cases e
    unfold inD at ei
    split at ei
    · split at ei
      · rename_i l h
        cases ei
        have dl := dp_of s h.2 hy
        have hl : flatL 11 l = true := by simpa [flatD] using h.2
        unfold toP at dl
        refine .inl ⟨_, _, dp_of s h.1 hx, dl, shaped_of h.1 (by decide), ?_, ?_⟩
        · have := shaped_of h.2 (by decide); unfold toP at this; exact this
        · rw [any_toP h.1 hl]; exact q _ .bl
      · cases ei
    · split at ei
      · rename_i l h
        cases ei
        obtain ⟨a, vs, rfl, ea, la, ra⟩ := Rep.tup_iff.mp hy
        refine .inr (.inl ⟨a, vs, rfl, .inr (SqT.of (s _ _ ea)), rep_flat0 hx h.1, repL_flat0 ra h.2, ?_⟩)
        show Q (.bl (inV x vs)) H
        rw [repL_in hx h.1 ra h.2]; exact q _ .bl
      · cases ei
    · cases ei
      rw [Rep.str_iff.mp hx, Rep.str_iff.mp hy]
      exact .inr (.inr ⟨_, _, rfl, rfl, q _ .bl⟩)
    · cases ei
theorem v_notin : V2 K (rNotInA K) fNotIn := .flat fun F H x y dx dy dz Q s hx hy e q => by
  unfold fNotIn at e
  cases ei : inD dx dy with
  | none => rw [ei] at e; cases e
  | some b =>
    rw [ei] at e
    cases e
    unfold inD at ei
    split at ei
    · split at ei
      · rename_i l h
        cases ei
        have dl := dp_of s h.2 hy
        have hl : flatL 11 l = true := by simpa [flatD] using h.2
        unfold toP at dl
        refine .inl ⟨_, _, dp_of s h.1 hx, dl, shaped_of h.1 (by decide), ?_, ?_⟩
        · have := shaped_of h.2 (by decide); unfold toP at this; exact this
        · rw [any_toP h.1 hl]; exact q _ .bl
      · cases ei
    · split at ei
      · rename_i l h
        cases ei
        obtain ⟨a, vs, rfl, ea, la, ra⟩ := Rep.tup_iff.mp hy
        refine .inr (.inl ⟨a, vs, rfl, .inr (SqT.of (s _ _ ea)), rep_flat0 hx h.1, repL_flat0 ra h.2, ?_⟩)
        show Q (.bl (!inV x vs)) H
        rw [repL_in hx h.1 ra h.2]; exact q _ .bl
      · cases ei
    · cases ei
      rw [Rep.str_iff.mp hx, Rep.str_iff.mp hy]
      exact .inr (.inr ⟨_, _, rfl, rfl, q _ .bl⟩)
    · cases ei

/-! ### subscripts and slices -/
def fIx : D → D → Option D
  | .lst l, .int i => atI l i
  | .tup l, .int i => atI l i
  | .str z, .int i => if z.length ≤ 100000 then (atI z.cps.toList i).map fun c => .str ⟨#[c]⟩ else none
  | _, _ => none
theorem RepL.atI {F : Hp} {vs : List V} {ds : List D} {i : Int} {d : D} (r : RepL K F vs ds) (e : L2.atI ds i = some d) : ∃ v, L2.atI vs i = some v ∧ Rep K F v d := by
  unfold L2.atI at e ⊢
  rw [r.length]
  cases q : ixN ds.length i with
  | none => rw [q] at e; cases e
  | some j =>
    rw [q] at e
    exact r.get e
theorem v_ix : V2 K (rIx K) fIx := .flat fun F H x y dx dy dz Q s hx hy e q => by
  unfold fIx at e
  split at e
  · obtain ⟨a, vs, rfl, ea, la, ra⟩ := Rep.lst_iff.mp hx
    obtain ⟨v, ev, rv⟩ := ra.atI e
    rw [Rep.int_iff.mp hy]
    exact .inl ⟨a, vs, _, v, rfl, rfl, SqL.of (s _ _ ea), ev, q v rv⟩
  · obtain ⟨a, vs, rfl, ea, la, ra⟩ := Rep.tup_iff.mp hx
    obtain ⟨v, ev, rv⟩ := ra.atI e
    rw [Rep.int_iff.mp hy]
    exact .inr (.inl ⟨a, vs, _, v, rfl, rfl, SqT.of (s _ _ ea), ev, q v rv⟩)
  · rename_i z i
    split at e
    · rename_i hz
      rw [Rep.str_iff.mp hx, Rep.int_iff.mp hy]
      cases ec : L2.atI z.cps.toList i with
      | none => rw [ec] at e; cases e
      | some c =>
        rw [ec] at e
        cases e
        exact .inr (.inr ⟨z, i, c, rfl, rfl, small100000 hz, ec, q _ .str⟩)
    · cases e
  · cases e
variable {C : Cxt} {a b : Expr} {ea eb : E D} {pos : Pos}
theorem e_ix (ha : PE X a (tE C ea)) (hb : PE X b (tE C eb)) (hs : PlainIx b := by exact fun _ _ => rfl) (hK : X.K = C.K := by rfl) : PE X (.Subscript a b pos) (tE C (eBin fIx ea eb)) :=
  PE.imp (pe_ix ix_seq ha hb hs) fun σ H Q ⟨F, Z, ca, ρ, p, I, h⟩ =>
    ⟨F, Z, ca, ρ, p, I, h.bind fun x p1 F1 H1 e1 I1 h1 v hv => ⟨F1, Z, ca, ρ, p1, I1, h1.bind fun y p2 F2 H2 e2 I2 h2 w hw => by
      obtain ⟨z, ez, k⟩ := h2.lift
      rw [hK]
      exact v_ix F2 H2 v w x y z Q I2.sub (hv.mono e2) hw ez fun F' H' u g hu => k F' H' g.f (I2.grow g) u hu⟩⟩
end
end PL
/-! PL10: slices, builtins and methods by values. -/
namespace PL
open PySem PySem.Spec L2

/-! ### slices -/
def cutD (xs : List D) (lo hi : Option Int) : List D := (xs.drop (HT.sIx xs.length 0 lo)).take (HT.sIx xs.length xs.length hi - HT.sIx xs.length 0 lo)
def fCut : D → Option Int → Option Int → Option D
  | .scr l, lo, hi => if l.length ≤ 1000 then some (.lst (cutD (l.map .int) lo hi)) else none
  | .lst l, lo, hi => some (.lst (cutD l lo hi))
  | .tup l, lo, hi => some (.tup (cutD l lo hi))
  | .str z, lo, hi => if z.length ≤ 100000 then some (.str (cutS z lo hi)) else none
  | _, _, _ => none
/-- a slice's part -/
def pNone : E (Option Int) := fun _ p => .ok none p
def pSome (e : E D) : E (Option Int) := fun ρ p => (e ρ p).bind fun d p1 => match d with
  | .int i => .ok (some i) p1
  | _ => .no
def eCut (a : E D) (lo hi : E (Option Int)) : E D := fun ρ p => (a ρ p).bind fun x p1 => (lo ρ p1).bind fun l p2 => (hi ρ p2).bind fun h p3 => lift (fCut x l h) p3
def kO (Q : Option Int → Hp → Prop) : Option Int → Hp → Hp → Prop := fun o _ H' => Q o H'
def tO (C : Cxt) (e : E (Option Int)) : L2.TO := fun σ H Q => ∃ F Z ca ρ p, StOk C F Z H ca σ ρ p ∧ Rn C F Z ca σ ρ (e ρ p) (kO Q)
section
variable {K : PySem.W.Frag} {X : Cx} {C : Cxt} {a b : Expr} {ea eb : E D} {lo hi : Option Expr} {el eh : E (Option Int)} {pos p2 : Pos}
theorem po_imp {e : Option Expr} {t t' : L2.TO} (h : PO X e t) (i : ∀ σ H Q, t' σ H Q → t σ H Q) : PO X e t' := ⟨fun pins s σ H Q I q => h.run pins s σ H Q I (i σ H Q q)⟩
theorem p_none : PO X none (tO C pNone) := po_imp po_none fun σ H Q ⟨F, Z, ca, ρ, p, I, h⟩ => h F H .rfl' I
theorem p_some (h : PE X a (tE C ea)) : PO X (some a) (tO C (pSome ea)) := po_imp (po_some h) fun σ H Q ⟨F, Z, ca, ρ, p, I, h⟩ => ⟨F, Z, ca, ρ, p, I, h.bind fun d p1 F1 H1 e1 I1 h1 v hv => by
  cases d with
  | int i => exact ⟨i, Rep.int_iff.mp hv, h1 F1 H1 .rfl' I1⟩
  | _ => exact h1.elim⟩
theorem RepL.cut {F : Hp} {vs : List V} {ds : List D} (r : RepL K F vs ds) (lo hi : Option Int) : RepL K F (cutV vs lo hi) (cutD ds lo hi) := by
  unfold cutV cutD
  rw [r.length]
  exact (r.drop _).take _
theorem cutV_line {vs : List V} {lo hi : Option Int} (h : vs.length ≤ sizeLine) : (cutV vs lo hi).length ≤ sizeLine := Nat.le_trans (cutV_length vs lo hi) h
abbrev rCutA (K : PySem.W.Frag) : V → Option Int → Option Int → Hp → VK → Prop := fun x lo hi H Q => rSlL K x lo hi H Q ∨ (rSlA K x lo hi H Q ∨ rSlS x lo hi H Q)
theorem s_cut : SlR X (rCutA X.K) := .or sl_list (.or sl_tupA sl_str)
theorem cut_whole {vs : List V} {lo hi : Option Int} (h : HT.sIx vs.length 0 lo = 0 ∧ HT.sIx vs.length vs.length hi = vs.length) : cutV vs lo hi = vs := by
  unfold cutV
  rw [h.1, h.2, List.drop_zero, Nat.sub_zero, List.take_length]
theorem e_cut (ha : PE X a (tE C ea)) (hl : PO X lo (tO C el)) (hh : PO X hi (tO C eh)) (hK : X.K = C.K := by rfl) : PE X (.Subscript a (.Slice lo hi none p2) pos) (tE C (eCut ea el eh)) :=
  PE.imp (pe_slice s_cut ha hl hh) fun σ H Q ⟨F, Z, ca, ρ, p, I, h⟩ =>
    ⟨F, Z, ca, ρ, p, I, h.bind fun x p1 F1 H1 e1 I1 h1 v hv => ⟨F1, Z, ca, ρ, p1, I1, h1.bind fun l p2 F2 H2 e2 I2 h2 => ⟨F2, Z, ca, ρ, p2, I2, h2.bind fun u p3 F3 H3 e3 I3 h3 => by
      obtain ⟨z, ez, k⟩ := h3.lift
      rw [hK]
      have hv := hv.mono (e2.trans e3)
      unfold fCut at ez
      split at ez
      · split at ez
        · rename_i hl0
          cases ez
          obtain ⟨q, rfl, hq⟩ := Rep.scr_iff.mp hv
          refine .inl ⟨q, _, rfl, hq.ext I3.sub, fun n hn => ?_⟩
          exact k _ _ (Grow.upd I3.sub hn).f (I3.grow (Grow.upd I3.sub hn)) _ (rep_lst (cutV_line (by rw [List.length_map]; exact le_line hl0)) ((RepL.ints _).cut l u) (Grow.upd I3.sub hn))
        · cases ez
      · cases ez
        obtain ⟨q, vs, rfl, ea, la, ra⟩ := Rep.lst_iff.mp hv
        refine .inl ⟨q, vs, rfl, SqL.of (I3.sub _ _ ea), fun n hn => ?_⟩
        have g := Grow.upd (o := .lst (cutV vs l u)) I3.sub hn
        exact k _ _ g.f (I3.grow g) _ (rep_lst (cutV_line la) (ra.cut l u) g)
      · cases ez
        obtain ⟨q, vs, rfl, ea, la, ra⟩ := Rep.tup_iff.mp hv
        refine .inr (.inl ⟨q, vs, rfl, SqT.of (I3.sub _ _ ea), fun hw => ?_, fun _ n hn => ?_⟩)
        · have r := ra.cut l u
          rw [cut_whole hw] at r
          exact k F3 H3 .rfl' I3 _ (Rep.tup_iff.mpr ⟨q, vs, rfl, ea, la, r⟩)
        · have g := Grow.upd (o := .tup (cutV vs l u)) I3.sub hn
          exact k _ _ g.f (I3.grow g) _ (rep_tup (cutV_line la) (ra.cut l u) g)
      · split at ez
        · rename_i hz
          cases ez
          rw [Rep.str_iff.mp hv]
          exact .inr (.inr ⟨_, rfl, small100000 hz, k F3 H3 .rfl' I3 _ .str⟩)
        · cases ez
      · cases ez⟩⟩⟩

/-! ### builtins -/
def fLen : List D → Option D
  | [.lst l] => some (.int l.length)
  | [.tup l] => some (.int l.length)
  | [.str z] => if z.length ≤ 100000 then some (.int z.length) else none
  | _ => none
theorem b_len : VN K (fun xs H Q => ∃ x n, xs = [x] ∧ LenV K x H n ∧ Q (.int n) H) fLen := .flat fun F H xs ds dz Q s hx e q => by
  unfold fLen at e
  split at e
  · cases e
    obtain ⟨v, rfl, hv⟩ := hx.one
    obtain ⟨a, vs, rfl, ea, la, ra⟩ := Rep.lst_iff.mp hv
    exact ⟨_, vs.length, rfl, .inl ⟨vs, SqL.of (s _ _ ea), rfl⟩, by rw [ra.length]; exact q _ .int⟩
  · cases e
    obtain ⟨v, rfl, hv⟩ := hx.one
    obtain ⟨a, vs, rfl, ea, la, ra⟩ := Rep.tup_iff.mp hv
    exact ⟨_, vs.length, rfl, .inr ⟨vs, SqT.of (s _ _ ea), rfl⟩, by rw [ra.length]; exact q _ .int⟩
  · split at e
    · rename_i z hz
      cases e
      obtain ⟨v, rfl, hv⟩ := hx.one
      rw [Rep.str_iff.mp hv]
      exact ⟨_, z.length, rfl, ⟨small100000 hz, rfl⟩, q _ .int⟩
    · cases e
  · cases e
def fInt : List D → Option D
  | [.int i] => some (.int i)
  | [.bl b] => some (.int (if b then 1 else 0))
  | _ => none
theorem b_int : VN K (fun xs H Q => (∃ i, xs = [.int i] ∧ Q (.int i) H) ∨ ∃ k, xs = [.bl k] ∧ Q (.int (if k then 1 else 0)) H) fInt := .flat fun F H xs ds dz Q s hx e q => by
  unfold fInt at e
  split at e
  · cases e
    obtain ⟨v, rfl, hv⟩ := hx.one
    rw [Rep.int_iff.mp hv]
    exact .inl ⟨_, rfl, q _ .int⟩
  · cases e
    obtain ⟨v, rfl, hv⟩ := hx.one
    rw [Rep.bl_iff.mp hv]
    exact .inr ⟨_, rfl, q _ .int⟩
  · cases e
def fAbs : List D → Option D
  | [.int i] => some (.int (if i < 0 then -i else i))
  | _ => none
theorem b_abs : VN K (fun xs H Q => ∃ i, xs = [.int i] ∧ Q (.int (if i < 0 then -i else i)) H) fAbs := .flat fun F H xs ds dz Q s hx e q => by
  unfold fAbs at e
  split at e
  · cases e
    obtain ⟨v, rfl, hv⟩ := hx.one
    rw [Rep.int_iff.mp hv]
    exact ⟨_, rfl, q _ .int⟩
  · cases e
def fMax2 : List D → Option D
  | [.int i, .int j] => some (.int (if j > i then j else i))
  | _ => none
theorem b_max2 : VN K (fun xs H Q => ∃ i j, xs = [.int i, .int j] ∧ Q (.int (if j > i then j else i)) H) fMax2 := .flat fun F H xs ds dz Q s hx e q => by
  unfold fMax2 at e
  split at e
  · cases e
    obtain ⟨v, v', rfl, hv, hv'⟩ := hx.two
    rw [Rep.int_iff.mp hv, Rep.int_iff.mp hv']
    exact ⟨_, _, rfl, q _ .int⟩
  · cases e
def fMin2 : List D → Option D
  | [.int i, .int j] => some (.int (if j < i then j else i))
  | _ => none
theorem b_min2 : VN K (fun xs H Q => ∃ i j, xs = [.int i, .int j] ∧ Q (.int (if j < i then j else i)) H) fMin2 := .flat fun F H xs ds dz Q s hx e q => by
  unfold fMin2 at e
  split at e
  · cases e
    obtain ⟨v, v', rfl, hv, hv'⟩ := hx.two
    rw [Rep.int_iff.mp hv, Rep.int_iff.mp hv']
    exact ⟨_, _, rfl, q _ .int⟩
  · cases e
def intsOf : List D → Option (List Int)
  | [] => some []
  | .int i :: r => (intsOf r).map (i :: ·)
  | _ => none
theorem intsOf_eq : ∀ {l : List D} {ns : List Int}, intsOf l = some ns → l = ns.map .int
  | [], _, h => by cases h; rfl
  | .int i :: r, ns, h => by
    unfold intsOf at h
    cases q : intsOf r with
    | none => rw [q] at h; cases h
    | some ms =>
      rw [q] at h
      cases h
      rw [intsOf_eq q] <;> rfl
  | .non :: _, _, h => by cases h
  | .bl _ :: _, _, h => by cases h
  | .str _ :: _, _, h => by cases h
  | .ty _ :: _, _, h => by cases h
  | .tup _ :: _, _, h => by cases h
  | .lst _ :: _, _, h => by cases h
  | .dic _ _ :: _, _, h => by cases h
  | .ins _ _ _ :: _, _, h => by cases h
  | .cls _ :: _, _, h => by cases h
@[simp] theorem intsOf_map : ∀ (ns : List Int), intsOf (ns.map .int) = some ns
  | [] => rfl
  | i :: r => by
    show (intsOf (r.map D.int)).map (i :: ·) = _
    rw [intsOf_map r] <;> rfl
def blsOf : List D → Option (List Bool)
  | [] => some []
  | .bl i :: r => (blsOf r).map (i :: ·)
  | _ => none
theorem blsOf_eq : ∀ {l : List D} {ns : List Bool}, blsOf l = some ns → l = ns.map .bl
  | [], _, h => by cases h; rfl
  | .bl i :: r, ns, h => by
    unfold blsOf at h
    cases q : blsOf r with
    | none => rw [q] at h; cases h
    | some ms =>
      rw [q] at h
      cases h
      rw [blsOf_eq q] <;> rfl
  | .non :: _, _, h => by cases h
  | .int _ :: _, _, h => by cases h
  | .str _ :: _, _, h => by cases h
  | .ty _ :: _, _, h => by cases h
  | .tup _ :: _, _, h => by cases h
  | .lst _ :: _, _, h => by cases h
  | .dic _ _ :: _, _, h => by cases h
  | .ins _ _ _ :: _, _, h => by cases h
  | .cls _ :: _, _, h => by cases h
@[simp] theorem blsOf_map : ∀ (ns : List Bool), blsOf (ns.map .bl) = some ns
  | [] => rfl
  | i :: r => by
    show (blsOf (r.map D.bl)).map (i :: ·) = _
    rw [blsOf_map r] <;> rfl
def fSum : List D → Option D
  | [.lst l] => (intsOf l).map fun ns => .int ns.sum
  | _ => none
theorem b_sum : VN K (rSum K) fSum := .flat fun F H xs ds dz Q s hx e q => by
  unfold fSum at e
  split at e
  · rename_i l
    cases ei : intsOf l with
    | none => rw [ei] at e; cases e
    | some ns =>
      rw [ei] at e
      cases e
      have el := intsOf_eq ei
      subst el
      obtain ⟨v, rfl, hv⟩ := hx.one
      obtain ⟨a, vs, rfl, ea, la, ra⟩ := Rep.lst_iff.mp hv
      rw [ra.ints_eq] at ea
      exact ⟨a, ns, rfl, SqL.of (s _ _ ea), q _ .int⟩
  · cases e
def fAll : List D → Option D
  | [.lst l] => (blsOf l).map fun ns => .bl (ns.all id)
  | _ => none
theorem b_all : VN K (rAll K) fAll := .flat fun F H xs ds dz Q s hx e q => by
  unfold fAll at e
  split at e
  · rename_i l
    cases ei : blsOf l with
    | none => rw [ei] at e; cases e
    | some ns =>
      rw [ei] at e
      cases e
      have el := blsOf_eq ei
      subst el
      obtain ⟨v, rfl, hv⟩ := hx.one
      obtain ⟨a, vs, rfl, ea, la, ra⟩ := Rep.lst_iff.mp hv
      rw [ra.bls_eq] at ea
      exact ⟨a, ns, rfl, SqL.of (s _ _ ea), q _ .bl⟩
  · cases e
def fAny : List D → Option D
  | [.lst l] => (blsOf l).map fun ns => .bl (ns.any id)
  | _ => none
theorem b_any : VN K (rAny K) fAny := .flat fun F H xs ds dz Q s hx e q => by
  unfold fAny at e
  split at e
  · rename_i l
    cases ei : blsOf l with
    | none => rw [ei] at e; cases e
    | some ns =>
      rw [ei] at e
      cases e
      have el := blsOf_eq ei
      subst el
      obtain ⟨v, rfl, hv⟩ := hx.one
      obtain ⟨a, vs, rfl, ea, la, ra⟩ := Rep.lst_iff.mp hv
      rw [ra.bls_eq] at ea
      exact ⟨a, ns, rfl, SqL.of (s _ _ ea), q _ .bl⟩
  · cases e
/-- list(x), tuple(x) -/
def fListOf : List D → Option (List D)
  | [.lst l] => some l
  | [.tup l] => some l
  | _ => none
theorem b_list : VL K (fun xs H Q => ∃ p ys, xs = [.ref p] ∧ (SqL K H p ys ∨ SqT K H p ys) ∧ ∀ l, H l = none → Q (.ref l) (upd H l (.lst ys))) fListOf := fun F H xs ds l Q s hx e q => by
  unfold fListOf at e
  split at e
  · cases e
    obtain ⟨v, rfl, hv⟩ := hx.one
    obtain ⟨a, vs, rfl, ea, la, ra⟩ := Rep.lst_iff.mp hv
    exact ⟨a, vs, rfl, .inl (SqL.of (s _ _ ea)), fun n hn => q n vs hn la ra⟩
  · cases e
    obtain ⟨v, rfl, hv⟩ := hx.one
    obtain ⟨a, vs, rfl, ea, la, ra⟩ := Rep.tup_iff.mp hv
    exact ⟨a, vs, rfl, .inr (SqT.of (s _ _ ea)), fun n hn => q n vs hn la ra⟩
  · cases e
def fTupleOf : List D → Option D
  | [.lst l] => some (.tup l)
  | [.tup l] => some (.tup l)
  | _ => none
theorem b_tuple : VN K (fun xs H Q => ∃ p ys, xs = [.ref p] ∧ ((SqL K H p ys ∧ ∀ l, H l = none → Q (.ref l) (upd H l (.tup ys))) ∨ (SqT K H p ys ∧ Q (.ref p) H))) fTupleOf := fun F H xs ds l Q s hx e q => by
  unfold fTupleOf at e
  split at e
  · cases e
    obtain ⟨v, rfl, hv⟩ := hx.one
    obtain ⟨a, vs, rfl, ea, la, ra⟩ := Rep.lst_iff.mp hv
    refine ⟨a, vs, rfl, .inl ⟨SqL.of (s _ _ ea), fun n hn => ?_⟩⟩
    have g := Grow.upd (o := .tup vs) s hn
    exact q _ _ _ g (rep_tup la ra g)
  · cases e
    obtain ⟨v, rfl, hv⟩ := hx.one
    obtain ⟨a, vs, rfl, ea, la, ra⟩ := Rep.tup_iff.mp hv
    exact ⟨a, vs, rfl, .inr ⟨SqT.of (s _ _ ea), q F H _ (.rfl' s) hv⟩⟩
  · cases e
/-- sorted of ints -/
def insI (x : Int) : List Int → List Int
  | [] => [x]
  | y :: r => if x ≤ y then x :: y :: r else y :: insI x r
def sortI : List Int → List Int
  | [] => []
  | x :: r => insI x (sortI r)
theorem insI_perm (x : Int) : ∀ l : List Int, (insI x l).Perm (x :: l)
  | [] => .refl _
  | y :: r => by
    unfold insI
    split
    · exact .refl _
    · exact ((insI_perm x r).cons y).trans (.swap x y r)
theorem sortI_perm : ∀ l : List Int, (sortI l).Perm l
  | [] => .refl _
  | x :: r => (insI_perm x _).trans ((sortI_perm r).cons x)
theorem insI_sorted (x : Int) : ∀ {l : List Int}, l.Pairwise (· ≤ ·) → (insI x l).Pairwise (· ≤ ·)
  | [], _ => by unfold insI; exact List.pairwise_singleton _ _
  | y :: r, h => by
    unfold insI
    obtain ⟨h1, h2⟩ := List.pairwise_cons.mp h
    split
    · rename_i hxy
      exact List.pairwise_cons.mpr ⟨fun z hz => by
        rcases List.mem_cons.mp hz with e | hz
        · rw [e]; exact hxy
        · exact Int.le_trans hxy (h1 z hz), h⟩
    · rename_i hxy
      refine List.pairwise_cons.mpr ⟨fun z hz => ?_, insI_sorted x h2⟩
      rcases List.mem_cons.mp ((insI_perm x r).mem_iff.mp hz) with e | hz
      · rw [e]; omega
      · exact h1 z hz
theorem sortI_sorted : ∀ l : List Int, (sortI l).Pairwise (· ≤ ·)
  | [] => List.Pairwise.nil
  | x :: r => insI_sorted x (sortI_sorted r)
theorem sortI_the {l m : List Int} (p : m.Perm l) (s : m.Pairwise (· ≤ ·)) : m = sortI l :=
  List.Perm.eq_of_pairwise (le := (· ≤ ·)) (fun a b _ _ h1 h2 => Int.le_antisymm h1 h2) s (sortI_sorted l) (p.trans (sortI_perm l).symm)
def fSortI : List D → Option (List D)
  | [.lst l] => (intsOf l).map fun ns => (sortI ns).map .int
  | _ => none
theorem b_sortI : VL K (rSortedI K) fSortI := fun F H xs ds l Q s hx e q => by
  unfold fSortI at e
  split at e
  · rename_i l
    cases ei : intsOf l with
    | none => rw [ei] at e; cases e
    | some ns =>
      rw [ei] at e
      cases e
      have el := intsOf_eq ei
      subst el
      obtain ⟨v, rfl, hv⟩ := hx.one
      obtain ⟨a, vs, rfl, ea, la, ra⟩ := Rep.lst_iff.mp hv
      rw [ra.ints_eq] at ea
      refine ⟨a, ns, rfl, SqL.of (s _ _ ea), fun ns' p hp hs hn => ?_⟩
      rw [sortI_the hp hs]
      refine q p _ hn ?_ (RepL.ints _)
      rw [List.length_map, (sortI_perm ns).length_eq, ← List.length_map (f := V.int), ← ra.ints_eq]
      exact la
  · cases e
end
end PL
/-! PL11: isinstance, methods by values, cells. -/
namespace PL
open PySem PySem.Spec L2

/-! ### isinstance -/
def typeD : D → D
  | .non => .ty "NoneType"
  | .bl _ => .ty "bool"
  | .int _ => .ty "int"
  | .str _ => .ty "str"
  | .tup _ => .ty "tuple"
  | .lst _ => .ty "list"
  | .dic _ _ => .ty "dict"
  | .ins c _ _ => .cls c
  | .cls _ => .ty "type"
  | .ty _ => .ty "type"
  | .scr _ => .non
/-- a class as a value of the machine -/
def clsVal (K : PySem.W.Frag) : D → Value
  | .ty n => .type n
  | .cls c => .ref (He.ga K c)
  | _ => .none
def knownTys : List String := ["NoneType", "bool", "int", "str", "tuple", "list", "dict"]
def kB (a b : String) : Option Bool := if a ∈ knownTys ∧ b ∈ knownTys then some (a = b || (a = "bool" && b = "int")) else none
theorem kB_all : ∀ a ∈ knownTys, ∀ b ∈ knownTys, kitB a b = some (a = b || (a = "bool" && b = "int")) := by decide +kernel
theorem kB_ok {K : PySem.W.Frag} {a b : String} {r : Bool} (h : kB a b = some r) : PySem.W.kitOne K (.type a) (.type b) = some r := by
  unfold kB at h
  split at h
  · rename_i m
    exact kit_ty (by rw [kB_all a m.1 b m.2]; exact h)
  · cases h
/-- what is told of the program's own classes -/
structure InsF (K : PySem.W.Frag) (c : Str) : Prop where
  cl : Cls K (He.ga K c)
  ha : PySem.W.findIn K (.ref (He.ga K c)) "__class__" = some (some (.builtin "object.__class__"))
  hn : PySem.W.specialIn K (.builtin "object.__class__") "__get__" = some (some (.builtin "getset_descriptor.__get__"))
  htk : PySem.W.takesIn K (.builtin "object.__class__") = some true
  hm : PySem.W.mroIn K (He.ga K c) (.type "object") = some true
/-- a table of classes: one beneath another -/
structure ClsTab (K : PySem.W.Frag) (tab : D → D → Option Bool) : Prop where
  ok : ∀ t c b, tab t c = some b → (∃ n, t = .ty n ∧ n ∈ knownTys) ∨ (∃ c', t = .cls c' ∧ InsF K c')
  kit : ∀ t c b, tab t c = some b → PySem.W.kitOne K (clsVal K t) (clsVal K c) = some b
  cv : ∀ t c b, tab t c = some b → (∃ n, c = .ty n) ∨ ∃ c', c = .cls c'
def tabB : D → D → Option Bool
  | .ty a, .ty b => kB a b
  | _, _ => none
theorem tabB_ok {K : PySem.W.Frag} : ClsTab K tabB where
  ok := fun t c b h => by
    unfold tabB at h
    split at h
    · unfold kB at h
      split at h
      · rename_i m
        exact .inl ⟨_, rfl, m.1⟩
      · cases h
    · cases h
  kit := fun t c b h => by
    unfold tabB at h
    split at h
    · exact kB_ok h
    · cases h
  cv := fun t c b h => by
    unfold tabB at h
    split at h
    · exact .inl ⟨_, rfl⟩
    · cases h
def anyTab (tab : D → D → Option Bool) (t : D) : List D → Option Bool
  | [] => some false
  | c :: r => match tab t c with
    | some true => some true
    | some false => anyTab tab t r
    | none => none
def fIsi (tab : D → D → Option Bool) : List D → Option D
  | [x, .ty n] => (tab (typeD x) (.ty n)).map .bl
  | [x, .cls n] => (tab (typeD x) (.cls n)).map .bl
  | [x, .tup (c0 :: cs)] => if (c0 :: cs).all (fun c => match c with | .ty _ => true | .cls _ => true | _ => false) = true then (anyTab tab (typeD x) (c0 :: cs)).map .bl else none
  | _ => none
section
variable {K : PySem.W.Frag} {tab : D → D → Option Bool}
theorem rep_type (T : ClsTab K tab) {F H : Hp} (s : Ext F H) {x : V} {d c : D} {b : Bool} (h : Rep K F x d) (e : tab (typeD d) c = some b) : TyX K H x (clsVal K (typeD d)) := by
  cases d with
  | non => rw [Rep.non_iff.mp h]; exact .base .non
  | bl b => rw [Rep.bl_iff.mp h]; exact .base (.bl b)
  | int b => rw [Rep.int_iff.mp h]; exact .base (.int b)
  | str b => rw [Rep.str_iff.mp h]; exact .base (.str b)
  | tup l => obtain ⟨a, vs, rfl, ea, _⟩ := Rep.tup_iff.mp h; exact .base (.tup (s _ _ ea))
  | lst l => obtain ⟨a, vs, rfl, ea, _⟩ := Rep.lst_iff.mp h; exact .base (.lst (s _ _ ea))
  | dic ks ws =>
    unfold Rep at h
    obtain ⟨a, rfl, h⟩ := h
    rcases h with ⟨kvs, ea, _⟩ | ⟨kvs, ea, _⟩
    · exact .base (.dK (s _ _ ea))
    · exact .base (.dT (s _ _ ea))
  | ins c' ns ds =>
    obtain ⟨a, dx, fs, rfl, ea, _⟩ := Rep.ins_iff.mp h
    rcases T.ok _ _ _ e with ⟨n, q, _⟩ | ⟨c2, q, f⟩
    · cases q
    · cases q
      exact .base (.ins (s _ _ ea) f.cl f.ha f.hn f.htk f.hm)
  | scr l =>
    rcases T.ok _ _ _ e with ⟨n, q, m⟩ | ⟨c2, q, f⟩ <;> cases q
  | ty n =>
    rcases T.ok _ _ _ e with ⟨n, q, m⟩ | ⟨c2, q, f⟩
    · cases q
      exact absurd m (by decide +kernel)
    · cases q
  | cls n =>
    rcases T.ok _ _ _ e with ⟨n, q, m⟩ | ⟨c2, q, f⟩
    · cases q
      exact absurd m (by decide +kernel)
    · cases q
theorem any_kit (T : ClsTab K tab) {t : D} : ∀ {cs : List D} {b : Bool}, anyTab tab t cs = some b → PySem.W.kitAny K (clsVal K t) (cs.map (clsVal K)) = some b
  | [], b, h => h
  | c :: r, b, h => by
    unfold anyTab at h
    show (match PySem.W.kitOne K (clsVal K t) (clsVal K c) with
      | some true => some true
      | some false => PySem.W.kitAny K (clsVal K t) (r.map (clsVal K))
      | none => none) = some b
    cases q : tab t c with
    | none => rw [q] at h; cases h
    | some x =>
      rw [q] at h
      rw [T.kit _ _ _ q]
      cases x with
      | true => exact h
      | false => exact any_kit T h
theorem clsV_all {F : Hp} : ∀ {cs : List D} {vs : List V}, RepL K F vs cs → cs.all (fun c => match c with | .ty _ => true | .cls _ => true | _ => false) = true → Paired ClsV vs (cs.map (clsVal K))
  | [], [], _, _ => .nil
  | c :: cs, v :: vs, r, h => by
    rw [List.all_cons, Bool.and_eq_true] at h
    refine .cons ?_ (clsV_all r.tl h.2)
    cases c with
    | ty n => rw [Rep.ty_iff.mp r.hd]; exact .ty n
    | cls n => rw [Rep.cls_iff.mp r.hd]; exact .own _
    | _ => cases h.1
  | [], _ :: _, r, _ => r.not_cn.elim
  | _ :: _, [], r, _ => r.not_nc.elim
theorem any_some {t : D} : ∀ {cs : List D} {b : Bool}, cs ≠ [] → anyTab tab t cs = some b → ∃ c x, tab t c = some x
  | [], _, h, _ => absurd rfl h
  | c :: r, b, _, h => by
    unfold anyTab at h
    cases q : tab t c with
    | none => rw [q] at h; cases h
    | some x => exact ⟨c, x, q⟩
theorem b_isi (T : ClsTab K tab) : VN K (fun xs H Q => rIsi K xs H Q ∨ rIsiT K xs H Q) (fIsi tab) := .flat fun F H xs ds dz Q s hx e q => by
  unfold fIsi at e
  split at e
  · rename_i x n
    cases et : tab (typeD x) (.ty n) with
    | none => rw [et] at e; cases e
    | some b =>
      rw [et] at e
      cases e
      obtain ⟨v, v', rfl, hv, hv'⟩ := hx.two
      rw [Rep.ty_iff.mp hv']
      exact .inl ⟨v, _, _, _, b, rfl, .ty n, rep_type T s hv et, T.kit _ _ _ et, q _ .bl⟩
  · rename_i x n
    cases et : tab (typeD x) (.cls n) with
    | none => rw [et] at e; cases e
    | some b =>
      rw [et] at e
      cases e
      obtain ⟨v, v', rfl, hv, hv'⟩ := hx.two
      rw [Rep.cls_iff.mp hv']
      exact .inl ⟨v, _, _, _, b, rfl, .own _, rep_type T s hv et, T.kit _ _ _ et, q _ .bl⟩
  · rename_i x c0 cs
    split at e
    · rename_i hc
      cases et : anyTab tab (typeD x) (c0 :: cs) with
      | none => rw [et] at e; cases e
      | some b =>
        rw [et] at e
        cases e
        obtain ⟨v, v', rfl, hv, hv'⟩ := hx.two
        obtain ⟨a, vs, rfl, ea, la, ra⟩ := Rep.tup_iff.mp hv'
        obtain ⟨c', x', ec⟩ := any_some (cs := c0 :: cs) (List.cons_ne_nil _ _) et
        exact .inr ⟨v, a, vs, _, _, b, rfl, s _ _ ea, clsV_all ra hc, rep_type T s hv ec, any_kit T et, q _ .bl⟩
    · cases e
  · cases e
end
end PL
/-! PL12: all cells frozen for one expression; calls that hand cells over. -/
namespace PL
open PySem PySem.Spec L2

/-! ### frozen for a moment -/
def thaw (p : List Cell) (ρ : List Sl) : List Sl := ρ.map fun s => match s with
  | .cell j => (match p[j]? with
    | some (some d) => .v d
    | _ => .un)
  | s => s
def noneP (p : List Cell) : List Cell := p.map fun _ => none
/-- of what kinds the cells are -/
structure Kd where
  l : Bool
  d : Bool
  i : Bool
def kdOf (p : List Cell) : Kd := ⟨p.any fun c => match c with | some (.lst _) => true | _ => false, p.any fun c => match c with | some (.dic _ _) => true | _ => false, p.any fun c => match c with | some (.ins _ _ _) => true | _ => false⟩
mutual
/-- nothing of these kinds is inside -/
def leafD (k : Kd) : D → Bool
  | .tup l => leafL k l
  | .lst l => !k.l && leafL k l
  | .dic _ ws => !k.d && leafL k ws
  | .ins _ _ ds => !k.i && leafL k ds
  | .scr _ => false
  | _ => true
def leafL (k : Kd) : List D → Bool
  | [] => true
  | d :: ds => leafD k d && leafL k ds
end
def eTr (e : E D) : E D := fun ρ p => match e (thaw p ρ) (noneP p) with
  | .ok d _ => if leafD (kdOf p) d = true then .ok d p else .no
  | _ => .no
def aTr (e : E (List D)) : E (List D) := fun ρ p => match e (thaw p ρ) (noneP p) with
  | .ok d _ => if leafL (kdOf p) d = true then .ok d p else .no
  | _ => .no
def tTr (e : E Bool) : E Bool := fun ρ p => match e (thaw p ρ) (noneP p) with
  | .ok b _ => .ok b p
  | _ => .no
/-- a new list of what has no list inside -/
def nTr (e : E D) : E D := fun ρ p => match e (thaw p ρ) (noneP p) with
  | .ok (.lst l) _ => if leafL (kdOf p) l = true then .ok (.lst l) p else .no
  | _ => .no
section
variable {C : Cxt} {F H F' H' : Hp} {Z : Zd} {ca ca' : List (Option Addr)} {σ σ' : St} {ρ ρ' : List Sl} {p p' : List Cell}
/-- b is where a cell stands -/
def IsCA (ca : List (Option Addr)) (p : List Cell) (b : Addr) : Prop := ∃ (j : Nat) (d : D), ca[j]? = some (some b) ∧ p[j]? = some (some d)
open Classical in
noncomputable def frz (F H : Hp) (ca : List (Option Addr)) (p : List Cell) : Hp := fun b => if IsCA ca p b then H b else F b
open Classical in
noncomputable def unf (F : Hp) (ca : List (Option Addr)) (p : List Cell) : Hp := fun b => if IsCA ca p b then none else F b
theorem StOk.isca (I : StOk C F Z H ca σ ρ p) {b : Addr} (h : IsCA ca p b) : ∃ d o, Holds C.K F H b d ∧ H b = some o ∧ F b = none ∧ Z.z b = none ∧ ∃ j : Nat, p[j]? = some (some d) := by
  obtain ⟨j, d, h1, h2⟩ := h
  obtain ⟨a, e1, e2, e3, e4⟩ := I.live j d h2
  rw [h1] at e1
  cases e1
  obtain ⟨o, ho⟩ := e2.ob
  exact ⟨d, o, e2, ho, e3, e4, j, h2⟩
theorem StOk.frz_ext (I : StOk C F Z H ca σ ρ p) : Ext F (frz F H ca p) := fun b o h => by
  unfold frz
  by_cases q : IsCA ca p b
  · obtain ⟨d, o', h1, h2, h3, _⟩ := I.isca q
    rw [h3] at h; cases h
  · rw [if_neg q]; exact h
theorem StOk.frz_at (I : StOk C F Z H ca σ ρ p) {j : Nat} {d : D} {a : Addr} (h1 : ca[j]? = some (some a)) (h2 : p[j]? = some (some d)) : Rep C.K (frz F H ca p) (.ref a) d := by
  have q : IsCA ca p a := ⟨j, d, h1, h2⟩
  obtain ⟨b, e1, e2, e3, e4⟩ := I.live j d h2
  rw [h1] at e1
  cases e1
  obtain ⟨o, ho⟩ := e2.ob
  have r := e2.rep ho e3
  refine r.mono fun b' o' h => ?_
  by_cases e : b' = a
  · subst e
    rw [upd_same] at h
    unfold frz
    rw [if_pos q, ho, h]
  · rw [upd_ne e] at h
    exact I.frz_ext _ _ h
theorem noneP_get {j : Nat} {d : D} : (noneP p)[j]? ≠ some (some d) := fun h => by
  unfold noneP at h
  rw [List.getElem?_map] at h
  cases q : p[j]? with
  | none => rw [q] at h; cases h
  | some u => rw [q] at h; cases h
theorem StOk.frzAll (I : StOk C F Z H ca σ ρ p) : StOk C (frz F H ca p) Z H (List.replicate p.length none) σ (thaw p ρ) (noneP p) where
  sub := fun b o h => by
    unfold frz at h
    split at h
    · exact h
    · exact I.sub b o h
  zs := I.zs
  zf := fun b o h => by
    unfold frz
    split
    · rename_i q
      obtain ⟨d, o', h1, h2, h3, h4, _⟩ := I.isca q
      rw [h4] at h; cases h
    · exact I.zf b o h
  sl := fun i s h => by
    unfold thaw at h
    rw [List.getElem?_map] at h
    cases q : ρ[i]? with
    | none => rw [q] at h; cases h
    | some t =>
      rw [q] at h
      cases h
      have z := I.sl i t q
      cases t with
      | un => trivial
      | v d => obtain ⟨v, h1, h2⟩ := z; exact ⟨v, h1, h2.mono I.frz_ext⟩
      | cell j =>
        obtain ⟨z1, a, z2, z3⟩ := z
        cases w : p[j]? with
        | none => show SlOk C.K _ _ C.co i _ (match p[j]? with | some (some d) => Sl.v d | _ => .un); rw [w]; trivial
        | some u =>
          cases u with
          | none => show SlOk C.K _ _ C.co i _ (match p[j]? with | some (some d) => Sl.v d | _ => .un); rw [w]; trivial
          | some d =>
            show SlOk C.K _ _ C.co i _ (match p[j]? with | some (some d) => Sl.v d | _ => .un)
            rw [w]
            obtain ⟨b, e1, _⟩ := I.live j d w
            have := z3 b e1
            subst this
            exact ⟨.ref b, z2, I.frz_at e1 w⟩
  slen := by unfold thaw; rw [List.length_map]; exact I.slen
  clen := by unfold noneP; rw [List.length_replicate, List.length_map]
  asn := I.asn
  dead := fun j h => by
    unfold noneP at h
    rw [List.getElem?_map] at h
    cases q : p[j]? with
    | none => rw [q] at h; cases h
    | some u => rw [List.getElem?_replicate, if_pos (List.getElem?_eq_some_iff.mp q).1]
  live := fun j d h => absurd h noneP_get
  dj := fun j k a h => by rw [List.getElem?_replicate] at h; split at h <;> cases h
  pas := fun k a h => .inr (by
    rcases I.pas k a h with q | ⟨q, o, w⟩
    · have hk : k < p.length := by rw [← I.clen]; exact (List.getElem?_eq_some_iff.mp q).1
      refine ⟨by rw [List.getElem?_replicate, if_pos hk], ?_⟩
      cases w : p[k] with
      | none =>
        have := I.dead k (by rw [List.getElem?_eq_getElem hk, w])
        rw [q] at this; cases this
      | some d =>
        have c : IsCA ca p a := ⟨k, d, q, by rw [List.getElem?_eq_getElem hk, w]⟩
        obtain ⟨_, o, _, ho, _⟩ := I.isca c
        exact ⟨o, by unfold frz; rw [if_pos c]; exact ho⟩
    · have hk : k < p.length := by rw [← I.clen]; exact (List.getElem?_eq_some_iff.mp q).1
      exact ⟨by rw [List.getElem?_replicate, if_pos hk], o, I.frz_ext _ _ w⟩)
theorem StOk.unf_ext (I : StOk C F Z H ca σ ρ p) (e : Ext (frz F H ca p) F') : Ext F (unf F' ca p) := fun b o h => by
  unfold unf
  by_cases q : IsCA ca p b
  · obtain ⟨d, o', h1, h2, h3, _⟩ := I.isca q
    rw [h3] at h; cases h
  · rw [if_neg q]; exact e _ _ (I.frz_ext _ _ h)
/-- what cells hold stands as it stood -/
theorem StOk.isca_same (I : StOk C F Z H ca σ ρ p) (e : Ext (frz F H ca p) F') (s : Ext F' H') {b : Addr} (q : IsCA ca p b) : ∃ o, H b = some o ∧ F' b = some o ∧ H' b = some o := by
  obtain ⟨d, o, h1, h2, h3, _⟩ := I.isca q
  have : F' b = some o := e _ _ (by unfold frz; rw [if_pos q]; exact h2)
  exact ⟨o, h2, this, s _ _ this⟩
/-- back to the cells -/
theorem StOk.unfAll (I : StOk C F Z H ca σ ρ p) (J : StOk C F' Z H' ca' σ' ρ' p') (e : Ext (frz F H ca p) F') : StOk C (unf F' ca p) Z H' ca σ ρ p where
  sub := fun b o h => by
    unfold unf at h
    split at h
    · cases h
    · exact J.sub b o h
  zs := J.zs
  zf := fun b o h => by
    unfold unf
    split
    · rfl
    · exact J.zf b o h
  sl := fun i s h => (I.sl i s h).mono (I.unf_ext e)
  slen := I.slen
  clen := I.clen
  asn := I.asn
  dead := I.dead
  live := fun j d h => by
    obtain ⟨a, h1, h2, h3, h4⟩ := I.live j d h
    have q : IsCA ca p a := ⟨j, d, h1, h⟩
    obtain ⟨o, o1, o2, o3⟩ := I.isca_same e J.sub q
    exact ⟨a, h1, h2.mono (I.unf_ext e) (o3.trans o1.symm), by unfold unf; rw [if_pos q], h4⟩
  dj := I.dj
  pas := fun k a h => (I.pas k a h).imp_right fun ⟨q, o, w⟩ => ⟨q, o, I.unf_ext e _ _ w⟩
theorem kd_mem {j : Nat} {d : D} (h : p[j]? = some (some d)) : (∀ l, d = .lst l → (kdOf p).l = true) ∧ (∀ ks ws, d = .dic ks ws → (kdOf p).d = true) ∧ (∀ c ns ds, d = .ins c ns ds → (kdOf p).i = true) := by
  have m := List.mem_of_getElem? h
  refine ⟨fun l e => ?_, fun ks ws e => ?_, fun c ns ds e => ?_⟩
  · subst e; exact List.any_eq_true.mpr ⟨_, m, rfl⟩
  · subst e; exact List.any_eq_true.mpr ⟨_, m, rfl⟩
  · subst e; exact List.any_eq_true.mpr ⟨_, m, rfl⟩
theorem StOk.ca_kind (I : StOk C F Z H ca σ ρ p) (e : Ext (frz F H ca p) F') {b : Addr} (q : IsCA ca p b) :
    ((kdOf p).l = true ∧ ∃ vs, F' b = some (.lst vs)) ∨ ((kdOf p).d = true ∧ ((∃ kvs, F' b = some (.dK kvs)) ∨ ∃ kvs, F' b = some (.dT kvs))) ∨ ((kdOf p).i = true ∧ ∃ c dx fs, F' b = some (.ins c dx fs)) := by
  obtain ⟨d, o, h1, h2, h3, h4, j, hj⟩ := I.isca q
  obtain ⟨m1, m2, m3⟩ := kd_mem hj
  have ef : F' b = H b := by
    rw [h2]; exact e _ _ (by unfold frz; rw [if_pos q]; exact h2)
  cases d with
  | lst l => obtain ⟨vs, g, _⟩ := h1; exact .inl ⟨m1 _ rfl, vs, ef.trans g⟩
  | dic ks ws =>
    refine .inr (.inl ⟨m2 _ _ rfl, ?_⟩)
    rcases h1 with ⟨kvs, g, _⟩ | ⟨kvs, g, _⟩
    · exact .inl ⟨kvs, ef.trans g⟩
    · exact .inr ⟨kvs, ef.trans g⟩
  | ins c ns ds => obtain ⟨dx, fs, g, _⟩ := h1; exact .inr (.inr ⟨m3 _ _ _ rfl, _, dx, fs, ef.trans g⟩)
  | _ => exact h1.elim
theorem unf_at {b : Addr} {o : HO} (h : F' b = some o) (n : ¬ IsCA ca p b) : unf F' ca p b = some o := by unfold unf; rw [if_neg n]; exact h
mutual
theorem StOk.leaf (I : StOk C F Z H ca σ ρ p) (e : Ext (frz F H ca p) F') : ∀ {v : V} {d : D}, Rep C.K F' v d → leafD (kdOf p) d = true → Rep C.K (unf F' ca p) v d
  | v, .non, h, _ => by unfold Rep at h ⊢; exact h
  | v, .bl b, h, _ => by unfold Rep at h ⊢; exact h
  | v, .int i, h, _ => by unfold Rep at h ⊢; exact h
  | v, .str s, h, _ => by unfold Rep at h ⊢; exact h
  | v, .ty n, h, _ => by unfold Rep at h ⊢; exact h
  | v, .cls c, h, _ => by unfold Rep at h ⊢; exact h
  | v, .scr _, _, k => by unfold leafD at k; exact nomatch k
  | v, .tup l, h, k => by
    unfold Rep at h ⊢
    unfold leafD at k
    obtain ⟨a, vs, h1, h2, h3, h4⟩ := h
    refine ⟨a, vs, h1, unf_at h2 fun q => ?_, h3, StOk.leafs I e h4 k⟩
    rcases I.ca_kind e q with ⟨_, _, w⟩ | ⟨_, ⟨_, w⟩ | ⟨_, w⟩⟩ | ⟨_, _, _, _, w⟩ <;> (rw [h2] at w; cases w)
  | v, .lst l, h, k => by
    unfold Rep at h ⊢
    unfold leafD at k
    rw [Bool.and_eq_true] at k
    obtain ⟨a, vs, h1, h2, h3, h4⟩ := h
    refine ⟨a, vs, h1, unf_at h2 fun q => ?_, h3, StOk.leafs I e h4 k.2⟩
    rcases I.ca_kind e q with ⟨kk, _, w⟩ | ⟨_, ⟨_, w⟩ | ⟨_, w⟩⟩ | ⟨_, _, _, _, w⟩
    · rw [kk] at k; exact nomatch k.1
    all_goals (rw [h2] at w; cases w)
  | v, .dic ks ws, h, k => by
    unfold Rep at h ⊢
    unfold leafD at k
    rw [Bool.and_eq_true] at k
    obtain ⟨a, h1, h2⟩ := h
    refine ⟨a, h1, ?_⟩
    have nn : ∀ o, F' a = some o → (∀ vs, o ≠ .lst vs) → (∀ c dx fs, o ≠ .ins c dx fs) → ¬ IsCA ca p a := fun o ho n1 n2 q => by
      rcases I.ca_kind e q with ⟨_, vs, w⟩ | ⟨kk, _⟩ | ⟨_, c, dx, fs, w⟩
      · rw [ho] at w; cases w; exact n1 _ rfl
      · rw [kk] at k; exact nomatch k.1
      · rw [ho] at w; cases w; exact n2 _ _ _ rfl
    rcases h2 with ⟨kvs, h2, h3, h4, h5⟩ | ⟨kvs, h2, h3, h4, h5⟩
    · exact .inl ⟨kvs, unf_at h2 (nn _ h2 (fun _ => nofun) (fun _ _ _ => nofun)), h3, h4, StOk.leafs I e h5 k.2⟩
    · exact .inr ⟨kvs, unf_at h2 (nn _ h2 (fun _ => nofun) (fun _ _ _ => nofun)), h3, h4, StOk.leafs I e h5 k.2⟩
  | v, .ins c ns ds, h, k => by
    unfold Rep at h ⊢
    unfold leafD at k
    rw [Bool.and_eq_true] at k
    obtain ⟨a, dx, fs, h1, h2, h3, h4⟩ := h
    refine ⟨a, dx, fs, h1, unf_at h2 fun q => ?_, h3, StOk.leafs I e h4 k.2⟩
    rcases I.ca_kind e q with ⟨_, _, w⟩ | ⟨_, ⟨_, w⟩ | ⟨_, w⟩⟩ | ⟨kk, _, _, _, w⟩
    · rw [h2] at w; cases w
    · rw [h2] at w; cases w
    · rw [h2] at w; cases w
    · rw [kk] at k; exact nomatch k.1
theorem StOk.leafs (I : StOk C F Z H ca σ ρ p) (e : Ext (frz F H ca p) F') : ∀ {vs : List V} {ds : List D}, RepL C.K F' vs ds → leafL (kdOf p) ds = true → RepL C.K (unf F' ca p) vs ds
  | [], [], _, _ => .nil
  | v :: vs, d :: ds, h, k => by
    unfold leafL at k
    rw [Bool.and_eq_true] at k
    exact .cons (StOk.leaf I e h.hd k.1) (StOk.leafs I e h.tl k.2)
  | [], _ :: _, h, _ => h.not_nc.elim
  | _ :: _, [], h, _ => h.not_cn.elim
end
end
section
variable {X : Cx} {C : Cxt} {e : Expr} {ee : E D} {es : List Expr} {ea : E (List D)} {eb : E Bool}
theorem e_tr (h : PE X e (tE C ee)) : PE X e (tE C (eTr ee)) := PE.imp h fun σ H Q ⟨F, Z, ca, ρ, p, I, h⟩ => by
  refine ⟨frz F H ca p, Z, _, thaw p ρ, noneP p, I.frzAll, ?_⟩
  unfold eTr at h
  cases q : ee (thaw p ρ) (noneP p) with
  | no => rw [q] at h; exact h.elim
  | ex x p' => rw [q] at h; exact h.elim
  | ok d p' =>
    rw [q] at h
    dsimp only at h
    split at h
    · rename_i hd
      intro F' H' eF I' v hv
      exact h (unf F' ca p) H' (I.unf_ext eF) (I.unfAll I' eF) v (I.leaf eF hv hd)
    · exact h.elim
theorem t_tr (h : PT X e (tT C eb)) : PT X e (tT C (tTr eb)) := PT.imp h fun σ H Q ⟨F, Z, ca, ρ, p, I, h⟩ => by
  refine ⟨frz F H ca p, Z, _, thaw p ρ, noneP p, I.frzAll, ?_⟩
  unfold tTr at h
  cases q : eb (thaw p ρ) (noneP p) with
  | no => rw [q] at h; exact h.elim
  | ex x p' => rw [q] at h; exact h.elim
  | ok d p' =>
    rw [q] at h
    intro F' H' eF I'
    exact h (unf F' ca p) H' (I.unf_ext eF) (I.unfAll I' eF)
theorem a_tr (h : PA X es (tA C ea)) : PA X es (tA C (aTr ea)) := PA.imp h fun σ H Q ⟨F, Z, ca, ρ, p, I, h⟩ => by
  refine ⟨frz F H ca p, Z, _, thaw p ρ, noneP p, I.frzAll, ?_⟩
  unfold aTr at h
  cases q : ea (thaw p ρ) (noneP p) with
  | no => rw [q] at h; exact h.elim
  | ex x p' => rw [q] at h; exact h.elim
  | ok d p' =>
    rw [q] at h
    dsimp only at h
    split at h
    · rename_i hd
      intro F' H' eF I' v hv
      exact h (unf F' ca p) H' (I.unf_ext eF) (I.unfAll I' eF) v (I.leafs eF hv hd)
    · exact h.elim
theorem n_tr (h : PE X e (tN C ee)) : PE X e (tN C (nTr ee)) := PE.imp h fun σ H Q ⟨F, Z, ca, ρ, p, I, h⟩ => by
  refine ⟨frz F H ca p, Z, _, thaw p ρ, noneP p, I.frzAll, ?_⟩
  unfold nTr at h
  cases q : ee (thaw p ρ) (noneP p) with
  | no => rw [q] at h; exact h.elim
  | ex x p' => rw [q] at h; exact h.elim
  | ok d p' =>
    rw [q] at h
    cases d with
    | lst l =>
      dsimp only at h
      split at h
      · rename_i hd
        intro F' H' eF I' a ha hf hz hc
        have ha' : Holds C.K (unf F' ca p) H' a (.lst l) := by
          obtain ⟨vs, h1, h2, h3⟩ := ha
          exact ⟨vs, h1, h2, I.leafs eF h3 hd⟩
        refine h (unf F' ca p) H' (I.unf_ext eF) (I.unfAll I' eF) a ha' ?_ hz fun j hj => ?_
        · unfold unf
          split
          · rfl
          · exact hf
        · have hjl : j < p.length := by rw [← I.clen]; exact (List.getElem?_eq_some_iff.mp hj).1
          cases w : p[j] with
          | none =>
            have := I.dead j (by rw [List.getElem?_eq_getElem hjl, w])
            rw [hj] at this; cases this
          | some d =>
            obtain ⟨o, _, o2, _⟩ := I.isca_same eF I'.sub ⟨j, d, hj, by rw [List.getElem?_eq_getElem hjl, w]⟩
            rw [hf] at o2; cases o2
      · exact h.elim
    | _ => exact h.elim
end

/-! ### a call that hands cells over -/
section
variable {C : Cxt} {F H F' H' : Hp} {Z : Zd} {ca : List (Option Addr)} {σ : St} {ρ : List Sl} {p p2 : List Cell}
theorem getC_get : ∀ {js : List Nat} {p : List Cell} {ds : List D}, getC js p = some ds → ds.length = js.length ∧ ∀ (k : Nat) j, js[k]? = some j → ∃ d, ds[k]? = some d ∧ p[j]? = some (some d)
  | [], p, ds, h => by cases h; exact ⟨rfl, fun k j h => by simp at h⟩
  | j :: js, p, ds, h => by
    unfold getC at h
    split at h
    · rename_i d hd
      cases q : getC js p with
      | none => rw [q] at h; cases h
      | some es =>
        rw [q] at h
        cases h
        obtain ⟨h1, h2⟩ := getC_get q
        refine ⟨by rw [List.length_cons, List.length_cons, h1], fun k j' hk => ?_⟩
        cases k with
        | zero => simp at hk; subst hk; exact ⟨d, rfl, hd⟩
        | succ k => simpa using h2 k j' (by simpa using hk)
    · cases h
theorem putC_get : ∀ {js : List Nat} {cs p p2 : List Cell}, putC js cs p = some p2 → js.Nodup → p2.length = p.length ∧ (∀ (j : Nat), j ∉ js → p2[j]? = p[j]?) ∧ ∀ (k : Nat) j, js[k]? = some j → j < p.length → ∃ d, cs[k]? = some (some d) ∧ p2[j]? = some (some d)
  | [], _, _, _, h, _ => by cases h; exact ⟨rfl, fun _ _ => rfl, fun k j h => by simp at h⟩
  | j :: js, some d :: cs, p, p2, h, nd => by
    unfold putC at h
    obtain ⟨n1, n2⟩ := List.nodup_cons.mp nd
    obtain ⟨h1, h2, h3⟩ := putC_get h n2
    rw [List.length_set] at h1
    refine ⟨h1, fun i hi => ?_, fun k j' hk hj => ?_⟩
    · have hi' : i ∉ js ∧ i ≠ j := by
        refine ⟨fun q => hi (List.mem_cons_of_mem _ q), fun q => hi (by rw [q]; exact List.mem_cons_self ..)⟩
      rw [h2 i hi'.1, List.getElem?_set_ne (Ne.symm hi'.2)]
    · cases k with
      | zero =>
        simp at hk; subst hk
        refine ⟨d, rfl, ?_⟩
        rw [h2 j n1, List.getElem?_set_self hj]
      | succ k => simpa using h3 k j' (by simpa using hk) (by rw [List.length_set]; exact hj)
  | _ :: _, none :: _, _, _, h, _ => by unfold putC at h; cases h
  | _ :: _, [], _, _, h, _ => by unfold putC at h; cases h
/-- behind the call -/
theorem StOk.called {as : List Addr} {js : List Nat} {cs : List Cell} {ds : List D} (I : StOk C F Z H ca σ ρ p) (fe : FnEnd C.K F H as F' H' cs) (hg : getC js p = some ds) (hp : putC js cs p = some p2) (nd : js.Nodup) (hl : as.length = js.length)
    (ha : ∀ (k : Nat) j, js[k]? = some j → ∃ a, ca[j]? = some (some a) ∧ as[k]? = some a) : StOk C F' Z H' ca σ ρ p2 := by
  obtain ⟨g1, g2⟩ := getC_get hg
  obtain ⟨q1, q2, q3⟩ := putC_get hp nd
  -- the addresses
  have mem : ∀ a, a ∈ as → ∃ k j, js[k]? = some j ∧ as[k]? = some a ∧ ca[j]? = some (some a) := fun a m => by
    obtain ⟨k, hk⟩ := List.mem_iff_getElem?.mp m
    have hk2 : k < js.length := by rw [← hl]; exact (List.getElem?_eq_some_iff.mp hk).1
    obtain ⟨b, e1, e2⟩ := ha k js[k] (List.getElem?_eq_getElem hk2)
    rw [hk] at e2
    cases e2
    exact ⟨k, js[k], List.getElem?_eq_getElem hk2, hk, e1⟩
  have cell : ∀ a, a ∈ as → F a = none ∧ Z.z a = none := fun a m => by
    obtain ⟨k, j, e1, e2, e3⟩ := mem a m
    obtain ⟨d, _, hd⟩ := g2 k j e1
    obtain ⟨b, z1, _, z3, z4⟩ := I.live j d hd
    rw [e3] at z1
    cases z1
    exact ⟨z3, z4⟩
  refine ⟨fe.sub, fun a o h => fe.kept a o (I.zs a o h) fun m => ?_, fun a o h => ?_, fun i s h => (I.sl i s h).mono fe.f, I.slen, by rw [q1]; exact I.clen, I.asn, fun j h => ?_, fun j d h => ?_, I.dj, fun k a h => (I.pas k a h).imp_right fun ⟨q, o, w⟩ => ⟨q, o, fe.f _ _ w⟩⟩
  · rw [(cell a m).2] at h; cases h
  · cases w : F' a with
    | none => rfl
    | some u =>
      rcases fe.new a u w with q | q | q
      · rw [I.zf a o h] at q; cases q
      · rw [I.zs a o h] at q; cases q
      · rw [(cell a q).2] at h; cases h
  · by_cases m : j ∈ js
    · obtain ⟨k, hk⟩ := List.mem_iff_getElem?.mp m
      obtain ⟨d, _, hd⟩ := g2 k j hk
      obtain ⟨d', _, hd'⟩ := q3 k j hk (List.getElem?_eq_some_iff.mp hd).1
      rw [h] at hd'; cases hd'
    · rw [q2 j m] at h
      exact I.dead j h
  · by_cases m : j ∈ js
    · obtain ⟨k, hk⟩ := List.mem_iff_getElem?.mp m
      obtain ⟨d0, _, hd0⟩ := g2 k j hk
      obtain ⟨d', c', hd'⟩ := q3 k j hk (List.getElem?_eq_some_iff.mp hd0).1
      rw [h] at hd'
      cases hd'
      obtain ⟨a, e1, e2⟩ := ha k j hk
      obtain ⟨w1, w2⟩ := fe.cells k a d e2 c'
      obtain ⟨b, z1, _, z3, z4⟩ := I.live j d0 hd0
      rw [e1] at z1
      cases z1
      exact ⟨a, e1, w1, w2, z4⟩
    · rw [q2 j m] at h
      obtain ⟨a, z1, z2, z3, z4⟩ := I.live j d h
      have na : a ∉ as := fun q => by
        obtain ⟨k, j', e1, e2, e3⟩ := mem a q
        have := I.dj _ _ _ z1 e3
        subst this
        exact m (List.mem_of_getElem? e1)
      obtain ⟨o, ho⟩ := z2.ob
      refine ⟨a, z1, z2.mono fe.f ((fe.kept a o ho na).trans ho.symm), ?_, z4⟩
      cases w : F' a with
      | none => rfl
      | some u =>
        rcases fe.new a u w with q | q | q
        · rw [z3] at q; cases q
        · rw [ho] at q; cases q
        · exact absurd q na
/-- where the cells stand -/
theorem StOk.addrs (I : StOk C F Z H ca σ ρ p) : ∀ {js : List Nat} {ds : List D}, getC js p = some ds → ∃ as : List Addr, as.length = js.length ∧ ∀ (k : Nat) j, js[k]? = some j → ∃ a, ca[j]? = some (some a) ∧ as[k]? = some a
  | [], _, _ => ⟨[], rfl, fun k j h => by simp at h⟩
  | j :: js, ds, h => by
    unfold getC at h
    split at h
    · rename_i d hd
      cases q : getC js p with
      | none => rw [q] at h; cases h
      | some es =>
        obtain ⟨as, h1, h2⟩ := StOk.addrs I q
        obtain ⟨a, e1, _⟩ := I.live j d hd
        refine ⟨a :: as, by rw [List.length_cons, List.length_cons, h1], fun k j' hk => ?_⟩
        cases k with
        | zero => simp at hk; subst hk; exact ⟨a, e1, rfl⟩
        | succ k => simpa using h2 k j' (by simpa using hk)
    · cases h
end
section
variable {X : Cx} {C : Cxt} {x : Str} {k j : Nat} {js co : List Nat} {f : List Sl → List Cell → R D} {e : Expr} {es : List Expr} {ers : E (List Sl)} {p pos : Pos}
theorem e_callC (c : C8.Cal X.prog X.w X.K X.mg X.base k x (spF C.K co f) []) (hr : Room j X.A) (hk : k ≤ j) (hg : Gl X x) (nd : js.Nodup) (ha : PA X (e :: es) (tAs C js co 0 ers))
    (hdb : (x == ("__debug__" : Str)) = false := by decide) (he : starEach (e :: es) X.env = (false, eval e X.env) :: starEach es X.env := by rfl) (hpl : (backTo pos (starEach es X.env)).any (·.1) = false := by rfl) :
    PE X (.Call (.Name x p) (e :: es) [] pos) (tE C (eCallC js f ers)) :=
  PE.imp (C8.pe_c c hr hk hg ha hdb he hpl) fun σ H Q ⟨F, Z, ca, ρ, p, I, h⟩ => ⟨F, Z, ca, ρ, p, I, h.bind fun args p1 F1 H1 e1 I1 h1 vs hvs => by
    split at h1
    · rename_i ds hg
      split at h1
      · rename_i d cs hf
        split at h1
        · rename_i p2 hp
          obtain ⟨as, al, ha⟩ := I1.addrs hg
          obtain ⟨g1, g2⟩ := getC_get hg
          have ra := hvs as (fun k j hk a h => by
            obtain ⟨b, b1, b2⟩ := ha k j hk
            rw [h] at b1
            cases b1
            exact b2) (fun j m => by
            obtain ⟨k, hk⟩ := List.mem_iff_getElem?.mp m
            obtain ⟨b, b1, _⟩ := ha k j hk
            exact ⟨b, b1⟩)
          have nda : as.Nodup := by
            refine List.pairwise_iff_getElem.mpr fun i k hi hkl hik hh => ?_
            have hk' : k < js.length := by omega
            replace hh : as[i]? = as[k]? := by rw [List.getElem?_eq_getElem hi, List.getElem?_eq_getElem hkl, hh]
            obtain ⟨b, b1, b2⟩ := ha i js[i] (List.getElem?_eq_getElem (by omega))
            obtain ⟨b', c1, c2⟩ := ha k js[k] (List.getElem?_eq_getElem hk')
            rw [b2, c2] at hh
            cases hh
            have := I1.dj _ _ _ b1 c1
            exact absurd ((List.getElem_inj nd).mp this) (by omega)
          refine ⟨F1, as, args, ds, I1.sub, by rw [List.append_nil]; exact ra, nda, al.trans g1.symm, fun k a d hka hkd => ?_, d, cs, hf, fun F' H' v fe hv => ?_⟩
          · have hk' : k < js.length := by rw [← al]; exact (List.getElem?_eq_some_iff.mp hka).1
            obtain ⟨b, b1, b2⟩ := ha k js[k] (List.getElem?_eq_getElem hk')
            rw [hka] at b2
            cases b2
            obtain ⟨d', d1, d2⟩ := g2 k js[k] (List.getElem?_eq_getElem hk')
            rw [hkd] at d1
            cases d1
            obtain ⟨a', z1, z2, z3, _⟩ := I1.live _ _ d2
            rw [b1] at z1
            cases z1
            exact ⟨z2, z3⟩
          · exact h1 F' H' fe.f (I1.called fe hg hp nd al ha) v hv
        · exact h1.elim
      · exact h1.elim
    · exact h1.elim⟩
end
end PL
/-! PL13: cells made, changed, frozen. -/
namespace PL
open PySem PySem.Spec L2

/-! ### making, freezing -/
/-- slot i gets a new object: cell j -/
def xNew (i j : Nat) (e : E D) : S := fun ρ p => RS.of (e ρ p) ρ fun d p1 => if i < ρ.length ∧ j < p1.length then .ok .nx (ρ.set i (.cell j)) (p1.set j (some d)) else .no
/-- the cell j of slot i is a value from here on -/
def xFrz (i j : Nat) (s : S) : S := fun ρ p => match ρ[i]?, p[j]? with
  | some (.cell j'), some (some d) => if j' = j then s (ρ.set i (.v d)) (p.set j none) else .no
  | _, _ => .no
/-- what a method does to its cell: the new content, the result -/
def eCM (i j : Nat) (f : D → List D → Option (D × D)) (es : E (List D)) : E D := fun ρ p => match ρ[i]?, p[j]? with
  | some (.cell j'), some (some (.lst _)) => if j' = j then (es ρ p).bind fun ds p1 => match p1[j]? with
      | some (some (.lst l)) => (match f (.lst l) ds with
        | some (d', r) => .ok r (p1.set j (some d'))
        | none => .no)
      | _ => .no
    else .no
  | _, _ => .no
/-- return a new object; return an own cell -/
def xRetNew (e : E D) : S := fun ρ p => RS.of (e ρ p) ρ fun d p1 => .ok (.rn d) ρ p1
def xRetC (i j : Nat) : S := fun ρ p => match ρ[i]?, p[j]? with
  | some (.cell j'), some (some d) => if j' = j then .ok (.rn d) ρ (p.set j none) else .no
  | _, _ => .no
/-- x[k] = .. of a list's cell -/
def xPut (i j : Nat) (ee ei : E D) : S := fun ρ p => RS.of (ee ρ p) ρ fun d p1 => match ρ[i]? with
  | some (.cell j') => if j' = j then RS.of (ei ρ p1) ρ fun ix p2 => match ix, p2[j]? with
      | .int k, some (some (.lst l)) => (match ixN l.length k with
        | some m => .ok .nx ρ (p2.set j (some (.lst (l.set m d))))
        | none => .no)
      | _, _ => .no
    else .no
  | _ => .no
/-- x[k], of a list's cell -/
def eCIx (i j : Nat) (ei : E D) : E D := fun ρ p => match ρ[i]? with
  | some (.cell j') => if j' = j then (ei ρ p).bind fun ix p1 => match ix, p1[j]? with
      | .int k, some (some (.lst l)) => lift (atI l k) p1
      | _, _ => .no
    else .no
  | _ => .no

section
variable {C : Cxt} {F H F' H' : Hp} {Z : Zd} {ca : List (Option Addr)} {σ σ' : St} {ρ ρ' : List Sl} {p p' : List Cell}
/-- a slot with a cell that lives -/
theorem StOk.cellAt (I : StOk C F Z H ca σ ρ p) {i j : Nat} {d : D} (e : ρ[i]? = some (.cell j)) (h : p[j]? = some (some d)) :
    ∃ a, σ[i]? = some (some (.ref a)) ∧ ca[j]? = some (some a) ∧ Holds C.K F H a d ∧ F a = none ∧ Z.z a = none := by
  obtain ⟨c1, a, ev, c2⟩ := I.sl i _ e
  obtain ⟨b, e1, e2, e3, e4⟩ := I.live j d h
  have := c2 b e1
  subst this
  exact ⟨b, ev, e1, e2, e3, e4⟩
/-- its content is changed -/
theorem StOk.put (I : StOk C F Z H ca σ ρ p) {j : Nat} {a : Addr} {o : HO} {d : D} (e : ca[j]? = some (some a)) (hj : j < p.length) (hd : Holds C.K F (upd H a o) a d) (hf : F a = none) (hz : Z.z a = none) :
    StOk C F Z (upd H a o) ca σ ρ (p.set j (some d)) where
  sub := fun b u h => by
    have hb : b ≠ a := fun q => by rw [q, hf] at h; cases h
    rw [upd_ne hb]; exact I.sub _ _ h
  zs := fun b u h => by
    have hb : b ≠ a := fun q => by rw [q, hz] at h; cases h
    rw [upd_ne hb]; exact I.zs _ _ h
  zf := I.zf
  sl := I.sl
  slen := I.slen
  clen := by rw [List.length_set]; exact I.clen
  asn := I.asn
  dead := fun k h => by
    by_cases q : j = k
    · subst q; rw [List.getElem?_set_self hj] at h; cases h
    · rw [List.getElem?_set_ne q] at h; exact I.dead k h
  live := fun k d' h => by
    by_cases q : j = k
    · subst q
      rw [List.getElem?_set_self hj] at h
      cases h
      exact ⟨a, e, hd, hf, hz⟩
    · rw [List.getElem?_set_ne q] at h
      obtain ⟨b, h1, h2, h3, h4⟩ := I.live k d' h
      have hb : b ≠ a := fun w => by subst w; exact q (I.dj _ _ _ e h1)
      exact ⟨b, h1, h2.mono .rfl' (by rw [upd_ne hb]), h3, h4⟩
  dj := I.dj
  pas := I.pas
/-- a new one -/
theorem StOk.new (I : StOk C F Z H ca σ ρ p) {i j : Nat} {a : Addr} {d : D} (hi : i < ρ.length) (hj : j < p.length) (hd : Holds C.K F H a d) (hf : F a = none) (hz : Z.z a = none) (hc : ∀ (k : Nat), ca[k]? ≠ some (some a)) (hco : C.co[j]? = some i) (hna : C.na ≤ j) :
    StOk C F Z H (ca.set j (some a)) (σ.set i (some (.ref a))) (ρ.set i (.cell j)) (p.set j (some d)) where
  sub := I.sub
  zs := I.zs
  zf := I.zf
  sl := fun k s h => by
    by_cases q : i = k
    · subst q
      rw [List.getElem?_set_self hi] at h
      cases h
      refine ⟨hco, a, by rw [List.getElem?_set_self (by rw [← I.slen]; exact hi)], fun b hb => ?_⟩
      rw [List.getElem?_set_self (by rw [I.clen]; exact hj)] at hb
      cases hb; rfl
    · rw [List.getElem?_set_ne q] at h
      have z := I.sl k s h
      cases s with
      | un => trivial
      | v d => obtain ⟨v, h1, h2⟩ := z; exact ⟨v, by rw [List.getElem?_set_ne q]; exact h1, h2⟩
      | cell j' =>
        obtain ⟨z1, b, z2, z3⟩ := z
        refine ⟨z1, b, by rw [List.getElem?_set_ne q]; exact z2, fun b' hb => ?_⟩
        have hjj : j ≠ j' := fun w => by subst w; rw [hco] at z1; cases z1; exact q rfl
        rw [List.getElem?_set_ne hjj] at hb
        exact z3 b' hb
  slen := by rw [List.length_set, List.length_set]; exact I.slen
  clen := by rw [List.length_set, List.length_set]; exact I.clen
  asn := I.asn
  dead := fun k h => by
    by_cases q : j = k
    · subst q; rw [List.getElem?_set_self hj] at h; cases h
    · rw [List.getElem?_set_ne q] at h ⊢; exact I.dead k h
  live := fun k d' h => by
    by_cases q : j = k
    · subst q
      rw [List.getElem?_set_self hj] at h
      cases h
      exact ⟨a, by rw [List.getElem?_set_self (by rw [I.clen]; exact hj)], hd, hf, hz⟩
    · rw [List.getElem?_set_ne q] at h
      obtain ⟨b, h1, h2⟩ := I.live k d' h
      exact ⟨b, by rw [List.getElem?_set_ne q]; exact h1, h2⟩
  dj := fun k l b h1 h2 => by
    have hjl : j < ca.length := by rw [I.clen]; exact hj
    by_cases q : j = k
    · subst q
      rw [List.getElem?_set_self hjl] at h1
      cases h1
      by_cases w : j = l
      · exact w
      · rw [List.getElem?_set_ne w] at h2; exact absurd h2 (hc l)
    · rw [List.getElem?_set_ne q] at h1
      by_cases w : j = l
      · subst w
        rw [List.getElem?_set_self hjl] at h2
        cases h2
        exact absurd h1 (hc k)
      · rw [List.getElem?_set_ne w] at h2; exact I.dj _ _ _ h1 h2
  pas := fun k b h => by
    have hk : k < Z.as.length := (List.getElem?_eq_some_iff.mp h).1
    have : j ≠ k := by have := I.asn; omega
    rw [List.getElem?_set_ne this]
    exact I.pas k b h
/-- one is frozen -/
theorem StOk.kill (I : StOk C F Z H ca σ ρ p) {i j : Nat} {d : D} (e : ρ[i]? = some (.cell j)) (h : p[j]? = some (some d)) : ∃ F', Ext F F' ∧ StOk C F' Z H (ca.set j none) σ (ρ.set i (.v d)) (p.set j none) := by
  obtain ⟨a, ev, e1, e2, e3, e4⟩ := I.cellAt e h
  obtain ⟨o, ho⟩ := e2.ob
  have hj : j < p.length := (List.getElem?_eq_some_iff.mp h).1
  have hjc : j < ca.length := by rw [I.clen]; exact hj
  have hi : i < ρ.length := (List.getElem?_eq_some_iff.mp e).1
  have ef : Ext F (upd F a o) := .upd e3
  have hs : i < σ.length := by rw [← I.slen]; exact hi
  have I2 : StOk C (upd F a o) Z H (ca.set j none) σ ρ (p.set j none) := {
    sub := fun b u h => by
      by_cases hb : b = a
      · subst hb; rw [upd_same] at h; rw [← h]; exact ho
      · rw [upd_ne hb] at h; exact I.sub _ _ h
    zs := I.zs
    zf := fun b u h => by
      have hb : b ≠ a := fun q => by rw [q, e4] at h; cases h
      rw [upd_ne hb]; exact I.zf _ _ h
    sl := fun k s hk => by
      have z := (I.sl k s hk).mono ef
      cases s with
      | un => trivial
      | v d => exact z
      | cell j' =>
        obtain ⟨z1, b, z2, z3⟩ := z
        refine ⟨z1, b, z2, fun b' hb => ?_⟩
        by_cases q : j = j'
        · subst q; rw [List.getElem?_set_self hjc] at hb; cases hb
        · rw [List.getElem?_set_ne q] at hb; exact z3 b' hb
    slen := I.slen
    clen := by rw [List.length_set, List.length_set]; exact I.clen
    asn := I.asn
    dead := fun k hk => by
      by_cases q : j = k
      · subst q; rw [List.getElem?_set_self hjc]
      · rw [List.getElem?_set_ne q] at hk ⊢; exact I.dead k hk
    live := fun k d' hk => by
      by_cases q : j = k
      · subst q; rw [List.getElem?_set_self hj] at hk; cases hk
      · rw [List.getElem?_set_ne q] at hk ⊢
        obtain ⟨b, z1, z2, z3, z4⟩ := I.live k d' hk
        have hb : b ≠ a := fun w => by subst w; exact q (I.dj _ _ _ e1 z1)
        exact ⟨b, z1, z2.mono ef rfl, by rw [upd_ne hb]; exact z3, z4⟩
    dj := fun k l b h1 h2 => by
      have key : ∀ {k : Nat}, (ca.set j none)[k]? = some (some b) → ca[k]? = some (some b) := fun {k} h => by
        by_cases q : j = k
        · subst q; rw [List.getElem?_set_self hjc] at h; cases h
        · rw [List.getElem?_set_ne q] at h; exact h
      exact I.dj _ _ _ (key h1) (key h2)
    pas := fun k b hk => by
      by_cases q : j = k
      · subst q
        refine .inr ⟨List.getElem?_set_self hjc, o, ?_⟩
        rcases I.pas j b hk with w | ⟨w, _⟩
        · rw [e1] at w; cases w; exact upd_same
        · rw [e1] at w; cases w
      · rw [List.getElem?_set_ne q]; exact (I.pas k b hk).imp_right fun ⟨q, o, w⟩ => ⟨q, o, ef _ _ w⟩ }
  refine ⟨_, ef, ?_⟩
  have := I2.set (v := .ref a) hi (e2.rep ho e3)
  rw [show σ.set i (some (.ref a)) = σ from by
    apply List.ext_getElem?
    intro k
    by_cases q : i = k
    · subst q; rw [List.getElem?_set_self hs, ev]
    · rw [List.getElem?_set_ne q]] at this
  exact this
/-- an own one is given away -/
theorem StOk.give (I : StOk C F Z H ca σ ρ p) {j : Nat} {d : D} (h : p[j]? = some (some d)) (hna : C.na ≤ j) : ∃ a, ca[j]? = some (some a) ∧ Holds C.K F H a d ∧ F a = none ∧ Z.z a = none ∧ (∀ (k : Nat), (ca.set j none)[k]? ≠ some (some a)) ∧ StOk C F Z H (ca.set j none) σ ρ (p.set j none) := by
  obtain ⟨a, e1, e2, e3, e4⟩ := I.live j d h
  have hj : j < p.length := (List.getElem?_eq_some_iff.mp h).1
  have hjc : j < ca.length := by rw [I.clen]; exact hj
  refine ⟨a, e1, e2, e3, e4, fun k hk => ?_, { I with
    sl := fun k s hk => by
      have z := I.sl k s hk
      cases s with
      | un => trivial
      | v d => exact z
      | cell j' =>
        obtain ⟨z1, b, z2, z3⟩ := z
        refine ⟨z1, b, z2, fun b' hb => ?_⟩
        by_cases q : j = j'
        · subst q; rw [List.getElem?_set_self hjc] at hb; cases hb
        · rw [List.getElem?_set_ne q] at hb; exact z3 b' hb
    clen := by rw [List.length_set, List.length_set]; exact I.clen
    dead := fun k hk => by
      by_cases q : j = k
      · subst q; rw [List.getElem?_set_self hjc]
      · rw [List.getElem?_set_ne q] at hk ⊢; exact I.dead k hk
    live := fun k d' hk => by
      by_cases q : j = k
      · subst q; rw [List.getElem?_set_self hj] at hk; cases hk
      · rw [List.getElem?_set_ne q] at hk ⊢; exact I.live k d' hk
    dj := fun k l b h1 h2 => by
      have key : ∀ {k : Nat}, (ca.set j none)[k]? = some (some b) → ca[k]? = some (some b) := fun {k} h => by
        by_cases q : j = k
        · subst q; rw [List.getElem?_set_self hjc] at h; cases h
        · rw [List.getElem?_set_ne q] at h; exact h
      exact I.dj _ _ _ (key h1) (key h2)
    pas := fun k b hk => by
      have hk' : k < Z.as.length := (List.getElem?_eq_some_iff.mp hk).1
      have : j ≠ k := by have := I.asn; omega
      rw [List.getElem?_set_ne this]; exact I.pas k b hk }⟩
  by_cases q : j = k
  · subst q; rw [List.getElem?_set_self hjc] at hk; cases hk
  · rw [List.getElem?_set_ne q] at hk; exact q (I.dj _ _ _ e1 hk)
end

section
variable {X : Cx} {C : Cxt} {pos : Pos} {e : Expr} {ee ei : E D} {sts : List Stmt} {s : S}
theorem x_new (i j : Nat) {x : Str} {pos' : Pos} (he : PE X e (tN C ee)) (hN : X.N.Nodup) (hi : X.N[i]? = some x := by rfl) (hx : Loc X.env.scope x := by first | exact .inl rfl | exact .inr rfl) (hs : swapsWith e (some (.Name x pos')) pos.line X.env = pure false := by rfl)
    (hf : X.fn x = true ∨ X.env.scope.names.lookup x = some .local := by first | exact .inl rfl | exact .inr rfl) (hco : C.co[j]? = some i := by rfl) (hna : C.na ≤ j := by exact Nat.le_of_ble_eq_true rfl) : PS X (.Assign [.Name x pos'] e pos) (tS C (xNew i j ee)) :=
  PS.imp (ps_set hN hi hx he hs hf) fun De σ H ⟨F, Z, ca, ρ, p, I, h⟩ => ⟨F, Z, ca, ρ, p, I, h.of fun d p1 F1 H1 e1 I1 h1 a hd hfa hz hc => by
    split at h1
    · rename_i q
      exact h1 F1 H1 _ _ .rfl' (I1.new q.1 q.2 hd hfa hz hc hco hna)
    · exact h1.elim⟩
theorem x_newLc (i j : Nat) {y : Str} {py spos lpos : Pos} {elt tg it : Expr} {ifs : List Expr} {scope : Scope} {own : List (Str × Nat)} {ei : E (List D)} {g : G} {ec : E Bool} (hc : X.calm = true) (hN : X.N.Nodup) (hi : PI X tg it (tI C ei)) (ok : blkB X.N X.env.scope scope own = true)
    (hg : ∀ (s : Shared) (H : Hp) (Cc : Addr) (cl : List (Str × Addr)) (fp : List Addr), PG (X.blk s H scope (compEnvC scope cl Cc X.env) fp) tg (tG C g))
    (ht : ∀ (s : Shared) (H : Hp) (Cc : Addr) (cl : List (Str × Addr)) (fp : List Addr), PTs (X.blk s H scope (compEnvC scope cl Cc X.env) fp) ifs (tT C ec))
    (he : ∀ (s : Shared) (H : Hp) (Cc : Addr) (cl : List (Str × Addr)) (fp : List Addr), PE (X.blk s H scope (compEnvC scope cl Cc X.env) fp) elt (tE C ee))
    (hts : ∀ i ∈ g.ts, i ∈ own.map (·.2)) (hs : ∀ x, foldedSetIterable it X.env x = pure x := by intro _; rfl) (hy : X.N[i]? = some y := by rfl) (hyl : X.env.scope.names.lookup y = some .local := by rfl)
    (hsw : swapsWith (.ListComp elt [⟨tg, it, ifs, 0⟩] scope lpos) (some (.Name y py)) spos.line X.env = pure true := by rfl) (hco : C.co[j]? = some i := by rfl) (hna : C.na ≤ j := by exact Nat.le_of_ble_eq_true rfl) :
    PS X (.Assign [.Name y py] (.ListComp elt [⟨tg, it, ifs, 0⟩] scope lpos) spos) (tS C (xNew i j (eComp ei g ec ee (own.map (·.2))))) :=
  PS.imp (ps_setLc hc hN hy hyl hsw hi (blk_ok ok) hg ht he hs) fun De σ H ⟨F, Z, ca, ρ, p, I, h⟩ => lc_imp rfl hts ⟨F, Z, ca, ρ, p, I, h.of fun d p1 F1 H1 e1 I1 h1 a hd hfa hz hc => by
    split at h1
    · rename_i q
      exact h1 F1 H1 _ _ .rfl' (I1.new q.1 q.2 hd hfa hz hc hco hna)
    · exact h1.elim⟩
theorem x_retNew (he : PE X e (tN C ee)) : PS X (.Return (some e) pos) (tS C (xRetNew ee)) :=
  PS.imp (ps_ret he) fun De σ H ⟨F, Z, ca, ρ, p, I, h⟩ => ⟨F, Z, ca, ρ, p, I, h.of fun d p1 F1 H1 e1 I1 h1 a hd hf hz hc => h1 F1 H1 ca σ a .rfl' I1 hd hf hz hc⟩
theorem x_retC (i j : Nat) {x : Str} {px : Pos} (hN : X.N[i]? = some x := by rfl) (hv : Vis X.env.scope x := by first | exact Or.inl rfl | exact Or.inr (Or.inl rfl) | exact Or.inr (Or.inr rfl)) (hd : (x == ("__debug__" : Str)) = false := by decide)
    (hcd : (x == ("__classdict__" : Str)) = false := by decide) (hna : C.na ≤ j := by exact Nat.le_of_ble_eq_true rfl) : PS X (.Return (some (.Name x px)) pos) (tS C (xRetC i j)) :=
  PS.imp (ps_ret (pe_var hN hv hd hcd)) fun De σ H ⟨F, Z, ca, ρ, p, I, h⟩ => by
    unfold xRetC at h
    split at h
    · rename_i j' d e1 e2
      split at h
      · rename_i ej
        subst ej
        obtain ⟨a, ev, _⟩ := I.cellAt e1 e2
        obtain ⟨b, w1, w2, w3, w4, w5, w6⟩ := I.give e2 hna
        obtain ⟨_, ev', w1', _⟩ := I.cellAt e1 e2
        rw [w1] at w1'
        cases w1'
        exact ⟨.ref b, ev', h F H _ σ b .rfl' w6 w2 w3 w4 w5⟩
      · exact h.elim
    · exact h.elim
theorem xs_frz (i j : Nat) (h : PSs X sts (tS C s)) : PSs X sts (tS C (xFrz i j s)) := PSs.imp h fun De σ H ⟨F, Z, ca, ρ, p, I, h⟩ => by
  unfold xFrz at h
  split at h
  · rename_i j' d e1 e2
    split at h
    · rename_i ej
      subst ej
      obtain ⟨F', ef, I'⟩ := I.kill e1 e2
      exact ⟨F', Z, _, _, _, I', RnS.mono h ef⟩
    · exact h.elim
  · exact h.elim
/-- what a method of lists does to a cell -/
def CM (K : PySem.W.Frag) (r : V → List V → Hp → VK → Prop) (f : D → List D → Option (D × D)) : Prop :=
  ∀ F H a l vs ds d' dr Q, Ext F H → Holds K F H a (.lst l) → F a = none → RepL K F vs ds → f (.lst l) ds = some (d', dr) → (∀ o v, Holds K F (upd H a o) a d' → Rep K F v dr → Q v (upd H a o)) → r (.ref a) vs H Q
theorem cm_end {r : V → List V → Hp → VK → Prop} {f : D → List D → Option (D × D)} (hm : CM C.K r f) {F H : Hp} {Z : Zd} {ca : List (Option Addr)} {σ : St} {ρ : List Sl} {p1 : List Cell} {i j : Nat} {a : Addr} {ds : List D} {vs : List V} {Q : VK} (I1 : StOk C F Z H ca σ ρ p1)
    (e : ρ[i]? = some (.cell j)) (ev : σ[i]? = some (some (.ref a))) (hv : RepL C.K F vs ds)
    (h1 : Rn C F Z ca σ ρ (match p1[j]? with
      | some (some (.lst l)) => (match f (.lst l) ds with
        | some (d', r) => .ok r (p1.set j (some d'))
        | none => .no)
      | _ => .no) (kE C Q)) : r (.ref a) vs H Q := by
  split at h1
  · rename_i l q
    split at h1
    · rename_i d' dr ef
      obtain ⟨b, ev', e1, e2, e3, e4⟩ := I1.cellAt e q
      rw [ev] at ev'
      cases ev'
      exact hm F H a l vs ds d' dr Q I1.sub e2 e3 hv ef fun o v hd hr => h1 F _ .rfl' (I1.put e1 (List.getElem?_eq_some_iff.mp q).1 hd e3 e4) v hr
    · exact h1.elim
  · exact h1.elim
variable {name : Str} {id : String} {apos cpos : Pos} {r : V → List V → Hp → VK → Prop} {f : D → List D → Option (D × D)} {es : List Expr} {ea : E (List D)}
theorem e_cm0 (i j : Nat) {x : Str} {px : Pos} (pa : PlainAttrs "list") (slot : Slot "list" name id) (hty : typeOf (.builtin id) = pure (.type "method_descriptor")) (hm : MtR X id r) (hf : CM C.K r f) (hK : X.K = C.K := by rfl) (hN : X.N[i]? = some x := by rfl)
    (hv : Vis X.env.scope x := by first | exact Or.inl rfl | exact Or.inr (Or.inl rfl) | exact Or.inr (Or.inr rfl)) (hd : (x == ("__debug__" : Str)) = false := by decide) (hcd : (x == ("__classdict__" : Str)) = false := by decide)
    (hbase : attributeBase (.Name x px) name X.env (eval (.Name x px) X.env) = eval (.Name x px) X.env := by rfl) (hline : (apos.endLine == cpos.line) = true := by rfl) :
    PE X (.Call (.Attribute (.Name x px) name apos) [] [] cpos) (tE C (eCM i j f eNil)) :=
  PE.imp (pe_bm0 pa slot hty hm (pe_var hN hv hd hcd) hbase hline) fun σ H Q ⟨F, Z, ca, ρ, p, I, h⟩ => by
    unfold eCM at h
    split at h
    · rename_i j' l0 e1 e2
      split at h
      · rename_i ej
        subst ej
        obtain ⟨a, ev, _, hl, _⟩ := I.cellAt e1 e2
        refine ⟨.ref a, ev, .inl ⟨rfl, ?_⟩, ?_⟩
        · obtain ⟨vs, g, _⟩ := hl
          exact ⟨vs, SqL.of g⟩
        · exact cm_end hf I e1 ev .nil h
      · exact h.elim
    · exact h.elim
theorem e_cm (i j : Nat) {x : Str} {px : Pos} (pa : PlainAttrs "list") (slot : Slot "list" name id) (hty : typeOf (.builtin id) = pure (.type "method_descriptor")) (hm : MtR X id r) (hf : CM C.K r f) (ha : PA X (e :: es) (tA C ea)) (hK : X.K = C.K := by rfl) (hN : X.N[i]? = some x := by rfl)
    (hv : Vis X.env.scope x := by first | exact Or.inl rfl | exact Or.inr (Or.inl rfl) | exact Or.inr (Or.inr rfl)) (hd : (x == ("__debug__" : Str)) = false := by decide) (hcd : (x == ("__classdict__" : Str)) = false := by decide)
    (hbase : attributeBase (.Name x px) name X.env (eval (.Name x px) X.env) = eval (.Name x px) X.env := by rfl)
    (hfew : ((backTo cpos (starEach (e :: es) X.env)).all (fun x => !x.1) && (backToKw cpos (keywordEach [] X.env)).all (fun x => x.1.isSome)
      && decide ((e :: es).length + ([] : List Keyword).length + (if ([] : List Keyword).isEmpty then 0 else 1) < 30)) = true := by rfl)
    (hline : (apos.endLine == cpos.line) = true := by rfl) (hs : starEach (e :: es) X.env = (false, eval e X.env) :: starEach es X.env := by rfl) (hplain : (backTo cpos (starEach es X.env)).any (·.1) = false := by rfl) :
    PE X (.Call (.Attribute (.Name x px) name apos) (e :: es) [] cpos) (tE C (eCM i j f ea)) :=
  PE.imp (pe_bm pa slot hty hm (pe_var hN hv hd hcd) ha hbase hfew hline hs hplain) fun σ H Q ⟨F, Z, ca, ρ, p, I, h⟩ => by
    unfold eCM at h
    split at h
    · rename_i j' l0 e1 e2
      split at h
      · rename_i ej
        subst ej
        obtain ⟨a, ev, _, hl, _⟩ := I.cellAt e1 e2
        refine ⟨.ref a, ev, .inl ⟨rfl, ?_⟩, F, Z, ca, ρ, p, I, h.bind fun ds p1 F1 H1 ee1 I1 h1 vs hvs => cm_end hf I1 e1 ev hvs h1⟩
        obtain ⟨vs, g, _⟩ := hl
        exact ⟨vs, SqL.of g⟩
      · exact h.elim
    · exact h.elim
/-- the methods -/
def fApp : D → List D → Option (D × D)
  | .lst l, [d] => if l.length < 1000000 then some (.lst (l ++ [d]), .non) else none
  | _, _ => none
def fExt : D → List D → Option (D × D)
  | .lst l, [.lst m] => if l.length + m.length ≤ 1000000 then some (.lst (l ++ m), .non) else none
  | _, _ => none
def fPop : D → List D → Option (D × D)
  | .lst l, [] => match l[l.length - 1]? with
    | some d => some (.lst l.dropLast, d)
    | none => none
  | _, _ => none
def fPopAt : D → List D → Option (D × D)
  | .lst l, [.int i] => if l.length ≤ 1000000 then match ixN l.length i with
    | some k => (match l[k]? with
      | some d => some (.lst (l.eraseIdx k), d)
      | none => none)
    | none => none else none
  | _, _ => none
theorem million {n : Nat} (h : n ≤ 1000000) : n ≤ sizeLine := Nat.le_trans h (by decide)
theorem Holds.lst_iff {K : PySem.W.Frag} {F H : Hp} {a : Addr} {l : List D} : Holds K F H a (.lst l) ↔ ∃ vs, H a = some (.lst vs) ∧ vs.length ≤ sizeLine ∧ RepL K F vs l := Iff.rfl
theorem cm_app {K : PySem.W.Frag} : CM K rAppend fApp := fun F H a l vs ds d' dr Q s hl hf hv e q => by
  unfold fApp at e
  split at e
  · rename_i l' d el
    cases el
    split at e
    · rename_i hn
      cases e
      obtain ⟨xs, g1, g2, g3⟩ := hl
      obtain ⟨v, rfl, hv1⟩ := hv.one
      have hn' : xs.length < 1000000 := by rw [g3.length]; exact hn
      refine ⟨a, xs, v, rfl, rfl, g1, Nat.lt_of_lt_of_le hn' (million (Nat.le_refl _)), q _ _ ⟨_, upd_same, ?_, g3.append (.cons hv1 .nil)⟩ .non⟩
      rw [List.length_append]
      exact million (by show xs.length + 1 ≤ _; omega)
    · cases e
  · cases e
theorem cm_ext {K : PySem.W.Frag} : CM K rExtend fExt := fun F H a l vs ds d' dr Q s hl hf hv e q => by
  unfold fExt at e
  split at e
  · rename_i l' m el
    cases el
    split at e
    · rename_i hn
      cases e
      obtain ⟨xs, g1, g2, g3⟩ := hl
      obtain ⟨v, rfl, hv1⟩ := hv.one
      obtain ⟨b, ws, rfl, k1, k2, k3⟩ := Rep.lst_iff.mp hv1
      have hn' : xs.length + ws.length ≤ 1000000 := by rw [g3.length, k3.length]; exact hn
      refine ⟨a, b, xs, ws, rfl, rfl, g1, s _ _ k1, million hn', q _ _ ⟨_, upd_same, ?_, g3.append k3⟩ .non⟩
      rw [List.length_append]
      exact million hn'
    · cases e
  · cases e
theorem RepL.dropLast {K : PySem.W.Frag} {F : Hp} {vs : List V} {ds : List D} (h : RepL K F vs ds) : RepL K F vs.dropLast ds.dropLast := by
  rw [List.dropLast_eq_take, List.dropLast_eq_take, h.length]
  exact h.take _
theorem cm_pop {K : PySem.W.Frag} : CM K rPop fPop := fun F H a l vs ds d' dr Q s hl hf hv e q => by
  unfold fPop at e
  split at e
  · rename_i l' el
    cases el
    split at e
    · rename_i d hd
      cases e
      obtain ⟨xs, g1, g2, g3⟩ := hl
      cases vs with
      | cons _ _ => exact hv.not_cn.elim
      | nil =>
        obtain ⟨v, h1, h2⟩ := g3.get hd
        refine ⟨a, xs, v, rfl, rfl, g1, by rw [g3.length]; exact h1, q _ _ ⟨_, upd_same, ?_, g3.dropLast⟩ h2⟩
        rw [List.length_dropLast]; omega
    · cases e
  · cases e
theorem cm_popAt {K : PySem.W.Frag} : CM K rPopAt fPopAt := fun F H a l vs ds d' dr Q s hl hf hv e q => by
  unfold fPopAt at e
  split at e
  · rename_i l' i el
    cases el
    split at e
    · rename_i hn
      split at e
      · rename_i k hk
        split at e
        · rename_i d hd
          cases e
          obtain ⟨xs, g1, g2, g3⟩ := hl
          obtain ⟨v, rfl, hv1⟩ := hv.one
          rw [Rep.int_iff.mp hv1]
          obtain ⟨w, h1, h2⟩ := g3.get hd
          obtain ⟨z1, z2, z3, z4⟩ := ixN_seq hk
          refine ⟨a, xs, i, k, w, rfl, rfl, g1, by omega, by omega, by rw [g3.length]; exact z1, h1, q _ _ ⟨_, upd_same, ?_, g3.eraseIdx k⟩ h2⟩
          have := len_erase xs k
          omega
        · cases e
      · cases e
    · cases e
  · cases e
/-- x[k] = v -/
theorem x_put (i j : Nat) {x : Str} {px ppos : Pos} {ix : Expr} (he : PE X e (tE C ee)) (hix : PE X ix (tE C ei)) (hN : X.N[i]? = some x := by rfl)
    (hv : Vis X.env.scope x := by first | exact Or.inl rfl | exact Or.inr (Or.inl rfl) | exact Or.inr (Or.inr rfl)) (hd : (x == ("__debug__" : Str)) = false := by decide) (hcd : (x == ("__classdict__" : Str)) = false := by decide)
    (hs : swapsWithSole [.Subscript (.Name x px) ix ppos] e pos.line X.env = pure false := by rfl) (hw : swappedStores [.Subscript (.Name x px) ix ppos] e X.env = pure none := by rfl)
    (h1 : (assignEach [.Subscript (.Name x px) ix ppos] X.env).map (·.2) = [assign (.Subscript (.Name x px) ix ppos) X.env] := by rfl)
    (ha : ∀ v, assign (.Subscript (.Name x px) ix ppos) X.env v = (do
      let ov ← holding [v] (eval (.Name x px) X.env)
      let iv ← holding [v, ov] (eval ix X.env)
      standAt ppos
      holding [v, ov, iv] (setItem ov iv v)
      release [v, ov, iv] []) := by intro _; rfl) : PS X (.Assign [.Subscript (.Name x px) ix ppos] e pos) (tS C (xPut i j ee ei)) :=
  PS.imp (ps_asg he (pg_sub (pe_var hN hv hd hcd) hix set_list ha) hs hw h1) fun De σ H ⟨F, Z, ca, ρ, p, I, h⟩ => ⟨F, Z, ca, ρ, p, I, h.of fun d p1 F1 H1 e1 I1 h1 v hv => by
    split at h1
    · rename_i j' ej
      split at h1
      · rename_i ejj
        subst ejj
        obtain ⟨c1, a, ev, c2⟩ := I1.sl i _ ej
        refine ⟨.ref a, ev, F1, Z, ca, ρ, p1, I1, h1.of fun dx p2 F2 H2 e2 I2 h2 w hw => ?_⟩
        split at h2
        · rename_i k l el
          split at h2
          · rename_i m hm
            obtain ⟨b, ev', w1, w2, w3, w4⟩ := I2.cellAt ej el
            rw [ev] at ev'
            cases ev'
            obtain ⟨xs, g1, g2, g3⟩ := w2
            refine ⟨a, xs, k, m, rfl, Rep.int_iff.mp hw, g1, by rw [g3.length]; exact hm, ?_⟩
            exact h2 F2 _ ca σ .rfl' (I2.put w1 (List.getElem?_eq_some_iff.mp el).1 ⟨_, upd_same, by rw [List.length_set]; exact g2, g3.set m (hv.mono e2)⟩ w3 w4)
          · exact h2.elim
        · exact h2.elim
      · exact h1.elim
    · exact h1.elim⟩
/-- x[k] -/
theorem e_cix (i j : Nat) {x : Str} {px : Pos} {ix : Expr} (hix : PE X ix (tE C ei)) (hs : PlainIx ix) (hK : X.K = C.K := by rfl) (hN : X.N[i]? = some x := by rfl)
    (hv : Vis X.env.scope x := by first | exact Or.inl rfl | exact Or.inr (Or.inl rfl) | exact Or.inr (Or.inr rfl)) (hd : (x == ("__debug__" : Str)) = false := by decide) (hcd : (x == ("__classdict__" : Str)) = false := by decide) :
    PE X (.Subscript (.Name x px) ix pos) (tE C (eCIx i j ei)) :=
  PE.imp (pe_ix ix_list (pe_var hN hv hd hcd) hix hs) fun σ H Q ⟨F, Z, ca, ρ, p, I, h⟩ => by
    unfold eCIx at h
    split at h
    · rename_i j' ej
      split at h
      · rename_i ejj
        subst ejj
        obtain ⟨c1, a, ev, c2⟩ := I.sl i _ ej
        refine ⟨.ref a, ev, F, Z, ca, ρ, p, I, h.bind fun dx p1 F1 H1 e1 I1 h1 w hw => ?_⟩
        split at h1
        · rename_i k l el
          obtain ⟨b, ev', w1, w2, w3, w4⟩ := I1.cellAt ej el
          rw [ev] at ev'
          cases ev'
          obtain ⟨xs, g1, g2, g3⟩ := w2
          obtain ⟨d, ed, kk⟩ := h1.lift
          unfold atI at ed
          cases q : ixN l.length k with
          | none => rw [q] at ed; cases ed
          | some m =>
            rw [q] at ed
            obtain ⟨v, hv1, hv2⟩ := g3.get ed
            refine ⟨a, xs, k, v, rfl, Rep.int_iff.mp hw, SqL.of g1, ?_, kk F1 H1 .rfl' I1 v hv2⟩
            unfold atI
            rw [g3.length, q]
            exact hv1
        · exact h1.elim
      · exact h.elim
    · exact h.elim
end
end PL
/-! PL14: new lists by operators, names of the module, methods by values, several names at once, chains. -/
namespace PL
open PySem PySem.Spec L2

def eBinL (f : D → D → Option (List D)) (a b : E D) : E D := fun ρ p => (a ρ p).bind fun x p1 => (b ρ p1).bind fun y p2 => (lift (f x y) p2).bind fun l p3 => .ok (.lst l) p3
def catL : D → D → Option (List D)
  | .lst a, .lst b => if a.length + b.length ≤ 1000000 then some (a ++ b) else none
  | _, _ => none
def repL : D → D → Option (List D)
  | .lst a, .int k => if -100000000 ≤ k ∧ k ≤ 100000000 ∧ a.length * k.toNat ≤ 1000000 then some (List.replicate k.toNat a).flatten else none
  | _, _ => none
/-- a op b op' c -/
def eChain (f g : D → D → Option D) (a b c : E D) : E D := fun ρ p => (a ρ p).bind fun x p1 => (b ρ p1).bind fun y p2 => match f x y with
  | some (.bl true) => (c ρ p2).bind fun z p3 => lift (g y z) p3
  | some (.bl false) => .ok (.bl false) p2
  | _ => .no
def eRgL (f : List D → Option (List D)) (a : E (List D)) : E D := fun ρ p => (a ρ p).bind fun xs p1 => (lift (f xs) p1).bind fun l p2 => .ok (.lst l) p2
/-- a method by values -/
def eMt (f : D → List D → Option D) (o : E D) (a : E (List D)) : E D := fun ρ p => (o ρ p).bind fun x p1 => (a ρ p1).bind fun xs p2 => lift (f x xs) p2
def eMtL (f : D → List D → Option (List D)) (o : E D) (a : E (List D)) : E D := fun ρ p => (o ρ p).bind fun x p1 => (a ρ p1).bind fun xs p2 => (lift (f x xs) p2).bind fun l p3 => .ok (.lst l) p3
/-- i, j = x, y -/
def xPar (is : List Nat) (a : E (List D)) : S := fun ρ p => RS.of (a ρ p) ρ fun ds p1 => if ds.length = is.length ∧ (∀ i ∈ is, i < ρ.length) then .ok .nx ((is.zip ds).foldl (fun ρ q => ρ.set q.1 (.v q.2)) ρ) p1 else .no
section
variable {X : Cx} {C : Cxt} {a b c e : Expr} {ea eb ec ee : E D} {es : List Expr} {ers : E (List D)} {pos p q : Pos}
theorem n_op {op : Operator} {r : R2} {f : D → D → Option (List D)} (ho : OpR X (binaryOp op) r) (hf : V2L C.K r f) (ha : PE X a (tE C ea)) (hb : PE X b (tE C eb)) : PE X (.BinOp a op b pos) (tN C (eBinL f ea eb)) :=
  PE.imp (pe_op ho ha hb) fun σ H Q ⟨F, Z, ca, ρ, p, I, h⟩ =>
    ⟨F, Z, ca, ρ, p, I, h.bind fun x p1 F1 H1 e1 I1 h1 v hv => ⟨F1, Z, ca, ρ, p1, I1, h1.bind fun y p2 F2 H2 e2 I2 h2 w hw => by
      cases ez : f x y with
      | none => rw [ez] at h2; exact h2.elim
      | some l =>
        rw [ez] at h2
        exact hf F2 H2 v w x y l Q I2.sub (hv.mono e2) hw ez fun a ws n hl r => nl_end I2 h2 n hl r⟩⟩
theorem v_catL {K : PySem.W.Frag} : V2L K rCat catL := fun F H x y dx dy l Q s hx hy e q => by
  unfold catL at e
  split at e
  · split at e
    · rename_i hm
      cases e
      obtain ⟨a, vs, rfl, ea, la, ra⟩ := Rep.lst_iff.mp hx
      obtain ⟨b, ws, rfl, eb, lb, rb⟩ := Rep.lst_iff.mp hy
      have hl : vs.length + ws.length ≤ sizeLine := by rw [ra.length, rb.length]; exact line1M hm
      exact ⟨a, b, vs, ws, rfl, rfl, s _ _ ea, s _ _ eb, hl, fun p hp => q p _ hp (by rw [List.length_append]; exact hl) (ra.append rb)⟩
    · cases e
  · cases e
theorem v_repL {K : PySem.W.Frag} : V2L K rRep repL := fun F H x y dx dy l Q s hx hy e q => by
  unfold repL at e
  split at e
  · split at e
    · rename_i hm
      cases e
      obtain ⟨a, vs, rfl, ea, la, ra⟩ := Rep.lst_iff.mp hx
      rw [Rep.int_iff.mp hy]
      refine ⟨a, _, vs, rfl, rfl, s _ _ ea, by omega, by omega, by rw [ra.length]; exact line1M hm.2.2, fun p hp => q p _ hp ?_ (ra.rep _)⟩
      rw [(ra.rep _).length, List.length_flatten, List.map_replicate, List.sum_replicate_nat, Nat.mul_comm]
      exact line1M hm.2.2
    · cases e
  · cases e
theorem e_un {op : UnaryOp} {r : V → Hp → VK → Prop} {f : D → Option D} (ho : UnR X (unaryOp op) r) (hf : V1 C.K r f) (ha : PE X a (tE C ea)) : PE X (.UnaryOp op a pos) (tE C (eUn f ea)) :=
  PE.imp (pe_un ho ha) fun σ H Q ⟨F, Z, ca, ρ, p, I, h⟩ => ⟨F, Z, ca, ρ, p, I, h.bind fun x p1 F1 H1 e1 I1 h1 v hv => by
    obtain ⟨z, ez, k⟩ := h1.lift
    exact hf F1 H1 v x z Q I1.sub hv ez fun F' H' u g hu => k F' H' g.f (I1.grow g) u hu⟩
theorem v_neg {K : PySem.W.Frag} : V1 K (rU fun i => .int (-i)) fNeg := fun F H x dx dz Q s hx e q => by
  unfold fNeg at e
  split at e
  · cases e
    rw [Rep.int_iff.mp hx]
    exact ⟨_, rfl, q F H _ (.rfl' s) .int⟩
  · cases e
/-- names of the module -/
theorem e_glob {x : Str} {v : V} {u : Value} {d : D} (hg : Gl X x) (hm : X.mg x = some u) (r : RelV v u) (hr : ∀ F, Rep C.K F v d) (hd : (x == ("__debug__" : Str)) = false := by decide) : PE X (.Name x pos) (tE C (eC d)) :=
  e_const (pe_glob hg hm r hd) hr
theorem e_gint {x : Str} {i : Int} {t : Tok} (hg : Gl X x) (hm : X.mg x = some (.int i t)) (hd : (x == ("__debug__" : Str)) = false := by decide) : PE X (.Name x pos) (tE C (eC (.int i))) :=
  e_glob (v := .int i) hg hm ⟨t, rfl⟩ (fun _ => .int) hd
theorem e_gstr {x : Str} {i : Str} {t : Tok} (hg : Gl X x) (hm : X.mg x = some (.str i t)) (hd : (x == ("__debug__" : Str)) = false := by decide) : PE X (.Name x pos) (tE C (eC (.str i))) :=
  e_glob (v := .str i) hg hm ⟨t, rfl⟩ (fun _ => .str) hd
theorem e_gcls {x : Str} (hg : Gl X x) (hm : X.mg x = some (.ref (He.ga C.K x))) (hd : (x == ("__debug__" : Str)) = false := by decide) : PE X (.Name x pos) (tE C (eC (.cls x))) :=
  e_glob (v := .ref (He.ga C.K x)) hg hm rfl (fun _ => Rep.cls_iff.mpr rfl) hd
/-- names of types -/
theorem e_bty {x : Str} {T : String} (hg : Gl X x) (hm : X.mg x = none) (hv : bootBuiltins x = some (.type T)) (hn : x ≠ "__name__" := by decide) (hd : (x == ("__debug__" : Str)) = false := by decide) : PE X (.Name x pos) (tE C (eC (.ty T))) :=
  e_const (pe_bltn hg hm hv (v := .ty T) rfl hn hd) fun _ => Rep.ty_iff.mpr rfl
/-- chains -/
theorem e_chain {op op' : CmpOp} {r r' : R2} {f g : D → D → Option D} (ho : OpR X (compareOp op) r) (hf : V2 C.K r f) (ho' : OpR X (compareOp op') r') (hg : V2 C.K r' g) (ha : PE X a (tE C ea)) (hb : PE X b (tE C eb)) (hc : PE X c (tE C ec))
    (hm : lastMarks [op, op'] [b, c] = false := by with_unfolding_all rfl) : PE X (.Compare a [op, op'] [b, c] pos) (tE C (eChain f g ea eb ec)) :=
  PE.imp (pe_chain ho ho' ha hb hc hm) fun σ H Q ⟨F, Z, ca, ρ, p, I, h⟩ =>
    ⟨F, Z, ca, ρ, p, I, h.bind fun x p1 F1 H1 e1 I1 h1 v hv => ⟨F1, Z, ca, ρ, p1, I1, h1.bind fun y p2 F2 H2 e2 I2 h2 w hw => by
      cases ez : f x y with
      | none => rw [ez] at h2; exact h2.elim
      | some z =>
        rw [ez] at h2
        cases z with
        | bl k =>
          refine hf F2 H2 v w x y (.bl k) _ I2.sub (hv.mono e2) hw ez fun F' H' u gr hu => ⟨k, Rep.bl_iff.mp hu, ?_⟩
          have I3 := I2.grow gr
          cases k with
          | true =>
            rw [if_pos rfl]
            have h3 : Rn C F' Z ca σ ρ ((ec ρ p2).bind fun z p3 => lift (g y z) p3) (kE C Q) := Rn.mono h2 gr.f
            exact ⟨F', Z, ca, ρ, p2, I3, h3.bind fun z p3 F3 H3 e3 I4 h4 u2 hu2 => by
              obtain ⟨z', ez', kk⟩ := h4.lift
              exact hg F3 H3 w u2 y z z' Q I4.sub ((hw.mono gr.f).mono e3) hu2 ez' fun F5 H5 u5 g5 hu5 => kk F5 H5 g5.f (I4.grow g5) u5 hu5⟩
          | false =>
            rw [if_neg Bool.false_ne_true]
            exact h2 F' H' gr.f I3 _ .bl
        | _ => exact h2.elim⟩⟩
theorem t_ofE {ee : E D} (h : PE X e (tE C ee)) (he : ∀ whole, isTrue e X.env whole = (do let v ← whole; standAt e.pos; holding [v] (truthy v)) := by intro _; rfl) : PT X e (tT C (eTest ee)) := t_val h he
theorem t_chain {op op' : CmpOp} {r r' : R2} {f g : D → D → Option D} (ho : OpR X (compareOp op) r) (hf : V2 C.K r f) (ho' : OpR X (compareOp op') r') (hg : V2 C.K r' g) (ha : PE X a (tE C ea)) (hb : PE X b (tE C eb)) (hc : PE X c (tE C ec))
    (hm : lastMarks [op, op'] [b, c] = false := by with_unfolding_all rfl) : PT X (.Compare a [op, op'] [b, c] pos) (tT C (eTest (eChain f g ea eb ec))) :=
  PT.imp (pt_chain ho ho' ha hb hc hm) fun σ H Q ⟨F, Z, ca, ρ, p, I, h⟩ => by
    unfold eTest eChain at h
    simp only [R.bind_assoc] at h
    exact ⟨F, Z, ca, ρ, p, I, h.bind fun x p1 F1 H1 e1 I1 h1 v hv => ⟨F1, Z, ca, ρ, p1, I1, h1.bind fun y p2 F2 H2 e2 I2 h2 w hw => by
      cases ez : f x y with
      | none => rw [ez] at h2; exact h2.elim
      | some z =>
        rw [ez] at h2
        cases z with
        | bl k =>
          refine hf F2 H2 v w x y (.bl k) _ I2.sub (hv.mono e2) hw ez fun F' H' u gr hu => ⟨k, Rep.bl_iff.mp hu, ?_⟩
          have I3 := I2.grow gr
          cases k with
          | true =>
            rw [if_pos rfl]
            have h3 := Rn.mono h2 gr.f
            simp only [R.bind_assoc] at h3
            exact ⟨F', Z, ca, ρ, p2, I3, h3.bind fun z p3 F3 H3 e3 I4 h4 u2 hu2 => by
              cases ez' : g y z with
              | none => rw [ez'] at h4; exact h4.elim
              | some z' =>
                rw [ez'] at h4
                cases z' with
                | bl k' => exact hg F3 H3 w u2 y z (.bl k') _ I4.sub ((hw.mono gr.f).mono e3) hu2 ez' fun F5 H5 u5 g5 hu5 => ⟨k', Rep.bl_iff.mp hu5, h4 F5 H5 g5.f (I4.grow g5)⟩
                | _ => exact h4.elim⟩
          | false =>
            rw [if_neg Bool.false_ne_true]
            exact ⟨false, rfl, h2 F' H' gr.f I3⟩
        | _ => exact h2.elim⟩⟩
/-- list(range(..)) -/
theorem rep_rg {K : PySem.W.Frag} {F : Hp} (a b : Int) : RepL K F (rgV a b) (rangeD a (b - a).toNat) := by
  unfold rgV rangeD
  generalize List.range (b - a).toNat = l
  induction l with
  | nil => exact .nil
  | cons x l ih => exact .cons .int ih
theorem n_listRg1 {p2 : Pos} (hc : X.calm = true) (hg : Gl X "list") (hm : X.mg "list" = none) (hg2 : Gl X "range") (hm2 : X.mg "range" = none) (ha : PE X a (tE C ea)) (na : starEach [a] X.env = (false, eval a X.env) :: starEach [] X.env := by rfl)
    (na2 : starEach [.Call (.Name "range" p2) [a] [] q] X.env = (false, eval (.Call (.Name "range" p2) [a] [] q) X.env) :: starEach [] X.env := by rfl) :
    PE X (.Call (.Name "list" p) [.Call (.Name "range" p2) [a] [] q] [] pos) (tN C (eRgL rng1 (eCons ea eNil))) :=
  PE.imp (pe_listRg hc hg hm (prg_1 hg2 hm2 ha na) na2) fun σ H Q ⟨F, Z, ca, ρ, p, I, h⟩ => by
    unfold eRgL eCons eNil at h
    simp only [R.bind_assoc, R.bind_ok] at h
    exact ⟨F, Z, ca, ρ, p, I, h.bind fun x p1 F1 H1 e1 I1 h1 v hv => by
      cases ez : rng1 [x] with
      | none => rw [ez] at h1; exact h1.elim
      | some l =>
        rw [ez] at h1
        unfold rng1 at ez
        split at ez
        · rename_i j ej
          split at ez
          · rename_i hj
            cases ez
            cases ej
            refine ⟨j, Rep.int_iff.mp hv, ⟨by omega, by omega, by omega, by omega, by omega⟩, fun q hq => nl_end I1 h1 hq ?_ ?_⟩
            · rw [rgV_length]; exact small100000 (by omega)
            · have := rep_rg (K := C.K) (F := F1) 0 j
              rw [Int.sub_zero] at this
              exact this
          · cases ez
        · cases ez⟩
theorem n_listRg2 {p2 : Pos} (hc : X.calm = true) (hg : Gl X "list") (hm : X.mg "list" = none) (hg2 : Gl X "range") (hm2 : X.mg "range" = none) (ha : PE X a (tE C ea)) (hb : PE X b (tE C eb))
    (na : starEach [a, b] X.env = (false, eval a X.env) :: starEach [b] X.env := by rfl) (nb : starEach [b] X.env = (false, eval b X.env) :: starEach [] X.env := by rfl) (hp : (backTo q (starEach [b] X.env)).any (·.1) = false := by rfl)
    (na2 : starEach [.Call (.Name "range" p2) [a, b] [] q] X.env = (false, eval (.Call (.Name "range" p2) [a, b] [] q) X.env) :: starEach [] X.env := by rfl) :
    PE X (.Call (.Name "list" p) [.Call (.Name "range" p2) [a, b] [] q] [] pos) (tN C (eRgL rng2 (eCons ea (eCons eb eNil)))) :=
  PE.imp (pe_listRg hc hg hm (prg_2 hg2 hm2 ha hb na nb hp) na2) fun σ H Q ⟨F, Z, ca, ρ, p, I, h⟩ => by
    unfold eRgL eCons eNil at h
    simp only [R.bind_assoc, R.bind_ok] at h
    exact ⟨F, Z, ca, ρ, p, I, h.bind fun x p1 F1 H1 e1 I1 h1 v hv => ⟨F1, Z, ca, ρ, p1, I1, by
      exact h1.bind fun y p2 F2 H2 e2 I2 h2 w hw => by
        cases ez : rng2 [x, y] with
        | none => rw [ez] at h2; exact h2.elim
        | some l =>
          rw [ez] at h2
          unfold rng2 at ez
          split at ez
          · rename_i i j ej
            split at ez
            · rename_i hj
              cases ez
              cases ej
              refine ⟨i, j, Rep.int_iff.mp hv, Rep.int_iff.mp hw, ⟨by omega, by omega, by omega, by omega, by omega⟩, fun q hq => nl_end I2 h2 hq ?_ (rep_rg i j)⟩
              rw [rgV_length]; exact small100000 (by omega)
            · cases ez
          · cases ez⟩⟩
/-- what a method by values gives -/
def VM (K : PySem.W.Frag) (T : String) (r : V → List V → Hp → VK → Prop) (f : D → List D → Option D) : Prop :=
  ∀ F H x xs dx ds dz Q, Ext F H → Rep K F x dx → RepL K F xs ds → f dx ds = some dz → (∀ F' H' v, Grow F H F' H' → Rep K F' v dz → Q v H') → r x xs H Q
/-- of that type -/
def tyD (T : String) : D → Bool
  | .str _ => T == "str"
  | .lst _ => T == "list"
  | .int _ => T == "int"
  | .dic _ _ => T == "dict"
  | _ => false
theorem tyV_of {K : PySem.W.Frag} {F H : Hp} {T : String} {x : V} {d : D} (s : Ext F H) (h : Rep K F x d) (t : tyD T d = true) : tyV K T x H := by
  cases d with
  | str z => rw [Rep.str_iff.mp h]; exact eq_of_beq t
  | int z => rw [Rep.int_iff.mp h]; exact eq_of_beq t
  | lst l =>
    obtain ⟨a, vs, rfl, ea, _⟩ := Rep.lst_iff.mp h
    exact .inl ⟨eq_of_beq t, vs, SqL.of (s _ _ ea)⟩
  | dic ks ws =>
    unfold Rep at h
    obtain ⟨a, rfl, h⟩ := h
    refine .inr (.inr (.inl ⟨eq_of_beq t, ?_⟩))
    rcases h with ⟨kvs, h, _⟩ | ⟨kvs, h, _⟩
    · exact .inl ⟨kvs, s _ _ h⟩
    · exact .inr ⟨kvs, s _ _ h⟩
  | _ => exact nomatch t
def eMtT (T : String) (f : D → List D → Option D) (o : E D) (a : E (List D)) : E D := fun ρ p => (o ρ p).bind fun x p1 => if tyD T x = true then (a ρ p1).bind fun xs p2 => lift (f x xs) p2 else .no
variable {name : Str} {T id : String} {apos cpos : Pos} {r : V → List V → Hp → VK → Prop} {f : D → List D → Option D} {o : Expr} {eo : E D}
theorem e_mt (pa : PlainAttrs T) (slot : Slot T name id) (hty : typeOf (.builtin id) = pure (.type "method_descriptor")) (hm : MtR X id r) (hf : VM C.K T r f) (ho : PE X o (tE C eo)) (ha : PA X (e :: es) (tA C ers)) (hK : X.K = C.K := by rfl)
    (hbase : attributeBase o name X.env (eval o X.env) = eval o X.env := by rfl)
    (hfew : ((backTo cpos (starEach (e :: es) X.env)).all (fun x => !x.1) && (backToKw cpos (keywordEach [] X.env)).all (fun x => x.1.isSome)
      && decide ((e :: es).length + ([] : List Keyword).length + (if ([] : List Keyword).isEmpty then 0 else 1) < 30)) = true := by rfl)
    (hline : (apos.endLine == cpos.line) = true := by rfl) (hs : starEach (e :: es) X.env = (false, eval e X.env) :: starEach es X.env := by rfl) (hplain : (backTo cpos (starEach es X.env)).any (·.1) = false := by rfl) :
    PE X (.Call (.Attribute o name apos) (e :: es) [] cpos) (tE C (eMtT T f eo ers)) :=
  PE.imp (pe_bm pa slot hty hm ho ha hbase hfew hline hs hplain) fun σ H Q ⟨F, Z, ca, ρ, p, I, h⟩ => ⟨F, Z, ca, ρ, p, I, h.bind fun x p1 F1 H1 e1 I1 h1 v hv => by
    split at h1
    · rename_i ht
      refine ⟨?_, F1, Z, ca, ρ, p1, I1, h1.bind fun xs p2 F2 H2 e2 I2 h2 vs hvs => ?_⟩
      · rw [hK]; exact tyV_of I1.sub hv ht
      · obtain ⟨z, ez, k⟩ := h2.lift
        exact hf F2 H2 v vs x xs z Q I2.sub (hv.mono e2) hvs ez fun F' H' u g hu => k F' H' g.f (I2.grow g) u hu
    · exact h1.elim⟩
theorem e_mt0 (pa : PlainAttrs T) (slot : Slot T name id) (hty : typeOf (.builtin id) = pure (.type "method_descriptor")) (hm : MtR X id r) (hf : VM C.K T r f) (ho : PE X o (tE C eo)) (hK : X.K = C.K := by rfl)
    (hbase : attributeBase o name X.env (eval o X.env) = eval o X.env := by rfl) (hline : (apos.endLine == cpos.line) = true := by rfl) :
    PE X (.Call (.Attribute o name apos) [] [] cpos) (tE C (eMtT T f eo eNil)) :=
  PE.imp (pe_bm0 pa slot hty hm ho hbase hline) fun σ H Q ⟨F, Z, ca, ρ, p, I, h⟩ => ⟨F, Z, ca, ρ, p, I, h.bind fun x p1 F1 H1 e1 I1 h1 v hv => by
    split at h1
    · rename_i ht
      refine ⟨?_, ?_⟩
      · rw [hK]; exact tyV_of I1.sub hv ht
      · have h2 : Rn C F1 Z ca σ ρ (lift (f x []) p1) (kE C Q) := h1
        obtain ⟨z, ez, k⟩ := h2.lift
        exact hf F1 H1 v [] x [] z Q I1.sub hv .nil ez fun F' H' u g hu => k F' H' g.f (I1.grow g) u hu
    · exact h1.elim⟩
/-- l.count(k), l.index(x) -/
def fCount : D → List D → Option D
  | .lst l, [.int k] => (intsOf l).map fun ns => .int (ns.count k : Nat)
  | _, _ => none
theorem m_count {K : PySem.W.Frag} : VM K "list" (rCntI K) fCount := fun F H x xs dx ds dz Q s hx hxs e q => by
  unfold fCount at e
  split at e
  · rename_i l k
    cases ei : intsOf l with
    | none => rw [ei] at e; cases e
    | some ns =>
      rw [ei] at e
      cases e
      have el := intsOf_eq ei
      subst el
      obtain ⟨v, rfl, hv⟩ := hxs.one
      rw [Rep.int_iff.mp hv]
      obtain ⟨a, vs, rfl, ea, la, ra⟩ := Rep.lst_iff.mp hx
      rw [ra.ints_eq] at ea
      exact ⟨a, ns, k, rfl, rfl, SqL.of (s _ _ ea), q F H _ (.rfl' s) .int⟩
  · cases e
/-- the first place -/
def posD (d : D) : Nat → List D → Option Nat
  | _, [] => none
  | i, x :: xs => if eqD x d = true then some i else posD d (i + 1) xs
def fIndex : D → List D → Option D
  | .lst l, [d] => if flatL 12 l = true ∧ flatD 12 d = true then (posD d 0 l).map fun i => .int (i : Nat) else none
  | _, _ => none
theorem posD_get {d : D} : ∀ {l : List D} {i j : Nat}, posD d i l = some j → i ≤ j ∧ (∃ z, l[j - i]? = some z ∧ eqD z d = true) ∧ ∀ (m : Nat) z, m < j - i → l[m]? = some z → eqD z d = false
  | [], i, j, h => by cases h
  | x :: xs, i, j, h => by
    unfold posD at h
    split at h
    · rename_i hx
      cases h
      refine ⟨Nat.le_refl _, ⟨x, by rw [Nat.sub_self]; rfl, hx⟩, fun m z hm => by omega⟩
    · rename_i hx
      obtain ⟨h1, ⟨z, h2, h3⟩, h4⟩ := posD_get h
      refine ⟨by omega, ⟨z, ?_, h3⟩, fun m z' hm hz => ?_⟩
      · rw [show j - i = (j - (i + 1)) + 1 by omega]; exact h2
      · cases m with
        | zero => simp at hz; subst hz; simpa using hx
        | succ m => exact h4 m z' (by omega) (by simpa using hz)
theorem toPL_get : ∀ {l : List D} {i : Nat} {d : D}, l[i]? = some d → (toPL l)[i]? = some (toP d)
  | x :: xs, 0, d, h => by simp at h; subst h; unfold toPL; rfl
  | x :: xs, i + 1, d, h => by unfold toPL; simpa using toPL_get (l := xs) (i := i) (by simpa using h)
  | [], _, _, h => by simp at h
theorem toPL_back : ∀ {l : List D} {i : Nat} {z : PyData}, (toPL l)[i]? = some z → ∃ d, l[i]? = some d ∧ z = toP d
  | x :: xs, 0, z, h => by unfold toPL at h; simp at h; exact ⟨x, rfl, h.symm⟩
  | x :: xs, i + 1, z, h => by
    unfold toPL at h
    obtain ⟨d, h1, h2⟩ := toPL_back (l := xs) (i := i) (by simpa using h)
    exact ⟨d, by simpa using h1, h2⟩
  | [], _, _, h => by unfold toPL at h; simp at h
theorem flatL_get {n : Nat} : ∀ {l : List D} {i : Nat} {d : D}, flatL n l = true → l[i]? = some d → flatD n d = true
  | x :: xs, 0, d, f, h => by
    unfold flatL at f
    rw [Bool.and_eq_true] at f
    simp at h; subst h; exact f.1
  | x :: xs, i + 1, d, f, h => by
    unfold flatL at f
    rw [Bool.and_eq_true] at f
    exact flatL_get (l := xs) (i := i) f.2 (by simpa using h)
  | [], _, _, _, h => by simp at h
theorem m_index {K : PySem.W.Frag} : VM K "list" (rIndexD K) fIndex := fun F H x xs dx ds dz Q s hx hxs e q => by
  unfold fIndex at e
  split at e
  · rename_i l d
    split at e
    · rename_i hf
      cases ei : posD d 0 l with
      | none => rw [ei] at e; cases e
      | some j =>
        rw [ei] at e
        cases e
        obtain ⟨v, rfl, hv⟩ := hxs.one
        obtain ⟨h1, ⟨z, h2, h3⟩, h4⟩ := posD_get ei
        have fl : flatD 13 (.lst l) = true := by unfold flatD; exact hf.1
        have dl : Dp K H x (.list (toPL l)) := dp_of s fl hx
        obtain ⟨a, vs, rfl, ea, la, ra⟩ := Rep.lst_iff.mp hx
        refine ⟨a, v, toP d, toPL l, j, toP z, rfl, rfl, dl, dp_of s hf.2 hv, shaped_of fl (by decide), shaped_of hf.2 (by decide), toPL_get (by simpa using h2), ?_, fun m z' hm hz => ?_, q F H _ (.rfl' s) .int⟩
        · rw [eqD_toP (flatL_get hf.1 h2) hf.2]; exact h3
        · obtain ⟨d', e1, e2⟩ := toPL_back hz
          subst e2
          rw [eqD_toP (flatL_get hf.1 e1) hf.2]
          exact h4 m d' (by omega) e1
    · cases e
  · cases e
end
end PL
/-! PL15: several names at once; sorted(set(..)). -/
namespace PL
open PySem PySem.Spec L2

section
variable {C : Cxt} {F H : Hp} {Z : Zd} {ca : List (Option Addr)} {σ : St} {ρ : List Sl} {p : List Cell}
theorem StOk.sets : ∀ {is : List Nat} {vs : List V} {ds : List D} {σ : St} {ρ : List Sl}, StOk C F Z H ca σ ρ p → RepL C.K F vs ds → (∀ i ∈ is, i < ρ.length) →
    StOk C F Z H ca ((is.zip vs).foldl (fun σ q => σ.set q.1 (some q.2)) σ) ((is.zip ds).foldl (fun ρ q => ρ.set q.1 (.v q.2)) ρ) p
  | [], _, _, _, _, I, _, _ => I
  | i :: is, [], [], _, _, I, _, _ => I
  | i :: is, v :: vs, d :: ds, σ, ρ, I, r, h => StOk.sets (is := is) (I.set (h i (List.mem_cons_self ..)) r.hd) r.tl fun k hk => by rw [List.length_set]; exact h k (List.mem_cons_of_mem _ hk)
  | _, [], _ :: _, _, _, _, r, _ => r.not_nc.elim
  | _, _ :: _, [], _, _, _, r, _ => r.not_cn.elim
end
section
variable {X : Cx} {C : Cxt} {a b c : Expr} {ers : E (List D)} {pos : Pos}
theorem x_par2 {i j : Nat} {x y : Str} {px py pt : Pos} {kt k2 pt2} (hc : X.calm = true) (hN : X.N.Nodup) (ha : PA X [a, b] (tA C ers)) (hi : X.N[i]? = some x := by rfl) (hj : X.N[j]? = some y := by rfl) (hij : i ≠ j := by decide)
    (hx : X.env.scope.names.lookup x = some .local := by rfl) (hy : X.env.scope.names.lookup y = some .local := by rfl)
    (hw : swappedStores [.Tuple [.Name x px, .Name y py] kt pt] (.Tuple [a, b] k2 pt2) X.env = pure (some [x, y]) := by rfl)
    (hs : swapsWithSole [.Tuple [.Name x px, .Name y py] kt pt] (.Tuple [a, b] k2 pt2) pos.line X.env = pure false := by rfl) :
    PS X (.Assign [.Tuple [.Name x px, .Name y py] kt pt] (.Tuple [a, b] k2 pt2) pos) (tS C (xPar [i, j] ers)) :=
  PS.imp (ps_par hc hN hi hj hij hx hy ha hw hs) fun De σ H ⟨F, Z, ca, ρ, p, I, h⟩ => ⟨F, Z, ca, ρ, p, I, h.of fun ds p1 F1 H1 e1 I1 h1 vs hvs => by
    split at h1
    · rename_i q
      obtain ⟨q1, q2⟩ := q
      have hl := hvs.length
      match ds, q1, hvs, h1 with
      | [d, d'], _, hvs, h1 =>
        obtain ⟨v, v', rfl, _, _⟩ := hvs.two
        exact ⟨v, v', rfl, h1 F1 H1 ca _ .rfl' (StOk.sets (is := [i, j]) I1 hvs q2)⟩
    · exact h1.elim⟩
theorem x_par3 {i j l : Nat} {x y z : Str} {px py pz pt : Pos} {kt k2 pt2} (hc : X.calm = true) (hN : X.N.Nodup) (ha : PA X [a, b, c] (tA C ers)) (hi : X.N[i]? = some x := by rfl) (hj : X.N[j]? = some y := by rfl) (hl : X.N[l]? = some z := by rfl)
    (hij : i ≠ j := by decide) (hil : i ≠ l := by decide) (hjl : j ≠ l := by decide)
    (hx : X.env.scope.names.lookup x = some .local := by rfl) (hy : X.env.scope.names.lookup y = some .local := by rfl) (hz : X.env.scope.names.lookup z = some .local := by rfl)
    (hw : swappedStores [.Tuple [.Name x px, .Name y py, .Name z pz] kt pt] (.Tuple [a, b, c] k2 pt2) X.env = pure (some [x, y, z]) := by rfl)
    (hs : swapsWithSole [.Tuple [.Name x px, .Name y py, .Name z pz] kt pt] (.Tuple [a, b, c] k2 pt2) pos.line X.env = pure false := by rfl) :
    PS X (.Assign [.Tuple [.Name x px, .Name y py, .Name z pz] kt pt] (.Tuple [a, b, c] k2 pt2) pos) (tS C (xPar [i, j, l] ers)) :=
  PS.imp (ps_par3 hc hN hi hj hl hij hil hjl hx hy hz ha hw hs) fun De σ H ⟨F, Z, ca, ρ, p, I, h⟩ => ⟨F, Z, ca, ρ, p, I, h.of fun ds p1 F1 H1 e1 I1 h1 vs hvs => by
    split at h1
    · rename_i q
      obtain ⟨q1, q2⟩ := q
      match ds, q1, hvs, h1 with
      | [d, d', d''], _, hvs, h1 =>
        match vs, hvs with
        | [v, v', v''], hvs => exact ⟨v, v', v'', rfl, h1 F1 H1 ca _ .rfl' (StOk.sets (is := [i, j, l]) I1 hvs q2)⟩
        | [], hvs => exact hvs.not_nc.elim
        | [_], hvs => exact hvs.tl.not_nc.elim
        | [_, _], hvs => exact hvs.tl.tl.not_nc.elim
        | _ :: _ :: _ :: _ :: _, hvs => exact hvs.tl.tl.tl.not_cn.elim
    · exact h1.elim⟩
end

/-! ### set(l) of a list of ints -/
section
variable {P : Program} {w : World} {A : Around} {E : Value → Shared → Prop} {s : Shared}
abbrev setOb (w : World) : Obj := { cls := .type "set", dict := none, data := .set #[] 0 (.fresh 0 0 (!w.params.followText "set-order")) }
theorem set_of_list {l : Addr} {its : Array Value} (ns : List Int) {Q : Value → Shared → Prop} (hh : A.handled = none) (hl : s.heap.IsList l its) (hit : PyProof.Rows.IntsAre its.toList ns) (hb : ns.length + 1 < scanBound)
    (fin : ∀ (g : Heap) (m c : Nat), SetR w g s.heap.objs.size (fun j => decide (j ∈ ns)) c → c ≤ ns.length → (∀ b o, s.heap.get? b = some o → g.get? b = some o) → Q (.ref s.heap.objs.size) { s with heap := g, toks := m }) :
    wpAny (model P w) A (call (.type "set") [.ref l]) Q E s := by
  have sz : its.size = ns.length := by rw [← PyProof.Rows.IntsAre.length hit, Array.length_toList]
  obtain ⟨m1, m2, m3⟩ := F.called_set.mro
  have m4 := F.called_set.made; have m5 := F.called_set.sub
  refine wpAny_call (codeAny_of_tree (show wpAny _ _ (callAny (.type "set") _) _ _ _ from ?_))
  refine wpAny_pure ⟨Code.quiet_builtin _ (by decide +kernel), codeAny_builtin F.entry_type_call ?_⟩
  rw [Around.under_plain (weight_type_call_type "set" [.ref l] []) rfl]
  have m6 := F.called_set.notType; have m7 := F.called_set.canCreate; have m8 := F.typeCall_set_1 (.ref l)
  repeat (any_goals (first | assumption | wp_step))
  refine codeAny_mono (code_set_led1 (P := P) (w := w) (.ref l) (E := E) (Q₁ := fun v t => v = .ref s.heap.objs.size ∧ t = { s with heap := s.heap.push (setOb w) }) ⟨rfl, rfl⟩) fun res t1 ht => ?_
  match res, ht with
  | .error e, ht => exact ht
  | .ok (.ret v), ht =>
    obtain ⟨rfl, rfl⟩ := ht
    have g1 : (s.heap.push (setOb w)).get? s.heap.objs.size = some (setOb w) := Heap.get?_push_size _ rfl
    have g2 : Shared.TypeIs { s with heap := s.heap.push (setOb w) } (.ref s.heap.objs.size) "set" := ⟨_, g1, rfl⟩
    have g3 := F.called_set.init.lookup; have g4 := F.called_set.init.bind (.ref s.heap.objs.size)
    repeat (any_goals (first | assumption | wp_step))
    refine codeAny_mono (codeAny_call_builtin (R := wants (fun v t => v = .none ∧ ∃ g m c, t = { s with heap := g, toks := m } ∧ SetR w g s.heap.objs.size (fun j => decide (j ∈ ns)) c ∧ c ≤ ns.length ∧
      (∀ b o, s.heap.get? b = some o → g.get? b = some o)) E) F.called_set.init.plain F.entry_set_init (check_set_init_1 g2 ?_)) fun res2 t2 ht2 => ?_
    · obtain ⟨⟨oc, od, odt, osl⟩, ho, hc, nl, hd⟩ := hl
      simp only at hc hd
      subst hc hd
      have k1 := Heap.get?_push_of_some (setOb w) ho
      have k2 := F.sub_list_set; have k3 := F.sub_list_frozenset
      have k4 : (Value.type "list" == Value.type "dict") = false := by decide
      have k5 : (s.heap.push (setOb w)).IsList l its := ⟨_, k1, rfl, nl, rfl⟩
      unfold Builtin.«set.__init__» noKeywords Builtin.Frozenset.updateFrom
      generalize zi : pyIter = pi
      wp_walk
      subst zi
      refine wpAny_pyIter_list k5 (wpAny_bind (wpAny_runValue ?_))
      have lS := Heap.lt_size ho
      have h3 : A.in1.in1.in1.handled = none := by simp [hh]
      have e1 : (s.heap.push (setOb w)).objs.size = s.heap.objs.size + 1 := Heap.size_push ..
      have n1 : l ≠ (s.heap.push (setOb w)).objs.size := Nat.ne_of_lt (e1 ▸ Nat.lt_succ_of_lt lS)
      have n2 : s.heap.objs.size ∉ [(s.heap.push (setOb w)).objs.size, l] := by
        simp only [List.mem_cons, List.not_mem_nil, or_false, not_or]
        exact ⟨Nat.ne_of_lt (e1 ▸ Nat.lt_succ_self _), Nat.ne_of_gt lS⟩
      have val : ∀ (i : Nat) (v : Value), its[i]? = some v → ∃ k t, ns[i]? = some k ∧ v = .int k t := fun i v hv => by
        have hi := (Array.getElem?_eq_some_iff.mp hv).1
        have hi' : i < ns.length := by omega
        obtain ⟨t, e⟩ := PyProof.Rows.IntsAre.int_at hit i v (by rw [Array.getElem?_toList, hv])
        exact ⟨_, t, List.getElem?_eq_getElem hi', by rw [e, List.getD_eq_getElem?_getD, List.getElem?_eq_getElem hi'] <;> rfl⟩
      refine set_update_ints ((Walks.list h3 _ l n1 its).toS) s.heap.objs.size n2 ns sz hb val (its.size - 0) 0 _ (by omega) (Nat.zero_le _) ⟨⟨_, Heap.get?_push_size _ rfl, rfl, rfl⟩, k5.push _⟩
        ⟨0, Nat.le_refl 0, setR_new_at (Heap.get?_push_of_some _ g1)⟩ fun t c hm hc hS => ?_
      obtain ⟨hp, gg, dd, tk, oo⟩ := t
      have e2 : gg = s.gens := hm.gens
      have e3 : dd = s.drawn := hm.drawn
      have e4 : oo = s.os := hm.os
      subst e2 e3 e4
      show wpAny _ _ _ _ _ _
      refine wpAny_pure ?_
      show wpAny _ _ (ret Value.none) _ _ _
      refine wpAny_pure ⟨rfl, hp, tk, c, rfl, hS, by omega, fun b o e => ?_⟩
      have b0 := Heap.lt_size e
      refine hm.heap b o ?_ (Heap.get?_push_of_some _ (Heap.get?_push_of_some _ e))
      simp only [List.mem_cons, List.not_mem_nil, or_false, not_or]
      exact ⟨Nat.ne_of_lt b0, Nat.ne_of_lt (e1 ▸ Nat.lt_succ_of_lt b0)⟩
    · match res2, ht2 with
      | .error e, ht2 => exact ht2
      | .ok (.ret v), ht2 =>
        obtain ⟨rfl, g, m, c, rfl, hS, hc, hk⟩ := ht2
        repeat (any_goals (first | assumption | wp_step))
        exact fin _ _ _ hS hc hk
      | .ok .next, ht2 => exact ht2.elim
      | .ok .brk, ht2 => exact ht2.elim
      | .ok .cont, ht2 => exact ht2.elim
  | .ok .next, ht => exact ht.elim
  | .ok .brk, ht => exact ht.elim
  | .ok .cont, ht => exact ht.elim
end
/-- sorted(set(x)), x a list of ints -/
def dedupI : List Int → List Int
  | [] => []
  | x :: xs => if x ∈ dedupI xs then dedupI xs else x :: dedupI xs
theorem dedupI_mem {k : Int} : ∀ {l : List Int}, k ∈ dedupI l ↔ k ∈ l
  | [] => Iff.rfl
  | x :: xs => by
    unfold dedupI
    split
    · rename_i h
      rw [dedupI_mem, List.mem_cons]
      constructor
      · exact .inr
      · rintro (rfl | h')
        · exact dedupI_mem.mp h
        · exact h'
    · rw [List.mem_cons, List.mem_cons, dedupI_mem]
theorem dedupI_nodup : ∀ {l : List Int}, (dedupI l).Nodup
  | [] => .nil
  | x :: xs => by
    unfold dedupI
    split
    · exact dedupI_nodup
    · rename_i h
      exact List.nodup_cons.mpr ⟨h, dedupI_nodup⟩
theorem dedupI_len : ∀ l : List Int, (dedupI l).length ≤ l.length
  | [] => Nat.le_refl _
  | x :: xs => by
    have := dedupI_len xs
    unfold dedupI
    split
    · rw [List.length_cons]; omega
    · rw [List.length_cons, List.length_cons]; omega
theorem sorted_the {l m : List Int} (h : m.Pairwise (· < ·)) (e : ∀ k : Int, k ∈ m ↔ k ∈ l) : m = sortI (dedupI l) := by
  refine sortI_the ?_ (h.imp Int.le_of_lt)
  refine (List.perm_ext_iff_of_nodup (h.imp Int.ne_of_lt) dedupI_nodup).mpr fun k => ?_
  rw [e, dedupI_mem]
def fSortSet : List D → Option (List D)
  | [.lst l] => (intsOf l).bind fun ns => if ns.length ≤ 60 then some ((sortI (dedupI ns)).map .int) else none
  | _ => none
section
variable {X : Cx} {C : Cxt} {a : Expr} {ea : E D} {pos p q p2 : Pos}
def tSortSet (K : PySem.W.Frag) (ta : TE) : TE := fun σ H Q => ta σ H fun x H1 => ∃ (l : Addr) (ns : List Int), x = .ref l ∧ SqL K H1 l (ns.map V.int) ∧ ns.length ≤ 60 ∧ ∀ p, H1 p = none → Q (.ref p) (upd H1 p (.lst ((sortI (dedupI ns)).map V.int)))
theorem pe_sortSet {ta : TE} (hc : X.calm = true) (hg : Gl X "sorted") (hm : X.mg "sorted" = none) (hg2 : Gl X "set") (hm2 : X.mg "set" = none) (ha : PE X a ta) (hv : bootBuiltins "sorted" = some (.builtin "sorted"))
    (na : starEach [a] X.env = (false, eval a X.env) :: starEach [] X.env := by rfl)
    (nb : starEach [.Call (.Name "set" p2) [a] [] q] X.env = (false, eval (.Call (.Name "set" p2) [a] [] q) X.env) :: starEach [] X.env := by rfl) : PE X (.Call (.Name "sorted" p) [.Call (.Name "set" p2) [a] [] q] [] pos) (tSortSet X.K ta) := by
  refine ⟨fun pins s σ H Q I h => ?_⟩
  refine PyProof.Rows.Call_ (ld_blt I hg hm hv ?_)
  refine PyProof.Rows.callWith_builtin1 (PyProof.Rows.args_cons ?_ nb) nb rfl
  refine PyProof.Rows.Call_ (ld_blt I hg2 hm2 PyProof.Rows.boot_set ?_)
  refine PyProof.Rows.callWith_type1 (PyProof.Rows.args_cons (thn (ha.run pins s σ H _ I h) fun v s1 ⟨x, H1, I1, r1, q1⟩ => PyProof.Rows.args_nil ?_) na) na rfl
  obtain ⟨l, ns, rfl, hq, hn, q1⟩ := q1
  cases r1
  obtain ⟨its, r, pl, hz⟩ := I1.list hq
  refine set_of_list ns (I1.ok.hd hc) pl.isList (by simpa using r.ints) (by unfold scanBound; omega) fun g m c hS hc' hk => PyProof.Rows.args_nil ?_
  have I2 : Inv X pins σ H1 { s1 with heap := g, toks := m } := I1.kept hk
  refine sorted_set hS (I2.ok.hd hc) (by omega) fun s' p out c2 ns2 k2 g2 o2 hp hg' hi hs hm' hl => ?_
  have hmem : ∀ k : Int, k ∈ ns2 ↔ k ∈ ns := fun k => by rw [hm' k]; exact decide_eq_true_iff
  have he := sorted_the hs hmem
  have hlen : (ns2.map V.int).length ≤ sizeLine := by rw [List.length_map, hl, sizeLine_eq]; omega
  have hfr : H1 p = none := I2.hok.fresh hp
  have J : Inv X pins σ (upd H1 p (.lst (ns2.map V.int))) { { s1 with heap := g, toks := m } with heap := s'.heap, gens := s'.gens, drawn := s'.drawn, toks := s'.toks } :=
    I2.call (ch := []) (Un.laid k2 hp hfr) (I2.hok.laid k2 hp ⟨hlen, out.toList, c2, vals_of_ints hi, hg'⟩) (by rw [g2]; exact I2.bare) (fun _ z => nomatch z)
  have es : s' = { s1 with heap := s'.heap, gens := s'.gens, drawn := s'.drawn, toks := s'.toks } := by
    cases s'; cases s1; cases o2; rfl
  rw [es]
  refine ⟨.ref p, _, J, rfl, ?_⟩
  rw [he]
  exact q1 p hfr
theorem n_sortSet (hc : X.calm = true) (hg : Gl X "sorted") (hm : X.mg "sorted" = none) (hg2 : Gl X "set") (hm2 : X.mg "set" = none) (ha : PE X a (tE C ea)) (hv : bootBuiltins "sorted" = some (.builtin "sorted") := by first | rfl | decide) (hK : X.K = C.K := by rfl)
    (na : starEach [a] X.env = (false, eval a X.env) :: starEach [] X.env := by rfl)
    (nb : starEach [.Call (.Name "set" p2) [a] [] q] X.env = (false, eval (.Call (.Name "set" p2) [a] [] q) X.env) :: starEach [] X.env := by rfl) : PE X (.Call (.Name "sorted" p) [.Call (.Name "set" p2) [a] [] q] [] pos) (tN C (eFnL fSortSet (eCons ea eNil))) :=
  PE.imp (pe_sortSet hc hg hm hg2 hm2 ha hv na nb) fun σ H Q ⟨F, Z, ca, ρ, p, I, h⟩ => by
    unfold eFnL eCons eNil at h
    simp only [R.bind_assoc, R.bind_ok] at h
    exact ⟨F, Z, ca, ρ, p, I, h.bind fun x p1 F1 H1 e1 I1 h1 v hv => by
      cases ez : fSortSet [x] with
      | none => rw [ez] at h1; exact h1.elim
      | some l =>
        rw [ez] at h1
        unfold fSortSet at ez
        split at ez
        · rename_i l0 el
          cases el
          cases ei : intsOf l0 with
          | none => rw [ei] at ez; cases ez
          | some ns =>
            rw [ei] at ez
            have ez' : (if ns.length ≤ 60 then some ((sortI (dedupI ns)).map D.int) else none) = some l := ez
            split at ez'
            · rename_i hn
              cases ez'
              have el := intsOf_eq ei
              subst el
              obtain ⟨a, vs, rfl, ea, la, ra⟩ := Rep.lst_iff.mp hv
              rw [ra.ints_eq] at ea
              refine ⟨a, ns, rfl, by rw [hK]; exact SqL.of (I1.sub _ _ ea), hn, fun p hp => nl_end I1 h1 hp ?_ (RepL.ints _)⟩
              rw [List.length_map, (sortI_perm _).length_eq]
              have := dedupI_len ns
              exact small100000 (by omega)
            · cases ez'
        · cases ez⟩
end
end PL
/-! PL16: short names of the rules, for texts that are printed. -/
namespace PL
open PySem PySem.Spec L2

section
variable {X : Cx} {C : Cxt} {a b : Expr} {ea eb : E D} {es : List Expr} {ers : E (List D)} {pos p : Pos}
theorem e_add (ha : PE X a (tE C ea)) (hb : PE X b (tE C eb)) (hK : X.K = C.K := by rfl) : PE X (.BinOp a .Add b pos) (tE C (eBin fAdd ea eb)) := e_op o_add (by rw [hK]; exact v_add) ha hb
theorem e_sub (ha : PE X a (tE C ea)) (hb : PE X b (tE C eb)) : PE X (.BinOp a .Sub b pos) (tE C (eBin fSub ea eb)) := e_op op_sub v_sub ha hb
theorem e_mul (ha : PE X a (tE C ea)) (hb : PE X b (tE C eb)) : PE X (.BinOp a .Mult b pos) (tE C (eBin fMul ea eb)) := e_op o_mul v_mul ha hb
theorem e_fdiv (ha : PE X a (tE C ea)) (hb : PE X b (tE C eb)) : PE X (.BinOp a .FloorDiv b pos) (tE C (eBin fDiv ea eb)) := e_op op_fdivW v_fdiv ha hb
theorem e_mod (ha : PE X a (tE C ea)) (hb : PE X b (tE C eb)) : PE X (.BinOp a .Mod b pos) (tE C (eBin fMod ea eb)) := e_op op_mod v_mod ha hb
theorem e_pow (ha : PE X a (tE C ea)) (hb : PE X b (tE C eb)) : PE X (.BinOp a .Pow b pos) (tE C (eBin fPow ea eb)) := e_op o_pow v_pow ha hb
theorem e_neg (ha : PE X a (tE C ea)) : PE X (.UnaryOp .USub a pos) (tE C (eUn fNeg ea)) := e_un un_neg v_neg ha
theorem n_cat (ha : PE X a (tE C ea)) (hb : PE X b (tE C eb)) : PE X (.BinOp a .Add b pos) (tN C (eBinL catL ea eb)) := n_op op_cat v_catL ha hb
theorem n_rep (ha : PE X a (tE C ea)) (hb : PE X b (tE C eb)) : PE X (.BinOp a .Mult b pos) (tN C (eBinL repL ea eb)) := n_op op_rep v_repL ha hb

theorem e_lt (ha : PE X a (tE C ea)) (hb : PE X b (tE C eb)) : PE X (.Compare a [.Lt] [b] pos) (tE C (eBin fLt ea eb)) := e_cmp o_lt v_lt ha hb (nomark _)
theorem e_gt (ha : PE X a (tE C ea)) (hb : PE X b (tE C eb)) : PE X (.Compare a [.Gt] [b] pos) (tE C (eBin fGt ea eb)) := e_cmp op_gt v_gt ha hb (nomark _)
theorem e_le (ha : PE X a (tE C ea)) (hb : PE X b (tE C eb)) : PE X (.Compare a [.LtE] [b] pos) (tE C (eBin fLe ea eb)) := e_cmp op_le v_le ha hb (nomark _)
theorem e_ge (ha : PE X a (tE C ea)) (hb : PE X b (tE C eb)) : PE X (.Compare a [.GtE] [b] pos) (tE C (eBin fGe ea eb)) := e_cmp op_ge v_ge ha hb (nomark _)
theorem t_lt (ha : PE X a (tE C ea)) (hb : PE X b (tE C eb)) : PT X (.Compare a [.Lt] [b] pos) (tT C (eTest (eBin fLt ea eb))) := t_cmp o_lt v_lt ha hb (nomark _)
theorem t_gt (ha : PE X a (tE C ea)) (hb : PE X b (tE C eb)) : PT X (.Compare a [.Gt] [b] pos) (tT C (eTest (eBin fGt ea eb))) := t_cmp op_gt v_gt ha hb (nomark _)
theorem t_le (ha : PE X a (tE C ea)) (hb : PE X b (tE C eb)) : PT X (.Compare a [.LtE] [b] pos) (tT C (eTest (eBin fLe ea eb))) := t_cmp op_le v_le ha hb (nomark _)
theorem t_ge (ha : PE X a (tE C ea)) (hb : PE X b (tE C eb)) : PT X (.Compare a [.GtE] [b] pos) (tT C (eTest (eBin fGe ea eb))) := t_cmp op_ge v_ge ha hb (nomark _)
/-- room for comparing -/
structure Rm (X : Cx) : Prop where
  u : X.A.units + 65 < cLine
theorem Rm.of {k : Nat} {X : Cx} (r : Room k X.A) : Rm X := ⟨by have := r.un; omega⟩
theorem e_eq (rm : Rm X) (ha : PE X a (tE C ea)) (hb : PE X b (tE C eb)) (hK : X.K = C.K := by rfl) : PE X (.Compare a [.Eq] [b] pos) (tE C (eBin fEq ea eb)) := e_cmp (op_eqD (by have := rm.u; omega)) (by rw [hK]; exact v_eq) ha hb (nomark _)
theorem e_ne (rm : Rm X) (ha : PE X a (tE C ea)) (hb : PE X b (tE C eb)) (hK : X.K = C.K := by rfl) : PE X (.Compare a [.NotEq] [b] pos) (tE C (eBin fNe ea eb)) := e_cmp (op_neD (by have := rm.u; omega)) (by rw [hK]; exact v_ne) ha hb (nomark _)
theorem t_eq (rm : Rm X) (ha : PE X a (tE C ea)) (hb : PE X b (tE C eb)) (hK : X.K = C.K := by rfl) : PT X (.Compare a [.Eq] [b] pos) (tT C (eTest (eBin fEq ea eb))) := t_cmp (op_eqD (by have := rm.u; omega)) (by rw [hK]; exact v_eq) ha hb (nomark _)
theorem t_ne (rm : Rm X) (ha : PE X a (tE C ea)) (hb : PE X b (tE C eb)) (hK : X.K = C.K := by rfl) : PT X (.Compare a [.NotEq] [b] pos) (tT C (eTest (eBin fNe ea eb))) := t_cmp (op_neD (by have := rm.u; omega)) (by rw [hK]; exact v_ne) ha hb (nomark _)
theorem e_is (ha : PE X a (tE C ea)) (hb : PE X b (tE C eb)) : PE X (.Compare a [.Is] [b] pos) (tE C (eBin fIs ea eb)) := e_cmp o_is v_is ha hb (nomark _)
theorem e_isnot (ha : PE X a (tE C ea)) (hb : PE X b (tE C eb)) : PE X (.Compare a [.IsNot] [b] pos) (tE C (eBin fIsNot ea eb)) := e_cmp o_isnot v_isnot ha hb (nomark _)
theorem t_is (ha : PE X a (tE C ea)) (hb : PE X b (tE C eb)) : PT X (.Compare a [.Is] [b] pos) (tT C (eTest (eBin fIs ea eb))) := t_cmp o_is v_is ha hb (nomark _)
theorem t_isnot (ha : PE X a (tE C ea)) (hb : PE X b (tE C eb)) : PT X (.Compare a [.IsNot] [b] pos) (tT C (eTest (eBin fIsNot ea eb))) := t_cmp o_isnot v_isnot ha hb (nomark _)
theorem e_in (rm : Rm X) (ha : PE X a (tE C ea)) (hb : PE X b (tE C eb)) (hK : X.K = C.K := by rfl) (hm : behindInMarks .In b = false := by with_unfolding_all rfl) : PE X (.Compare a [.In] [b] pos) (tE C (eBin fIn ea eb)) := e_cmp (o_in rm.u) (by rw [hK]; exact v_in) ha hb hm
theorem e_notin (rm : Rm X) (ha : PE X a (tE C ea)) (hb : PE X b (tE C eb)) (hK : X.K = C.K := by rfl) (hm : behindInMarks .NotIn b = false := by with_unfolding_all rfl) : PE X (.Compare a [.NotIn] [b] pos) (tE C (eBin fNotIn ea eb)) := e_cmp (o_notin rm.u) (by rw [hK]; exact v_notin) ha hb hm
theorem t_in (rm : Rm X) (ha : PE X a (tE C ea)) (hb : PE X b (tE C eb)) (hK : X.K = C.K := by rfl) (hm : behindInMarks .In b = false := by with_unfolding_all rfl) : PT X (.Compare a [.In] [b] pos) (tT C (eTest (eBin fIn ea eb))) := t_cmp (o_in rm.u) (by rw [hK]; exact v_in) ha hb hm
theorem t_notin (rm : Rm X) (ha : PE X a (tE C ea)) (hb : PE X b (tE C eb)) (hK : X.K = C.K := by rfl) (hm : behindInMarks .NotIn b = false := by with_unfolding_all rfl) : PT X (.Compare a [.NotIn] [b] pos) (tT C (eTest (eBin fNotIn ea eb))) := t_cmp (o_notin rm.u) (by rw [hK]; exact v_notin) ha hb hm

theorem q_len (hm : X.mg "len" = none) (ha : PA X (a :: es) (tA C ers)) (hg : Gl X "len" := by rfl) (hK : X.K = C.K := by rfl)
    (he : starEach (a :: es) X.env = (false, eval a X.env) :: starEach es X.env := by rfl) (hpl : (backTo pos (starEach es X.env)).any (·.1) = false := by rfl) : PE X (.Call (.Name "len" p) (a :: es) [] pos) (tE C (eFn fLen ers)) :=
  e_callB call_len (by rw [hK]; exact b_len) hg hm boot_len ha (by decide) (by decide) he hpl
theorem q_int (hm : X.mg "int" = none) (ha : PA X (a :: es) (tA C ers)) (hg : Gl X "int" := by rfl)
    (he : starEach (a :: es) X.env = (false, eval a X.env) :: starEach es X.env := by rfl) (hpl : (backTo pos (starEach es X.env)).any (·.1) = false := by rfl) : PE X (.Call (.Name "int" p) (a :: es) [] pos) (tE C (eFn fInt ers)) :=
  e_callTy call_int1 b_int hg hm PyProof.Rows.boot_int ha (by decide) (by decide) he hpl
theorem q_abs (hm : X.mg "abs" = none) (ha : PA X (a :: es) (tA C ers)) (hg : Gl X "abs" := by rfl)
    (he : starEach (a :: es) X.env = (false, eval a X.env) :: starEach es X.env := by rfl) (hpl : (backTo pos (starEach es X.env)).any (·.1) = false := by rfl) : PE X (.Call (.Name "abs" p) (a :: es) [] pos) (tE C (eFn fAbs ers)) :=
  e_callB call_abs b_abs hg hm PyProof.Rows.boot_abs ha (by decide) (by decide) he hpl
theorem q_max2 (hm : X.mg "max" = none) (ha : PA X (a :: es) (tA C ers)) (hg : Gl X "max" := by rfl) (hc : X.calm = true := by rfl)
    (he : starEach (a :: es) X.env = (false, eval a X.env) :: starEach es X.env := by rfl) (hpl : (backTo pos (starEach es X.env)).any (·.1) = false := by rfl) : PE X (.Call (.Name "max" p) (a :: es) [] pos) (tE C (eFn fMax2 ers)) :=
  e_callB (call_max2 hc) b_max2 hg hm PyProof.Rows.boot_max ha (by decide) (by decide) he hpl
theorem q_min2 (hm : X.mg "min" = none) (ha : PA X (a :: es) (tA C ers)) (hg : Gl X "min" := by rfl) (hc : X.calm = true := by rfl)
    (he : starEach (a :: es) X.env = (false, eval a X.env) :: starEach es X.env := by rfl) (hpl : (backTo pos (starEach es X.env)).any (·.1) = false := by rfl) : PE X (.Call (.Name "min" p) (a :: es) [] pos) (tE C (eFn fMin2 ers)) :=
  e_callB (call_min2 hc) b_min2 hg hm PyProof.Rows.boot_min ha (by decide) (by decide) he hpl
theorem q_sum (hm : X.mg "sum" = none) (ha : PA X (a :: es) (tA C ers)) (hg : Gl X "sum" := by rfl) (hc : X.calm = true := by rfl) (hK : X.K = C.K := by rfl)
    (he : starEach (a :: es) X.env = (false, eval a X.env) :: starEach es X.env := by rfl) (hpl : (backTo pos (starEach es X.env)).any (·.1) = false := by rfl) : PE X (.Call (.Name "sum" p) (a :: es) [] pos) (tE C (eFn fSum ers)) :=
  e_callB (cr_sum hc) (by rw [hK]; exact b_sum) hg hm PyProof.Rows.boot_sum ha (by decide) (by decide) he hpl
theorem q_all (hm : X.mg "all" = none) (ha : PA X (a :: es) (tA C ers)) (hg : Gl X "all" := by rfl) (hc : X.calm = true := by rfl) (hK : X.K = C.K := by rfl)
    (he : starEach (a :: es) X.env = (false, eval a X.env) :: starEach es X.env := by rfl) (hpl : (backTo pos (starEach es X.env)).any (·.1) = false := by rfl) : PE X (.Call (.Name "all" p) (a :: es) [] pos) (tE C (eFn fAll ers)) :=
  e_callB (cr_all hc) (by rw [hK]; exact b_all) hg hm PyProof.Rows.boot_all ha (by decide) (by decide) he hpl
theorem q_any (hm : X.mg "any" = none) (ha : PA X (a :: es) (tA C ers)) (hg : Gl X "any" := by rfl) (hc : X.calm = true := by rfl) (hK : X.K = C.K := by rfl)
    (he : starEach (a :: es) X.env = (false, eval a X.env) :: starEach es X.env := by rfl) (hpl : (backTo pos (starEach es X.env)).any (·.1) = false := by rfl) : PE X (.Call (.Name "any" p) (a :: es) [] pos) (tE C (eFn fAny ers)) :=
  e_callB (cr_any hc) (by rw [hK]; exact b_any) hg hm PyProof.Rows.boot_any ha (by decide) (by decide) he hpl
theorem q_isi {tab : D → D → Option Bool} (T : ClsTab C.K tab) (hm : X.mg "isinstance" = none) (ha : PA X (a :: es) (tA C ers)) (hg : Gl X "isinstance" := by rfl) (hK : X.K = C.K := by rfl)
    (he : starEach (a :: es) X.env = (false, eval a X.env) :: starEach es X.env := by rfl) (hpl : (backTo pos (starEach es X.env)).any (·.1) = false := by rfl) : PE X (.Call (.Name "isinstance" p) (a :: es) [] pos) (tE C (eFn (fIsi tab) ers)) :=
  e_callB (.or call_isi call_isiT) (by rw [hK]; exact b_isi T) hg hm PyProof.Rows.boot_isinstance ha (by decide) (by decide) he hpl
theorem q_tuple (hm : X.mg "tuple" = none) (ha : PA X (a :: es) (tA C ers)) (hg : Gl X "tuple" := by rfl) (hK : X.K = C.K := by rfl)
    (he : starEach (a :: es) X.env = (false, eval a X.env) :: starEach es X.env := by rfl) (hpl : (backTo pos (starEach es X.env)).any (·.1) = false := by rfl) : PE X (.Call (.Name "tuple" p) (a :: es) [] pos) (tE C (eFn fTupleOf ers)) :=
  e_callTy call_tuple_of (by rw [hK]; exact b_tuple) hg hm PyProof.Rows.boot_tuple ha (by decide) (by decide) he hpl
theorem q_list (hm : X.mg "list" = none) (ha : PA X (a :: es) (tA C ers)) (hg : Gl X "list" := by rfl) (hK : X.K = C.K := by rfl)
    (he : starEach (a :: es) X.env = (false, eval a X.env) :: starEach es X.env := by rfl) (hpl : (backTo pos (starEach es X.env)).any (·.1) = false := by rfl) : PE X (.Call (.Name "list" p) (a :: es) [] pos) (tN C (eFnL fListOf ers)) :=
  n_callTy call_list_of (by rw [hK]; exact b_list) hg hm PyProof.Rows.boot_list ha (by decide) (by decide) he hpl
theorem q_sortI (hm : X.mg "sorted" = none) (ha : PA X (a :: es) (tA C ers)) (hg : Gl X "sorted" := by rfl) (hK : X.K = C.K := by rfl)
    (he : starEach (a :: es) X.env = (false, eval a X.env) :: starEach es X.env := by rfl) (hpl : (backTo pos (starEach es X.env)).any (·.1) = false := by rfl) : PE X (.Call (.Name "sorted" p) (a :: es) [] pos) (tN C (eFnL fSortI ers)) :=
  n_callB cr_sortedI (by rw [hK]; exact b_sortI) hg hm PyProof.Rows.boot_sorted ha (by decide) (by decide) he hpl
theorem q_append (i j : Nat) {e : Expr} {x : Str} {px apos cpos : Pos} (ha : PA X [e] (tA C ers)) (hK : X.K = C.K := by rfl) (hN : X.N[i]? = some x := by rfl)
    (hv : Vis X.env.scope x := by first | exact Or.inl rfl | exact Or.inr (Or.inl rfl) | exact Or.inr (Or.inr rfl)) (hd : (x == ("__debug__" : Str)) = false := by decide) (hcd : (x == ("__classdict__" : Str)) = false := by decide)
    (hbase : attributeBase (.Name x px) "append" X.env (eval (.Name x px) X.env) = eval (.Name x px) X.env := by rfl)
    (hfew : ((backTo cpos (starEach [e] X.env)).all (fun x => !x.1) && (backToKw cpos (keywordEach [] X.env)).all (fun x => x.1.isSome)
      && decide ([e].length + ([] : List Keyword).length + (if ([] : List Keyword).isEmpty then 0 else 1) < 30)) = true := by rfl)
    (hline : (apos.endLine == cpos.line) = true := by rfl) (hs : starEach [e] X.env = (false, eval e X.env) :: starEach [] X.env := by rfl) (hplain : (backTo cpos (starEach [] X.env)).any (·.1) = false := by rfl) :
    PE X (.Call (.Attribute (.Name x px) "append" apos) [e] [] cpos) (tE C (eCM i j fApp ers)) :=
  e_cm i j PySem.F.plainAttrs_list PySem.F.slot_list_append (by rfl) mt_append cm_app ha hK hN hv hd hcd hbase hfew hline hs hplain
theorem q_count {e : Expr} {apos cpos : Pos} (ho : PE X a (tE C ea)) (ha : PA X (e :: es) (tA C ers)) (hK : X.K = C.K := by rfl) (hbase : attributeBase a "count" X.env (eval a X.env) = eval a X.env := by rfl)
    (hfew : ((backTo cpos (starEach (e :: es) X.env)).all (fun x => !x.1) && (backToKw cpos (keywordEach [] X.env)).all (fun x => x.1.isSome)
      && decide ((e :: es).length + ([] : List Keyword).length + (if ([] : List Keyword).isEmpty then 0 else 1) < 30)) = true := by rfl)
    (hline : (apos.endLine == cpos.line) = true := by rfl) (hs : starEach (e :: es) X.env = (false, eval e X.env) :: starEach es X.env := by rfl) (hplain : (backTo cpos (starEach es X.env)).any (·.1) = false := by rfl) :
    PE X (.Call (.Attribute a "count" apos) (e :: es) [] cpos) (tE C (eMtT "list" fCount ea ers)) :=
  e_mt PySem.F.plainAttrs_list PySem.F.slot_list_count (by rfl) (by exact mt_lcount) (by rw [hK]; exact m_count) ho ha hK hbase hfew hline hs hplain
theorem q_index {e : Expr} {apos cpos : Pos} (rm : Rm X) (ho : PE X a (tE C ea)) (ha : PA X (e :: es) (tA C ers)) (hK : X.K = C.K := by rfl) (hbase : attributeBase a "index" X.env (eval a X.env) = eval a X.env := by rfl)
    (hfew : ((backTo cpos (starEach (e :: es) X.env)).all (fun x => !x.1) && (backToKw cpos (keywordEach [] X.env)).all (fun x => x.1.isSome)
      && decide ((e :: es).length + ([] : List Keyword).length + (if ([] : List Keyword).isEmpty then 0 else 1) < 30)) = true := by rfl)
    (hline : (apos.endLine == cpos.line) = true := by rfl) (hs : starEach (e :: es) X.env = (false, eval e X.env) :: starEach es X.env := by rfl) (hplain : (backTo cpos (starEach es X.env)).any (·.1) = false := by rfl) :
    PE X (.Call (.Attribute a "index" apos) (e :: es) [] cpos) (tE C (eMtT "list" fIndex ea ers)) :=
  e_mt PySem.F.plainAttrs_list PySem.F.slot_list_index (by rfl) (by exact mt_indexD rm.u) (by rw [hK]; exact m_index) ho ha hK hbase hfew hline hs hplain
/-- the law's promise, by its run over data -/
theorem law_end {K : PySem.W.Frag} {co : List Nat} {f : List Sl → List Cell → R D} {H : Hp} {a : Addr} {ns : List Int} {E : XK} (hS : SqL K H a (ns.map V.int)) (h : ∃ p, f [.v (.scr ns)] [] = .ok (.bl true) p) :
    spF K co f [.ref a] H (fun v _ => v = .bl true) E := by
  obtain ⟨p, h⟩ := h
  refine ⟨H, [], [.v (.scr ns)], [], .rfl', ?_, .nil, rfl, fun k a d e => by simp at e, .bl true, p, h, fun F' H' v _ hv => Rep.bl_iff.mp hv⟩
  unfold RArgs
  exact ⟨Rep.scr_iff.mpr ⟨a, rfl, hS⟩, by unfold RArgs; trivial⟩
end
end PL
/-! PL17: runs over data, step by step: equations for simp, loops by an invariant. -/
namespace PL
open PySem PySem.Spec L2

section
variable {α β : Type} {ρ : List Sl} {p : List Cell} {d : D} {a b c : E D} {ea : E (List D)} {ta tb : E Bool} {s t : S}
@[simp] theorem ev_c : eC d ρ p = .ok d p := rfl
@[simp] theorem ev_var {i : Nat} : eVar i ρ p = (match ρ[i]? with | some (.v d) => .ok d p | _ => .no) := rfl
@[simp] theorem ev_bin {f : D → D → Option D} : eBin f a b ρ p = (a ρ p).bind fun x p1 => (b ρ p1).bind fun y p2 => lift (f x y) p2 := rfl
@[simp] theorem ev_un {f : D → Option D} : eUn f a ρ p = (a ρ p).bind fun x p1 => lift (f x) p1 := rfl
@[simp] theorem ev_nil : eNil ρ p = .ok [] p := rfl
@[simp] theorem ev_cons : eCons a ea ρ p = (a ρ p).bind fun x p1 => (ea ρ p1).bind fun xs p2 => .ok (x :: xs) p2 := rfl
@[simp] theorem ev_fn {f : List D → Option D} : eFn f ea ρ p = (ea ρ p).bind fun xs p1 => lift (f xs) p1 := rfl
@[simp] theorem ev_fnL {f : List D → Option (List D)} : eFnL f ea ρ p = (ea ρ p).bind fun xs p1 => (lift (f xs) p1).bind fun l p2 => .ok (.lst l) p2 := rfl
@[simp] theorem ev_rgL {f : List D → Option (List D)} : eRgL f ea ρ p = (ea ρ p).bind fun xs p1 => (lift (f xs) p1).bind fun l p2 => .ok (.lst l) p2 := rfl
@[simp] theorem ev_binL {f : D → D → Option (List D)} : eBinL f a b ρ p = (a ρ p).bind fun x p1 => (b ρ p1).bind fun y p2 => (lift (f x y) p2).bind fun l p3 => .ok (.lst l) p3 := rfl
@[simp] theorem ev_test : eTest a ρ p = (a ρ p).bind fun x p1 => match x with | .bl b => .ok b p1 | _ => .no := rfl
@[simp] theorem ev_not : eNot ta ρ p = (ta ρ p).bind fun b p1 => .ok (!b) p1 := rfl
@[simp] theorem ev_and : eAnd ta tb ρ p = (ta ρ p).bind fun x p1 => if x = true then tb ρ p1 else .ok false p1 := rfl
@[simp] theorem ev_or : eOr ta tb ρ p = (ta ρ p).bind fun x p1 => if x = true then .ok true p1 else tb ρ p1 := rfl
@[simp] theorem ev_if : eIf ta a b ρ p = (ta ρ p).bind fun x p1 => if x = true then a ρ p1 else b ρ p1 := rfl
@[simp] theorem ev_andV : eAndV a b ρ p = (a ρ p).bind fun x p1 => match x with | .bl true => b ρ p1 | .bl false => .ok (.bl false) p1 | _ => .no := rfl
@[simp] theorem ev_orV : eOrV a b ρ p = (a ρ p).bind fun x p1 => match x with | .bl true => .ok (.bl true) p1 | .bl false => b ρ p1 | _ => .no := rfl
@[simp] theorem ev_notV : eNotV a ρ p = (a ρ p).bind fun x p1 => match x with | .bl b => .ok (.bl (!b)) p1 | _ => .no := rfl
@[simp] theorem ev_any : iAny a ρ p = (a ρ p).bind fun d p1 => lift (itemsOf d) p1 := rfl
@[simp] theorem ev_iFn {f : List D → Option (List D)} : iFn f ea ρ p = (ea ρ p).bind fun xs p1 => lift (f xs) p1 := rfl
@[simp] theorem ev_yes : eYes ρ p = .ok true p := rfl
@[simp] theorem ev_pNone : pNone ρ p = .ok none p := rfl
@[simp] theorem ev_pSome : pSome a ρ p = (a ρ p).bind fun d p1 => match d with | .int i => .ok (some i) p1 | _ => .no := rfl
@[simp] theorem ev_cut {lo hi : E (Option Int)} : eCut a lo hi ρ p = (a ρ p).bind fun x p1 => (lo ρ p1).bind fun l p2 => (hi ρ p2).bind fun h p3 => lift (fCut x l h) p3 := rfl
@[simp] theorem ev_call {f : List Sl → List Cell → R D} : eCall f ea ρ p = (ea ρ p).bind fun ds p1 => match f (ds.map .v) [] with | .ok d _ => .ok d p1 | _ => .no := rfl
@[simp] theorem ev_callC {js : List Nat} {f : List Sl → List Cell → R D} {as : E (List Sl)} : eCallC js f as ρ p = (as ρ p).bind fun args p1 => match getC js p1 with
  | some ds => (match f args (ds.map some) with
    | .ok d cs => (match putC js cs p1 with | some p2 => .ok d p2 | none => .no)
    | _ => .no)
  | none => .no := rfl
@[simp] theorem ev_asNil : asNil ρ p = .ok [] p := rfl
@[simp] theorem ev_asCons {x : E Sl} {r : E (List Sl)} : asCons x r ρ p = (x ρ p).bind fun x p1 => (r ρ p1).bind fun xs p2 => .ok (x :: xs) p2 := rfl
@[simp] theorem ev_aVal : aVal a ρ p = (a ρ p).bind fun d p1 => .ok (.v d) p1 := rfl
@[simp] theorem ev_aCell {i j k : Nat} : aCell i j k ρ p = (match ρ[i]? with | some (.cell j') => if j' = j then .ok (.cell k) p else .no | _ => .no) := rfl
@[simp] theorem ev_mtT {T : String} {f : D → List D → Option D} : eMtT T f a ea ρ p = (a ρ p).bind fun x p1 => if tyD T x = true then (ea ρ p1).bind fun xs p2 => lift (f x xs) p2 else .no := rfl
@[simp] theorem ev_comp {it : E (List D)} {g : G} {vs : List Nat} : eComp it g ta a vs ρ p = (it ρ p).bind fun ds p1 => (compGo g ta a (wipeS ρ vs) ds p1).bind fun rs p2 => .ok (.lst rs) p2 := rfl
@[simp] theorem ev_tr : eTr a ρ p = (match a (thaw p ρ) (noneP p) with | .ok d _ => if leafD (kdOf p) d = true then .ok d p else .no | _ => .no) := rfl
@[simp] theorem ev_ttr : tTr ta ρ p = (match ta (thaw p ρ) (noneP p) with | .ok b _ => .ok b p | _ => .no) := rfl
@[simp] theorem ev_ntr : nTr a ρ p = (match a (thaw p ρ) (noneP p) with | .ok (.lst l) _ => if leafL (kdOf p) l = true then .ok (.lst l) p else .no | _ => .no) := rfl
@[simp] theorem ev_cm {i j : Nat} {f : D → List D → Option (D × D)} : eCM i j f ea ρ p = (match ρ[i]?, p[j]? with
  | some (.cell j'), some (some (.lst _)) => if j' = j then (ea ρ p).bind fun ds p1 => match p1[j]? with
      | some (some (.lst l)) => (match f (.lst l) ds with | some (d', r) => .ok r (p1.set j (some d')) | none => .no)
      | _ => .no
    else .no
  | _, _ => .no) := rfl
@[simp] theorem ev_cix {i j : Nat} : eCIx i j a ρ p = (match ρ[i]? with
  | some (.cell j') => if j' = j then (a ρ p).bind fun ix p1 => match ix, p1[j]? with
      | .int k, some (some (.lst l)) => lift (atI l k) p1
      | _, _ => .no
    else .no
  | _ => .no) := rfl
@[simp] theorem ev_chain {f g : D → D → Option D} : eChain f g a b c ρ p = (a ρ p).bind fun x p1 => (b ρ p1).bind fun y p2 => match f x y with
  | some (.bl true) => (c ρ p2).bind fun z p3 => lift (g y z) p3
  | some (.bl false) => .ok (.bl false) p2
  | _ => .no := rfl
@[simp] theorem sv_skip : xSkip ρ p = .ok .nx ρ p := rfl
@[simp] theorem sv_seq : xSeq s t ρ p = (s ρ p).andThen t := rfl
@[simp] theorem sv_then {ρ : List Sl} {p : List Cell} : RS.andThen (.ok .nx ρ p) t = t ρ p := rfl
@[simp] theorem sv_then_rt {ρ : List Sl} {p : List Cell} : RS.andThen (.ok (.rt d) ρ p) t = .ok (.rt d) ρ p := rfl
@[simp] theorem sv_then_rn {ρ : List Sl} {p : List Cell} : RS.andThen (.ok (.rn d) ρ p) t = .ok (.rn d) ρ p := rfl
@[simp] theorem sv_then_bk {ρ : List Sl} {p : List Cell} : RS.andThen (.ok .bk ρ p) t = .ok .bk ρ p := rfl
@[simp] theorem sv_then_ct {ρ : List Sl} {p : List Cell} : RS.andThen (.ok .ct ρ p) t = .ok .ct ρ p := rfl
@[simp] theorem sv_then_no : RS.andThen .no t = .no := rfl
@[simp] theorem sv_of {r : α} {f : α → List Cell → RS} : RS.of (.ok r p) ρ f = f r p := rfl
@[simp] theorem sv_of_no {f : α → List Cell → RS} : RS.of (.no : R α) ρ f = .no := rfl
@[simp] theorem sv_asg {g : G} : xAsg a g ρ p = RS.of (a ρ p) ρ fun d p1 => match g.run d ρ with | some ρ1 => .ok .nx ρ1 p1 | none => .no := rfl
@[simp] theorem sv_ret : xRet a ρ p = RS.of (a ρ p) ρ fun d p1 => .ok (.rt d) ρ p1 := rfl
@[simp] theorem sv_retN : xRetN ρ p = .ok (.rt .non) ρ p := rfl
@[simp] theorem sv_retNew : xRetNew a ρ p = RS.of (a ρ p) ρ fun d p1 => .ok (.rn d) ρ p1 := rfl
@[simp] theorem sv_expr : xExpr a ρ p = RS.of (a ρ p) ρ fun _ p1 => .ok .nx ρ p1 := rfl
@[simp] theorem sv_if : xIf ta s t ρ p = RS.of (ta ρ p) ρ fun b p1 => if b = true then s ρ p1 else t ρ p1 := rfl
@[simp] theorem sv_brk : xBrk ρ p = .ok .bk ρ p := rfl
@[simp] theorem sv_cnt : xCnt ρ p = .ok .ct ρ p := rfl
@[simp] theorem sv_for {it : E (List D)} {g : G} : xFor it g s ρ p = RS.of (it ρ p) ρ fun ds p1 => forGo g s ds ρ p1 := rfl
@[simp] theorem sv_new {i j : Nat} : xNew i j a ρ p = RS.of (a ρ p) ρ fun d p1 => if i < ρ.length ∧ j < p1.length then .ok .nx (ρ.set i (.cell j)) (p1.set j (some d)) else .no := rfl
@[simp] theorem sv_frz {i j : Nat} : xFrz i j s ρ p = (match ρ[i]?, p[j]? with
  | some (.cell j'), some (some d) => if j' = j then s (ρ.set i (.v d)) (p.set j none) else .no
  | _, _ => .no) := rfl
@[simp] theorem sv_retC {i j : Nat} : xRetC i j ρ p = (match ρ[i]?, p[j]? with
  | some (.cell j'), some (some d) => if j' = j then .ok (.rn d) ρ (p.set j none) else .no
  | _, _ => .no) := rfl
@[simp] theorem sv_put {i j : Nat} : xPut i j a b ρ p = RS.of (a ρ p) ρ fun d p1 => match ρ[i]? with
  | some (.cell j') => if j' = j then RS.of (b ρ p1) ρ fun ix p2 => match ix, p2[j]? with
      | .int k, some (some (.lst l)) => (match ixN l.length k with | some m => .ok .nx ρ (p2.set j (some (.lst (l.set m d)))) | none => .no)
      | _, _ => .no
    else .no
  | _ => .no := rfl
@[simp] theorem sv_par {is : List Nat} : xPar is ea ρ p = RS.of (ea ρ p) ρ fun ds p1 => if ds.length = is.length ∧ (∀ i ∈ is, i < ρ.length) then .ok .nx ((is.zip ds).foldl (fun ρ q => ρ.set q.1 (.v q.2)) ρ) p1 else .no := rfl
@[simp] theorem gr_v {i : Nat} : (gV i).run d ρ = if i < ρ.length then some (ρ.set i (.v d)) else none := rfl
@[simp] theorem gr_nil : gNl.run [] ρ = some ρ := rfl
@[simp] theorem gr_cn {g : G} {gs : Gs} {r : List D} : (gCn g gs).run (d :: r) ρ = (g.run d ρ).bind fun ρ1 => gs.run r ρ1 := rfl
@[simp] theorem gr_tp {gs : Gs} {l : List D} : (gTp gs).run (.tup l) ρ = gs.run l ρ := rfl
@[simp] theorem gr_ls {gs : Gs} {l : List D} : (gLs gs).run (.lst l) ρ = gs.run l ρ := rfl
@[simp] theorem wipe_nil : wipeS ρ [] = ρ := rfl
@[simp] theorem wipe_cons {v : Nat} {vs : List Nat} : wipeS ρ (v :: vs) = (wipeS ρ vs).set v .un := rfl
@[simp] theorem dTup_at {l : List D} : dTup l = if l.length ≤ 1000 then some (.tup l) else none := rfl
@[simp] theorem dLst_at {l : List D} : dLst l = if l.length ≤ 1000 then some (.lst l) else none := rfl
@[simp] theorem dispL_at {l : List D} : dispL l = if l.length ≤ 1000 then some l else none := rfl
@[simp] theorem add_ii {i j : Int} : fAdd (.int i) (.int j) = some (.int (i + j)) := rfl
@[simp] theorem sub_ii {i j : Int} : fSub (.int i) (.int j) = some (.int (i - j)) := rfl
@[simp] theorem neg_i {i : Int} : fNeg (.int i) = some (.int (-i)) := rfl
@[simp] theorem lt_ii {i j : Int} : fLt (.int i) (.int j) = some (.bl (decide (i < j))) := rfl
@[simp] theorem gt_ii {i j : Int} : fGt (.int i) (.int j) = some (.bl (decide (j < i))) := rfl
@[simp] theorem le_ii {i j : Int} : fLe (.int i) (.int j) = some (.bl (decide (i ≤ j))) := rfl
@[simp] theorem ge_ii {i j : Int} : fGe (.int i) (.int j) = some (.bl (decide (j ≤ i))) := rfl
@[simp] theorem len_l {l : List D} : fLen [.lst l] = some (.int l.length) := rfl
@[simp] theorem len_t {l : List D} : fLen [.tup l] = some (.int l.length) := rfl
@[simp] theorem int_i {i : Int} : fInt [.int i] = some (.int i) := rfl
@[simp] theorem int_b {b : Bool} : fInt [.bl b] = some (.int (if b = true then 1 else 0)) := rfl
@[simp] theorem abs_i {i : Int} : fAbs [.int i] = some (.int (if i < 0 then -i else i)) := rfl
@[simp] theorem max_ii {i j : Int} : fMax2 [.int i, .int j] = some (.int (if j > i then j else i)) := rfl
@[simp] theorem min_ii {i j : Int} : fMin2 [.int i, .int j] = some (.int (if j < i then j else i)) := rfl
@[simp] theorem items_l {l : List D} : itemsOf (.lst l) = some l := rfl
@[simp] theorem items_t {l : List D} : itemsOf (.tup l) = some l := rfl
theorem mul_ii {i j : Int} (h : mulOk i j = true) : fMul (.int i) (.int j) = some (.int (i * j)) := if_pos h
theorem div_ii {i j : Int} (h : 0 < j) (h2 : j.natAbs.log2 < 9000) : fDiv (.int i) (.int j) = some (.int (i / j)) := if_pos ⟨h, h2⟩
theorem mod_ii {i j : Int} (h : 0 < j) : fMod (.int i) (.int j) = some (.int (i % j)) := if_pos h
theorem pow_ii {i j : Int} (h : powOk i j = true) : fPow (.int i) (.int j) = some (.int (i ^ j.toNat)) := if_pos h
theorem mulOk_l {i j : Int} (h : i.natAbs < 18446744073709551616) : mulOk i j = true := by unfold mulOk; simp [h]
theorem mulOk_r {i j : Int} (h : j.natAbs < 18446744073709551616) : mulOk i j = true := by unfold mulOk; simp [h]
@[simp] theorem eqD_ii {i j : Int} : eqD (.int i) (.int j) = decide (i = j) := by unfold eqD; rfl
theorem flat_i {n : Nat} {i : Int} : flatD n (.int i) = true := by cases n <;> rfl
@[simp] theorem eq_ii {i j : Int} : fEq (.int i) (.int j) = some (.bl (decide (i = j))) := by unfold fEq; rw [if_pos ⟨flat_i, flat_i⟩, eqD_ii]
@[simp] theorem ne_ii {i j : Int} : fNe (.int i) (.int j) = some (.bl (!decide (i = j))) := by unfold fNe; rw [if_pos ⟨flat_i, flat_i⟩, eqD_ii]
end

/-! ### a def's end -/
def RS.out (n : Nat) (r : RS) : R D := match r with
  | .ok (.rt d) _ p' => .ok d (p'.take n)
  | .ok (.rn d) _ p' => .ok d (p'.take n)
  | .ok .nx _ p' => .ok .non (p'.take n)
  | .ok _ _ _ => .no
  | .ex x _ p' => .ex x (p'.take n)
  | .no => .no
theorem fnB_at {np N na nc : Nat} {body : S} {args : List Sl} {p : List Cell} : fnB np N na nc body args p = if args.length = np ∧ p.length ≤ na then (body (args ++ List.replicate (N - args.length) .un) (p ++ List.replicate (nc - p.length) none)).out p.length else .no := by
  unfold fnB RS.out
  rfl
@[simp] theorem out_rt {n : Nat} {d : D} {ρ : List Sl} {p : List Cell} : RS.out n (.ok (.rt d) ρ p) = .ok d (p.take n) := rfl
@[simp] theorem out_rn {n : Nat} {d : D} {ρ : List Sl} {p : List Cell} : RS.out n (.ok (.rn d) ρ p) = .ok d (p.take n) := rfl
@[simp] theorem out_nx {n : Nat} {ρ : List Sl} {p : List Cell} : RS.out n (.ok .nx ρ p) = .ok .non (p.take n) := rfl

/-! ### loops -/
theorem forGo_inv {g : G} {s : S} (Inv : Nat → List Sl → List Cell → Prop) : ∀ {ds : List D} {ρ : List Sl} {p : List Cell} {i : Nat}, Inv i ρ p →
    (∀ k d ρ p, ds[k]? = some d → Inv (i + k) ρ p → ∃ ρ1, g.run d ρ = some ρ1 ∧ ∃ ρ2 p2, (s ρ1 p = .ok .nx ρ2 p2 ∨ s ρ1 p = .ok .ct ρ2 p2) ∧ Inv (i + k + 1) ρ2 p2) →
    ∃ ρ' p', forGo g s ds ρ p = .ok .nx ρ' p' ∧ Inv (i + ds.length) ρ' p'
  | [], ρ, p, i, h0, _ => ⟨ρ, p, rfl, h0⟩
  | d :: ds, ρ, p, i, h0, hs => by
    obtain ⟨ρ1, e1, ρ2, p2, e2, h2⟩ := hs 0 d ρ p rfl h0
    obtain ⟨ρ', p', e3, h3⟩ := forGo_inv Inv (ds := ds) (ρ := ρ2) (p := p2) (i := i + 1) h2 fun k d ρ p hk hI => by
      have := hs (k + 1) d ρ p (by simpa using hk) (by rw [show i + (k + 1) = i + 1 + k by omega]; exact hI)
      rw [show i + (k + 1) + 1 = i + 1 + k + 1 by omega] at this
      exact this
    refine ⟨ρ', p', ?_, by rw [List.length_cons, show i + (ds.length + 1) = i + 1 + ds.length by omega]; exact h3⟩
    show (match g.run d ρ with | some ρ1 => (s ρ1 p).turn (forGo g s ds) | none => .no) = _
    rw [e1]
    rcases e2 with e2 | e2
    · show (s ρ1 p).turn _ = _
      rw [e2]; exact e3
    · show (s ρ1 p).turn _ = _
      rw [e2]; exact e3
/-- a block that keeps the cells -/
theorem compGo_if {g : G} {c : E Bool} {elt : E D} {ρ : List Sl} {p : List Cell} (cb : D → Bool) (f : D → D) : ∀ {ds : List D},
    (∀ d ∈ ds, ∃ ρ1, g.run d ρ = some ρ1 ∧ c ρ1 p = .ok (cb d) p ∧ (cb d = true → elt ρ1 p = .ok (f d) p)) → compGo g c elt ρ ds p = .ok ((ds.filter cb).map f) p
  | [], _ => rfl
  | d :: ds, h => by
    obtain ⟨ρ1, e1, e2, e3⟩ := h d (List.mem_cons_self ..)
    have ih := compGo_if cb f (ds := ds) fun d' hd => h d' (List.mem_cons_of_mem _ hd)
    show (match g.run d ρ with
      | some ρ1 => (c ρ1 p).bindn fun b p1 => if b = true then (elt ρ1 p1).bindn fun y p2 => (compGo g c elt ρ ds p2).bind fun ys p3 => .ok (y :: ys) p3 else compGo g c elt ρ ds p1
      | none => .no) = _
    rw [e1]
    show (c ρ1 p).bindn _ = _
    rw [e2]
    show (if cb d = true then _ else _) = _
    by_cases hc : cb d = true
    · rw [if_pos hc, e3 hc]
      show (compGo g c elt ρ ds p).bind _ = _
      rw [ih, List.filter_cons_of_pos hc]
      rfl
    · rw [if_neg hc, ih, List.filter_cons_of_neg hc]
theorem compGo_map {g : G} {elt : E D} {ρ : List Sl} {p : List Cell} (f : D → D) {ds : List D} (h : ∀ d ∈ ds, ∃ ρ1, g.run d ρ = some ρ1 ∧ elt ρ1 p = .ok (f d) p) : compGo g eYes elt ρ ds p = .ok (ds.map f) p := by
  have := compGo_if (c := eYes) (fun _ => true) f (ds := ds) fun d hd => by
    obtain ⟨ρ1, e1, e2⟩ := h d hd
    exact ⟨ρ1, e1, rfl, fun _ => e2⟩
  rwa [List.filter_eq_self.mpr fun _ _ => rfl] at this
/-- over ints -/
theorem compGo_intsIf {g : G} {c : E Bool} {elt : E D} {ρ : List Sl} {p : List Cell} (cb : Int → Bool) (F : Int → Int) : ∀ {ks : List Int},
    (∀ k ∈ ks, ∃ ρ1, g.run (.int k) ρ = some ρ1 ∧ c ρ1 p = .ok (cb k) p ∧ (cb k = true → elt ρ1 p = .ok (.int (F k)) p)) → compGo g c elt ρ (ks.map .int) p = .ok (((ks.filter cb).map F).map .int) p
  | [], _ => rfl
  | k :: ks, h => by
    obtain ⟨ρ1, e1, e2, e3⟩ := h k (List.mem_cons_self ..)
    have ih := compGo_intsIf cb F (ks := ks) fun d' hd => h d' (List.mem_cons_of_mem _ hd)
    show (match g.run (.int k) ρ with
      | some ρ1 => (c ρ1 p).bindn fun b p1 => if b = true then (elt ρ1 p1).bindn fun y p2 => (compGo g c elt ρ (ks.map .int) p2).bind fun ys p3 => .ok (y :: ys) p3 else compGo g c elt ρ (ks.map .int) p1
      | none => .no) = _
    rw [e1]
    show (c ρ1 p).bindn _ = _
    rw [e2]
    show (if cb k = true then _ else _) = _
    by_cases hc : cb k = true
    · rw [if_pos hc, e3 hc]
      show (compGo g c elt ρ _ p).bind _ = _
      rw [ih, List.filter_cons_of_pos hc]
      rfl
    · rw [if_neg hc, ih, List.filter_cons_of_neg hc]
theorem compGo_ints {g : G} {elt : E D} {ρ : List Sl} {p : List Cell} (F : Int → Int) {ks : List Int} (h : ∀ k ∈ ks, ∃ ρ1, g.run (.int k) ρ = some ρ1 ∧ elt ρ1 p = .ok (.int (F k)) p) : compGo g eYes elt ρ (ks.map .int) p = .ok ((ks.map F).map .int) p := by
  have := compGo_intsIf (c := eYes) (fun _ => true) F (ks := ks) fun d hd => by
    obtain ⟨ρ1, e1, e2⟩ := h d hd
    exact ⟨ρ1, e1, rfl, fun _ => e2⟩
  rwa [List.filter_eq_self.mpr fun _ _ => rfl] at this
end PL
/-! PL18: super().__init__(..) as the first row of a method. -/
namespace PL
open PySem PySem.Spec L2

/-- a method whose closure is the class's own cell; D: the class; fl: the file's name -/
structure FunS (K : PySem.W.Frag) (fl x qual : Str) (params : Arguments) (body : List Stmt) (scope : Scope) (D f : Addr) (fd : FuncData) : Prop where
  ex : ∃ (oc : Value) (od : Option Addr) (kV doc pm : Value) (an : Option Addr) (cda : Addr) (ct : Value) (osl : Array (Option Value)) (cc : Addr) (ccl cl : Value) (cdd cld : Option Addr) (ccs csl : Array (Option Value)) (vs : Array Value) (file : Str) (tf : Tok),
    fd = PySem.W.ksFn x qual params body scope .none kV doc pm an (.ref cda) ct cc ∧ K.lookup f = some ⟨oc, od, .func fd, osl⟩ ∧ PySem.W.codeIn K (.ref cda) qual = true ∧
    K.lookup cda = some ⟨ccl, cdd, .fields vs, ccs⟩ ∧ vs[2]? = some (.str file tf) ∧ (fl == file) = true ∧ K.lookup cc = some ⟨cl, cld, .cell (some (.ref D)), csl⟩
  kp : PySem.W.keepIn K (.ref f) = true
/-- what stands above D for an instance of C: its method m is the def at f -/
structure SupC (K : PySem.W.Frag) (C D : Addr) (m : Str) (f : Addr) : Prop where
  cls : ∃ cd, PySem.W.clsIn K D = some cd
  clsC : ∃ cd, PySem.W.clsIn K C = some cd
  sub : PySem.W.mroIn K C (.ref D) = some true
  sup : PySem.W.ks_superIn K C D m = some (some (.ref f))
  ty : PySem.W.typeIn K (.ref f) = some (.type "function")
  fn : PySem.W.fnIn K f = true
  op : PySem.W.nsIn K cStatics "thirdparty.any" = some none
/-- the scope of such a method: no cells, nothing free but the class -/
structure ScS (N P : List Str) (sc : Scope) : Prop where
  kind : sc.kind = .function
  co : sc.isCoroutine = false
  gen : sc.isGenerator = false
  nd : N.Nodup
  pre : N.take P.length = P
  par : ∀ x ∈ P, sc.names.lookup x = some .local
  nocell : ∀ y ∈ sc.names, y.2 ≠ .cell
  free : ∀ y ∈ sc.names, y.2 = .free → y.1 = "__class__"
def cxS (CX : CXT) (P : Program) (w : World) (K : PySem.W.Frag) (mg : Str → Option Value) (base : Heap) (N : List Str) (qual : Str) (scope : Scope) (f : Addr) (cd : Value) (cc : Addr) (A : Around) (outer : List Env) (s : Shared) (H : Hp) (E : XK) : Cx where
  prog := P
  w := w
  K := K
  mg := mg
  base := base
  A := A.deeper (PySem.W.ksEnv qual scope s.heap.objs.size f cd cc)
  N := N
  s_0 := s
  H_0 := H
  env := PySem.W.ksEnv qual scope s.heap.objs.size f cd cc
  outer := outer
  stack := PySem.W.ksEnv qual scope s.heap.objs.size f cd cc :: outer
  ex := []
  calm := true
  fn := fun y => y != "__class__"
  pn := []
  xe := fun e s' => wpAny (model P w) (A.deeper (PySem.W.ksEnv qual scope s.heap.objs.size f cd cc)) (leaving (PySem.W.ksEnv qual scope s.heap.objs.size f cd cc) e) (fun _ s'' => CX outer H s E e s'') (fun e' s'' => CX outer H s E e' s'') s'
theorem lookup_mem {x : Str} {v : Value} : ∀ {l : List (Str × Value)}, (l.map (·.1)).Nodup → (x, v) ∈ l → l.lookup x = some v
  | [], _, h => nomatch h
  | (y, u) :: l, nd, h => by
    have nd' : (y :: l.map (·.1)).Nodup := nd
    obtain ⟨n1, n2⟩ := List.nodup_cons.mp nd'
    rcases List.mem_cons.mp h with e | hm
    · cases e
      simp [List.lookup]
    · have : x ≠ y := fun e => n1 (by rw [← e]; exact List.mem_map_of_mem (f := fun z : Str × Value => z.1) hm)
      have hb : (x == y) = false := beq_eq_false_iff_ne.mpr this
      show (match x == y with | true => some u | false => List.lookup x l) = some v
      rw [hb]
      exact lookup_mem n2 hm
theorem zip_rev {x : Str} {u : Value} {ps : List Str} {us : List Value} {i : Nat} (nd : ps.Nodup) (h1 : ps[i]? = some x) (h2 : us[i]? = some u) : (ps.zip us).reverse.lookup x = some u := by
  refine lookup_mem ?_ ?_
  · rw [List.map_reverse]
    have e : (ps.zip us).map (·.1) = ps.take us.length := by
      clear h1 h2 nd
      induction ps generalizing us with
      | nil => simp
      | cons p ps ih => cases us with
        | nil => simp
        | cons u us => simp [ih]
    rw [e]
    exact List.pairwise_reverse.mpr ((List.Nodup.sublist (List.take_sublist _ _) nd).imp Ne.symm)
  · rw [List.mem_reverse]
    refine List.mem_iff_getElem?.mpr ⟨i, ?_⟩
    rw [List.getElem?_zip_eq_some]
    exact ⟨h1, h2⟩
section
variable {CX : CXT} {P : Program} {w : World} {K : PySem.W.Frag} {mg : Str → Option Value} {base : Heap} {N ps : List Str} {qual : Str} {scope : Scope} {f cc : Addr} {cd : Value} {A : Around} {outer : List Env} {s : Shared} {H : Hp} {E : XK} {us : List Value} {vs : List V}
theorem inv_startS {h₀ : Heap} {t : Nat} {D : Addr} {cl : Value} {cld : Option Addr} {csl : Array (Option Value)} (S : ScS N ps scope) (hd : A.handled = none) (e0 : Env0 P w K mg base A outer s H) (hl : vs.length = ps.length) (r : Vals vs us)
    (hcc : K.lookup cc = some ⟨cl, cld, .cell (some (.ref D)), csl⟩) (hns : h₀.Ns s.heap.objs.size (fun x => (ps.zip us).reverse.lookup x)) (hk : ∀ b o, s.heap.get? b = some o → h₀.get? b = some o) :
    Inv (cxS CX P w K mg base N qual scope f cd cc A outer s H E) [] (start N vs) H { s with heap := h₀, toks := t } := by
  have hpl : ps.length ≤ N.length := by have := congrArg List.length S.pre; rw [List.length_take] at this; omega
  have noA : ∀ b : Addr, b ∉ (cxS CX P w K mg base N qual scope f cd cc A outer s H E).ex := fun b z => absurd (show b ∈ ([] : List Addr) from z) (by simp)
  have lk : ∀ x c, (cxS CX P w K mg base N qual scope f cd cc A outer s H E).env.cells.lookup x = some c → x = "__class__" ∧ c = cc := fun x c h => by
    have h' : List.lookup x [(("__class__" : Str), cc)] = some c := h
    by_cases e : x = "__class__"
    · subst e
      have : List.lookup ("__class__" : Str) [(("__class__" : Str), cc)] = some cc := by simp [List.lookup]
      rw [this] at h'
      exact ⟨rfl, (Option.some.inj h').symm⟩
    · have hb : (x == ("__class__" : Str)) = false := beq_eq_false_iff_ne.mpr e
      simp [List.lookup, hb] at h'
  have bcc := e0.mod.kin _ _ hcc
  refine ⟨⟨e0.mod, S.kind, rfl, rfl, Nat.le_refl _, fun y z c h1 h2 => (lk y c h1).1.trans (lk z c h2).1.symm, fun y hy => ?_, fun y c hy h => ?_, fun _ => hd, Around.frames_deeper e0.frames, .inr ⟨rfl, rfl⟩, fun b z => absurd z (noA b), e0.bs, e0.bsz, fun b _ _ => noA b, fun b z => absurd z (noA b), e0.funs, e0.frf⟩,
    rfl, e0.bare, Un.kept hk, ⟨_, hns, fun i y v h1 h2 h3 => ?_⟩, fun y c h => ?_, e0.hok.fresh (Nat.le_refl _), fun y c h => ?_, fun p hp => absurd (show p ∈ ([] : List (Addr × Obj)) from hp) (by simp), e0.hok.kept hk, ?_⟩
  · have hy' : scope.names.lookup y = some .cell ∨ scope.names.lookup y = some .free := hy
    rcases hy' with q | q
    · exact absurd rfl (S.nocell _ (PySem.mem_of_lookup q))
    · have := S.free _ (PySem.mem_of_lookup q) rfl
      have e : y = "__class__" := this
      subst e
      exact ⟨cc, by show List.lookup ("__class__" : Str) [(("__class__" : Str), cc)] = some cc; simp [List.lookup]⟩
  · obtain ⟨e, _⟩ := lk y c h
    subst e
    have hy' : (("__class__" : Str) != "__class__") = true := hy
    exact absurd hy' (by simp)
  · have hi : i < vs.length := by
      unfold L2.start at h2
      by_cases hi : i < vs.length
      · exact hi
      · rw [List.getElem?_append_right (by simpa using hi), List.getElem?_replicate] at h2
        split at h2 <;> cases h2
    have ha : vs[i]? = some v := by
      unfold L2.start at h2
      rw [List.getElem?_append_left (by simpa using hi), List.getElem?_map] at h2
      cases e : vs[i]? with
      | none => rw [e] at h2; cases h2
      | some a => rw [e] at h2; cases h2; rfl
    obtain ⟨u, hu, rv⟩ := r.get ha
    have hp : ps[i]? = some y := by
      rw [← S.pre, List.getElem?_take_of_lt (by omega)]; exact h1
    have ndP : ps.Nodup := by rw [← S.pre]; exact S.nd.sublist (List.take_sublist _ _)
    exact ⟨u, rv, .inl ⟨S.par y (List.mem_of_getElem? hp), zip_rev ndP hp hu⟩⟩
  · obtain ⟨_, rfl⟩ := lk y c h
    exact ⟨_, _, hk _ _ (e0.bs _ _ bcc).1, rfl⟩
  · obtain ⟨_, rfl⟩ := lk y c h
    exact (e0.bs _ _ bcc).2
  · show (L2.start N vs).length = N.length
    unfold L2.start
    rw [List.length_append, List.length_map, List.length_replicate]
    omega
/-- the reading of super().__init__(..) and the rest; i: self's slot -/
def tSup (K : PySem.W.Frag) (D : Addr) (m : Str) (sp : Addr → Sp) (ta : TA) (t : TS) : TS := fun De σ H => ∃ a C dx fs g, σ[0]? = some (some (.ref a)) ∧ H a = some (.ins C dx fs) ∧ SupC K C D m g ∧ ta σ H fun vs H1 => sp g (.ref a :: vs) H1 (fun _ H2 => t De σ H2) E0
variable {X : Cx} {body : List Stmt} {e : Expr} {es : List Expr} {m : Str} {p0 p1 apos cpos : Pos} {sp : Addr → Sp} {ta : TA} {k : Nat}
theorem C8pass : Passes CX0 X E0 := fun _ _ _ _ _ _ _ h => h.elim
theorem sup_call {pins : List (Addr × Obj)} {σ : St} {s : Shared} {H : Hp} {D a C dx g : Addr} {fs : List (Str × V)} {Q : VK} {fl q : Str} {params : Arguments} {fd : FuncData} {ar : Arg} {cda : Addr} {ccl cl : Value} {cdd cld : Option Addr} {ccs csl : Array (Option Value)} {vs : Array Value} {file : Str} {tf : Tok} {oc : Value} {od : Option Addr} {osl : Array (Option Value)}
    (he : X.env = PySem.W.ksEnv q scope X.env.locals f (.ref cda) cc) (I : Inv X pins σ H s) (hf : X.K.lookup f = some ⟨oc, od, .func fd, osl⟩) (hp : (fd.params.posonlyargs ++ fd.params.args).head? = some ar)
    (hcode : X.K.lookup cda = some ⟨ccl, cdd, .fields vs, ccs⟩) (hvs : vs[2]? = some (.str file tf)) (hfile : ((X.prog.main.file : Str) == file) = true) (hcell : X.K.lookup cc = some ⟨cl, cld, .cell (some (.ref D)), csl⟩)
    (S : SupC X.K C D m g) (hm : X.mg "super" = none) (hks : scope.names.lookup ("super" : Str) = some .globalImplicit) (hkc : scope.names.lookup ("__class__" : Str) = some .free) (hka : scope.names.lookup ar.arg = some .local) (hN : X.N[0]? = some ar.arg)
    (htop : (X.prog.main.scope.names.lookup ("super" : Str)).isSome = false) (hm2 : (m == ("__class__" : Str)) = false)
    (hs0 : σ[0]? = some (some (.ref a))) (ea : H a = some (.ins C dx fs)) (F : FnR X.prog X.w X.K X.mg X.base CX0 k g (sp g)) (hr : Room k X.A) (ha : PA X (e :: es) ta) (h : ta σ H fun vs H1 => sp g (.ref a :: vs) H1 Q E0)
    (hst : starEach (e :: es) X.env = (false, eval e X.env) :: starEach es X.env) (hpl : (backTo cpos (starEach es X.env)).any (·.1) = false) {pl : Sem Bool}
    (ht : eval (.Call (.Attribute (.Call (.Name "super" p0) [] [] p1) m apos) (e :: es) [] cpos) X.env = (do
      let ov ← attributeBase (.Call (.Name "super" p0) [] [] p1) m X.env (eval (.Call (.Name "super" p0) [] [] p1) X.env)
      standAt apos.atName
      let (f, first) ← holding [ov] (getMethod ov m pl)
      callWith cpos f first (backTo cpos (starEach (e :: es) X.env)) [])) :
    _root_.PySem.wpAt (model X.prog X.w) X.A (.func body X.env) (eval (.Call (.Attribute (.Call (.Name "super" p0) [] [] p1) m apos) (e :: es) [] cpos) X.env) (EP X pins σ Q) X.xe s := by
  have KX : X.K.In s.heap := I.kIn
  obtain ⟨cdD, hD⟩ := S.cls
  obtain ⟨cdC, hC⟩ := S.clsC
  obtain ⟨ox, odx, J, hdp⟩ := StX.insC_at I (.inr ⟨dx, fs, ea⟩)
  have hk : X.env.scope.kind = .function := I.ok.kind
  have env_s : X.env.scope = scope := by rw [he]
  have hxC : a ≠ C := PySem.W.ks_ne KX J hC
  refine PySem.ks_wpAt_MethodCall ?_ ht
  refine _root_.PySem.ks_wpAt_super_base (f := f) (of := ⟨oc, od, .func fd, osl⟩) (fd := fd) (ar := ar) (cc := cda) (oc := ⟨ccl, cdd, .fields vs, ccs⟩) (vs := vs) (file := file) (tf := tf)
    (by show X.env.scope.names.lookup _ = _; rw [env_s]; exact hks) (by show X.env.scope.names.lookup _ = _; rw [env_s]; exact hkc) hm2 (by rw [he]) (KX _ _ hf) rfl hp (by rw [he]) (KX _ _ hcode) rfl hvs hfile htop ?_
  -- super
  obtain ⟨mb, b1, b2⟩ := I.mod.blt
  refine PySem.W.ks_loadName_global hk (by show X.env.scope.names.lookup _ = _; rw [env_s]; exact hks)
    (Calls.loadGlobal_builtin (by rw [I.ok.glob]; exact I.mod.glob.keeps I.bk) hm (by rw [I.ok.blt]; exact b1.keeps I.bk) ((b2 "super" (by decide)).trans (by decide +kernel : bootBuiltins "super" = some (.type "super"))) ⟨rfl, ?_⟩)
  -- __class__
  refine wpAny_loadName_free hk (by show X.env.scope.names.lookup _ = _; rw [env_s]; exact hkc) (c := cc) (by rw [he]; show List.lookup ("__class__" : Str) [(("__class__" : Str), cc)] = some cc; simp [List.lookup]) ⟨_, KX _ _ hcell, rfl⟩ ?_
  -- self
  obtain ⟨mm, hn, hl⟩ := I.loc
  obtain ⟨u, ru, lu⟩ := hl 0 ar.arg (.ref a) hN hs0 (.inl (by rw [env_s]; exact hka))
  have hka' : X.env.kindOf ar.arg = some .local := by show X.env.scope.names.lookup _ = _; rw [env_s]; exact hka
  have hu : mm ar.arg = some u := by
    rcases lu with ⟨_, q⟩ | ⟨q | q, _⟩
    · exact q
    · rw [hka'] at q; cases q
    · rw [hka'] at q; cases q
  cases ru
  refine wpAny_loadName_local hk hka' hn hu ?_
  obtain ⟨oD, hD1, hD2⟩ : ∃ oD, s.heap.get? D = some oD ∧ oD.data = .cls cdD := by
    unfold PySem.W.clsIn at hD
    split at hD
    · cases hD
      exact ⟨_, KX _ _ (by assumption), rfl⟩
    · cases hD
  obtain ⟨of, hof, hofc⟩ : ∃ of, X.K.lookup g = some of ∧ of.cls = .type "function" := by
    have ht' : (X.K.lookup g).map (·.cls) = some (.type "function") := S.ty
    cases z : X.K.lookup g with
    | none => rw [z] at ht'; cases ht'
    | some of => rw [z] at ht'; exact ⟨of, rfl, Option.some.inj ht'⟩
  obtain ⟨hh, gg, dd, tt, oo⟩ := s
  refine _root_.PySem.ks_wpAny_isType_cls hD1 hD2 ⟨rfl, ?_⟩
  refine _root_.PySem.ks_wpAny_call_super hD1 hD2 J.at_ J.cls (fun c e => by rw [hdp] at e; cases e) (PySem.W.looks_mroIn KX S.sub) (fun h' e k => ?_)
  have I2 := ClX.pin_new (t' := tt) I k (Nat.le_refl _) e (fun v z => nomatch z)
  -- the method of the super object
  have hsup := S.sup
  unfold PySem.W.ks_superIn at hsup
  rw [hC] at hsup
  refine _root_.PySem.ks_wpAny_getMethod_super e (PySem.W.looks_opaque I2.kIn S.op) (l₀ := cdC.mro) (fun A Q E s k q => wpAny_bind ((PySem.W.looks_clsIn I2.kIn hC) A _ E s k (wpAny_pure q))) rfl I2.kIn hsup (I2.kIn _ _ hof) hofc hxC hm2 ?_
  have I3 := ClX.met_new (g := g) (C := a) I2
  -- its call
  have hb : X.base.get? h'.objs.size = none := ClX.base_none I2 (Nat.le_refl _)
  refine thn (ClX.callwith_cm (Q := EP X ((hh.objs.size, PySem.W.ks_superObj D a C) :: pins) σ Q) I3 hb S.fn ?_ hst hpl) fun _ _ y => ClX.unpinE y
  refine thn (ha.run cpos _ _ σ H _ I3 h) fun us s3 ⟨vs, H2, I4, rv, q2⟩ => ⟨⟨ClX.pin_at I4, I4.kIn⟩, ?_⟩
  exact ClX.run_cm F hr C8pass I4 rv q2
theorem ks_inter {q : Str} {L : Addr} (h : scope.kind = .function) : interactive (PySem.W.ksEnv q scope L f cd cc) = false := by
  unfold interactive
  simp [Env.blockKind, h, ScopeKind.isAnnotationScope]
/-- THE RULE of a method that begins with super().m(..) -/
theorem fn_sup {x fl : Str} {params : Arguments} {D : Addr} {fd : FuncData} {rest : List Stmt} {epos : Pos} {t : TS} {spS : Sp} {k j : Nat} {pl : Sem Bool} (F : FunS K fl x qual params body scope D f fd) (S : ScS N ps scope) (hb : body = .Expr (.Call (.Attribute (.Call (.Name "super" p0) [] [] p1) m apos) (e :: es) [] cpos) epos :: rest)
    (len : ∀ vs H Q E, spS vs H Q E → vs.length = ps.length)
    (hfile : P.main.file = fl) (htop : (P.main.scope.names.lookup ("super" : Str)).isSome = false) (hm : mg "super" = none) (hm2 : (m == ("__class__" : Str)) = false) {ar : Arg} (hp : (params.posonlyargs ++ params.args).head? = some ar) (hN : N[0]? = some ar.arg)
    (hka : scope.names.lookup ar.arg = some .local) (hks : scope.names.lookup ("super" : Str) = some .globalImplicit) (hkc : scope.names.lookup ("__class__" : Str) = some .free)
    (Fb : ∀ C g, SupC K C D m g → FnR P w K mg base CX0 j g (sp g)) (hj : j ≤ k)
    (hargs : ∀ (cdv : Value) (cc : Addr) (A : Around) (outer : List Env) (s : Shared) (H : Hp) (E : XK), Room k (A.deeper (PySem.W.ksEnv qual scope s.heap.objs.size f cdv cc)) →
      PA (cxS CX0 P w K mg base N qual scope f cdv cc A outer s H E) (e :: es) ta ∧ PSs (cxS CX0 P w K mg base N qual scope f cdv cc A outer s H E) rest t)
    (hst : ∀ (cdv : Value) (cc L : Addr), starEach (e :: es) (PySem.W.ksEnv qual scope L f cdv cc) = (false, eval e (PySem.W.ksEnv qual scope L f cdv cc)) :: starEach es (PySem.W.ksEnv qual scope L f cdv cc))
    (hpl : ∀ (cdv : Value) (cc L : Addr), (backTo cpos (starEach es (PySem.W.ksEnv qual scope L f cdv cc))).any (·.1) = false)
    (ht : ∀ (cdv : Value) (cc L : Addr), eval (.Call (.Attribute (.Call (.Name "super" p0) [] [] p1) m apos) (e :: es) [] cpos) (PySem.W.ksEnv qual scope L f cdv cc) = (do
      let ov ← attributeBase (.Call (.Name "super" p0) [] [] p1) m (PySem.W.ksEnv qual scope L f cdv cc) (eval (.Call (.Name "super" p0) [] [] p1) (PySem.W.ksEnv qual scope L f cdv cc))
      standAt apos.atName
      let (fv, first) ← holding [ov] (getMethod ov m pl)
      callWith cpos fv first (backTo cpos (starEach (e :: es) (PySem.W.ksEnv qual scope L f cdv cc))) []))
    (pure : ∀ vs H Q E, spS vs H Q E → tSup K D m sp ta t { nx := fun _ H' => Q .non H', rt := Q } (L2.start N vs) H) : FnOk P w K mg base CX0 (k + 1) f fd ps spS := by
  obtain ⟨oc, od, kV, doc, pm, an, cda, ct, osl, cc, ccl, cl, cdd, cld, ccs, csl, vsx, file, tf, rfl, lk, hcd, hcode, hvs, hfl, hcell⟩ := F.ex
  refine ⟨len, fun A outer s H args us vs Q E hr e0 hbd r hsp => ?_⟩
  have hl := len _ _ _ _ hsp
  have KX : K.In s.heap := e0.mod.kin.keeps fun b o e => (e0.bs b o e).1
  have lim : s.heap.NoLimit := e0.mod.nolimit.keeps fun b o e => (e0.bs b o e).1
  have hloc : ∀ y ∈ ps.zip us, scope.names.lookup y.1 = some .local := fun y hy => S.par y.1 (List.of_mem_zip hy).1
  refine _root_.PySem.ks_codeAny_call_defAt hr.depth (KX _ _ lk) rfl lim (PySem.W.codeRec_of KX hcd) rfl hbd S.nocell hloc (fun h₀ hns hk => ?_) S.co S.gen S.kind
  show _root_.PySem.wpAt (model P w) (A.deeper (PySem.W.ksEnv qual scope s.heap.objs.size f (.ref cda) cc)) (.func body (PySem.W.ksEnv qual scope s.heap.objs.size f (.ref cda) cc)) (execs body (PySem.W.ksEnv qual scope s.heap.objs.size f (.ref cda) cc)) _ _ _
  have I := inv_startS (CX := CX0) (N := N) (qual := qual) (f := f) (cd := .ref cda) (E := E) (t := s.toks + (ps.zip us).length) S hr.hd e0 hl r hcell hns hk
  have hrd := hr.deeper (PySem.W.ksEnv qual scope s.heap.objs.size f (.ref cda) cc)
  obtain ⟨hpa, hrest⟩ := hargs (.ref cda) cc A outer s H E hrd
  obtain ⟨a, C, dx, fs, g, hs0, ea, sc, h⟩ := pure vs H Q E hsp
  generalize hBody : body = B
  have hB : B = .Expr (.Call (.Attribute (.Call (.Name "super" p0) [] [] p1) m apos) (e :: es) [] cpos) epos :: rest := hBody ▸ hb
  have fin : ∀ {σ' : St} {H' : Hp} {s' : Shared} {v : V} {u : Value}, Inv (cxS CX0 P w K mg base N qual scope f (.ref cda) cc A outer s H E) [] σ' H' s' → RelV v u → Q v H' → CE outer P w H s Q u s' :=
    fun {σ' H' s' v u} J rv q => ⟨v, H', J.os, J.bare, J.base, J.hok, rv, q⟩
  subst hBody
  rw [show execs body (PySem.W.ksEnv qual scope s.heap.objs.size f (.ref cda) cc) = execs (.Expr (.Call (.Attribute (.Call (.Name "super" p0) [] [] p1) m apos) (e :: es) [] cpos) epos :: rest) (PySem.W.ksEnv qual scope s.heap.objs.size f (.ref cda) cc) by rw [← hb]]
  refine _root_.PySem.ks_wpAt_execs_cons (_root_.PySem.ks_wpAt_Expr_any ?_ (ks_inter S.kind))
  refine _root_.PySem.ks_wpAt_mono (sup_call (X := cxS CX0 P w K mg base N qual scope f (.ref cda) cc A outer s H E) (pins := []) (k := k) (fl := fl) (q := qual) (params := params) (body := body) rfl I lk hp hcode hvs (by show (P.main.file == file) = true; rw [hfile]; exact hfl) hcell sc hm hks hkc hka hN htop hm2 hs0 ea ((Fb C g sc).mono hj) hrd hpa h (hst _ _ _) (hpl _ _ _) (ht _ _ _)) (fun u s' hu => ?_) fun e s' z => z
  obtain ⟨v, H', I', rv, q⟩ := hu
  refine _root_.PySem.wpAt_of_wpAny (wpAny_mono (hrest.run [] s' _ H' _ I' q) (fun fl s'' hs => ?_) fun e s'' z => z)
  cases fl with
  | ret u =>
    obtain ⟨v, σ', H', J, rv, q⟩ := hs
    exact fin J rv q
  | next =>
    obtain ⟨σ', H', J, q⟩ := hs
    exact fin (v := V.non) (u := Value.none) J rfl q
  | brk =>
    obtain ⟨_, _, _, q⟩ := hs
    exact False.elim q
  | cont =>
    obtain ⟨_, _, _, q⟩ := hs
    exact False.elim q
end
end PL
/-! PL19: attributes of instances, instances made, promises by places, star calls. -/
namespace PL
open PySem PySem.Spec L2

/-! ### attributes -/
/-- f is an attribute of instances of these classes, if of anything -/
structure FldT (K : PySem.W.Frag) (cs : List Str) (f : Str) : Prop where
  ok : ∀ c ∈ cs, Cls K (He.ga K c) ∧ NoAttr K (He.ga K c) f
def fldOf (f : Str) : List Str → List D → Option D
  | n :: ns, d :: ds => if f = n then some d else fldOf f ns ds
  | _, _ => none
def putD (f : Str) (d : D) : List Str → List D → List Str × List D
  | n :: ns, e :: ds => if n = f then (n :: ns, d :: ds) else (n :: (putD f d ns ds).1, e :: (putD f d ns ds).2)
  | _, _ => ([f], [d])
def fFld (cs : List Str) (f : Str) : D → Option D
  | .ins c ns ds => if c ∈ cs then fldOf f ns ds else none
  | _ => none
/-- an attribute of the cell j's instance, that slot i holds -/
def eCFld (i j : Nat) (cs : List Str) (f : Str) : E D := fun ρ p => match ρ[i]? with
  | some (.cell j') => if j' = j then (match p[j]? with
    | some (some d) => lift (fFld cs f d) p
    | _ => .no) else .no
  | _ => .no
/-- self.f = e -/
def xFld (i j : Nat) (cs : List Str) (f : Str) (ee : E D) : S := fun ρ p => RS.of (ee ρ p) ρ fun d p1 => match ρ[i]? with
  | some (.cell j') => if j' = j then (match p1[j]? with
    | some (some (.ins c ns ds)) => if c ∈ cs ∧ ns.length < 1000 then .ok .nx ρ (p1.set j (some (.ins c (putD f d ns ds).1 (putD f d ns ds).2))) else .no
    | _ => .no) else .no
  | _ => .no
section
variable {K : PySem.W.Frag} {F : Hp}
theorem fldOf_rep {f : Str} {d : D} : ∀ {fs : List (Str × V)} {ds : List D}, RepL K F (fs.map (·.2)) ds → fldOf f (fs.map (·.1)) ds = some d → ∃ v, fs.lookup f = some v ∧ Rep K F v d
  | [], [], _, e => by cases e
  | [], _ :: _, r, _ => r.not_nc.elim
  | (n, v) :: fs, [], r, _ => RepL.not_cn (show RepL K F (v :: fs.map (·.2)) [] from r) |>.elim
  | (n, v) :: fs, d' :: ds, r, e => by
    have r' : RepL K F (v :: fs.map (·.2)) (d' :: ds) := r
    have e' : (if f = n then some d' else fldOf f (fs.map (·.1)) ds) = some d := e
    show ∃ w, (match f == n with | true => some v | false => List.lookup f fs) = some w ∧ _
    by_cases h : f = n
    · rw [if_pos h] at e'
      cases e'
      rw [beq_iff_eq.mpr h]
      exact ⟨v, rfl, r'.hd⟩
    · rw [if_neg h] at e'
      rw [beq_eq_false_iff_ne.mpr h]
      exact fldOf_rep r'.tl e'
theorem putD_rep {f : Str} {v : V} {d : D} (h : Rep K F v d) : ∀ {fs : List (Str × V)} {ds : List D}, RepL K F (fs.map (·.2)) ds →
    (putF f v fs).map (·.1) = (putD f d (fs.map (·.1)) ds).1 ∧ RepL K F ((putF f v fs).map (·.2)) (putD f d (fs.map (·.1)) ds).2
  | [], [], _ => ⟨rfl, .cons h .nil⟩
  | [], _ :: _, r => r.not_nc.elim
  | (n, w) :: fs, [], r => RepL.not_cn (show RepL K F (w :: fs.map (·.2)) [] from r) |>.elim
  | (n, w) :: fs, d' :: ds, r => by
    have r' : RepL K F (w :: fs.map (·.2)) (d' :: ds) := r
    by_cases e : n = f
    · have e1 : putF f v ((n, w) :: fs) = (n, v) :: fs := if_pos e
      have e2 : putD f d (n :: fs.map (·.1)) (d' :: ds) = (n :: fs.map (·.1), d :: ds) := if_pos e
      show _ = (putD f d (n :: fs.map (·.1)) (d' :: ds)).1 ∧ RepL K F _ (putD f d (n :: fs.map (·.1)) (d' :: ds)).2
      rw [e1, e2]
      exact ⟨rfl, .cons h r'.tl⟩
    · have e1 : putF f v ((n, w) :: fs) = (n, w) :: putF f v fs := if_neg e
      have e2 : putD f d (n :: fs.map (·.1)) (d' :: ds) = (n :: (putD f d (fs.map (·.1)) ds).1, d' :: (putD f d (fs.map (·.1)) ds).2) := if_neg e
      obtain ⟨i1, i2⟩ := putD_rep h (fs := fs) (ds := ds) r'.tl
      show _ = (putD f d (n :: fs.map (·.1)) (d' :: ds)).1 ∧ RepL K F _ (putD f d (n :: fs.map (·.1)) (d' :: ds)).2
      rw [e1, e2]
      refine ⟨?_, .cons r'.hd i2⟩
      show n :: (putF f v fs).map (·.1) = n :: _
      rw [i1]
end
section
variable {X : Cx} {C : Cxt} {a e : Expr} {ea ee : E D} {f : Str} {cs : List Str} {pos : Pos}
theorem e_fld (T : FldT C.K cs f) (he : PE X a (tE C ea)) (hK : X.K = C.K := by rfl) (hb : attributeBase a f X.env (eval a X.env) = eval a X.env := by rfl) : PE X (.Attribute a f pos) (tE C (eUn (fFld cs f) ea)) :=
  PE.imp (pe_fld he hb) fun σ H Q ⟨F, Z, ca, ρ, p, I, h⟩ => ⟨F, Z, ca, ρ, p, I, h.bind fun d p1 F1 H1 e1 I1 h1 v hv => by
    obtain ⟨z, ez, k⟩ := h1.lift
    unfold fFld at ez
    split at ez
    · rename_i c ns ds
      split at ez
      · rename_i hc
        obtain ⟨b, dx, fs, rfl, hb, hn, r⟩ := Rep.ins_iff.mp hv
        subst hn
        obtain ⟨w, h2, h3⟩ := fldOf_rep r ez
        refine ⟨b, _, dx, fs, w, rfl, I1.sub _ _ hb, ?_, ?_, h2, k F1 H1 .rfl' I1 w h3⟩
        · rw [hK]; exact (T.ok c hc).1
        · rw [hK]; exact (T.ok c hc).2
      · cases ez
    · cases ez⟩
theorem e_cfld (i j : Nat) {x : Str} {px : Pos} (T : FldT C.K cs f) (hK : X.K = C.K := by rfl) (hN : X.N[i]? = some x := by rfl)
    (hv : Vis X.env.scope x := by first | exact Or.inl rfl | exact Or.inr (Or.inl rfl) | exact Or.inr (Or.inr rfl)) (hd : (x == ("__debug__" : Str)) = false := by decide) (hcd : (x == ("__classdict__" : Str)) = false := by decide)
    (hb : attributeBase (.Name x px) f X.env (eval (.Name x px) X.env) = eval (.Name x px) X.env := by rfl) : PE X (.Attribute (.Name x px) f pos) (tE C (eCFld i j cs f)) :=
  PE.imp (pe_fld (pe_var hN hv hd hcd) hb) fun σ H Q ⟨F, Z, ca, ρ, p, I, h⟩ => by
    unfold eCFld at h
    split at h
    · rename_i j' ej
      split at h
      · rename_i ejj
        subst ejj
        split at h
        · rename_i d ed
          obtain ⟨z, ez, k⟩ := h.lift
          obtain ⟨b, ev, w1, w2, w3, w4⟩ := I.cellAt ej ed
          unfold fFld at ez
          split at ez
          · rename_i c ns ds
            split at ez
            · rename_i hc
              obtain ⟨dx, fs, g1, g2, g3⟩ := w2
              subst g2
              obtain ⟨w, h2, h3⟩ := fldOf_rep g3 ez
              refine ⟨.ref b, ev, b, _, dx, fs, w, rfl, g1, ?_, ?_, h2, k F H .rfl' I w h3⟩
              · rw [hK]; exact (T.ok c hc).1
              · rw [hK]; exact (T.ok c hc).2
            · cases ez
          · cases ez
        · exact h.elim
      · exact h.elim
    · exact h.elim
theorem x_fld (i j : Nat) {x : Str} {px ppos : Pos} (T : FldT C.K cs f) (he : PE X e (tE C ee)) (hK : X.K = C.K := by rfl) (hN : X.N[i]? = some x := by rfl)
    (hv : Vis X.env.scope x := by first | exact Or.inl rfl | exact Or.inr (Or.inl rfl) | exact Or.inr (Or.inr rfl)) (hd : (x == ("__debug__" : Str)) = false := by decide) (hcd : (x == ("__classdict__" : Str)) = false := by decide)
    (hs : swapsWith e (some (.Attribute (.Name x px) f ppos)) pos.line X.env = pure false := by rfl) : PS X (.Assign [.Attribute (.Name x px) f ppos] e pos) (tS C (xFld i j cs f ee)) :=
  PS.imp (ps_fld (pe_var hN hv hd hcd) he hs) fun De σ H ⟨F, Z, ca, ρ, p, I, h⟩ => ⟨F, Z, ca, ρ, p, I, h.of fun d p1 F1 H1 e1 I1 h1 v hv => by
    split at h1
    · rename_i j' ej
      split at h1
      · rename_i ejj
        subst ejj
        split at h1
        · rename_i c ns ds ed
          split at h1
          · rename_i hc
            obtain ⟨b, ev, w1, w2, w3, w4⟩ := I1.cellAt ej ed
            obtain ⟨dx, fs, g1, g2, g3⟩ := w2
            subst g2
            obtain ⟨i1, i2⟩ := putD_rep (f := f) hv g3
            refine ⟨.ref b, ev, b, _, dx, fs, rfl, g1, ?_, ?_, ?_, ?_⟩
            · rw [hK]; exact (T.ok c hc.1).1
            · rw [hK]; exact (T.ok c hc.1).2
            · have := hc.2; rwa [List.length_map] at this
            · exact h1 F1 _ ca σ .rfl' (I1.put w1 (List.getElem?_eq_some_iff.mp ed).1 ⟨dx, _, upd_same, i1, i2⟩ w3 w4)
          · exact h1.elim
        · exact h1.elim
      · exact h1.elim
    · exact h1.elim⟩
end

/-! ### promises by places -/
/-- the def at f, called with arguments by places, gives what g gives -/
def FnP (P : Program) (w : World) (K : PySem.W.Frag) (mg : Str → Option Value) (base : Heap) (k : Nat) (f : Addr) (co : List Nat) (g : List Sl → List Cell → R D) : Prop := FnR P w K mg base CX0 k f (spF K co g)
section
variable {P : Program} {w : World} {K : PySem.W.Frag} {mg : Str → Option Value} {base : Heap} {k j : Nat} {f : Addr} {co : List Nat} {g : List Sl → List Cell → R D}
theorem FnP.mono (F : FnP P w K mg base j f co g) (h : j ≤ k) : FnP P w K mg base k f co g := FnR.mono F h
theorem FnP.none : FnP P w K mg base k f co (fun _ _ => .no) := fun A outer s H us vs Q E hr e0 r h => by
  obtain ⟨F, as, args, ds, _, _, _, _, _, d, p', e, _⟩ := h
  cases e
/-- a def that may be called by its name -/
structure Cp (P : Program) (w : World) (K : PySem.W.Frag) (mg : Str → Option Value) (base : Heap) (k : Nat) (x : Str) (co : List Nat) (g : List Sl → List Cell → R D) : Prop where
  ex : ∃ f, FnP P w K mg base k f co g ∧ mg x = some (.ref f) ∧ PySem.W.keepIn K (.ref f) = true
theorem Cp.of {x : Str} (c : C8.Cal P w K mg base k x (spF K co g) []) : Cp P w K mg base k x co g := by
  obtain ⟨f, fd, ps, ds, F, hm, kp, b, d⟩ := c.ex
  exact ⟨f, (F.raw b d).imp fun vs H Q E h => by rw [List.append_nil]; exact h, hm, kp⟩
end
section
variable {X : Cx} {C : Cxt} {k j : Nat} {x : Str} {co : List Nat} {g : List Sl → List Cell → R D} {a e : Expr} {es : List Expr} {ea : E D} {ers : E (List D)} {p sp pos : Pos}
/-- x(*a) -/
def eCallS (f : List Sl → List Cell → R D) (a : E D) : E D := fun ρ p => (a ρ p).bind fun d p1 => match itemsS d with
  | some ds => (match f (ds.map .v) [] with
    | .ok d _ => .ok d p1
    | _ => .no)
  | none => .no
where itemsS : D → Option (List D)
  | .tup l => some l
  | .lst l => some l
  | _ => none
theorem e_callS (c : Cp X.prog X.w X.K X.mg X.base k x co g) (hr : Room j X.A) (hk : k ≤ j) (hg : Gl X x) (he : PE X a (tE C ea)) (hK : X.K = C.K := by rfl) (hd : (x == ("__debug__" : Str)) = false := by decide)
    (hst : starEach [.Starred a sp] X.env = [(true, eval a X.env)] := by rfl) : PE X (.Call (.Name x p) [.Starred a sp] [] pos) (tE C (eCallS g ea)) := by
  obtain ⟨f, F, hm, kp⟩ := c.ex
  refine PE.imp (StX.pe_callS1 (E := E0) F (hr.mono hk) kp hg hm C8.pass0 he hd hst) fun σ H Q ⟨F0, Z, ca, ρ, p, I, h⟩ => ⟨F0, Z, ca, ρ, p, I, h.bind fun d p1 F1 H1 e1 I1 h1 v hv => ?_⟩
  have key : ∀ {l : List D} {vs : List V}, RepL C.K F1 vs l → Rn C F1 Z ca σ ρ (match g (l.map .v) [] with | .ok d _ => .ok d p1 | _ => .no : R D) (kE C Q) → spF X.K co g vs H1 Q E0 := fun {l vs} r h2 => by
    split at h2
    · rename_i d2 p2 q
      rw [hK]
      refine ⟨F1, [], l.map .v, [], I1.sub, RArgs.vals r, .nil, rfl, fun k a d h => by simp at h, d2, p2, q, fun F' H' v fe hv => ?_⟩
      have gr := fe.grow
      exact h2 F' H' gr.f (I1.grow gr) v hv
    · exact h2.elim
  cases d with
  | tup l =>
    obtain ⟨b, vs, rfl, eb, hl, r⟩ := Rep.tup_iff.mp hv
    exact ⟨b, vs, rfl, .inl (SqT.of (I1.sub _ _ eb)), key r h1⟩
  | lst l =>
    obtain ⟨b, vs, rfl, eb, hl, r⟩ := Rep.lst_iff.mp hv
    exact ⟨b, vs, rfl, .inr (SqL.of (I1.sub _ _ eb)), key r h1⟩
  | _ => exact h1.elim
end
/-! ### a def with a star -/
def valsOf : List Sl → Option (List D)
  | [] => some []
  | .v d :: r => (valsOf r).map (d :: ·)
  | _ => none
def starF (n : Nat) (g : List Sl → List Cell → R D) : List Sl → List Cell → R D := fun args p => if n ≤ args.length then (match valsOf (args.drop n) with
  | some ds => if ds.length ≤ 1000 then g (args.take n ++ [.v (.tup ds)]) p else .no
  | none => .no) else .no
section
variable {K : PySem.W.Frag} {F F' : Hp} {as : List Addr} {co : List Nat}
theorem RArgs.split : ∀ {n i : Nat} {vs : List V} {ss : List Sl}, RArgs K F as co i vs ss → RArgs K F as co i (vs.take n) (ss.take n) ∧ RArgs K F as co (i + min n vs.length) (vs.drop n) (ss.drop n)
  | 0, i, vs, ss, h => by
    refine ⟨by simp [RArgs], by simpa using h⟩
  | n + 1, i, [], [], h => ⟨by simp [RArgs], by simp [RArgs]⟩
  | n + 1, i, v :: vs, .v d :: ss, h => by
    unfold RArgs at h
    obtain ⟨h1, h2⟩ := RArgs.split (n := n) h.2
    refine ⟨?_, ?_⟩
    · show RArgs K F as co i (v :: vs.take n) (.v d :: ss.take n)
      unfold RArgs
      exact ⟨h.1, h1⟩
    · have e : i + min (n + 1) (v :: vs).length = i + 1 + min n vs.length := by simp; omega
      rw [e]
      exact h2
  | n + 1, i, v :: vs, .cell k :: ss, h => by
    unfold RArgs at h
    obtain ⟨h1, h2⟩ := RArgs.split (n := n) h.2
    refine ⟨?_, ?_⟩
    · show RArgs K F as co i (v :: vs.take n) (.cell k :: ss.take n)
      unfold RArgs
      exact ⟨h.1, h1⟩
    · have e : i + min (n + 1) (v :: vs).length = i + 1 + min n vs.length := by simp; omega
      rw [e]
      exact h2
  | n + 1, i, _ :: _, .un :: _, h => by unfold RArgs at h; exact h.elim
  | n + 1, i, [], _ :: _, h => by unfold RArgs at h; exact h.elim
  | n + 1, i, _ :: _, [], h => by unfold RArgs at h; exact h.elim
theorem RArgs.app : ∀ {i : Nat} {vs : List V} {ss : List Sl} {v : V} {d : D}, RArgs K F as co i vs ss → Rep K F v d → RArgs K F as co i (vs ++ [v]) (ss ++ [.v d])
  | i, [], [], v, d, _, r => by simp [RArgs]; exact r
  | i, w :: vs, .v d :: ss, v, d', h, r => by
    unfold RArgs at h
    show RArgs K F as co i (w :: (vs ++ [v])) (.v d :: (ss ++ [.v d']))
    unfold RArgs
    exact ⟨h.1, RArgs.app h.2 r⟩
  | i, w :: vs, .cell k :: ss, v, d', h, r => by
    unfold RArgs at h
    show RArgs K F as co i (w :: (vs ++ [v])) (.cell k :: (ss ++ [.v d']))
    unfold RArgs
    exact ⟨h.1, RArgs.app h.2 r⟩
  | i, _ :: _, .un :: _, _, _, h, _ => by unfold RArgs at h; exact h.elim
  | i, [], _ :: _, _, _, h, _ => by unfold RArgs at h; exact h.elim
  | i, _ :: _, [], _, _, h, _ => by unfold RArgs at h; exact h.elim
theorem RArgs.valsR : ∀ {i : Nat} {vs : List V} {ss : List Sl} {ds : List D}, RArgs K F as co i vs ss → valsOf ss = some ds → RepL K F vs ds
  | i, [], [], ds, _, e => by cases e; exact .nil
  | i, v :: vs, .v d :: ss, ds, h, e => by
    unfold RArgs at h
    have e' : (valsOf ss).map (d :: ·) = some ds := e
    cases q : valsOf ss with
    | none => rw [q] at e'; cases e'
    | some es =>
      rw [q] at e'
      cases e'
      exact .cons h.1 (RArgs.valsR h.2 q)
  | i, v :: vs, .cell k :: ss, ds, _, e => by cases e
  | i, _ :: _, .un :: _, _, h, _ => by unfold RArgs at h; exact h.elim
  | i, [], _ :: _, _, h, _ => by unfold RArgs at h; exact h.elim
  | i, _ :: _, [], _, h, _ => by unfold RArgs at h; exact h.elim
/-- the arguments with what is left over in a new tuple -/
theorem star_sp {n : Nat} {g : List Sl → List Cell → R D} {vs : List V} {H : Hp} {Q : VK} {E : XK} (h : spF K co (starF n g) vs H Q E) :
    ∃ ws rest, vs = ws ++ rest ∧ ws.length = n ∧ rest.length ≤ sizeLine ∧ ∀ p, H p = none → spF K co g (ws ++ [V.ref p]) (upd H p (.tup rest)) Q E := by
  obtain ⟨F, as, args, ds, s, ra, nd, hl, hh, d, p', e, k⟩ := h
  unfold starF at e
  split at e
  · rename_i hn
    split at e
    · rename_i es hes
      split at e
      · rename_i h1000
        have la := ra.length
        obtain ⟨r1, r2⟩ := RArgs.split (n := n) ra
        have rr := RArgs.valsR r2 hes
        have hz : (vs.drop n).length ≤ sizeLine := by rw [rr.length]; exact le_line h1000
        refine ⟨vs.take n, vs.drop n, (List.take_append_drop n vs).symm, by rw [List.length_take]; omega, hz, fun q hq => ?_⟩
        have gr := Grow.upd (o := .tup (vs.drop n)) s hq
        refine ⟨upd F q (.tup (vs.drop n)), as, args.take n ++ [.v (.tup es)], ds, gr.sub, ?_, nd, hl, fun m a dd hma hmd => ?_, d, p', e, fun F' H' v fe hv => k F' H' v ?_ hv⟩
        · refine RArgs.app (r1.mono gr.f) (Rep.tup_iff.mpr ⟨q, _, rfl, upd_same, hz, rr.mono gr.f⟩)
        · obtain ⟨h1, h2⟩ := hh m a dd hma hmd
          have hne : a ≠ q := fun z => by
            obtain ⟨o, ho⟩ := h1.ob
            rw [z, hq] at ho
            cases ho
          exact ⟨h1.mono gr.f (upd_ne hne), by rw [upd_ne hne]; exact h2⟩
        · refine ⟨gr.f.trans fe.f, fe.sub, fun a o ha hna => fe.kept a o (gr.h _ _ ha) hna, fun a o ha => ?_, fe.cells⟩
          rcases fe.new a o ha with z | z | z
          · by_cases hq2 : a = q
            · subst hq2; exact .inr (.inl hq)
            · rw [upd_ne hq2] at z; exact .inl z
          · by_cases hq2 : a = q
            · subst hq2; exact .inr (.inl hq)
            · rw [upd_ne hq2] at z; exact .inr (.inl z)
          · exact .inr (.inr z)
      · cases e
    · cases e
  · cases e
end
section
variable {P : Program} {w : World} {K : PySem.W.Frag} {mg : Str → Option Value} {base : Heap} {k : Nat} {name qual : Str} {params : Arguments} {body : List Stmt} {scope : Scope} {f : Addr} {N ps : List Str}
/-- a body's run, from a promise -/
theorem body_ok {na nc : Nat} {co : List Nat} {sb : S} (Sc : FnScope N ps scope) {cdv : Value} {A : Around} {outer : List Env} {s : Shared} {H : Hp} {E : XK} {vs : List V} {Q : VK}
    (hbody : PSs (cxOf CX0 P w K mg base N qual scope f cdv A outer s H E).nox body (tS ⟨K, co, na, fun _ _ _ _ => False⟩ sb)) (h : spF K co (fnB ps.length N.length na nc sb) vs H Q E) :
    ∃ t, PSs (cxOf CX0 P w K mg base N qual scope f cdv A outer s H E) body t ∧ t { nx := fun _ H' => Q .non H', rt := Q } (start N vs) H := by
  have hpl : ps.length ≤ N.length := by have := congrArg List.length Sc.pre; rw [List.length_take] at this; omega
  refine ⟨tS ⟨K, co, na, fun _ _ _ _ => False⟩ sb, PSs.nox hbody, ?_⟩
  obtain ⟨F, as, args, ds, hs, ra, nd, al, hh, d, p', e, k⟩ := h
  have hl : vs.length = ps.length := by
    unfold fnB at e
    split at e
    · rename_i q; rw [ra.length]; exact q.1
    · cases e
  unfold fnB at e
  have hna : as.length ≤ na := by
    split at e
    · rename_i q; rw [al]; simpa using q.2
    · cases e
  have I := st_start (C := ⟨K, co, na, fun _ _ _ _ => False⟩) (N := N) (nc := nc) hs ra nd al hh (by omega) hna
  refine ⟨F, _, _, _, _, I, ?_⟩
  rw [if_pos ⟨by rw [← ra.length]; exact hl, by rw [List.length_map, ← al]; exact hna⟩] at e
  split at e
  · rename_i q
    rw [q]
    cases e
    intro F' H' ca' σ' v eF I' hv
    exact k F' H' v (st_end hs eF I') hv
  · rename_i q
    rw [q]
    cases e
    intro F' H' ca' σ' a eF I' hd hf hz hc
    obtain ⟨o, ho⟩ := hd.ob
    obtain ⟨e2, I2⟩ := I'.freeze ho hf hz hc
    exact k _ H' _ (st_end hs (eF.trans e2) I2) (hd.rep ho hf)
  · rename_i q
    rw [q]
    cases e
    intro F' H' ca' σ' eF I'
    exact k F' H' _ (st_end hs eF I') .non
  · cases e
  · cases e
  · cases e
/-- THE RULE of a def with a star -/
theorem fn_starP {na nc : Nat} {co : List Nat} {sb : S} {pv : Str} {kws : List (Str × V)} {fd : FuncData} (F : FunD K name qual params body scope [] kws f fd) (Sc : FnScope N (ps ++ [pv]) scope)
    (hb : ∀ (kV doc pm cdv ct : Value) (an : Option Addr) (us rest : List Value), us.length = ps.length → bindArgs (PySem.W.fnOf name qual params body scope .none kV doc pm an cdv ct) ⟨us ++ rest, []⟩ = (newTuple rest >>= fun t => pure (ps.zip us ++ [(pv, t)])))
    (hbody : ∀ (cdv : Value) (A : Around) (outer : List Env) (s : Shared) (H : Hp) (E : XK), Room k (A.deeper (PyProof.Rows.envOfC qual scope s.heap.objs.size f cdv)) →
      PSs (cxOf CX0 P w K mg base N qual scope f cdv A outer s H E).nox body (tS ⟨K, co, na, fun _ _ _ _ => False⟩ sb)) : FnP P w K mg base (k + 1) f co (starF ps.length (fnB (ps.length + 1) N.length na nc sb)) := by
  obtain ⟨oc, od, dV, kV, doc, pm, an, cdv, ct, osl, rfl, lk, hcd, hdf, hkw⟩ := F.ex
  have e : dV = .none := by
    rcases hdf with ⟨_, e⟩ | ⟨e, _⟩
    · exact e
    · exact absurd rfl e
  subst e
  have hl : (ps ++ [pv]).length = ps.length + 1 := by simp
  refine FnR.imp (StX.fn_star (CX := CX0) (ps := ps) (pv := pv) (N := N) (k := k) (sp := spF K co (fnB (ps.length + 1) N.length na nc sb)) lk hcd Sc (StX.cxUp_none) (fun us rest h => hb _ _ _ _ _ _ us rest h) (fun A outer s H vs Q E hr h => body_ok Sc (hbody cdv A outer s H E hr) (by rw [hl]; exact h))) fun vs H Q E h => star_sp h
end
end PL
/-! PL20: instances made, super().m(..) over data. -/
namespace PL
open PySem PySem.Spec L2

/-- a class that may be made by its name; fi: its __init__, the instance ahead -/
structure Mkp (P : Program) (w : World) (K : PySem.W.Frag) (mg : Str → Option Value) (base : Heap) (k : Nat) (c : Str) (co : List Nat) (fi : List Sl → List Cell → R D) : Prop where
  ex : ∃ f, Mk K (He.ga K c) f ∧ FnP P w K mg base k f (0 :: co) fi ∧ mg c = some (.ref (He.ga K c))
def eMake (c : Str) (fi : List Sl → List Cell → R D) (a : E (List D)) : E D := fun ρ p => (a ρ p).bind fun ds p1 => match fi (.cell 0 :: ds.map .v) [some (.ins c [] [])] with
  | .ok .non [some d] => .ok d p1
  | _ => .no
section
variable {X : Cx} {C : Cxt} {k j : Nat} {c : Str} {co : List Nat} {fi : List Sl → List Cell → R D} {e : Expr} {es : List Expr} {ers : E (List D)} {p pos : Pos}
theorem n_make (m : Mkp X.prog X.w X.K X.mg X.base k c co fi) (hr : Room j X.A) (hk : k + 1 ≤ j) (hg : Gl X c) (ha : PA X (e :: es) (tA C ers)) (hK : X.K = C.K := by rfl) (hdb : (c == ("__debug__" : Str)) = false := by decide)
    (he : starEach (e :: es) X.env = (false, eval e X.env) :: starEach es X.env := by rfl) (hpl : (backTo pos (starEach es X.env)).any (·.1) = false := by rfl) : PE X (.Call (.Name c p) (e :: es) [] pos) (tN C (eMake c fi ers)) := by
  obtain ⟨f, M, F, hm⟩ := m.ex
  refine PE.imp (StX.pe_makeR (E := E0) M F (hr.mono hk) hg hm C8.pass0 ha hdb he hpl) fun σ H Q ⟨F0, Z, ca, ρ, p, I, h⟩ => ⟨F0, Z, ca, ρ, p, I, h.bind fun ds p1 F1 H1 e1 I1 h1 vs hvs x dx hx hdx hne => ?_⟩
  split at h1
  · rename_i d hf
    have n1 : H1 x = none := hx
    have e2 : Ext H1 (upd (upd H1 dx (.own x)) x (.ins (He.ga X.K c) dx [])) := (Ext.upd hdx).trans (.upd (by rw [upd_ne hne.symm]; exact hx))
    obtain ⟨f1, f2, f3⟩ := I1.fresh hx
    rw [hK] at *
    refine ⟨F1, [x], .cell 0 :: ds.map .v, [.ins c [] []], I1.sub.trans e2, ?_, by simp, rfl, fun m a d' hm1 hm2 => ?_, .non, [some d], hf, fun F' H' v fe hv => ⟨Rep.non_iff.mp hv, ?_⟩⟩
    · unfold RArgs
      exact ⟨⟨rfl, x, rfl, rfl⟩, RArgs.vals hvs⟩
    · cases m with
      | zero =>
        simp at hm1 hm2
        subst hm1 hm2
        exact ⟨⟨dx, [], upd_same, rfl, .nil⟩, f1⟩
      | succ m => simp at hm1
    · obtain ⟨c1, c2⟩ := fe.cells 0 x d rfl rfl
      have gr : Grow F1 H1 F' H' := ⟨fe.f, fun a o ha => fe.kept a o (e2 _ _ ha) (fun z => by simp at z; subst z; rw [hx] at ha; cases ha), fe.sub, fun a o ha => by
        rcases fe.new a o ha with z | z | z
        · exact .inl z
        · right
          cases q : H1 a with
          | none => rfl
          | some u => rw [e2 a u q] at z; cases z
        · simp at z; subst z; exact .inr hx⟩
      exact h1 F' H' gr.f (I1.grow gr) x c1 c2 f2 f3
  · exact h1.elim
theorem e_make (m : Mkp X.prog X.w X.K X.mg X.base k c co fi) (hr : Room j X.A) (hk : k + 1 ≤ j) (hg : Gl X c) (ha : PA X (e :: es) (tA C ers)) (hK : X.K = C.K := by rfl) (hdb : (c == ("__debug__" : Str)) = false := by decide)
    (he : starEach (e :: es) X.env = (false, eval e X.env) :: starEach es X.env := by rfl) (hpl : (backTo pos (starEach es X.env)).any (·.1) = false := by rfl) : PE X (.Call (.Name c p) (e :: es) [] pos) (tE C (eMake c fi ers)) :=
  n_e (n_make m hr hk hg ha hK hdb he hpl)
end

/-! ### super().m(..) -/
/-- for an instance of these classes super() of the class at D gives such an m -/
def SupT (P : Program) (w : World) (K : PySem.W.Frag) (mg : Str → Option Value) (base : Heap) (k : Nat) (Dc : Addr) (m : Str) (cs : List Str) (co : List Nat) (fb : List Sl → List Cell → R D) : Prop :=
  ∀ c ∈ cs, ∃ g, SupC K (He.ga K c) Dc m g ∧ FnP P w K mg base k g (0 :: co) fb
def xSup (cs : List Str) (fb : List Sl → List Cell → R D) (ea : E (List D)) (s : S) : S := fun ρ p => match ρ[(0 : Nat)]?, p[(0 : Nat)]? with
  | some (.cell 0), some (some (.ins c _ _)) => if c ∈ cs then RS.of (ea ρ p) ρ fun ds p1 => (match p1[(0 : Nat)]? with
    | some (some d) => (match fb (.cell 0 :: ds.map .v) [some d] with
      | .ok _ [some d'] => s ρ (p1.set 0 (some d'))
      | _ => .no)
    | _ => .no) else .no
  | _, _ => .no
section
variable {P : Program} {w : World} {K : PySem.W.Frag} {mg : Str → Option Value} {base : Heap} {N ps : List Str} {qual : Str} {scope : Scope} {f : Addr} {body : List Stmt} {e : Expr} {es : List Expr} {m : Str} {p0 p1 apos cpos : Pos}
theorem fn_supP {x fl : Str} {params : Arguments} {Dc : Addr} {fd : FuncData} {rest : List Stmt} {epos : Pos} {k j na nc : Nat} {co co' : List Nat} {cs : List Str} {fb : List Sl → List Cell → R D} {ers : E (List D)} {sb : S} {pl : Sem Bool} (F : FunS K fl x qual params body scope Dc f fd) (S : ScS N ps scope)
    (hb : body = .Expr (.Call (.Attribute (.Call (.Name "super" p0) [] [] p1) m apos) (e :: es) [] cpos) epos :: rest)
    (hfile : P.main.file = fl) (htop : (P.main.scope.names.lookup ("super" : Str)).isSome = false) (hm : mg "super" = none) (hm2 : (m == ("__class__" : Str)) = false) {ar : Arg} (hp : (params.posonlyargs ++ params.args).head? = some ar) (hN : N[0]? = some ar.arg)
    (hka : scope.names.lookup ar.arg = some .local) (hks : scope.names.lookup ("super" : Str) = some .globalImplicit) (hkc : scope.names.lookup ("__class__" : Str) = some .free)
    (T : SupT P w K mg base j Dc m cs co' fb) (hj : j ≤ k) (hco : co[0]? = some 0)
    (hargs : ∀ (cdv : Value) (cc : Addr) (A : Around) (outer : List Env) (s : Shared) (H : Hp) (E : XK), Room k (A.deeper (PySem.W.ksEnv qual scope s.heap.objs.size f cdv cc)) →
      PA (cxS CX0 P w K mg base N qual scope f cdv cc A outer s H E) (e :: es) (tA ⟨K, co, na, fun _ _ _ _ => False⟩ ers) ∧ PSs (cxS CX0 P w K mg base N qual scope f cdv cc A outer s H E) rest (tS ⟨K, co, na, fun _ _ _ _ => False⟩ sb))
    (hst : ∀ (cdv : Value) (cc L : Addr), starEach (e :: es) (PySem.W.ksEnv qual scope L f cdv cc) = (false, eval e (PySem.W.ksEnv qual scope L f cdv cc)) :: starEach es (PySem.W.ksEnv qual scope L f cdv cc))
    (hpl : ∀ (cdv : Value) (cc L : Addr), (backTo cpos (starEach es (PySem.W.ksEnv qual scope L f cdv cc))).any (·.1) = false)
    (ht : ∀ (cdv : Value) (cc L : Addr), eval (.Call (.Attribute (.Call (.Name "super" p0) [] [] p1) m apos) (e :: es) [] cpos) (PySem.W.ksEnv qual scope L f cdv cc) = (do
      let ov ← attributeBase (.Call (.Name "super" p0) [] [] p1) m (PySem.W.ksEnv qual scope L f cdv cc) (eval (.Call (.Name "super" p0) [] [] p1) (PySem.W.ksEnv qual scope L f cdv cc))
      standAt apos.atName
      let (fv, first) ← holding [ov] (getMethod ov m pl)
      callWith cpos fv first (backTo cpos (starEach (e :: es) (PySem.W.ksEnv qual scope L f cdv cc))) [])) :
    FnOk P w K mg base CX0 (k + 1) f fd ps (spF K co (fnB ps.length N.length na nc (xSup cs fb ers sb))) := by
  have hpl0 : ps.length ≤ N.length := by have := congrArg List.length S.pre; rw [List.length_take] at this; omega
  have hlen : ∀ vs H Q E, spF K co (fnB ps.length N.length na nc (xSup cs fb ers sb)) vs H Q E → vs.length = ps.length := fun vs H Q E h => by
    obtain ⟨F, as, args, ds, _, ra, _, _, _, d, p', e, _⟩ := h
    unfold fnB at e
    split at e
    · rename_i q; rw [ra.length]; exact q.1
    · cases e
  refine fn_sup (pl := pl) (t := tS ⟨K, co, na, fun _ _ _ _ => False⟩ sb) (ta := tA ⟨K, co, na, fun _ _ _ _ => False⟩ ers) (sp := fun g vs H Q E => FnP P w K mg base j g (0 :: co') fb ∧ spF K (0 :: co') fb vs H Q E) F S hb hlen hfile htop hm hm2 hp hN hka hks hkc
    (fun C g _ A outer s H us vs Q E hr e0 r h => h.1 A outer s H us vs Q E hr e0 r h.2) hj hargs hst hpl ht fun vs H Q E h => ?_
  have hl := hlen _ _ _ _ h
  obtain ⟨F0, as, args, ds, hs, ra, nd, al, hh, d, p', e, kq⟩ := h
  unfold fnB at e
  have hna : as.length ≤ na := by
    split at e
    · rename_i q; rw [al]; simpa using q.2
    · cases e
  have I := st_start (C := ⟨K, co, na, fun _ _ _ _ => False⟩) (N := N) (nc := nc) hs ra nd al hh (by omega) hna
  rw [if_pos ⟨by rw [← ra.length]; exact hl, by rw [List.length_map, ← al]; exact hna⟩] at e
  -- what is wanted behind the body
  have key : RnS ⟨K, co, na, fun _ _ _ _ => False⟩ F0 ⟨fun b => if F0 b = none ∧ b ∉ as then H b else none, as⟩ (xSup cs fb ers sb (args ++ List.replicate (N.length - args.length) .un) (ds.map some ++ List.replicate (nc - (ds.map some).length) none)) { nx := fun _ H' => Q .non H', rt := Q } := by
    split at e
    · rename_i q
      rw [q]
      cases e
      intro F' H' ca' σ' v eF I' hv
      exact kq F' H' v (st_end hs eF I') hv
    · rename_i q
      rw [q]
      cases e
      intro F' H' ca' σ' a eF I' hd hf hz hc
      obtain ⟨o, ho⟩ := hd.ob
      obtain ⟨e2, I2⟩ := I'.freeze ho hf hz hc
      exact kq _ H' _ (st_end hs (eF.trans e2) I2) (hd.rep ho hf)
    · rename_i q
      rw [q]
      cases e
      intro F' H' ca' σ' eF I'
      exact kq F' H' _ (st_end hs eF I') .non
    · cases e
    · cases e
    · cases e
  clear e
  unfold xSup at key
  split at key
  · rename_i c ns xs e0 e1
    split at key
    · rename_i hc
      obtain ⟨a, ev, w1, w2, w3, w4⟩ := I.cellAt e0 e1
      obtain ⟨dx, fs, g1, g2, g3⟩ := w2
      obtain ⟨g, hS, hG⟩ := T c hc
      refine ⟨a, _, dx, fs, g, ev, g1, hS, F0, _, _, _, _, I, key.of fun es' q1 F1 H1 ex I1 h1 us hus => ⟨hG, ?_⟩⟩
      split at h1
      · rename_i d1 ed1
        split at h1
        · rename_i dr d' hf
          obtain ⟨b, ev', z1, z2, z3, z4⟩ := I1.cellAt e0 ed1
          rw [ev] at ev'
          cases ev'
          refine ⟨F1, [a], .cell 0 :: es'.map .v, [d1], I1.sub, ?_, by simp, rfl, fun n b' d2 hm1 hm2 => ?_, dr, [some d'], hf, fun F' H' v fe hv => ?_⟩
          · unfold RArgs
            exact ⟨⟨rfl, a, rfl, rfl⟩, RArgs.vals hus⟩
          · cases n with
            | zero =>
              simp at hm1 hm2
              subst hm1 hm2
              exact ⟨z2, z3⟩
            | succ n => simp at hm1
          · have J := I1.called (js := [0]) (ds := [d1]) (p2 := q1.set 0 (some d')) fe (by unfold getC; rw [ed1]; rfl) (by unfold putC; rfl) (by simp) rfl (fun n j' hj' => by
              cases n with
              | zero => simp at hj'; subst hj'; exact ⟨a, z1, rfl⟩
              | succ n => simp at hj')
            exact ⟨F', _, _, _, _, J, h1.mono fe.f⟩
        · exact h1.elim
      · exact h1.elim
    · exact key.elim
  · exact key.elim
theorem FunS.binds {fl x : Str} {params : Arguments} {Dc : Addr} {fd : FuncData} (F : FunS K fl x qual params body scope Dc f fd)
    (h : ∀ (kV doc pm : Value) (an : Option Addr) (cda cc : Addr) (ct : Value) (us : List Value), us.length = ps.length → bindArgs (PySem.W.ksFn x qual params body scope .none kV doc pm an (.ref cda) ct cc) ⟨us, []⟩ = pure (ps.zip us)) : Binds K fd ps [] := by
  obtain ⟨oc, od, kV, doc, pm, an, cda, ct, osl, cc, ccl, cl, cdd, cld, ccs, csl, vsx, file, tf, rfl, lk, hcd, hcode, hvs, hfl, hcell⟩ := F.ex
  exact .all (h kV doc pm an cda cc ct)
theorem FnP.ofOk {fd : FuncData} {k : Nat} {co : List Nat} {g : List Sl → List Cell → R D} (F : FnOk P w K mg base CX0 k f fd ps (spF K co g)) (hb : Binds K fd ps []) : FnP P w K mg base k f co g :=
  (F.raw hb .nil).imp fun vs H Q E h => by rw [List.append_nil]; exact h
end
end PL
/-! PL21: own __len__, __bool__, __eq__; tables of classes; truth; names of classes. -/
namespace PLm
open PySem PySem.Spec PyProof.Rows PySem.SeqAt
section
variable {M : Model} {prog : Program} {w : World} {A : Around} {E : Value → Shared → Prop} {s : Shared} {K : PySem.W.Frag} {x C f L : Addr} {ox : Obj} {od : Option Obj} {b tb : Value} {h₀ : Heap} {m : Str → Option Value}
theorem ifBound_ne {args : List Value} {Q : Option Value → Shared → Prop} (X : K.In s.heap) (I : PySem.W.InstAt s.heap x ox C od) (hs : PySem.W.findIn K (.ref C) "__ne__" = some (some (.builtin "object.__ne__")))
    (h : wpAny M A (call (.builtin "object.__ne__") (.ref x :: args)) (fun v => Q (some v)) E s) : wpAny M A (callSpecialIfBound? (.ref x) "__ne__" args) Q E s := by
  simp only [callSpecialIfBound?, bindSpecialIfBound?]
  refine wpAny_holding (wpAny_bind (wpAny_bind (wpAny_bind (I.type.here ((PySem.W.looks_findIn X hs).here ?_)))))
  refine wpAny_bind (wpAny_askSetting (wpAny_ite ?_))
  have fin : wpAny M A (call (.builtin "object.__ne__") ([.ref x] ++ args) >>= fun v => pure (some v)) Q E s := wpAny_bind (wpAny_mono h (fun v s' h' => wpAny_pure h') fun _ _ h' => h')
  split
  · exact wpAny_bind (wpAny_of_eq (F.cmp_object.ne.bind _) (wpAny_pure (by exact fin)))
  · exact wpAny_tryCatch (wpAny_bind (wpAny_of_eq (F.cmp_object.ne.bind _) (wpAny_pure (by exact fin))))
theorem entry_ne {Q : Fin → Shared → Prop} (X : K.In s.heap) (I : PySem.W.InstAt s.heap x ox C od) (hu : A.units < cLine) (hs : PySem.W.findIn K (.ref C) "__eq__" = some (some (.ref f))) (hf : PySem.W.isFn K (.ref f) = true)
    (h : wpAny M A (call (.ref f) [.ref x, b]) (fun v s' => ∃ k, v = .bool k ∧ Q (.done (.ret (.bool (!k)))) s') E s) : wpAny M A (Builtin.«object.__ne__» ⟨[.ref x, b], []⟩) Q E s := by
  unfold Builtin.«object.__ne__»
  refine wpAny_bind (m := slotArgs "__ne__" 1 _) (wpAny_of_eq (a := (.ref x, [b])) rfl ?_)
  refine wpAny_bind (wpAny_cRoomFor hu ?_)
  refine wpAny_bind (m := callSpecialIfBound? (.ref x) (Str.ofString "__eq__") [b]) (PySem.W.ifBound_K X I hs hf (wpAny_mono h (fun r s' hr => ?_) fun _ _ e => e))
  obtain ⟨k, rfl, hq⟩ := hr
  refine wpAny_bind (wpAny_truthy_bool ?_)
  exact wpAny_pure hq
theorem call_ne {Q : Value → Shared → Prop} (X : K.In s.heap) (I : PySem.W.InstAt s.heap x ox C od) (hu : A.units + 1 < cLine) (hm : PySem.W.mroIn K C (.type "object") = some true) (hs : PySem.W.findIn K (.ref C) "__eq__" = some (some (.ref f))) (hf : PySem.W.isFn K (.ref f) = true)
    (h : wpAny (model prog w) A.in1 (call (.ref f) [.ref x, b]) (fun v s' => ∃ k, v = .bool k ∧ Q (.bool (!k)) s') E s) : wpAny (model prog w) A (call (.builtin "object.__ne__") [.ref x, b]) Q E s :=
  wpAny_call (codeAny_call_builtin F.cmp_object.ne.plain F.cmpEntry_ne (PySem.W.check_slot F.cmpKind_ne F.cmpSplit_ne (I.type.andThen (PySem.W.looks_mroIn X hm)) (F.cmpArgs_ne _ _)
    (entry_ne (A := A.in1) X I hu hs hf (wpAny_mono h (fun v s' hv => by
      obtain ⟨k, e, q⟩ := hv
      exact ⟨k, e, q⟩) fun _ _ e => e))))
/-- x != b, by x's own __eq__ -/
theorem ne_K {Q : Value → Shared → Prop} (hu : A.units + 1 < cLine) (X : K.In s.heap) (I : PySem.W.InstAt s.heap x ox C od) (hb : PySem.W.Looks (model prog w) s.heap (typeOf b) tb) (hn : PySem.W.notFirst K C tb = true)
    (hne : PySem.W.findIn K (.ref C) "__ne__" = some (some (.builtin "object.__ne__"))) (hm : PySem.W.mroIn K C (.type "object") = some true)
    (hs : PySem.W.findIn K (.ref C) "__eq__" = some (some (.ref f))) (hf : PySem.W.isFn K (.ref f) = true)
    (h : wpAny (model prog w) A.in1 (call (.ref f) [.ref x, b]) (fun v s' => ∃ k, v = .bool k ∧ Q (.bool (!k)) s') E s) : wpAny (model prog w) A (richCompare .NotEq (.ref x) b) Q E s := by
  have one : wpAny (model prog w) A (tryCompare (.ref x) (cmpInfo .NotEq).2.1 b) (fun r s' => ∃ v, r = some v ∧ Q v s') E s := by
    unfold tryCompare
    refine wpAny_bind (ifBound_ne X I hne (call_ne X I hu hm hs hf (wpAny_mono h (fun v s' hv => ?_) fun _ _ e => e)))
    obtain ⟨k, rfl, q⟩ := hv
    exact ⟨k, rfl, wpAny_pure ⟨_, rfl, q⟩⟩
  unfold richCompare
  simp only [oneThing_ref]
  refine wpAny_holding (wpAny_bind (wpAny_cRoomFor (by omega) ?_))
  refine wpAny_bind (I.type.here (wpAny_bind (hb.here ?_)))
  split
  · rename_i q
    have e : PySem.W.subIn K tb (.ref C) = some false := by
      rcases Bool.or_eq_true_iff.mp hn with e | e
      · rw [beq_iff_eq.mp e] at q; simp at q
      · exact beq_iff_eq.mp e
    refine wpAny_bind ((PySem.W.looks_subIn X e).here ?_)
    simp only [Bool.false_eq_true, if_false]
    refine wpAny_bind (wpAny_mono one (fun r s' z => ?_) fun _ _ e => e)
    obtain ⟨v, rfl, hq⟩ := z
    exact wpAny_pure hq
  · refine wpAny_bind (wpAny_pure ?_)
    simp only [Bool.false_eq_true, if_false]
    refine wpAny_bind (wpAny_mono one (fun r s' z => ?_) fun _ _ e => e)
    obtain ⟨v, rfl, hq⟩ := z
    exact wpAny_pure hq
/-- bool(x), by x's own __bool__ -/
theorem bool_own {Q : Value → Shared → Prop} {M0 : Str → Option Value} (F0 : PyProof.Rows.Fr h₀ L s.heap M0) (X₀ : K.In h₀) (I : PySem.W.InstAt s.heap x ox C od) (hs : PySem.W.findIn K (.ref C) "__bool__" = some (some (.ref f))) (hf : PySem.W.isFn K (.ref f) = true)
    (h : wpAny (model prog w) A.in1.in1 (call (.ref f) [.ref x]) (PySem.W.BoolBack fun k s₁ => Q (.bool k) s₁) E s) : wpAny (model prog w) A (call (.type "bool") [.ref x]) Q E s := by
  refine callType_codes (T := "bool") (Bi := Builtin.«object.__init__») (Q₁ := fun r s₁ => ∃ k, r = Value.bool k ∧ Q r s₁) PySem.F.called_bool (PySem.F.typeCall_bool_1 _) PySem.F.entry_object_init ?_ ?_
  · refine codeAny_of_tree ?_
    show wpAny _ A.in1.in1 (do checkBuiltinCall "bool.__new__" ⟨[.type "bool", .ref x], []⟩; again (.builtin "bool.__new__" ⟨[.type "bool", .ref x], []⟩)) _ _ s
    refine wpAny_bind (wpAny_of_eq (PySem.F.newCall_bool_1 _) (wpAny_pure ⟨plainId_quiet (by decide +kernel) _, codeAny_builtin PySem.F.entry_bool_new ?_⟩))
    rw [Around.under_plainId (by decide +kernel) _]
    unfold Builtin.«bool.__new__»
    refine wpAny_bind (wpAny_of_eq (a := true) (show isType (.type "bool") = pure true by first | rfl | kernel_rfl) ?_)
    refine PySem.W.KFB.if_not rfl ?_
    refine wpAny_bind (wpAny_of_eq (a := true) PySem.F.conv_sub_bool ?_)
    refine PySem.W.KFB.if_not rfl ?_
    refine wpAny_bind (m := someArgs "bool" 0 1 _) (wpAny_of_eq (a := [.ref x]) (by first | rfl | kernel_rfl) ?_)
    refine wpAny_bind (PySem.W.truthy_K F0 X₀ I hs hf (wpAny_mono h (fun r s₁ hr => ?_) fun _ _ y => y))
    cases r <;> first | exact hr.elim | exact wpAny_pure ⟨_, rfl, hr⟩
  · rintro obj s₁ ⟨k, rfl, hq⟩
    exact ⟨rfl, PySem.F.args_object_init_2 _ _, object_init_meets PySem.F.called_bool.init.lookup PySem.F.called_bool.made (by decide) prog w A.in1 _ s₁ ⟨rfl, rfl, hq⟩⟩
end
end PLm
/-! PL22: C.__name__. -/
namespace PLm
open PySem PySem.Spec PyProof.Rows PySem.W Builtin Builtin.ObjectAttr Builtin.Getset_descriptor
/-- the class at C: its name z is kept -/
def nameIn (K : Frag) (C : Addr) (z : Str) : Bool := match K.lookup C with
  | some o => (match (o.slots[(2 : Nat)]?).join with
    | some (.str y _) => decide (y = z)
    | _ => false)
  | _ => false
section
variable {prog : Program} {w : World} {A : Around} {E : Value → Shared → Prop} {s : Shared} {K : Frag} {R : Result → Shared → Prop} {C : Addr} {z : Str}
theorem dga (d tp : Value) (C : Addr) : descrGetArgs ⟨[d, .ref C, tp], []⟩ = pure (d, some (.ref C), given tp) := by kernel_rfl
theorem name_get {tp : Value} {t0 : Tok} {o : Obj} (X : K.In s.heap) (ht : typeIn K (.ref C) = some (.type "type")) (ho : K.lookup C = some o) (hsl : (o.slots[(2 : Nat)]?).join = some (.str z t0)) (h : R (.ok (.ret (.str z t0))) s) :
    codeAny (model prog w) A (.call (.builtin "getset_descriptor.__get__") ⟨[.builtin "type.__name__", .ref C, tp], []⟩) R s := by
  have hC := X _ _ ho
  have L0 : Looks (model prog w) s.heap (typeOf (.ref C)) (.type "type") := looks_typeIn X ht
  obtain ⟨hh, g, dr, t, os⟩ := s
  have L1 : Looks (model prog w) hh (isSubtype (.type "type") (.type "type")) true := Looks.of_pure (by rw [isSubtype_type]; kernel_rfl)
  refine codeAny_call_builtin KF.slot_gs.plain KF.entry_gs (KF.slot_gs.check _ _ _ _ _ _ _ _ ktyn_type (KF.args_gs _ _ _) ?_)
  unfold Builtin.«getset_descriptor.__get__» descrGet
  rw [dga]
  refine wpAny_bind (wpAny_pure ?_)
  unfold descrGetter descrCheckInstance descrNameAndClass isInstance
  simp only [ktyn_owner]
  repeat lk
  refine ⟨Code.quiet_builtin _ (by decide +kernel), codeAny_builtin ktyn_entry ?_⟩
  unfold Builtin.«type.__name__»
  dsimp only
  unfold keptObject slotAt
  dsimp only
  refine wpAny_bind (wpAny_bind (wpAny_loadPart hC (wpAny_pure ?_)))
  rw [hsl]
  exact wpAny_pure h
theorem name_attr {expr : Bool} {Q : Value → Shared → Prop} (X : K.In s.heap) (hr : readsIn K C (.type "type") = true) (hn : nameIn K C z = true)
    (e : findCls K (.ref C) (.type "type") "__name__" = some (.get (.builtin "getset_descriptor.__get__") (.builtin "type.__name__") (.ref C) (.type "type")))
    (h : ∀ tk u, Q (.str z tk) { s with toks := u }) : wpAny (model prog w) A (getAttr (.ref C) "__name__" expr) Q E s := by
  have ht : typeIn K (.ref C) = some (.type "type") := by
    simp only [readsIn, Bool.and_eq_true, beq_iff_eq] at hr
    exact hr.1.1.1.2
  unfold nameIn at hn
  split at hn
  · rename_i o ho
    split at hn
    · rename_i y t0 hsl
      have : y = z := of_decide_eq_true hn
      subst this
      exact cls_bind X hr e (wpAny_call (name_get (s := { s with toks := s.toks + 1 }) X ht ho hsl (handed_on rfl (h _ _))))
    · cases hn
  · cases hn
end
end PLm
/-! PL23: own methods asked by len, truth, bool, ==, !=; classes' names. -/
namespace PL
open PySem PySem.Spec L2

/-- the result of a def by values -/
def ap (g : List Sl → List Cell → R D) (ds : List D) : Option D := match g (ds.map .v) [] with
  | .ok d _ => some d
  | _ => none
theorem sp_vals {K : PySem.W.Frag} {F H : Hp} {g : List Sl → List Cell → R D} {vs : List V} {ds : List D} {d : D} {Q : VK} {E : XK} (s : Ext F H) (r : RepL K F vs ds) (e : ap g ds = some d)
    (k : ∀ F' H' v, Grow F H F' H' → Rep K F' v d → Q v H') : spF K [] g vs H Q E := by
  unfold ap at e
  split at e
  · rename_i d2 p2 q
    cases e
    exact ⟨F, [], ds.map .v, [], s, RArgs.vals r, .nil, rfl, fun k a d h => by simp at h, d, p2, q, fun F' H' v fe hv => k F' H' v fe.grow hv⟩
  · cases e
/-- the classes whose own method m is told, and what it gives -/
structure OwnT (P : Program) (w : World) (K : PySem.W.Frag) (mg : Str → Option Value) (base : Heap) (n : Nat) (m : Str) (fb : Str → Option (List Sl → List Cell → R D)) : Prop where
  ok : ∀ c g, fb c = some g → ∃ a, PySem.W.findIn K (.ref (He.ga K c)) m = some (some (.ref a)) ∧ PySem.W.isFn K (.ref a) = true ∧ FnP P w K mg base n a [] g
/-- nothing is told -/
def noO : Str → Option (List Sl → List Cell → R D) := fun _ => none
theorem OwnT.none {P : Program} {w : World} {K : PySem.W.Frag} {mg : Str → Option Value} {base : Heap} {n : Nat} {m : Str} : OwnT P w K mg base n m noO := ⟨fun c g h => by cases h⟩
section
variable {X : Cx} {n j : Nat} {fb : Str → Option (List Sl → List Cell → R D)}
/-! ### len -/
def rLenO (K : PySem.W.Frag) (fb : Str → Option (List Sl → List Cell → R D)) : List V → Hp → VK → Prop := fun xs H Q => ∃ a c g dx fs, fb c = some g ∧ xs = [V.ref a] ∧ H a = some (.ins (He.ga K c) dx fs) ∧ spF K [] g [.ref a] H (fun z H' => ∃ i, z = .int i ∧ 0 ≤ i ∧ i < 9223372036854775808 ∧ Q z H') E0
theorem call_lenO (T : OwnT X.prog X.w X.K X.mg X.base n "__len__" fb) (hr : Room j X.A) (hk : n + 1 ≤ j) : CallR X (.builtin "len") (rLenO X.K fb) := by
  intro pins s σ H xs us Q I r h
  obtain ⟨a, c, g, dx, fs, hg, rfl, ha, q⟩ := h
  obtain ⟨u, rfl, ru⟩ := r.one
  cases (show u = Value.ref a from ru)
  obtain ⟨f, hs, hf, F⟩ := T.ok c g hg
  obtain ⟨mA, O, _⟩ := ins_get I.hok ha
  obtain ⟨od, J, _⟩ := O.look
  obtain ⟨m, hF⟩ := I.fr
  refine PySem.W.len_K hF I.ok.mod.kin J hs hf (wpAny_mono (wpAny_call (SlX.run_at (us := [.ref a]) (ws := [.ref a]) F (Room.in1 (hr.mono hk)) I.env0.in1 C8.pass0 I (.cons rfl .nil) q)) (fun w s' z => ?_) fun _ _ x => x)
  obtain ⟨z', H', I', rz, i, ei, h0, h1, qz⟩ := z
  subst ei
  obtain ⟨t, e⟩ := (show ∃ t, w = Value.int i t from rz)
  cases e
  exact ⟨⟨h0, h1⟩, .int i, H', I'.tok _, ⟨_, rfl⟩, qz⟩
def fLenO (fb : Str → Option (List Sl → List Cell → R D)) : List D → Option D
  | [.ins c ns ds] => (fb c).bind fun g => (ap g [.ins c ns ds]).bind fun d => match d with
    | .int i => if 0 ≤ i ∧ i < 9223372036854775808 then some (.int i) else none
    | _ => none
  | xs => fLen xs
theorem b_lenO {K : PySem.W.Frag} : VN K (fun xs H Q => (∃ x n, xs = [x] ∧ LenV K x H n ∧ Q (.int n) H) ∨ rLenO K fb xs H Q) (fLenO fb) := fun F H xs ds dz Q s hx e q => by
  unfold fLenO at e
  split at e
  · rename_i c ns ds'
    obtain ⟨v, rfl, hv⟩ := hx.one
    obtain ⟨a, dx, fs, rfl, ea, hn, r⟩ := Rep.ins_iff.mp hv
    obtain ⟨g, hg, e⟩ := Option.bind_eq_some_iff.mp e
    obtain ⟨d, hd, e⟩ := Option.bind_eq_some_iff.mp e
    split at e
    · rename_i i
      split at e
      · rename_i hi
        cases e
        refine .inr ⟨a, c, g, dx, fs, hg, rfl, s _ _ ea, sp_vals s hx hd fun F' H' v gr hv => ⟨i, Rep.int_iff.mp hv, hi.1, hi.2, q F' H' v gr hv⟩⟩
      · cases e
    · cases e
  · exact .inl (b_len F H xs ds dz Q s hx e q)
theorem CallR.or' {f : Value} {r r' : List V → Hp → VK → Prop} (h : CallR X f r) (h' : CallR X f r') : CallR X f (fun xs H Q => r xs H Q ∨ r' xs H Q) := fun pins s σ H xs us Q I rv q => q.elim (h pins s σ H xs us Q I rv) (h' pins s σ H xs us Q I rv)
/-! ### truth -/
def truP : D → Option Bool
  | .non => some false
  | .bl b => some b
  | .int i => some (i != 0)
  | .str z => if z.length ≤ 1000000 then some ((z.length : Int) != 0) else none
  | .lst l => some (!l.isEmpty)
  | .tup l => some (!l.isEmpty)
  | _ => none
def truD (fb : Str → Option (List Sl → List Cell → R D)) : D → Option Bool
  | .ins c ns ds => (fb c).bind fun g => (ap g [.ins c ns ds]).bind fun d => match d with
    | .bl b => some b
    | _ => none
  | d => truP d
def rTruO (K : PySem.W.Frag) (fb : Str → Option (List Sl → List Cell → R D)) : V → Hp → (Bool → Hp → Prop) → Prop := fun x H Q => ∃ a c g dx fs, fb c = some g ∧ x = V.ref a ∧ H a = some (.ins (He.ga K c) dx fs) ∧ spF K [] g [.ref a] H (fun z H' => ∃ b, z = .bl b ∧ Q b H') E0
theorem tru_own (T : OwnT X.prog X.w X.K X.mg X.base n "__bool__" fb) (hr : Room j X.A) (hk : n ≤ j) : TruR X (rTruO X.K fb) := by
  intro pins s σ H x u Q I ru h
  obtain ⟨a, c, g, dx, fs, hg, rfl, ha, q⟩ := h
  cases (show u = Value.ref a from ru)
  obtain ⟨f, hs, hf, F⟩ := T.ok c g hg
  obtain ⟨mA, O, _⟩ := ins_get I.hok ha
  obtain ⟨od, J, _⟩ := O.look
  obtain ⟨m, hF⟩ := I.fr
  refine PySem.W.truthy_K hF I.ok.mod.kin J hs hf (wpAny_mono (wpAny_call (SlX.run_at (us := [.ref a]) (ws := [.ref a]) F (hr.mono hk) I.env0 C8.pass0 I (.cons rfl .nil) q)) (fun w s' z => ?_) fun _ _ x => x)
  obtain ⟨z', H', I', rz, b, eb, qz⟩ := z
  subst eb
  cases (show w = Value.bool b from rz)
  exact ⟨H', I', qz⟩
theorem b_truP {K : PySem.W.Frag} {F H : Hp} {x : V} {d : D} {b : Bool} (s : Ext F H) (hx : Rep K F x d) (e : truP d = some b) : TruV K x H b := by
  cases d with
  | non => cases e; rw [Rep.non_iff.mp hx]; rfl
  | bl b => cases e; rw [Rep.bl_iff.mp hx]; rfl
  | int b => cases e; rw [Rep.int_iff.mp hx]; rfl
  | str z =>
    have e' : (if z.length ≤ 1000000 then some ((z.length : Int) != 0) else none) = some b := e
    split at e'
    · rename_i hz
      cases e'
      rw [Rep.str_iff.mp hx]
      exact ⟨line1M hz, rfl⟩
    · cases e'
  | tup l =>
    cases e
    obtain ⟨a, vs, rfl, ea, hl, r⟩ := Rep.tup_iff.mp hx
    refine .inr (.inl ⟨vs, SqT.of (s _ _ ea), ?_⟩)
    have := r.length
    cases vs <;> cases l <;> first | rfl | simp at this
  | lst l =>
    cases e
    obtain ⟨a, vs, rfl, ea, hl, r⟩ := Rep.lst_iff.mp hx
    refine .inl ⟨vs, SqL.of (s _ _ ea), ?_⟩
    have := r.length
    cases vs <;> cases l <;> first | rfl | simp at this
  | _ => cases e
theorem b_tru {K : PySem.W.Frag} {F H : Hp} {x : V} {d : D} {b : Bool} {Q : Bool → Hp → Prop} (s : Ext F H) (hx : Rep K F x d) (e : truD fb d = some b) (q : ∀ F' H', Grow F H F' H' → Q b H') : (∃ k, TruV K x H k ∧ Q k H) ∨ rTruO K fb x H Q := by
  unfold truD at e
  split at e
  · rename_i c ns ds'
    obtain ⟨a, dx, fs, rfl, ea, hn, r⟩ := Rep.ins_iff.mp hx
    obtain ⟨g, hg, e⟩ := Option.bind_eq_some_iff.mp e
    obtain ⟨d, hd, e⟩ := Option.bind_eq_some_iff.mp e
    split at e
    · rename_i b'
      cases e
      exact .inr ⟨a, c, g, dx, fs, hg, rfl, s _ _ ea, sp_vals s (.cons hx .nil) hd fun F' H' v gr hv => ⟨_, Rep.bl_iff.mp hv, q F' H' gr⟩⟩
    · cases e
  · exact .inl ⟨b, b_truP s hx e, q F H (.rfl' s)⟩
theorem t_tru {C : Cxt} {e : Expr} {ee : E D} (T : OwnT X.prog X.w X.K X.mg X.base n "__bool__" fb) (hr : Room j X.A) (hk : n ≤ j) (he : PE X e (tE C ee)) (hK : X.K = C.K := by rfl)
    (hw : ∀ whole, isTrue e X.env whole = (do let v ← whole; standAt e.pos; holding [v] (truthy v)) := by intro _; rfl) : PT X e (tT C (eTestF (truD fb) ee)) :=
  PT.imp (pt_truthR he (r := fun x H Q => (∃ k, TruV X.K x H k ∧ Q k H) ∨ rTruO X.K fb x H Q) (fun pins s σ H x v Q I rv h => h.elim (tru_ok pins s σ H x v Q I rv) (tru_own T hr hk pins s σ H x v Q I rv)) hw) fun σ H Q ⟨F, Z, ca, ρ, p, I, h⟩ => ⟨F, Z, ca, ρ, p, I, h.bind fun x p1 F1 H1 e1 I1 h1 v hv => by
    obtain ⟨z, ez, k⟩ := h1.lift
    rw [hK]
    exact b_tru I1.sub hv ez fun F' H' gr => k F' H' gr.f (I1.grow gr)⟩
/-- bool(x) -/
def rBoolO (K : PySem.W.Frag) (fb : Str → Option (List Sl → List Cell → R D)) : List V → Hp → VK → Prop := fun xs H Q => ∃ a c g dx fs, fb c = some g ∧ xs = [V.ref a] ∧ H a = some (.ins (He.ga K c) dx fs) ∧ spF K [] g [.ref a] H (fun z H' => ∃ b, z = .bl b ∧ Q z H') E0
theorem call_boolO (T : OwnT X.prog X.w X.K X.mg X.base n "__bool__" fb) (hr : Room j X.A) (hk : n + 2 ≤ j) : CallR X (.type "bool") (rBoolO X.K fb) := by
  intro pins s σ H xs us Q I r h
  obtain ⟨a, c, g, dx, fs, hg, rfl, ha, q⟩ := h
  obtain ⟨u, rfl, ru⟩ := r.one
  cases (show u = Value.ref a from ru)
  obtain ⟨f, hs, hf, F⟩ := T.ok c g hg
  obtain ⟨mA, O, _⟩ := ins_get I.hok ha
  obtain ⟨od, J, _⟩ := O.look
  obtain ⟨m, hF⟩ := I.fr
  have hr2 : Room n X.A.in1.in1 := (show Room (n + 1) X.A.in1 from Room.in1 (hr.mono hk)).in1
  refine PLm.bool_own hF I.ok.mod.kin J hs hf (wpAny_mono (wpAny_call (SlX.run_at (us := [.ref a]) (ws := [.ref a]) F hr2 I.env0.in1.in1 C8.pass0 I (.cons rfl .nil) q)) (fun w s' z => ?_) fun _ _ x => x)
  obtain ⟨z', H', I', rz, b, eb, qz⟩ := z
  subst eb
  cases (show w = Value.bool b from rz)
  exact ⟨.bl b, H', I', rfl, qz⟩
def fBoolO (fb : Str → Option (List Sl → List Cell → R D)) : List D → Option D
  | [.ins c ns ds] => (truD fb (.ins c ns ds)).map .bl
  | [.int i] => some (.bl (i != 0))
  | [.bl b] => some (.bl b)
  | [.lst l] => some (.bl (!l.isEmpty))
  | _ => none
theorem b_boolO {K : PySem.W.Frag} : VN K (fun xs H Q => ((∃ i, xs = [.int i] ∧ Q (.bl (i != 0)) H) ∨ ∃ k, xs = [.bl k] ∧ Q (.bl k) H) ∨ ((∃ (a : Addr) (zs : List V), xs = [.ref a] ∧ SqL K H a zs ∧ Q (.bl (!zs.isEmpty)) H) ∨ rBoolO K fb xs H Q)) (fBoolO fb) := fun F H xs ds dz Q s hx e q => by
  unfold fBoolO at e
  split at e
  · rename_i c ns ds'
    obtain ⟨v, rfl, hv⟩ := hx.one
    obtain ⟨a, dx, fs, rfl, ea, hn, r⟩ := Rep.ins_iff.mp hv
    cases et : truD fb (.ins c ns ds') with
    | none => rw [et] at e; cases e
    | some b =>
      rw [et] at e
      cases e
      unfold truD at et
      obtain ⟨g, hg, et⟩ := Option.bind_eq_some_iff.mp et
      obtain ⟨d, hd, et⟩ := Option.bind_eq_some_iff.mp et
      split at et
      · rename_i b'
        cases et
        exact .inr (.inr ⟨a, c, g, dx, fs, hg, rfl, s _ _ ea, sp_vals s hx hd fun F' H' v gr hv => ⟨_, Rep.bl_iff.mp hv, q F' H' v gr hv⟩⟩)
      · cases et
  · obtain ⟨v, rfl, hv⟩ := hx.one
    cases e
    rw [Rep.int_iff.mp hv]
    exact .inl (.inl ⟨_, rfl, q F H _ (.rfl' s) .bl⟩)
  · obtain ⟨v, rfl, hv⟩ := hx.one
    cases e
    rw [Rep.bl_iff.mp hv]
    exact .inl (.inr ⟨_, rfl, q F H _ (.rfl' s) .bl⟩)
  · rename_i l
    obtain ⟨v, rfl, hv⟩ := hx.one
    cases e
    obtain ⟨a, vs, rfl, ea, hl, r⟩ := Rep.lst_iff.mp hv
    have hq := q F H (.bl (!l.isEmpty)) (.rfl' s) .bl
    have : (!vs.isEmpty) = !l.isEmpty := by
      have := r.length
      cases vs <;> cases l <;> first | rfl | simp at this
    rw [← this] at hq
    exact .inr (.inl ⟨a, vs, rfl, SqL.of (s _ _ ea), hq⟩)
  · cases e
/-! ### ==, != -/
/-- what is told of own == -/
structure EqT (P : Program) (w : World) (K : PySem.W.Frag) (mg : Str → Option Value) (base : Heap) (n : Nat) (fb : Str → Option (List Sl → List Cell → R D)) (tyd : Str → D → Bool) : Prop where
  own : OwnT P w K mg base n "__eq__" fb
  ne : ∀ c g, fb c = some g → PySem.W.findIn K (.ref (He.ga K c)) "__ne__" = some (some (.builtin "object.__ne__")) ∧ PySem.W.mroIn K (He.ga K c) (.type "object") = some true
  ty : ∀ c t, tyd c t = true → PySem.W.notFirst K (He.ga K c) (clsVal K t) = true ∧ ((∃ n, t = .ty n ∧ n ∈ knownTys) ∨ ∃ c', t = .cls c' ∧ InsF K c')
theorem rep_ty {K : PySem.W.Frag} {F H : Hp} (s : Ext F H) {x : V} {d : D} (h : Rep K F x d) (T : (∃ n, typeD d = .ty n ∧ n ∈ knownTys) ∨ ∃ c', typeD d = .cls c' ∧ InsF K c') : TyX K H x (clsVal K (typeD d)) := by
  cases d with
  | non => rw [Rep.non_iff.mp h]; exact .base .non
  | bl b => rw [Rep.bl_iff.mp h]; exact .base (.bl b)
  | int b => rw [Rep.int_iff.mp h]; exact .base (.int b)
  | str b => rw [Rep.str_iff.mp h]; exact .base (.str b)
  | tup l => obtain ⟨a, vs, rfl, ea, _⟩ := Rep.tup_iff.mp h; exact .base (.tup (s _ _ ea))
  | lst l => obtain ⟨a, vs, rfl, ea, _⟩ := Rep.lst_iff.mp h; exact .base (.lst (s _ _ ea))
  | dic ks ws =>
    unfold Rep at h
    obtain ⟨a, rfl, h⟩ := h
    rcases h with ⟨kvs, ea, _⟩ | ⟨kvs, ea, _⟩
    · exact .base (.dK (s _ _ ea))
    · exact .base (.dT (s _ _ ea))
  | ins c' ns ds =>
    obtain ⟨a, dx, fs, rfl, ea, _⟩ := Rep.ins_iff.mp h
    rcases T with ⟨n, q, _⟩ | ⟨c2, q, f⟩
    · cases q
    · cases q
      exact .base (.ins (s _ _ ea) f.cl f.ha f.hn f.htk f.hm)
  | scr l =>
    rcases T with ⟨n, q, m⟩ | ⟨c2, q, f⟩ <;> cases q
  | ty n =>
    rcases T with ⟨n, q, m⟩ | ⟨c2, q, f⟩
    · cases q
      exact absurd m (by decide +kernel)
    · cases q
  | cls n =>
    rcases T with ⟨n, q, m⟩ | ⟨c2, q, f⟩
    · cases q
      exact absurd m (by decide +kernel)
    · cases q
def rEqO (K : PySem.W.Frag) (fb : Str → Option (List Sl → List Cell → R D)) (neg : Bool) : R2 := fun x y H Q => ∃ a c g dx fs t, fb c = some g ∧ x = V.ref a ∧ H a = some (.ins (He.ga K c) dx fs) ∧ TyX K H y t ∧ PySem.W.notFirst K (He.ga K c) t = true ∧ spF K [] g [x, y] H (fun z H' => ∃ b, z = .bl b ∧ Q (.bl (if neg = true then !b else b)) H') E0
variable {tyd : Str → D → Bool}
theorem op_eqO (T : EqT X.prog X.w X.K X.mg X.base n fb tyd) (hr : Room j X.A) (hk : n ≤ j) : OpR X (compareOp .Eq) (rEqO X.K fb false) := by
  intro pins s σ H x y v u Q I rx ry h
  obtain ⟨a, c, g, dx, fs, t, hg, rfl, ha, ty, hn, q⟩ := h
  cases (show v = Value.ref a from rx)
  obtain ⟨f, hs, hf, F⟩ := T.own.ok c g hg
  obtain ⟨mA, O, _⟩ := ins_get I.hok ha
  obtain ⟨od, J, _⟩ := O.look
  obtain ⟨m, hF⟩ := I.fr
  obtain ⟨P, Z, pz, _⟩ := kit_of I ry ty
  show _root_.PySem.wpAny (model X.prog X.w) X.A (richCompare .Eq _ _) _ _ _
  refine PySem.W.cmp_K (op := .Eq) (tb := t) hr.units0 hF I.ok.mod.kin J (Z.ty _ _ I.kIn pz) hn hs hf ?_
  refine wpAny_mono (wpAny_call (run_fnR (us := [.ref a, u]) (vs := [.ref a, y]) F (hr.mono hk) C8.pass0 I (.cons rfl (.cons ry .nil)) q)) (fun w s' z => ?_) fun _ _ x => x
  obtain ⟨z', H', I', rz, b, eb, qz⟩ := z
  subst eb
  exact SlX.cmpback rz ⟨.bl b, H', I', rz, qz⟩
theorem op_neO (T : EqT X.prog X.w X.K X.mg X.base n fb tyd) (hr : Room j X.A) (hk : n + 1 ≤ j) : OpR X (compareOp .NotEq) (rEqO X.K fb true) := by
  intro pins s σ H x y v u Q I rx ry h
  obtain ⟨a, c, g, dx, fs, t, hg, rfl, ha, ty, hn, q⟩ := h
  cases (show v = Value.ref a from rx)
  obtain ⟨f, hs, hf, F⟩ := T.own.ok c g hg
  obtain ⟨h1, h2⟩ := T.ne c g hg
  obtain ⟨mA, O, _⟩ := ins_get I.hok ha
  obtain ⟨od, J, _⟩ := O.look
  obtain ⟨P, Z, pz, _⟩ := kit_of I ry ty
  show _root_.PySem.wpAny (model X.prog X.w) X.A (richCompare .NotEq _ _) _ _ _
  refine PLm.ne_K (tb := t) (by have := hr.un; omega) I.kIn J (Z.ty _ _ I.kIn pz) hn h1 h2 hs hf ?_
  refine wpAny_mono (wpAny_call (SlX.run_at (us := [.ref a, u]) (ws := [.ref a, y]) F (Room.in1 (hr.mono hk)) I.env0.in1 C8.pass0 I (.cons rfl (.cons ry .nil)) q)) (fun w s' z => ?_) fun _ _ x => x
  obtain ⟨z', H', I', rz, b, eb, qz⟩ := z
  subst eb
  cases (show w = Value.bool b from rz)
  exact ⟨b, rfl, .bl (!b), H', I', rfl, qz⟩
def fEqO (fb : Str → Option (List Sl → List Cell → R D)) (tyd : Str → D → Bool) : D → D → Option D
  | .ins c ns ds, y => (fb c).bind fun g => if tyd c (typeD y) = true then (ap g [.ins c ns ds, y]).bind fun d => match d with
    | .bl b => some (.bl b)
    | _ => none else none
  | x, y => fEq x y
def fNeO (fb : Str → Option (List Sl → List Cell → R D)) (tyd : Str → D → Bool) : D → D → Option D
  | .ins c ns ds, y => (fb c).bind fun g => if tyd c (typeD y) = true then (ap g [.ins c ns ds, y]).bind fun d => match d with
    | .bl b => some (.bl (!b))
    | _ => none else none
  | x, y => fNe x y
theorem v_eqO {K : PySem.W.Frag} (T : ∀ c t, tyd c t = true → PySem.W.notFirst K (He.ga K c) (clsVal K t) = true ∧ ((∃ n, t = .ty n ∧ n ∈ knownTys) ∨ ∃ c', t = .cls c' ∧ InsF K c')) : V2 K (fun x y H Q => rEqD K x y H Q ∨ rEqO K fb false x y H Q) (fEqO fb tyd) := fun F H x y dx dy dz Q s hx hy e q => by
  unfold fEqO at e
  split at e
  · rename_i c ns ds'
    obtain ⟨a, dx, fs, rfl, ea, hn, r⟩ := Rep.ins_iff.mp hx
    obtain ⟨g, hg, e⟩ := Option.bind_eq_some_iff.mp e
    split at e
    · rename_i ht
      obtain ⟨d, hd, e⟩ := Option.bind_eq_some_iff.mp e
      split at e
      · rename_i b
        cases e
        obtain ⟨t1, t2⟩ := T _ _ ht
        exact .inr ⟨a, c, g, dx, fs, _, hg, rfl, s _ _ ea, rep_ty s hy t2, t1, sp_vals s (.cons hx (.cons hy .nil)) hd fun F' H' v gr hv => ⟨b, Rep.bl_iff.mp hv, q F' H' _ gr .bl⟩⟩
      · cases e
    · cases e
  · exact .inl (v_eq F H x y _ dy dz Q s hx hy e q)
theorem v_neO {K : PySem.W.Frag} (T : ∀ c t, tyd c t = true → PySem.W.notFirst K (He.ga K c) (clsVal K t) = true ∧ ((∃ n, t = .ty n ∧ n ∈ knownTys) ∨ ∃ c', t = .cls c' ∧ InsF K c')) : V2 K (fun x y H Q => rNeD K x y H Q ∨ rEqO K fb true x y H Q) (fNeO fb tyd) := fun F H x y dx dy dz Q s hx hy e q => by
  unfold fNeO at e
  split at e
  · rename_i c ns ds'
    obtain ⟨a, dx, fs, rfl, ea, hn, r⟩ := Rep.ins_iff.mp hx
    obtain ⟨g, hg, e⟩ := Option.bind_eq_some_iff.mp e
    split at e
    · rename_i ht
      obtain ⟨d, hd, e⟩ := Option.bind_eq_some_iff.mp e
      split at e
      · rename_i b
        cases e
        obtain ⟨t1, t2⟩ := T _ _ ht
        exact .inr ⟨a, c, g, dx, fs, _, hg, rfl, s _ _ ea, rep_ty s hy t2, t1, sp_vals s (.cons hx (.cons hy .nil)) hd fun F' H' v gr hv => ⟨b, Rep.bl_iff.mp hv, q F' H' _ gr .bl⟩⟩
      · cases e
    · cases e
  · exact .inl (v_ne F H x y _ dy dz Q s hx hy e q)
variable {C : Cxt} {a b : Expr} {ea eb : E D} {pos : Pos}
theorem e_eqO (rm : Rm X) (T : EqT X.prog X.w X.K X.mg X.base n fb tyd) (hr : Room j X.A) (hk : n ≤ j) (ha : PE X a (tE C ea)) (hb : PE X b (tE C eb)) (hK : X.K = C.K := by rfl) : PE X (.Compare a [.Eq] [b] pos) (tE C (eBin (fEqO fb tyd) ea eb)) :=
  e_cmp (.or (op_eqD (by have := rm.u; omega)) (op_eqO T hr hk)) (by rw [← hK]; exact v_eqO T.ty) ha hb (nomark _)
theorem t_eqO (rm : Rm X) (T : EqT X.prog X.w X.K X.mg X.base n fb tyd) (hr : Room j X.A) (hk : n ≤ j) (ha : PE X a (tE C ea)) (hb : PE X b (tE C eb)) (hK : X.K = C.K := by rfl) : PT X (.Compare a [.Eq] [b] pos) (tT C (eTest (eBin (fEqO fb tyd) ea eb))) :=
  t_cmp (.or (op_eqD (by have := rm.u; omega)) (op_eqO T hr hk)) (by rw [← hK]; exact v_eqO T.ty) ha hb (nomark _)
theorem e_neO (rm : Rm X) (T : EqT X.prog X.w X.K X.mg X.base n fb tyd) (hr : Room j X.A) (hk : n + 1 ≤ j) (ha : PE X a (tE C ea)) (hb : PE X b (tE C eb)) (hK : X.K = C.K := by rfl) : PE X (.Compare a [.NotEq] [b] pos) (tE C (eBin (fNeO fb tyd) ea eb)) :=
  e_cmp (.or (op_neD (by have := rm.u; omega)) (op_neO T hr hk)) (by rw [← hK]; exact v_neO T.ty) ha hb (nomark _)
theorem t_neO (rm : Rm X) (T : EqT X.prog X.w X.K X.mg X.base n fb tyd) (hr : Room j X.A) (hk : n + 1 ≤ j) (ha : PE X a (tE C ea)) (hb : PE X b (tE C eb)) (hK : X.K = C.K := by rfl) : PT X (.Compare a [.NotEq] [b] pos) (tT C (eTest (eBin (fNeO fb tyd) ea eb))) :=
  t_cmp (.or (op_neD (by have := rm.u; omega)) (op_neO T hr hk)) (by rw [← hK]; exact v_neO T.ty) ha hb (nomark _)
/-! ### x.__class__.__name__ -/
structure NameT (K : PySem.W.Frag) (cs : List Str) : Prop where
  ok : ∀ c ∈ cs, InsF K c ∧ PySem.W.hasDictIn K (He.ga K c) = true ∧ PySem.W.readsIn K (He.ga K c) (.type "type") = true ∧ PLm.nameIn K (He.ga K c) c = true ∧
    PySem.W.findCls K (.ref (He.ga K c)) (.type "type") "__name__" = some (.get (.builtin "getset_descriptor.__get__") (.builtin "type.__name__") (.ref (He.ga K c)) (.type "type"))
def fCn (cs : List Str) : D → Option D
  | .ins c _ _ => if c ∈ cs then some (.str c) else none
  | _ => none
theorem e_cn {cs : List Str} {p1 : Pos} (T : NameT X.K cs) (he : PE X a (tE C ea)) (hK : X.K = C.K := by rfl)
    (hb : attributeBase a "__class__" X.env (eval a X.env) = eval a X.env := by rfl) (hb2 : attributeBase (.Attribute a "__class__" p1) "__name__" X.env (eval (.Attribute a "__class__" p1) X.env) = eval (.Attribute a "__class__" p1) X.env := by rfl) :
    PE X (.Attribute (.Attribute a "__class__" p1) "__name__" pos) (tE C (eUn (fCn cs) ea)) := by
  refine ⟨fun pins s σ H Q I h => ?_⟩
  obtain ⟨F, Z, ca, ρ, p, I0, h⟩ := h
  refine attr_of hb2 (attr_of hb (thn (he.run pins s σ H (fun v H1 => ∃ b c dx fs, v = .ref b ∧ H1 b = some (.ins (He.ga X.K c) dx fs) ∧ c ∈ cs ∧ Q (.str c) H1) I ⟨F, Z, ca, ρ, p, I0, h.bind fun d p1 F1 H1 e1 I1 h1 v hv => ?_⟩) fun u s1 ⟨x, H1, I1, rx, b, c, dx, fs, ex, eb, hc, q⟩ => ?_))
  · obtain ⟨z, ez, k⟩ := h1.lift
    unfold fCn at ez
    split at ez
    · rename_i c ns ds
      split at ez
      · rename_i hc
        cases ez
        obtain ⟨b, dx, fs, rfl, hb, hn, r⟩ := Rep.ins_iff.mp hv
        exact ⟨b, c, dx, fs, rfl, by rw [hK]; exact I1.sub _ _ hb, hc, k F1 H1 .rfl' I1 _ .str⟩
      · cases ez
    · cases ez
  · subst ex
    obtain rfl : u = Value.ref b := rx
    obtain ⟨hi, hd, hr, hn, hf⟩ := T.ok c hc
    obtain ⟨mA, O, _⟩ := ins_get I1.hok eb
    obtain ⟨od, J, _⟩ := O.look
    obtain ⟨m, hF⟩ := I1.fr
    refine PySem.W.get_class hF I1.ok.mod.kin J (hi.cl.get _) hd hi.ha hi.hn hi.htk hi.hm ?_
    exact PLm.name_attr (s := { s1 with toks := s1.toks + 1 }) I1.kIn hr hn hf fun tk u => ⟨.str c, H1, I1.tok u, ⟨tk, rfl⟩, q⟩
end
end PL
/-! PL24: chains of comparisons of any length. -/
namespace PL
open PySem PySem.Spec L2
open PyProof.Rows (chain_last chain_link test_last test_link Compare_chain isTrue_chain ite_ff ite_tt)

def ch1 (f : D → D → Option D) (eb : E D) : D → E D := fun y ρ p => (eb ρ p).bind fun z p1 => lift (f y z) p1
def chN (f : D → D → Option D) (eb : E D) (t : D → E D) : D → E D := fun y ρ p => (eb ρ p).bind fun z p1 => match f y z with
  | some (.bl true) => t z ρ p1
  | some (.bl false) => .ok (.bl false) p1
  | _ => .no
def eCh (ea : E D) (t : D → E D) : E D := fun ρ p => (ea ρ p).bind fun x p1 => t x ρ p1
/-- the rest of a chain, behind the left value -/
structure PCh (X : Cx) (ops : List CmpOp) (es : List Expr) (t : V → TE) : Prop where
  run : ∀ (pos : Pos) (pins : List (Addr × Obj)) (s : Shared) (σ : St) (H : Hp) (y : V) (u : Value) (Q : VK), Inv X pins σ H s → RelV y u → t y σ H Q →
    _root_.PySem.wpAny (model X.prog X.w) X.A (compareChain pos u ops (evalEach es X.env)) (EP X pins σ Q) X.xe s
  tst : ∀ (pos : Pos) (pins : List (Addr × Obj)) (s : Shared) (σ : St) (H : Hp) (y : V) (u : Value) (Q : Bool → Hp → Prop), Inv X pins σ H s → RelV y u → t y σ H (fun v H' => ∃ k, v = .bl k ∧ Q k H') →
    _root_.PySem.wpAny (model X.prog X.w) X.A (testChain pos u ops (evalEach es X.env)) (TP X pins σ Q) X.xe s
def tCh (C : Cxt) (t : D → E D) : V → TE := fun y σ H Q => ∃ F Z ca ρ p d, StOk C F Z H ca σ ρ p ∧ Rep C.K F y d ∧ Rn C F Z ca σ ρ (t d ρ p) (kE C Q)
section
variable {X : Cx} {C : Cxt} {a b b' : Expr} {ea eb : E D} {op op' : CmpOp} {ops : List CmpOp} {rs : List Expr} {r : R2} {f : D → D → Option D} {t : D → E D} {pos : Pos}
theorem ch_last (ho : OpR X (compareOp op) r) (hf : V2 C.K r f) (hb : PE X b (tE C eb)) : PCh X [op] [b] (tCh C (ch1 f eb)) := by
  have key : ∀ {σ : St} {H : Hp} {y : V} {Q : VK}, tCh C (ch1 f eb) y σ H Q → tE C eb σ H fun z H2 => r y z H2 Q := fun {σ H y Q} ⟨F, Z, ca, ρ, p, d, I, hd, h⟩ =>
    ⟨F, Z, ca, ρ, p, I, h.bind fun z p1 F1 H1 e1 I1 h1 w hw => by
      obtain ⟨q, ez, k⟩ := h1.lift
      exact hf F1 H1 y w d z q Q I1.sub (hd.mono e1) hw ez fun F' H' v g hv => k F' H' g.f (I1.grow g) v hv⟩
  refine ⟨fun pos pins s σ H y u Q I ry h => ?_, fun pos pins s σ H y u Q I ry h => ?_⟩
  · exact chain_last (thn (hb.run pins s σ H _ I (key h)) fun w s1 ⟨z, H1, I1, r1, q1⟩ => ho pins s1 σ H1 y z u w Q I1 ry r1 q1)
  · refine test_last (thn (hb.run pins s σ H _ I (key h)) fun w s1 ⟨z, H1, I1, r1, q1⟩ => thn (ho pins s1 σ H1 y z u w _ I1 ry r1 q1) fun c s2 ⟨z2, H2, I2, r2, k, e, q2⟩ => ?_)
    subst e
    cases r2
    exact wpAny_truthy_bool ⟨H2, I2, q2⟩
theorem ch_link (ho : OpR X (compareOp op) r) (hf : V2 C.K r f) (hb : PE X b (tE C eb)) (hr : PCh X (op' :: ops) (b' :: rs) (tCh C t)) : PCh X (op :: op' :: ops) (b :: b' :: rs) (tCh C (chN f eb t)) := by
  have key : ∀ {σ : St} {H : Hp} {y : V} {Q : VK}, tCh C (chN f eb t) y σ H Q → tE C eb σ H fun z H2 => r y z H2 fun v H3 => ∃ k, v = .bl k ∧ if k = true then tCh C t z σ H3 Q else Q (.bl false) H3 := fun {σ H y Q} ⟨F, Z, ca, ρ, p, d, I, hd, h⟩ =>
    ⟨F, Z, ca, ρ, p, I, h.bind fun z p1 F1 H1 e1 I1 h1 w hw => by
      split at h1
      · rename_i ez
        refine hf F1 H1 y w d z _ _ I1.sub (hd.mono e1) hw ez fun F' H' v g hv => ⟨true, Rep.bl_iff.mp hv, ?_⟩
        rw [if_pos rfl]
        exact ⟨F', Z, ca, ρ, p1, z, I1.grow g, hw.mono g.f, h1.mono g.f⟩
      · rename_i ez
        refine hf F1 H1 y w d z _ _ I1.sub (hd.mono e1) hw ez fun F' H' v g hv => ⟨false, Rep.bl_iff.mp hv, ?_⟩
        rw [if_neg Bool.false_ne_true]
        exact h1 F' H' g.f (I1.grow g) _ .bl
      · exact h1.elim⟩
  refine ⟨fun pos pins s σ H y u Q I ry h => ?_, fun pos pins s σ H y u Q I ry h => ?_⟩
  · refine chain_link (thn (hb.run pins s σ H _ I (key h)) fun w s1 ⟨z, H1, I1, r1, q1⟩ => thn (ho pins s1 σ H1 y z u w _ I1 ry r1 q1) fun c s2 ⟨z2, H2, I2, r2, k, e, q2⟩ => ?_)
    subst e
    cases r2
    refine wpAny_truthy_bool ?_
    cases k with
    | false => exact ite_ff ⟨.bl false, H2, I2, rfl, q2⟩
    | true => exact ite_tt (hr.run pos pins s2 σ H2 z w Q I2 r1 q2)
  · refine test_link (thn (hb.run pins s σ H _ I (key h)) fun w s1 ⟨z, H1, I1, r1, q1⟩ => thn (ho pins s1 σ H1 y z u w _ I1 ry r1 q1) fun c s2 ⟨z2, H2, I2, r2, k, e, q2⟩ => ?_)
    subst e
    cases r2
    refine wpAny_truthy_bool ?_
    cases k with
    | false =>
      obtain ⟨k', e', q'⟩ := q2
      cases e'
      exact ite_ff ⟨H2, I2, q'⟩
    | true => exact ite_tt (hr.tst pos pins s2 σ H2 z w Q I2 r1 q2)
theorem e_chainN (ha : PE X a (tE C ea)) (hr : PCh X (op :: op' :: ops) (b :: b' :: rs) (tCh C t)) (hm : lastMarks (op :: op' :: ops) (b :: b' :: rs) = false := by with_unfolding_all rfl) : PE X (.Compare a (op :: op' :: ops) (b :: b' :: rs) pos) (tE C (eCh ea t)) := by
  refine ⟨fun pins s σ H Q I ⟨F, Z, ca, ρ, p, I0, h⟩ => ?_⟩
  refine Compare_chain (thn (ha.run pins s σ H (fun y H1 => tCh C t y σ H1 Q) I ⟨F, Z, ca, ρ, p, I0, h.bind fun x p1 F1 H1 e1 I1 h1 v hv => ⟨F1, Z, ca, ρ, p1, x, I1, hv, h1⟩⟩) fun u s1 ⟨y, H1, I1, r1, q1⟩ => hr.run pos pins s1 σ H1 y u Q I1 r1 q1) hm
theorem t_chainN (ha : PE X a (tE C ea)) (hr : PCh X (op :: op' :: ops) (b :: b' :: rs) (tCh C t)) (hm : lastMarks (op :: op' :: ops) (b :: b' :: rs) = false := by with_unfolding_all rfl) : PT X (.Compare a (op :: op' :: ops) (b :: b' :: rs) pos) (tT C (eTest (eCh ea t))) := by
  refine ⟨fun pins s σ H Q I ⟨F, Z, ca, ρ, p, I0, h⟩ => ?_⟩
  unfold eTest eCh at h
  simp only [R.bind_assoc] at h
  refine isTrue_chain (thn (ha.run pins s σ H (fun y H1 => tCh C t y σ H1 fun v H' => ∃ k, v = .bl k ∧ Q k H') I ⟨F, Z, ca, ρ, p, I0, h.bind fun x p1 F1 H1 e1 I1 h1 v hv => ⟨F1, Z, ca, ρ, p1, x, I1, hv, h1.bind fun z p2 F2 H2 e2 I2 h2 w hw => by
    cases z with
    | bl z => exact ⟨z, Rep.bl_iff.mp hw, h2 F2 H2 .rfl' I2⟩
    | _ => exact h2.elim⟩⟩) fun u s1 ⟨y, H1, I1, r1, q1⟩ => hr.tst pos pins s1 σ H1 y u Q I1 r1 q1) hm
end
end PL
/-! PL25: facts of classes, by tables; the hook that tells them. -/
namespace PL
open PySem PySem.Spec L2
theorem ba {a b : Bool} (h : (a && b) = true) : a = true ∧ b = true := Bool.and_eq_true_iff.mp h
/-- a statement of a class's suite -/
def inC (s : Stmt) (j : Nat) : Stmt := match s with
  | .ClassDef _ _ _ b _ _ _ _ _ _ _ => b.getD j (.Pass ⟨0, 0, 0, 0⟩)
  | _ => .Pass ⟨0, 0, 0, 0⟩
/-! ### facts -/
inductive Fc where
  /-- isinstance's table: each class with its own classes above, itself among them -/
  | tabT (cls : List (Str × List Str))
  | fldT (cs : List Str) (f : Str)
  /-- the class c is made by the __init__ that d has -/
  | mk (c d : Str)
  /-- the classes whose method m is the one of the class beside -/
  | ownT (l : List (Str × Str)) (m : Str)
  | neT (cs : List Str)
  | nfT (cs : List Str) (ts : List D)
  | nameT (cs : List Str)
  /-- super() in the class c0: for an instance of these its m is the one of the class d -/
  | supT (cs : List Str) (c0 d m : Str)
def dEq : D → D → Bool
  | .ty a, .ty b => a == b
  | .cls a, .cls b => a == b
  | _, _ => false
def tyNames : List D := knownTys.map .ty
def tabC (cls : List (Str × List Str)) : D → D → Option Bool
  | .ty a, .ty b => kB a b
  | .ty a, .cls c => if a ∈ knownTys ∧ (cls.lookup c).isSome = true then some false else none
  | .cls c, .ty b => if (cls.lookup c).isSome = true ∧ b ∈ knownTys then some false else none
  | .cls c, .cls d => if (cls.lookup d).isSome = true then (cls.lookup c).map fun l => l.contains d else none
  | _, _ => none
def insB (K : PySem.W.Frag) (c : Str) : Bool := (He.Fa.cls c).ok K && (He.eqO (PySem.W.findIn K (.ref (He.ga K c)) "__class__") (some (some (.builtin "object.__class__"))) &&
  (He.eqO (PySem.W.specialIn K (.builtin "object.__class__") "__get__") (some (some (.builtin "getset_descriptor.__get__"))) && (decide (PySem.W.takesIn K (.builtin "object.__class__") = some true) && decide (PySem.W.mroIn K (He.ga K c) (.type "object") = some true))))
theorem insB_ok {K : PySem.W.Frag} {c : Str} (h : insB K c = true) : InsF K c := by
  obtain ⟨h1, h⟩ := ba h
  obtain ⟨h2, h⟩ := ba h
  obtain ⟨h3, h⟩ := ba h
  obtain ⟨h4, h5⟩ := ba h
  exact ⟨He.cls_ok h1, He.eqO_ok h2, He.eqO_ok h3, of_decide_eq_true h4, of_decide_eq_true h5⟩
def Fc.ok (K : PySem.W.Frag) : Fc → Bool
  | .tabT cls => (cls.all fun p => insB K p.1) && ((cls.all fun p => knownTys.all fun a => decide (PySem.W.kitOne K (.type a) (.ref (He.ga K p.1)) = some false) && decide (PySem.W.kitOne K (.ref (He.ga K p.1)) (.type a) = some false)) &&
      cls.all fun p => cls.all fun q => decide (PySem.W.kitOne K (.ref (He.ga K p.1)) (.ref (He.ga K q.1)) = some (p.2.contains q.1)))
  | .fldT cs f => cs.all fun c => (He.Fa.cls c).ok K && (He.Fa.noat c f).ok K
  | .mk c d => PySem.W.makesIn K (He.ga K c) && (He.eqO (PySem.W.findIn K (.ref (He.ga K c)) "__init__") (some (some (.ref (He.ma K (He.ga K d) "__init__")))) && (PySem.W.isFn K (.ref (He.ma K (He.ga K d) "__init__")) && PySem.W.keepIn K (.ref (He.ga K c))))
  | .ownT l m => l.all fun p => He.eqO (PySem.W.findIn K (.ref (He.ga K p.1)) m) (some (some (.ref (He.ma K (He.ga K p.2) m)))) && PySem.W.isFn K (.ref (He.ma K (He.ga K p.2) m))
  | .neT cs => cs.all fun c => He.eqO (PySem.W.findIn K (.ref (He.ga K c)) "__ne__") (some (some (.builtin "object.__ne__"))) && decide (PySem.W.mroIn K (He.ga K c) (.type "object") = some true)
  | .nfT cs ts => cs.all fun c => ts.all fun t => PySem.W.notFirst K (He.ga K c) (clsVal K t) && (match t with
    | .ty n => decide (n ∈ knownTys)
    | .cls c' => insB K c'
    | _ => false)
  | .nameT cs => cs.all fun c => insB K c && (PySem.W.hasDictIn K (He.ga K c) && (PySem.W.readsIn K (He.ga K c) (.type "type") && (PLm.nameIn K (He.ga K c) c &&
      (match PySem.W.findCls K (.ref (He.ga K c)) (.type "type") "__name__" with
        | some (.get (.builtin g) (.builtin n) (.ref a) (.type t)) => decide (g = "getset_descriptor.__get__") && (decide (n = "type.__name__") && (decide (a = He.ga K c) && decide (t = "type")))
        | _ => false))))
  | .supT cs c0 d m => cs.all fun c => (PySem.W.clsIn K (He.ga K c0)).isSome && ((PySem.W.clsIn K (He.ga K c)).isSome && (decide (PySem.W.mroIn K (He.ga K c) (.ref (He.ga K c0)) = some true) &&
      (He.eqO (PySem.W.ks_superIn K (He.ga K c) (He.ga K c0) m) (some (some (.ref (He.ma K (He.ga K d) m)))) && (decide (PySem.W.typeIn K (.ref (He.ma K (He.ga K d) m)) = some (.type "function")) &&
      (PySem.W.fnIn K (He.ma K (He.ga K d) m) && He.eqO (PySem.W.nsIn K cStatics "thirdparty.any") (some none))))))
section
variable {P : Program} {w : World} {K : PySem.W.Frag} {mg : Str → Option Value} {base : Heap} {n : Nat}
theorem lookup_all {α : Type} {c : Str} {l : List (Str × α)} {x : α} (h : l.lookup c = some x) : (c, x) ∈ l := PySem.mem_of_lookup h
theorem tabT_ok {cls : List (Str × List Str)} (h : (Fc.tabT cls).ok K = true) : ClsTab K (tabC cls) := by
  obtain ⟨h1, h⟩ := ba h
  obtain ⟨h2, h3⟩ := ba h
  have i1 : ∀ {c : Str}, (cls.lookup c).isSome = true → ∃ l, (c, l) ∈ cls := fun {c} q => by
    obtain ⟨l, hl⟩ := Option.isSome_iff_exists.mp q
    exact ⟨l, lookup_all hl⟩
  have f1 : ∀ {c : Str}, (cls.lookup c).isSome = true → InsF K c := fun {c} q => by
    obtain ⟨l, m⟩ := i1 q
    exact insB_ok (List.all_eq_true.mp h1 _ m)
  refine ⟨fun t c b e => ?_, fun t c b e => ?_, fun t c b e => ?_⟩
  · unfold tabC at e
    split at e
    · unfold kB at e
      split at e
      · rename_i m; exact .inl ⟨_, rfl, m.1⟩
      · cases e
    · split at e
      · rename_i m; exact .inl ⟨_, rfl, m.1⟩
      · cases e
    · split at e
      · rename_i m; exact .inr ⟨_, rfl, f1 m.1⟩
      · cases e
    · split at e
      · rename_i c' d m
        cases q : cls.lookup c' with
        | none => rw [q] at e; cases e
        | some l => exact .inr ⟨_, rfl, f1 (by rw [q]; rfl)⟩
      · cases e
    · cases e
  · unfold tabC at e
    split at e
    · exact kB_ok e
    · split at e
      · rename_i a c' m
        cases e
        obtain ⟨l, ml⟩ := i1 m.2
        have := List.all_eq_true.mp (List.all_eq_true.mp h2 _ ml) a m.1
        exact of_decide_eq_true (ba this).1
      · cases e
    · split at e
      · rename_i c' a m
        cases e
        obtain ⟨l, ml⟩ := i1 m.1
        have := List.all_eq_true.mp (List.all_eq_true.mp h2 _ ml) a m.2
        exact of_decide_eq_true (ba this).2
      · cases e
    · split at e
      · rename_i c' d m
        cases q : cls.lookup c' with
        | none => rw [q] at e; cases e
        | some l =>
          rw [q] at e
          cases e
          obtain ⟨l2, ml2⟩ := i1 m
          exact of_decide_eq_true (List.all_eq_true.mp (List.all_eq_true.mp h3 _ (lookup_all q)) _ ml2)
      · cases e
    · cases e
  · unfold tabC at e
    split at e
    · exact .inl ⟨_, rfl⟩
    · exact .inr ⟨_, rfl⟩
    · exact .inl ⟨_, rfl⟩
    · exact .inr ⟨_, rfl⟩
    · cases e
theorem fldT_ok {cs : List Str} {f : Str} (h : (Fc.fldT cs f).ok K = true) : FldT K cs f := ⟨fun c hc => by
  obtain ⟨h1, h2⟩ := ba (List.all_eq_true.mp (show (cs.all fun c => (He.Fa.cls c).ok K && (He.Fa.noat c f).ok K) = true from h) c hc)
  exact ⟨He.cls_ok h1, He.noat_ok h2⟩⟩
theorem mk_ok {c d : Str} (h : (Fc.mk c d).ok K = true) : Mk K (He.ga K c) (He.ma K (He.ga K d) "__init__") := by
  obtain ⟨c1, c⟩ := ba h
  obtain ⟨c2, c⟩ := ba c
  obtain ⟨c3, c4⟩ := ba c
  exact ⟨c1, He.eqO_ok c2, c3, c4⟩
/-- the tables' functions: by the class that has the method -/
def ownOf (l : List (Str × Str)) (f : Str → Option (List Sl → List Cell → R D)) : Str → Option (List Sl → List Cell → R D) := fun c => (l.lookup c).bind f
theorem ownT_ok {l : List (Str × Str)} {m : Str} {f : Str → Option (List Sl → List Cell → R D)} (h : (Fc.ownT l m).ok K = true) (hf : ∀ d g, f d = some g → FnP P w K mg base n (He.ma K (He.ga K d) m) [] g) : OwnT P w K mg base n m (ownOf l f) := ⟨fun c g hg => by
  obtain ⟨d, h1, h2⟩ := Option.bind_eq_some_iff.mp (show (l.lookup c).bind f = some g from hg)
  obtain ⟨c1, c2⟩ := ba (List.all_eq_true.mp (show (l.all fun p => He.eqO (PySem.W.findIn K (.ref (He.ga K p.1)) m) (some (some (.ref (He.ma K (He.ga K p.2) m)))) && PySem.W.isFn K (.ref (He.ma K (He.ga K p.2) m))) = true from h) _ (lookup_all h1))
  exact ⟨_, He.eqO_ok c1, c2, hf d g h2⟩⟩
/-- a table of types that may stand right of an own == -/
def tydOf (cs : List Str) (ts : List D) : Str → D → Bool := fun c t => cs.contains c && ts.any (dEq t)
theorem dEq_ok {a b : D} (h : dEq a b = true) : a = b := by
  unfold dEq at h
  split at h
  · rw [eq_of_beq h]
  · rw [eq_of_beq h]
  · cases h
theorem eqT_ok {l : List (Str × Str)} {cs cs2 : List Str} {ts : List D} {f : Str → Option (List Sl → List Cell → R D)} (h : (Fc.ownT l "__eq__").ok K = true) (hf : ∀ d g, f d = some g → FnP P w K mg base n (He.ma K (He.ga K d) "__eq__") [] g)
    (hn : (Fc.neT cs).ok K = true) (ht : (Fc.nfT cs2 ts).ok K = true) (hc : (l.all fun p => cs.contains p.1) = true) : EqT P w K mg base n (ownOf l f) (tydOf cs2 ts) := by
  refine ⟨ownT_ok h hf, fun c g hg => ?_, fun c t e => ?_⟩
  · obtain ⟨d, h1, h2⟩ := Option.bind_eq_some_iff.mp (show (l.lookup c).bind f = some g from hg)
    have hm : c ∈ cs := by
      have := List.all_eq_true.mp hc _ (lookup_all h1)
      simpa using this
    obtain ⟨c1, c2⟩ := ba (List.all_eq_true.mp (show (cs.all fun c => He.eqO (PySem.W.findIn K (.ref (He.ga K c)) "__ne__") (some (some (.builtin "object.__ne__"))) && decide (PySem.W.mroIn K (He.ga K c) (.type "object") = some true)) = true from hn) c hm)
    exact ⟨He.eqO_ok c1, of_decide_eq_true c2⟩
  · obtain ⟨e1, e2⟩ := ba e
    obtain ⟨t', m', e3⟩ := List.any_eq_true.mp e2
    rw [dEq_ok e3]
    have hc : c ∈ cs2 := by simpa using e1
    obtain ⟨q1, q2⟩ := ba (List.all_eq_true.mp (List.all_eq_true.mp (show (cs2.all fun c => ts.all fun t => PySem.W.notFirst K (He.ga K c) (clsVal K t) && (match t with
      | .ty n => decide (n ∈ knownTys)
      | .cls c' => insB K c'
      | _ => false)) = true from ht) c hc) t' m')
    refine ⟨q1, ?_⟩
    split at q2
    · exact .inl ⟨_, rfl, of_decide_eq_true q2⟩
    · exact .inr ⟨_, rfl, insB_ok q2⟩
    · cases q2
theorem nameT_ok {cs : List Str} (h : (Fc.nameT cs).ok K = true) : NameT K cs := ⟨fun c hc => by
  have h' := List.all_eq_true.mp (show (cs.all fun c => insB K c && (PySem.W.hasDictIn K (He.ga K c) && (PySem.W.readsIn K (He.ga K c) (.type "type") && (PLm.nameIn K (He.ga K c) c &&
      (match PySem.W.findCls K (.ref (He.ga K c)) (.type "type") "__name__" with
        | some (.get (.builtin g) (.builtin n) (.ref a) (.type t)) => decide (g = "getset_descriptor.__get__") && (decide (n = "type.__name__") && (decide (a = He.ga K c) && decide (t = "type")))
        | _ => false))))) = true from h) c hc
  obtain ⟨c1, h'⟩ := ba h'
  obtain ⟨c2, h'⟩ := ba h'
  obtain ⟨c3, h'⟩ := ba h'
  obtain ⟨c4, h'⟩ := ba h'
  refine ⟨insB_ok c1, c2, c3, c4, ?_⟩
  split at h'
  · rename_i g n a t e
    obtain ⟨d1, h'⟩ := ba h'
    obtain ⟨d2, h'⟩ := ba h'
    obtain ⟨d3, d4⟩ := ba h'
    rw [e, of_decide_eq_true d1, of_decide_eq_true d2, of_decide_eq_true d3, of_decide_eq_true d4]
  · cases h'⟩
theorem supT_ok {cs : List Str} {c0 d m : Str} {co : List Nat} {fb : List Sl → List Cell → R D} (h : (Fc.supT cs c0 d m).ok K = true) (F : FnP P w K mg base n (He.ma K (He.ga K d) m) (0 :: co) fb) : SupT P w K mg base n (He.ga K c0) m cs co fb := fun c hc => by
  have h' := List.all_eq_true.mp (show (cs.all fun c => (PySem.W.clsIn K (He.ga K c0)).isSome && ((PySem.W.clsIn K (He.ga K c)).isSome && (decide (PySem.W.mroIn K (He.ga K c) (.ref (He.ga K c0)) = some true) &&
      (He.eqO (PySem.W.ks_superIn K (He.ga K c) (He.ga K c0) m) (some (some (.ref (He.ma K (He.ga K d) m)))) && (decide (PySem.W.typeIn K (.ref (He.ma K (He.ga K d) m)) = some (.type "function")) &&
      (PySem.W.fnIn K (He.ma K (He.ga K d) m) && He.eqO (PySem.W.nsIn K cStatics "thirdparty.any") (some none))))))) = true from h) c hc
  obtain ⟨c1, h'⟩ := ba h'
  obtain ⟨c2, h'⟩ := ba h'
  obtain ⟨c3, h'⟩ := ba h'
  obtain ⟨c4, h'⟩ := ba h'
  obtain ⟨c5, h'⟩ := ba h'
  obtain ⟨c6, c7⟩ := ba h'
  exact ⟨_, ⟨Option.isSome_iff_exists.mp c1, Option.isSome_iff_exists.mp c2, of_decide_eq_true c3, He.eqO_ok c4, of_decide_eq_true c5, c6, He.eqO_ok c7⟩, F⟩
end
/-! ### methods whose closure is their class -/
structure DefS where
  at_ : Str × Option Str
  name : Str
  qual : Str
  params : Arguments
  body : List Stmt
  scope : Scope
  cls : Str
  file : Str
abbrev FnC : Type := Option (Str × Str × Arguments × FuncBody × Scope × Addr × List Str × Addr)
def fnC (K : PySem.W.Frag) (p : Str × Option Str) : FnC := match K.lookup (He.fAd K p) with
  | some ⟨_, _, .func fd, _⟩ => some (fd.name, fd.qualname, fd.params, fd.body, fd.scope, fd.globals, fd.closure.map (·.1), fd.builtins)
  | _ => none
def DefS.val (d : DefS) : FnC := some (d.name, d.qual, d.params, .stmts d.body, d.scope, mainGlobals, ["__class__"], builtinsNs)
def DefS.ok (K : PySem.W.Frag) (d : DefS) : Bool := PySem.W.keepIn K (.ref (He.fAd K d.at_)) && (match K.lookup (He.fAd K d.at_) with
  | some ⟨_, _, .func fd, _⟩ => PySem.W.codeIn K fd.code d.qual && ((match fd.defaults with
    | .none => true
    | _ => false) && ((match fd.closure with
      | [(_, cc)] => (match K.lookup cc with
        | some ⟨_, _, .cell (some (.ref a)), _⟩ => decide (a = He.ga K d.cls)
        | _ => false)
      | _ => false) && (match fd.code with
        | .ref cda => (match K.lookup cda with
          | some ⟨_, _, .fields vs, _⟩ => (match vs[(2 : Nat)]? with
            | some (.str f _) => d.file == f
            | _ => false)
          | _ => false)
        | _ => false)))
  | _ => false)
theorem DefS.funS {K : PySem.W.Frag} {d : DefS} (e : fnC K d.at_ = d.val) (c : d.ok K = true) : ∃ fd, FunS K d.file d.name d.qual d.params d.body d.scope (He.ga K d.cls) (He.fAd K d.at_) fd := by
  obtain ⟨kp, c2⟩ := ba c
  unfold fnC at e
  cases q : K.lookup (He.fAd K d.at_) with
  | none => rw [q] at c2; cases c2
  | some o =>
    obtain ⟨oc, od, dt, osl⟩ := o
    rw [q] at c2 e
    cases dt with
    | func fd =>
      obtain ⟨n1, n2, n3, n4, n5, n6, n7, n8, n9, n10, n11, n12, n13, n14, n15⟩ := fd
      have e2 : (some (n1, n2, n3, n4, n5, n6, n7.map (·.1), n15) : FnC) = some (d.name, d.qual, d.params, FuncBody.stmts d.body, d.scope, mainGlobals, (["__class__"] : List Str), builtinsNs) := e
      simp only [Option.some.injEq, Prod.mk.injEq] at e2
      obtain ⟨h1, h2, h3, h4, h5, h6, h7, h8⟩ := e2
      subst h1 h2 h3 h4 h5 h6 h8
      obtain ⟨k1, k2⟩ := ba c2
      obtain ⟨k3, k4⟩ := ba k2
      obtain ⟨k5, k6⟩ := ba k4
      dsimp only at k1 k3 k5 k6
      split at k3
      · split at k5
        · rename_i cx cc
          split at k5
          · rename_i w1 w2 a w3 w4
            split at k6
            · rename_i cda
              split at k6
              · rename_i x1 x2 vs x3 x4
                split at k6
                · rename_i f tf x5
                  have hx : cx = "__class__" := by simpa using h7
                  subst hx
                  have ha := of_decide_eq_true k5
                  subst ha
                  exact ⟨_, ⟨oc, od, n9, n10, n11, n12, cda, n14, osl, cc, _, _, _, _, _, _, vs, f, tf, rfl, q, k1, x4, x5, k6, w4⟩, kp⟩
                · cases k6
              · cases k6
            · cases k6
          · cases k5
        · cases k5
      · cases k3
    | _ => cases c2
/-! ### the hook -/
def asP (g : Addr → Option Obj) : Nat → List Addr
  | 0 => [mainGlobals, cStatics]
  | n + 1 => He.growD g (asP g n)
abbrev AlP : Type := He.AlD × List FnC × Bool
def obsP (fa : List He.Fa) (fn : List He.DefD) (fs : List DefS) (fc : List Fc) (K : PySem.W.Frag) : AlP := (He.obsD fa fn K, fs.map fun d => fnC K d.at_, (fs.all fun d => d.ok K) && fc.all fun f => f.ok K)
def valP (fn : List He.DefD) (fs : List DefS) : AlP := (He.valD fn, fs.map DefS.val, true)
def SaysP (fa : List He.Fa) (fn : List He.DefD) (fs : List DefS) (fc : List Fc) (K : PySem.W.Frag) : Prop := obsP fa fn fs fc K = valP fn fs
def obsPG (n : Nat) (fa : List He.Fa) (fn : List He.DefD) (fs : List DefS) (fc : List Fc) (g : Addr → Option Obj) : AlP := obsP fa fn fs fc (He.frG g (asP g n))
def hookP (n : Nat) (fa : List He.Fa) (fn : List He.DefD) (fs : List DefS) (fc : List Fc) : PySem.W.Hook where
  α := AlP
  obs := fun s => obsPG n fa fn fs fc s.heap.get?
  val := fun _ => valP fn fs
  says := fun _ h => ∃ K : PySem.W.Frag, K.In h ∧ SaysP fa fn fs fc K
  of := fun _ _ e => ⟨_, He.frG_in, e⟩
  keeps := fun _ _ _ ⟨K, hK, c⟩ k => ⟨K, PySem.W.Frag.In.keeps hK k, c⟩
theorem obsPG_eq {n : Nat} {fa : List He.Fa} {fn : List He.DefD} {fs : List DefS} {fc : List Fc} {g : Addr → Option Obj} {s : Shared} (h : ∀ a, g a = s.heap.get? a) : obsPG n fa fn fs fc g = (hookP n fa fn fs fc).obs s := by
  have e : g = s.heap.get? := funext h
  rw [e] <;> rfl
section
variable {fa : List He.Fa} {fn : List He.DefD} {fs : List DefS} {fc : List Fc} {K : PySem.W.Frag}
theorem SaysP.d (c : SaysP fa fn fs fc K) : He.SaysD fa fn K := congrArg (fun z : AlP => z.1) c
theorem SaysP.fct (c : SaysP fa fn fs fc K) (i : Nat) {f : Fc} (h : fc[i]? = some f := by rfl) : f.ok K = true := by
  have c1 := (ba (show ((fs.all fun d => d.ok K) && fc.all fun f => f.ok K) = true from congrArg (fun z : AlP => z.2.2) c)).2
  exact List.all_eq_true.mp c1 f (List.mem_of_getElem? h)
theorem SaysP.defS (c : SaysP fa fn fs fc K) (i : Nat) {d : DefS} (h : fs[i]? = some d := by rfl) : ∃ fd, FunS K d.file d.name d.qual d.params d.body d.scope (He.ga K d.cls) (He.fAd K d.at_) fd := by
  have c2 := (ba (show ((fs.all fun d => d.ok K) && fc.all fun f => f.ok K) = true from congrArg (fun z : AlP => z.2.2) c)).1
  have e : fs.map (fun d => fnC K d.at_) = fs.map DefS.val := congrArg (fun z : AlP => z.2.1) c
  have e2 : (fs.map fun d => fnC K d.at_)[i]? = (fs.map DefS.val)[i]? := by rw [e]
  rw [List.getElem?_map, List.getElem?_map, h] at e2
  exact DefS.funS (Option.some.inj e2) (List.all_eq_true.mp c2 d (List.mem_of_getElem? h))
end
end PL
/-! PL26: several attributes at once; short names of the rules for classes. -/
namespace PL
open PySem PySem.Spec L2
theorem spF_no {K : PySem.W.Frag} {co : List Nat} {vs : List V} {H : Hp} {Q : VK} {E : XK} (h : spF K co (fun _ _ => .no) vs H Q E) : False := by
  obtain ⟨F, as, args, ds, _, _, _, _, _, d, p', e, _⟩ := h
  cases e
/-- the arguments of super().m(..), the first statement of a def -/
def superArgs (s : Stmt) : List Expr := match defBody s with
  | .Expr (.Call _ as _ _) _ :: _ => as
  | _ => []
section
variable {X : Cx} {C : Cxt} {a e : Expr} {ea ee : E D} {es : List Expr} {ers : E (List D)} {p pos : Pos} {n j : Nat} {fb : Str → Option (List Sl → List Cell → R D)}
theorem q_boolO (T : OwnT X.prog X.w X.K X.mg X.base n "__bool__" fb) (hr : Room j X.A) (hk : n + 2 ≤ j) (hm : X.mg "bool" = none) (ha : PA X (a :: es) (tA C ers)) (hg : Gl X "bool" := by rfl) (hK : X.K = C.K := by rfl)
    (he : starEach (a :: es) X.env = (false, eval a X.env) :: starEach es X.env := by rfl) (hpl : (backTo pos (starEach es X.env)).any (·.1) = false := by rfl) : PE X (.Call (.Name "bool" p) (a :: es) [] pos) (tE C (eFn (fBoolO fb) ers)) :=
  e_callTy (CallR.or' call_bool1 (CallR.or' call_boolL (call_boolO T hr hk))) (by rw [← hK]; exact b_boolO) hg hm PyProof.Rows.boot_bool ha (by decide) (by decide) he hpl
theorem q_bool (hm : X.mg "bool" = none) (ha : PA X (a :: es) (tA C ers)) (hg : Gl X "bool" := by rfl) (hK : X.K = C.K := by rfl)
    (he : starEach (a :: es) X.env = (false, eval a X.env) :: starEach es X.env := by rfl) (hpl : (backTo pos (starEach es X.env)).any (·.1) = false := by rfl) : PE X (.Call (.Name "bool" p) (a :: es) [] pos) (tE C (eFn (fBoolO noO) ers)) :=
  e_callTy (CallR.or' call_bool1 call_boolL) (fun F H xs ds dz Q s hx e q => by
    rcases b_boolO F H xs ds dz Q s hx e q with h | h | h
    · exact .inl h
    · exact .inr (by rw [hK]; exact h)
    · obtain ⟨_, c, g, _, _, h, _⟩ := h
      cases h) hg hm PyProof.Rows.boot_bool ha (by decide) (by decide) he hpl
theorem q_lenO (T : OwnT X.prog X.w X.K X.mg X.base n "__len__" fb) (hr : Room j X.A) (hk : n + 1 ≤ j) (hm : X.mg "len" = none) (ha : PA X (a :: es) (tA C ers)) (hg : Gl X "len" := by rfl) (hK : X.K = C.K := by rfl)
    (he : starEach (a :: es) X.env = (false, eval a X.env) :: starEach es X.env := by rfl) (hpl : (backTo pos (starEach es X.env)).any (·.1) = false := by rfl) : PE X (.Call (.Name "len" p) (a :: es) [] pos) (tE C (eFn (fLenO fb) ers)) :=
  e_callB (CallR.or' call_len (call_lenO T hr hk)) (by rw [← hK]; exact b_lenO) hg hm boot_len ha (by decide) (by decide) he hpl
end
/-! ### self.a, self.b = e -/
def putAll : List Str → List D → List Str → List D → List Str × List D
  | f :: fs, d :: ds, ns, xs => putAll fs ds (putD f d ns xs).1 (putD f d ns xs).2
  | _, _, ns, xs => (ns, xs)
def xFlds (i j : Nat) (cs fs : List Str) (ee : E D) : S := fun ρ p => RS.of (ee ρ p) ρ fun d p1 => match d, ρ[i]?, p1[j]? with
  | .tup ds, some (.cell j'), some (some (.ins c ns xs)) => if j' = j ∧ c ∈ cs ∧ ns.length + fs.length ≤ 999 ∧ ds.length = fs.length then .ok .nx ρ (p1.set j (some (.ins c (putAll fs ds ns xs).1 (putAll fs ds ns xs).2))) else .no
  | _, _, _ => .no
def tFa (C : Cxt) (i j : Nat) (cs fs : List Str) : TGs := fun vs σ H Q => ∃ F Z ca ρ p ds c ns xs, StOk C F Z H ca σ ρ p ∧ RepL C.K F vs ds ∧ ρ[i]? = some (Sl.cell j) ∧ p[j]? = some (some (.ins c ns xs)) ∧ c ∈ cs ∧ ns.length + fs.length ≤ 999 ∧ ds.length = fs.length ∧
  ∀ H', StOk C F Z H' ca σ ρ (p.set j (some (.ins c (putAll fs ds ns xs).1 (putAll fs ds ns xs).2))) → Q σ H'
section
variable {X : Cx} {C : Cxt} {e : Expr} {es : List Expr} {ee : E D} {pos ppos : Pos} {i j : Nat} {cs fs : List Str} {f : Str}
/-- o.f = .., as a target -/
def gAt (K : PySem.W.Frag) (to : TE) (f : Str) : TG := fun v σ H Q => to σ H fun x H1 => ∃ a Cl dx fs, x = .ref a ∧ H1 a = some (.ins Cl dx fs) ∧ Cls K Cl ∧ NoAttr K Cl f ∧ fs.length < 1000 ∧ Q σ (upd H1 a (.ins Cl dx (putF f v fs)))
theorem pg_at {o : Expr} {to : TE} (ho : PE X o to)
    (ha : ∀ v, assign (.Attribute o f pos) X.env v = (do
      let ov ← holding [v] (eval o X.env)
      standAt pos.atName
      holding [v, ov] (setAttr ov f v)
      release [v, ov] []) := by intro _; rfl) : PG X (.Attribute o f pos) (gAt X.K to f) := by
  refine ⟨fun pins s σ H v u Q I r h => ?_⟩
  rw [ha]
  refine wpAny_bind (wpAny_holding (thn (ho.run pins s σ H _ I h) fun ov s1 ⟨x, H1, I1, r1, a, Cl, dx, fs, ex, ea, c, n, l, q⟩ => ?_))
  subst ex
  obtain rfl : ov = Value.ref a := r1
  refine wpAny_bind (wpAny_standAt (wpAny_bind (wpAny_holding (setattr_ok I1 ea c n l r fun s3 I3 => ?_))))
  exact wpAny_release ⟨σ, _, I3, q⟩
theorem putD_len (f : Str) (d : D) : ∀ (ns : List Str) (xs : List D), (putD f d ns xs).1.length ≤ ns.length + 1
  | [], _ => by unfold putD; simp
  | n :: ns, [] => by unfold putD; simp
  | n :: ns, x :: xs => by
    have ih := putD_len f d ns xs
    unfold putD
    split
    · simp
    · simp only [List.length_cons]
      omega
theorem fa_nil : PGs X [] (tFa C i j cs []) := PGs.imp pgs_nil fun vs σ H Q ⟨F, Z, ca, ρ, p, ds, c, ns, xs, I, r, h1, h2, h3, h4, h5, k⟩ => by
  cases ds with
  | cons d ds => cases h5
  | nil =>
    have hl := r.length
    cases vs with
    | cons v vs => cases hl
    | nil =>
      refine ⟨rfl, k H ?_⟩
      show StOk C F Z H ca σ ρ (p.set j (some (.ins c ns xs)))
      have : p.set j (some (.ins c ns xs)) = p := by
        apply List.ext_getElem?
        intro m
        by_cases q : j = m
        · subst q
          rw [List.getElem?_set_self (List.getElem?_eq_some_iff.mp h2).1, h2]
        · rw [List.getElem?_set_ne q]
      rw [this]
      exact I
theorem fa_cons {x : Str} {px : Pos} (T : FldT C.K cs f) (h : PGs X es (tFa C i j cs fs)) (hK : X.K = C.K := by rfl) (hN : X.N[i]? = some x := by rfl)
    (hv : Vis X.env.scope x := by first | exact Or.inl rfl | exact Or.inr (Or.inl rfl) | exact Or.inr (Or.inr rfl)) (hd : (x == ("__debug__" : Str)) = false := by decide) (hcd : (x == ("__classdict__" : Str)) = false := by decide)
    (hs : assignEach (.Attribute (.Name x px) f ppos :: es) X.env = (false, assign (.Attribute (.Name x px) f ppos) X.env) :: assignEach es X.env := by rfl) :
    PGs X (.Attribute (.Name x px) f ppos :: es) (tFa C i j cs (f :: fs)) :=
  PGs.imp (pgs_cons (pg_at (pe_var hN hv hd hcd)) h (by rw [hs] <;> rfl)) fun vs σ H Q ⟨F, Z, ca, ρ, p, ds, c, ns, xs, I, r, h1, h2, h3, h4, h5, k⟩ => by
    cases ds with
    | nil => cases h5
    | cons d ds =>
      cases vs with
      | nil => exact r.not_nc.elim
      | cons v vs =>
        obtain ⟨b, ev, w1, w2, w3, w4⟩ := I.cellAt h1 h2
        obtain ⟨dx, gs, g1, g2, g3⟩ := w2
        subst g2
        obtain ⟨i1, i2⟩ := putD_rep (f := f) r.hd g3
        have hj := (List.getElem?_eq_some_iff.mp h2).1
        refine ⟨v, vs, rfl, .ref b, ev, b, _, dx, gs, rfl, g1, ?_, ?_, ?_, ?_⟩
        · rw [hK]; exact (T.ok c h3).1
        · rw [hK]; exact (T.ok c h3).2
        · rw [List.length_map, List.length_cons] at h4; omega
        · have hl := putD_len f d (gs.map (·.1)) xs
          simp only [List.length_cons] at h4 h5
          have J0 := I.put (o := .ins (He.ga C.K c) dx (putF f v gs)) (d := .ins c (putD f d (gs.map (·.1)) xs).1 (putD f d (gs.map (·.1)) xs).2) w1 hj ⟨dx, _, upd_same, i1, i2⟩ w3 w4
          refine ⟨F, Z, ca, ρ, _, ds, c, (putD f d (gs.map (·.1)) xs).1, (putD f d (gs.map (·.1)) xs).2, J0, r.tl, h1, List.getElem?_set_self hj, h3, by omega, by omega, fun H' J => k H' ?_⟩
          rw [List.set_set] at J
          exact J
theorem x_flds (i j : Nat) {k : Nat} {tpos : Pos} (h : PGs X es (tFa C i j cs fs)) (he : PE X e (tE C ee)) (hc : X.calm = true := by rfl) (hn : (assignEach es X.env).length = fs.length := by rfl) (hst : (assignEach es X.env).findIdx? (·.1) = none := by rfl)
    (hs : swapsWithSole [.Tuple es k tpos] e pos.line X.env = pure false := by rfl) (hw : swappedStores [.Tuple es k tpos] e X.env = pure none := by rfl)
    (h1 : (assignEach [.Tuple es k tpos] X.env).map (·.2) = [assign (.Tuple es k tpos) X.env] := by rfl) : PS X (.Assign [.Tuple es k tpos] e pos) (tS C (xFlds i j cs fs ee)) :=
  PS.imp (ps_asg he (pg_tup hc h hn hst) hs hw h1) fun De σ H ⟨F, Z, ca, ρ, p, I, h⟩ => ⟨F, Z, ca, ρ, p, I, h.of fun d p1 F1 H1 e1 I1 h1 v hv => by
    split at h1
    · rename_i ds j' c ns xs e2 e3
      split at h1
      · rename_i q
        obtain ⟨q1, q2, q3, q4⟩ := q
        subst q1
        obtain ⟨b, vs, rfl, eb, hl, r⟩ := Rep.tup_iff.mp hv
        refine ⟨b, vs, rfl, SqT.of (I1.sub _ _ eb), by rw [r.length]; exact q4, F1, Z, ca, ρ, p1, ds, c, ns, xs, I1, r, e2, e3, q2, q3, q4, fun H' J => h1 F1 H' ca σ .rfl' J⟩
      · exact h1.elim
    · exact h1.elim⟩
end
end PL
/-! PL27: the pen of the laws: what draws, for any constants. -/
namespace PL
open PySem PySem.Spec
theorem mulS {i j : Int} (h : j.natAbs < 18446744073709551616) : fMul (.int i) (.int j) = some (.int (i * j)) := mul_ii (mulOk_r h)
def e1_pen : E D := (eFn fInt (eCons (eVar 1) eNil))
def b_pen : S := (xRetNew (eFnL dispL (eCons (eComp (iAny (eCut (eVar 0) pNone (pSome (eC (.int 63))))) (gV 1) eYes e1_pen [1]) (eCons (eC (.int 0)) (eCons (eC (.int 0)) eNil)))))
def fn_pen : List Sl → List Cell → R D := fnBN 1 2 0 0 b_pen
def t4_dr (k1 k2 k3 k4 : Int) : S := (xRet (eBin fMod (eFn fInt (eCons (eVar 5) eNil)) (eVar 1)))
def t3_dr (k1 k2 k3 k4 : Int) : S := (xSeq (xPut 0 0 (eBin fDiv (eVar 5) (eVar 1)) (eC (.int 2)))
  (t4_dr k1 k2 k3 k4))
def t13_dr (k1 k2 k3 k4 : Int) : S := (xRet (eBin fMod (eFn fInt (eCons (eVar 5) eNil)) (eVar 1)))
def t12_dr (k1 k2 k3 k4 : Int) : S := (xSeq (xPut 0 0 (eBin fDiv (eFn fInt (eCons (eVar 5) eNil)) (eVar 1)) (eC (.int 2)))
  (t13_dr k1 k2 k3 k4))
def t16_dr (k1 k2 k3 k4 : Int) : S := (xRet (eBin fMod (eFn fInt (eCons (eBin fDiv (eVar 4) (eC (.int 64))) eNil)) (eVar 1)))
def t15_dr (k1 k2 k3 k4 : Int) : S := (xSeq (xAsg (eBin fMod (eFn fInt (eCons (eBin fPow (eBin fAdd (eBin fAdd (eBin fMul (eVar 4) (eBin fAdd (eBin fMul (eC (.int 2)) (eVar 2)) (eC (.int k3)))) (eBin fMul (eBin fMul (eC (.int k4)) (eVar 2)) (eVar 2))) (eC (.int k1))) (eC (.int 3))) eNil)) (eC (.int 2147483587))) (gV 4))
  (t16_dr k1 k2 k3 k4))
def t14_dr (k1 k2 k3 k4 : Int) : S := (xSeq (xAsg (eBin fMod (eFn fInt (eCons (eBin fPow (eBin fAdd (eBin fAdd (eBin fMod (eFn fInt (eCons (eVar 3) eNil)) (eC (.int 2147483549))) (eBin fMul (eC (.int k1)) (eVar 2))) (eC (.int k2))) (eC (.int 5))) eNil)) (eC (.int 2147483629))) (gV 4))
  (t15_dr k1 k2 k3 k4))
def t10_dr (k1 k2 k3 k4 : Int) : S := (xSeq (xIf (tTr (eAnd (eTest (eBin fLt (eVar 2) (eFn fLen (eCons (eBin fIx (eVar 0) (eC (.int 0))) eNil)))) (eTest (eBin fGe (eFn fAbs (eCons (eVar 3) eNil)) (eBin fPow (eC (.int 10)) (eC (.int 18))))))) (xSeq (xAsg (eBin fAdd (eBin fMul (eC (.int 2)) (eBin fSub (eFn fAbs (eCons (eVar 3) eNil)) (eBin fPow (eC (.int 10)) (eC (.int 18))))) (eFn fInt (eCons (eBin fLt (eVar 3) (eC (.int 0))) eNil))) (gV 5))
  (t12_dr k1 k2 k3 k4)) xSkip)
  (t14_dr k1 k2 k3 k4))
def t8_dr (k1 k2 k3 k4 : Int) : S := (xSeq (xIf (tTr (eTest (eBin fNe (eBin fIx (eVar 0) (eC (.int 0))) (eFn dLst eNil)))) (xAsg (eTr (eBin fIx (eBin fIx (eVar 0) (eC (.int 0))) (eBin fMod (eFn fInt (eCons (eVar 2) eNil)) (eFn fLen (eCons (eBin fIx (eVar 0) (eC (.int 0))) eNil))))) (gV 3)) xSkip)
  (t10_dr k1 k2 k3 k4))
def t7_dr (k1 k2 k3 k4 : Int) : S := (xSeq (xAsg (eBin fAdd (eBin fMul (eC (.int k1)) (eVar 2)) (eC (.int k2))) (gV 3))
  (t8_dr k1 k2 k3 k4))
def t6_dr (k1 k2 k3 k4 : Int) : S := (xSeq (xPut 0 0 (eBin fAdd (eVar 2) (eC (.int 1))) (eC (.int 1)))
  (t7_dr k1 k2 k3 k4))
def t5_dr (k1 k2 k3 k4 : Int) : S := (xSeq (xAsg (eCIx 0 0 (eC (.int 1))) (gV 2))
  (t6_dr k1 k2 k3 k4))
def b_dr (k1 k2 k3 k4 : Int) : S := (xSeq (xIf (tTr (eTest (eBin fGt (eBin fIx (eVar 0) (eC (.int 2))) (eC (.int 0))))) (xSeq (xAsg (eTr (eFn fInt (eCons (eBin fIx (eVar 0) (eC (.int 2))) eNil))) (gV 5))
  (t3_dr k1 k2 k3 k4)) xSkip)
  (t5_dr k1 k2 k3 k4))
def fn_dr (k1 k2 k3 k4 : Int) : List Sl → List Cell → R D := fnB 2 6 1 1 (b_dr k1 k2 k3 k4)
def b_pick (k1 k2 k3 k4 : Int) : S := (xRet (eBin fIx (eVar 1) (eCallC [0] (fn_dr k1 k2 k3 k4) (asCons (aCell 0 0 0) (asCons (aVal (eFn fLen (eCons (eVar 1) eNil))) asNil)))))
def fn_pick (k1 k2 k3 k4 : Int) : List Sl → List Cell → R D := fnB 2 2 1 1 (b_pick k1 k2 k3 k4)
/-- the constants of a law's draws -/
structure Kd4 (k1 k2 k3 k4 : Int) : Prop where
  a1 : 0 ≤ k1
  a2 : 0 ≤ k2
  a3 : 0 ≤ k3
  a4 : 0 ≤ k4
  b1 : k1 ≤ 1000000
  b2 : k2 ≤ 1000000
  b3 : k3 ≤ 1000000
  b4 : k4 ≤ 1000000
section
variable {k1 k2 k3 k4 : Int}
/-! ### the pen -/
def penD (l : List Int) (t r : Int) : D := .lst [.lst (l.map .int), .int t, .int r]
/-- a pen of at most T turns -/
def Pen (T : Nat) (c : Cell) : Prop := ∃ l t r, c = some (penD l t r) ∧ 0 ≤ t ∧ t ≤ (T : Int) ∧ 0 ≤ r ∧ l.length ≤ 63
theorem Pen.mono {T T' : Nat} {c : Cell} (h : Pen T c) (q : T ≤ T') : Pen T' c := by
  obtain ⟨l, t, r, h1, h2, h3, h4⟩ := h
  exact ⟨l, t, r, h1, h2, by omega, h4⟩
theorem sp_pen (l : List Int) (h : l.length ≤ 63) : fn_pen [.v (.scr l)] [] = .ok (penD l 0 0) [] := by
  have h1 : l.length ≤ 1000 := by omega
  have e : compGo (gV 1) eYes e1_pen [.v (.scr l), .un] (l.map .int) [] = .ok ((l.map D.int).map id) [] := compGo_map id fun d hd => by
    obtain ⟨i, _, rfl⟩ := List.mem_map.mp hd
    simp [e1_pen]
  have e2 : HT.sIx l.length l.length (some 63) = l.length := by
    unfold HT.sIx
    simp <;> omega
  have e3 : HT.sIx l.length 0 none = 0 := rfl
  simp [fn_pen, fnBN, b_pen, fCut, h1, cutD, e2, e3, penD, ← List.map_take, List.take_of_length_le, List.map_drop, e]
theorem leaf_i {k : Kd} {i : Int} : leafD k (.int i) = true := by unfold leafD; rfl
theorem flat_is {n : Nat} : ∀ {l : List Int}, flatL n (l.map .int) = true
  | [] => by unfold flatL; rfl
  | x :: xs => by
    show flatL n (.int x :: xs.map .int) = true
    unfold flatL
    rw [flat_i, flat_is]; rfl
theorem ne_nil (l : List Int) : fNe (.lst (l.map .int)) (.lst []) = some (.bl (!l.isEmpty)) := by
  have h1 : flatD 12 (.lst (l.map D.int)) = true := by unfold flatD; exact flat_is
  have h2 : flatD 12 (.lst []) = true := by unfold flatD; unfold flatL; rfl
  unfold fNe
  rw [if_pos ⟨h1, h2⟩]
  cases l <;> (unfold eqD eqL; rfl)
theorem p18 : fPow (.int 10) (.int 18) = some (.int 1000000000000000000) := pow_ii (by decide)
theorem ofNat_lt {a : Int} {n : Nat} (h0 : 0 ≤ a) (h : a < (n : Int)) : a.natAbs < n := by omega
theorem powOk_s {a : Int} {n : Nat} (h0 : 0 ≤ a) (h : a < 1267650600228229401496703205376) (hn : n ≤ 1000) : powOk a (n : Int) = true := by
  have h1 : a.natAbs < 2 ^ 100 := by omega
  have h2 : a.natAbs.log2 < 101 := by
    by_cases hz : a.natAbs = 0
    · rw [hz]; decide
    · exact Nat.lt_succ_of_lt ((Nat.log2_lt hz).mpr h1)
  unfold powOk
  simp
  omega
theorem get_i {l : List Int} {k : Nat} (h : k < l.length) : (l.map D.int)[k]? = some (.int (l[k]'h)) := by
  rw [List.getElem?_map, List.getElem?_eq_getElem h]; rfl
theorem mulc {k : Int} (h : k.natAbs < 18446744073709551616) (i : Int) : fMul (.int k) (.int i) = some (.int (k * i)) := mul_ii (mulOk_l h)
theorem modc {k : Int} (h : 0 < k) (i : Int) : fMod (.int i) (.int k) = some (.int (i % k)) := mod_ii h
/-- the last steps of a draw -/
theorem dr_14 (kd : Kd4 k1 k2 k3 k4) (t many z : Int) (u v : Sl) (p : List Cell) (ht0 : 0 ≤ t) (ht : t ≤ 1000000) (hm : 0 < many) :
    ∃ x ρ', t14_dr k1 k2 k3 k4 [.cell 0, .v (.int many), .v (.int t), .v (.int z), u, v] p = .ok (.rt (.int x)) ρ' p ∧ 0 ≤ x ∧ x < many := by
  have a0 : 0 ≤ z % 2147483549 := Int.emod_nonneg _ (by decide)
  have a1 : z % 2147483549 < 2147483549 := Int.emod_lt_of_pos _ (by decide)
  obtain ⟨ka1, ka2, ka3, ka4, kb1, kb2, kb3, kb4⟩ := kd
  have z1 : 0 ≤ k1 * t ∧ k1 * t ≤ 1000000 * 1000000 := ⟨Int.mul_nonneg ka1 ht0, Int.mul_le_mul kb1 ht ht0 (by decide)⟩
  have z4 : 0 ≤ k4 * t ∧ k4 * t ≤ 1000000 * 1000000 := ⟨Int.mul_nonneg ka4 ht0, Int.mul_le_mul kb4 ht ht0 (by decide)⟩
  have m1 := fun i => mulc (k := k1) (by omega) i
  have m4 := fun i => mulc (k := k4) (by omega) i
  generalize hA : z % 2147483549 + k1 * t + k2 = A
  have b0 : 0 ≤ A ∧ A < 10000000000000 := by omega
  have q1 : fPow (.int A) (.int 5) = some (.int (A ^ 5)) := pow_ii (powOk_s (n := 5) b0.1 (by omega) (by decide))
  generalize hB : A ^ 5 % 2147483629 = B
  have b1 : 0 ≤ B ∧ B < 2147483629 := by rw [← hB]; exact ⟨Int.emod_nonneg _ (by decide), Int.emod_lt_of_pos _ (by decide)⟩
  have c1 : 0 ≤ B * (2 * t + k3) ∧ B * (2 * t + k3) ≤ 2147483629 * 10000000 := ⟨Int.mul_nonneg b1.1 (by omega), Int.mul_le_mul (by omega) (by omega) (by omega) (by decide)⟩
  have c2 : 0 ≤ k4 * t * t ∧ k4 * t * t ≤ (1000000 * 1000000) * 1000000 := ⟨Int.mul_nonneg z4.1 ht0, Int.mul_le_mul z4.2 ht ht0 (by decide)⟩
  have q2 : fMul (.int B) (.int (2 * t + k3)) = some (.int (B * (2 * t + k3))) := mul_ii (mulOk_l (by omega))
  have q3 : fMul (.int (k4 * t)) (.int t) = some (.int (k4 * t * t)) := mul_ii (mulOk_r (by omega))
  generalize hC : B * (2 * t + k3) + k4 * t * t + k1 = Cc
  have b2 : 0 ≤ Cc ∧ Cc < 1267650600228229401496703205376 := by omega
  have q4 : fPow (.int Cc) (.int 3) = some (.int (Cc ^ 3)) := pow_ii (powOk_s (n := 3) b2.1 b2.2 (by decide))
  have q5 : ∀ i : Int, fDiv (.int i) (.int 64) = some (.int (i / 64)) := fun i => div_ii (by decide) (by decide)
  refine ⟨Cc ^ 3 % 2147483587 / 64 % many, [.cell 0, .v (.int many), .v (.int t), .v (.int z), .v (.int (Cc ^ 3 % 2147483587)), v], ?_, Int.emod_nonneg (Cc ^ 3 % 2147483587 / 64) (by omega), Int.emod_lt_of_pos (Cc ^ 3 % 2147483587 / 64) hm⟩
  have s0 : t14_dr k1 k2 k3 k4 [.cell 0, .v (.int many), .v (.int t), .v (.int z), u, v] p = t15_dr k1 k2 k3 k4 [.cell 0, .v (.int many), .v (.int t), .v (.int z), .v (.int B), v] p := by
    simp [t14_dr, modc, mulc, m1, hA, q1, hB]
  have s1 : t15_dr k1 k2 k3 k4 [.cell 0, .v (.int many), .v (.int t), .v (.int z), .v (.int B), v] p = t16_dr k1 k2 k3 k4 [.cell 0, .v (.int many), .v (.int t), .v (.int z), .v (.int (Cc ^ 3 % 2147483587)), v] p := by
    simp [t15_dr, modc, mulc, m4, q2, q3, hC, q4]
  rw [s0, s1]
  simp [t16_dr, q5, mod_ii hm]
theorem dr_10 (kd : Kd4 k1 k2 k3 k4) (T : Nat) (l : List Int) (t many z : Int) (u v : Sl) (ht0 : 0 ≤ t) (htT : t ≤ T) (hT : T ≤ 1000000) (hl : l.length ≤ 63) (hm : 0 < many) (hlog : many.natAbs.log2 < 9000) :
    ∃ x ρ' c', t10_dr k1 k2 k3 k4 [.cell 0, .v (.int many), .v (.int t), .v (.int z), u, v] [some (penD l (t + 1) 0)] = .ok (.rt (.int x)) ρ' [c'] ∧ 0 ≤ x ∧ x < many ∧ Pen (T + 1) c' := by
  have p0 : Pen (T + 1) (some (penD l (t + 1) 0)) := ⟨l, t + 1, 0, rfl, by omega, by omega, by omega, hl⟩
  have goon : ∃ x ρ' c', t14_dr k1 k2 k3 k4 [.cell 0, .v (.int many), .v (.int t), .v (.int z), u, v] [some (penD l (t + 1) 0)] = .ok (.rt (.int x)) ρ' [c'] ∧ 0 ≤ x ∧ x < many ∧ Pen (T + 1) c' := by
    obtain ⟨x, ρ', e, h1, h2⟩ := dr_14 kd t many z u v [some (penD l (t + 1) 0)] ht0 (by omega) hm
    exact ⟨x, ρ', _, e, h1, h2, p0⟩
  unfold penD at goon ⊢
  by_cases h1 : t < l.length
  · by_cases h2 : 1000000000000000000 ≤ (if z < 0 then -z else z)
    · generalize hR : 2 * ((if z < 0 then -z else z) - 1000000000000000000) + (if z < 0 then 1 else 0) = Rr
      have hR0 : 0 ≤ Rr := by split at hR <;> omega
      refine ⟨Rr % many, [.cell 0, .v (.int many), .v (.int t), .v (.int z), u, .v (.int Rr)], some (penD l (t + 1) (Rr / many)), ?_, Int.emod_nonneg _ (by omega), Int.emod_lt_of_pos _ hm, l, t + 1, Rr / many, rfl, by omega, by omega, Int.ediv_nonneg hR0 (by omega), hl⟩
      simp [t10_dr, thaw, noneP, fIx, L2.atI, L2.ixN, h1, h2, p18, mulc, hR, t12_dr, t13_dr, mod_ii hm, div_ii hm hlog, penD]
    · simp only [t10_dr]
      simp [thaw, noneP, fIx, L2.atI, L2.ixN, h1, h2, p18]
      exact goon
  · simp only [t10_dr]
    simp [thaw, noneP, fIx, L2.atI, L2.ixN, h1]
    exact goon
theorem sp_draw (kd : Kd4 k1 k2 k3 k4) (T : Nat) (hT : T ≤ 1000000) (c : Cell) (h : Pen T c) (many : Int) (hm : 0 < many) (hm2 : many ≤ 1000000) :
    ∃ v c', fn_dr k1 k2 k3 k4 [.cell 0, .v (.int many)] [c] = .ok (.int v) [c'] ∧ 0 ≤ v ∧ v < many ∧ Pen (T + 1) c' := by
  obtain ⟨l, t, r, rfl, ht0, ht, hr, hl⟩ := h
  have hlog : many.natAbs.log2 < 9000 := by
    have h1 : many.natAbs ≠ 0 := by omega
    have h2 : many.natAbs.log2 < 20 := (Nat.log2_lt h1).mpr (by omega)
    omega
  by_cases hr0 : 0 < r
  · refine ⟨r % many, some (penD l t (r / many)), ?_, Int.emod_nonneg _ (by omega), Int.emod_lt_of_pos _ hm, l, t, r / many, rfl, ht0, by omega, Int.ediv_nonneg hr (by omega), hl⟩
    simp [fn_dr, fnB, b_dr, t3_dr, t4_dr, thaw, noneP, penD, fIx, L2.atI, L2.ixN, hr0, leaf_i, div_ii hm hlog, mod_ii hm]
  · have hr1 : r = 0 := by omega
    subst hr1
    have m1 := fun i => mulc (k := k1) (by have := kd.a1; have := kd.b1; omega) i
    have s0 : fn_dr k1 k2 k3 k4 [.cell 0, .v (.int many)] [some (penD l t 0)] = (t8_dr k1 k2 k3 k4 [.cell 0, .v (.int many), .v (.int t), .v (.int (k1 * t + k2)), .un, .un] [some (penD l (t + 1) 0)]).out 1 := by
      simp [fn_dr, fnB_at, b_dr, t5_dr, t6_dr, t7_dr, thaw, noneP, penD, fIx, L2.atI, L2.ixN, mulc, m1]
    have s1 : ∃ z, t8_dr k1 k2 k3 k4 [.cell 0, .v (.int many), .v (.int t), .v (.int (k1 * t + k2)), .un, .un] [some (penD l (t + 1) 0)] = t10_dr k1 k2 k3 k4 [.cell 0, .v (.int many), .v (.int t), .v (.int z), .un, .un] [some (penD l (t + 1) 0)] := by
      cases l with
      | nil =>
        have := ne_nil []
        simp at this
        exact ⟨k1 * t + k2, by simp [t8_dr, thaw, noneP, penD, fIx, L2.atI, L2.ixN, this]⟩
      | cons x xs =>
        have e1 := ne_nil (x :: xs)
        simp at e1
        have hp : (0 : Int) < ((x :: xs).length : Int) := by simp <;> omega
        have e2 : 0 ≤ t % ((x :: xs).length : Int) := Int.emod_nonneg _ (by omega)
        have e3 : t % ((x :: xs).length : Int) < ((x :: xs).length : Int) := Int.emod_lt_of_pos _ hp
        have e4 := mod_ii (i := t) hp
        simp at e2 e3 e4
        obtain ⟨k, hk⟩ : ∃ k : Nat, t % ((xs.length : Int) + 1) = k := ⟨(t % ((xs.length : Int) + 1)).toNat, by omega⟩
        rw [hk] at e2 e3 e4
        have hk2 : k < (x :: xs).length := by simp; omega
        have e5 := get_i hk2
        simp at e5
        refine ⟨(x :: xs)[k], ?_⟩
        simp [t8_dr, thaw, noneP, penD, fIx, L2.atI, L2.ixN, e1, e4, e3, e5, leaf_i]
    obtain ⟨z, s1⟩ := s1
    obtain ⟨x, ρ', c', e, h1, h2, h3⟩ := dr_10 kd T l t many z .un .un ht0 ht hT hl hm hlog
    exact ⟨x, c', by rw [s0, s1, e]; rfl, h1, h2, h3⟩
theorem sp_pick (kd : Kd4 k1 k2 k3 k4) (T : Nat) (hT : T ≤ 1000000) (c : Cell) (h : Pen T c) (l : List D) (h0 : l ≠ []) (hl : l.length ≤ 100000) :
    ∃ v c', fn_pick k1 k2 k3 k4 [.cell 0, .v (.lst l)] [c] = .ok v [c'] ∧ v ∈ l ∧ Pen (T + 1) c' := by
  have hp : 0 < l.length := List.length_pos_iff.mpr h0
  obtain ⟨v, c', e, h1, h2, h3⟩ := sp_draw kd T hT c h l.length (by omega) (by omega)
  obtain ⟨k, rfl⟩ := Int.eq_ofNat_of_zero_le h1
  have hk : k < l.length := by omega
  refine ⟨l[k], c', ?_, List.getElem_mem hk, h3⟩
  obtain ⟨_, _, _, rfl, _⟩ := h
  obtain ⟨_, _, _, rfl, _⟩ := h3
  simp [fn_pick, fnB_at, b_pick, getC, putC, e, fIx, L2.atI, L2.ixN, hk]
/-- a draw within a def: the pen is the cell j, in slot i -/
theorem call_dr (kd : Kd4 k1 k2 k3 k4) (T : Nat) (hT : T ≤ 1000000) {i j : Nat} {ρ : List Sl} {p p1 : List Cell} {pc : Cell} {e : E D} {many : Int} (h1 : ρ[i]? = some (.cell j)) (he : e ρ p = .ok (.int many) p1) (hp : p1[j]? = some pc) (h : Pen T pc) (hm : 0 < many) (hm2 : many ≤ 1000000) :
    ∃ v c', eCallC [j] (fn_dr k1 k2 k3 k4) (asCons (aCell i j 0) (asCons (aVal e) asNil)) ρ p = .ok (.int v) (p1.set j c') ∧ 0 ≤ v ∧ v < many ∧ Pen (T + 1) c' := by
  obtain ⟨v, c', q, h2, h3, h4⟩ := sp_draw kd T hT pc h many hm hm2
  refine ⟨v, c', ?_, h2, h3, h4⟩
  obtain ⟨_, _, _, rfl, _⟩ := h
  obtain ⟨_, _, _, rfl, _⟩ := h4
  simp [h1, he, getC, hp, q, putC]
theorem call_pk (kd : Kd4 k1 k2 k3 k4) (T : Nat) (hT : T ≤ 1000000) {i j : Nat} {ρ : List Sl} {p p1 : List Cell} {pc : Cell} {e : E D} {l : List D} (h1 : ρ[i]? = some (.cell j)) (he : e ρ p = .ok (.lst l) p1) (hp : p1[j]? = some pc) (h : Pen T pc) (h0 : l ≠ []) (hl : l.length ≤ 100000) :
    ∃ v c', eCallC [j] (fn_pick k1 k2 k3 k4) (asCons (aCell i j 0) (asCons (aVal e) asNil)) ρ p = .ok v (p1.set j c') ∧ v ∈ l ∧ Pen (T + 1) c' := by
  obtain ⟨v, c', q, h2, h4⟩ := sp_pick kd T hT pc h l h0 hl
  refine ⟨v, c', ?_, h2, h4⟩
  obtain ⟨_, _, _, rfl, _⟩ := h
  obtain ⟨_, _, _, rfl, _⟩ := h4
  simp [h1, he, getC, hp, q, putC]
end
end PL
namespace PLm
open PySem PySem.Spec L2
section
variable {prog : Program} {w : World} {A : Around} {E : Value → Shared → Prop} {s : Shared}
theorem wp_alive {a : Addr} {Q : Option Obj → Shared → Prop} (h : Q (s.heap.get? a) s) : wpAny (model prog w) A (loadIfAlive a) Q E s := fun Γ p _ => by
  unfold loadIfAlive
  rw [Sem.wp_loadIfAlive, Sem.wp_pure]
  exact h
/-- a zip's own record -/
def ZRec (h : Heap) (z TI TO : Addr) (f0 f1 : Value) : Prop := h.get? z = some ⟨.type "zip", none, .fields #[f0, f1, .bool false, .ref TI, .ref TO], #[]⟩
def ZTup (h : Heap) (T : Addr) (vs : Array Value) : Prop := h.get? T = some ⟨.type "tuple", none, .seq vs, #[]⟩
theorem up_tup {T : Addr} {vs : Array Value} {k : Nat} {x : Value} {Q : Unit → Shared → Prop} (hT : ZTup s.heap T vs) (hv : vs.size ≤ 1000)
    (h : ∀ h', ZTup h' T (vs.setIfInBounds k x) → Heap.SameBut T s.heap h' → Q () { s with heap := h' }) : wpAny (model prog w) A (updateSeq T (·.setIfInBounds k x)) Q E s := by
  refine wpAny_updateSeq hT rfl (h _ ?_ (Heap.SameBut.update ..)) (Nat.le_trans hv (by decide)) (by rw [Array.size_setIfInBounds]; exact Nat.le_trans hv (by decide))
  unfold ZTup
  rw [Heap.get?_update_self _ hT rfl]
  simp [Obj.mapSeq]
/-- what a source of a zip draws -/
structure Zd (prog : Program) (w : World) (A : Around) where
  it : Addr
  fp : List Addr
  n : Nat
  P : Nat → Value → Prop
  St : Nat → Heap → Prop
  D : Draws prog w A it fp n P St
structure ZApart (zs : List (Zd prog w A)) (z TI TO : Addr) : Prop where
  zI : z ≠ TI
  zO : z ≠ TO
  IO : TI ≠ TO
  fp : ∀ d ∈ zs, z ∉ d.fp ∧ TO ∉ d.fp ∧ TI ≠ d.it ∧ d.it ∈ d.fp
  ap : zs.Pairwise fun d d' => d.it ∉ d'.fp ∧ d'.it ∉ d.fp
/-- the sources pre have been drawn from, rest not -/
structure ZGo (zs : List (Zd prog w A)) (i : Nat) (s0 : Shared) (cs : List Addr) (pre rest : List (Zd prog w A)) (xs : List Value) (s : Shared) : Prop where
  all : pre ++ rest = zs
  len : xs.length = pre.length
  st : ∃ h tk, s = { s0 with heap := h, toks := tk }
  sz : s.heap.objs.size = s0.heap.objs.size
  lt : ∀ d ∈ pre, i < d.n
  dr : ∀ q ∈ pre.zip xs, q.1.P i q.2 ∧ q.1.St (i + 1) s.heap
  rs : ∀ d ∈ rest, d.St i s.heap
  keep : ∀ c o, c ∉ cs → (∀ d ∈ zs, c ≠ d.it) → s0.heap.get? c = some o → s.heap.get? c = some o
theorem ZGo.next {zs : List (Zd prog w A)} {i : Nat} {s0 : Shared} {cs : List Addr} {pre rest : List (Zd prog w A)} {d : Zd prog w A} {xs : List Value} {z TI TO : Addr} (D : ZApart zs z TI TO) (g : ZGo zs i s0 cs pre (d :: rest) xs s)
    (hi : i < d.n) {x : Value} {h' : Heap} {tk : Nat} (hx : d.P i x) (hs : d.St (i + 1) h') (hb : Heap.SameBut d.it s.heap h') : ZGo zs i s0 cs (pre ++ [d]) rest (xs ++ [x]) { s with heap := h', toks := tk } := by
  have hd : d ∈ zs := by rw [← g.all]; simp
  have ap := D.ap
  rw [← g.all, List.pairwise_append] at ap
  obtain ⟨h, tk0, e⟩ := g.st
  refine ⟨by rw [List.append_assoc]; exact g.all, by simp [g.len], ⟨h', tk, by rw [e]⟩, by rw [← g.sz]; exact hb.1, fun d' hd' => ?_, fun q hq => ?_, fun d' hd' => ?_, fun c o c1 c2 e1 => ?_⟩
  · rcases List.mem_append.mp hd' with h | h
    · exact g.lt d' h
    · rw [List.mem_singleton.mp h]; exact hi
  · rw [List.zip_append g.len.symm] at hq
    rcases List.mem_append.mp hq with h | h
    · obtain ⟨q1, q2⟩ := g.dr q h
      have hp := (List.of_mem_zip h).1
      have a := ap.2.2 q.1 hp d (by simp)
      exact ⟨q1, q.1.D.frame _ _ _ q2 fun b hb' o e => (hb.2 b fun e' => a.2 (e' ▸ hb')).trans e⟩
    · have : q = (d, x) := by simpa using h
      subst this
      exact ⟨hx, hs⟩
  · have a := (List.pairwise_cons.mp ap.2.1).1 d' hd'
    exact d'.D.frame _ _ _ (g.rs d' (by simp [hd'])) fun b hb' o e => (hb.2 b fun e' => a.1 (e' ▸ hb')).trans e
  · exact (hb.2 c (c2 d hd)).trans (g.keep c o c1 c2 e1)
/-- another cell of the zip's own turns -/
theorem ZGo.own {zs : List (Zd prog w A)} {i : Nat} {s0 : Shared} {cs : List Addr} {pre rest : List (Zd prog w A)} {xs : List Value} (g : ZGo zs i s0 cs pre rest xs s) {c : Addr} {h' : Heap} (hb : Heap.SameBut c s.heap h') (hc : c ∈ cs) (hf : ∀ d ∈ zs, c ∉ d.fp) :
    ZGo zs i s0 cs pre rest xs { s with heap := h' } := by
  obtain ⟨h, tk0, e⟩ := g.st
  have m1 : ∀ d ∈ pre, d ∈ zs := fun d hd => by rw [← g.all]; simp [hd]
  have m2 : ∀ d ∈ rest, d ∈ zs := fun d hd => by rw [← g.all]; simp [hd]
  refine ⟨g.all, g.len, ⟨h', tk0, by rw [e]⟩, by rw [← g.sz]; exact hb.1, g.lt, fun q hq => ?_, fun d hd => ?_, fun c' o c1 c2 e1 => ?_⟩
  · obtain ⟨q1, q2⟩ := g.dr q hq
    exact ⟨q1, q.1.D.frame _ _ _ q2 fun b hb' o e => (hb.2 b fun e' => hf q.1 (m1 _ (List.of_mem_zip hq).1) (e' ▸ hb')).trans e⟩
  · exact d.D.frame _ _ _ (g.rs d hd) fun b hb' o e => (hb.2 b fun e' => hf d (m2 _ hd) (e' ▸ hb')).trans e
  · exact (hb.2 c' fun e' => c1 (e' ▸ hc)).trans (g.keep c' o c1 c2 e1)
theorem zip_next (zs : List (Zd prog w A)) (h0 : zs ≠ []) (hlen : zs.length ≤ 1000) {z TI TO : Addr} (D : ZApart zs z TI TO) {f0 f1 : Value} {i : Nat} {vs : Array Value} {Q : Fin → Shared → Prop} (hz : ZRec s.heap z TI TO f0 f1) (hI : ZTup s.heap TI ((zs.map fun d => Value.ref d.it).toArray))
    (hO : ZTup s.heap TO vs) (hv : vs.size = zs.length) (hf : f0 = .none ∨ ∃ T : Nat, f0 = rawInt T) (hst : ∀ d ∈ zs, d.St i s.heap) (hle : ∀ d ∈ zs, i ≤ d.n)
    (hQ : ∀ xs h' tk, (∀ d ∈ zs, i < d.n) → xs.length = zs.length → (∀ q ∈ zs.zip xs, q.1.P i q.2 ∧ q.1.St (i + 1) h') → (∃ (T : Nat) (f1' : Value), ZRec h' z TI TO (rawInt T) f1') → ZTup h' TI ((zs.map fun d => Value.ref d.it).toArray) → (∃ vs' : Array Value, vs'.size = zs.length ∧ ZTup h' TO vs') →
      ZTup h' s.heap.objs.size xs.toArray → h'.objs.size = s.heap.objs.size + 1 → (∀ c o, c ≠ z → c ≠ TO → (∀ d ∈ zs, c ≠ d.it) → s.heap.get? c = some o → h'.get? c = some o) → Q (.done (.ret (.ref s.heap.objs.size))) { s with heap := h', toks := tk })
    (hE : ∀ h' e tk, (∃ d ∈ zs, d.n = i) → (∀ c o, c ≠ z → c ≠ TO → (∀ d ∈ zs, c ≠ d.it) → s.heap.get? c = some o → h'.get? c = some o) → (∃ o, h'.get? e = some o ∧ o.cls = .type "StopIteration") → E (.ref e) { s with heap := h', toks := tk }) :
    wpAny (model prog w) A (Builtin.«zip.__next__» ⟨[.ref z], []⟩) Q E s := by
  show wpAny _ _ (field (.ref z) 2 >>= _) _ _ _
  refine wpAny_bind (wpAny_field hz rfl (x := .bool false) rfl ?_)
  show wpAny _ _ (field (.ref z) 3 >>= _) _ _ _
  refine wpAny_bind (wpAny_field hz rfl (x := .ref TI) rfl ?_)
  refine wpAny_bind (wpAny_seqItems hI rfl ?_)
  have e0 : (((zs.map fun d => Value.ref d.it).toArray).isEmpty) = false := by cases zs <;> simp_all
  dsimp only
  rw [e0]
  show wpAny _ _ (Builtin.SmallTypes.ownedTupleIsFree (.ref z) >>= _) _ _ _
  have fz : ∀ d ∈ zs, z ∉ d.fp := fun d hd => (D.fp d hd).1
  have fO : ∀ d ∈ zs, TO ∉ d.fp := fun d hd => (D.fp d hd).2.1
  have fI : ∀ d ∈ zs, d.it ≠ TI := fun d hd => ((D.fp d hd).2.2.1).symm
  have iz : ∀ d ∈ zs, d.it ≠ z := fun d hd e => (D.fp d hd).1 (e ▸ (D.fp d hd).2.2.2)
  have iO : ∀ d ∈ zs, d.it ≠ TO := fun d hd e => (D.fp d hd).2.1 (e ▸ (D.fp d hd).2.2.2)
  have setz : ∀ {s1 : Shared} {g0 g1 x : Value} {k : Nat} {Q : Unit → Shared → Prop} {E : Value → Shared → Prop}, ZRec s1.heap z TI TO g0 g1 → k < 5 →
      (∀ h', h'.get? z = some ⟨.type "zip", none, .fields ((#[g0, g1, .bool false, .ref TI, .ref TO] : Array Value).setIfInBounds k x), #[]⟩ → Heap.SameBut z s1.heap h' → Q () { s1 with heap := h' }) → wpAny (model prog w) A (setField (.ref z) k x) Q E s1 :=
    fun hz hk h => wpAny_setField_rec hz (by simpa using hk) h
  refine wpAny_bind (wpAny_mono (Q := fun b s1 => (b = true ∧ s1 = s) ∨ (b = false ∧ ∃ (h1 : Heap) (T : Nat) (f1' : Value), Heap.SameBut z s.heap h1 ∧ ZRec h1 z TI TO (rawInt T) f1' ∧ s1 = { s with heap := h1 })) (E := E) ?fr ?go fun _ _ h => h)
  case fr =>
    rcases hf with rfl | ⟨T, rfl⟩
    · unfold Builtin.SmallTypes.ownedTupleIsFree
      exact wpAny_bind (wpAny_field hz rfl (x := .none) rfl (wpAny_pure (.inl ⟨rfl, rfl⟩)))
    · unfold Builtin.SmallTypes.ownedTupleIsFree
      refine wpAny_bind (wpAny_field hz rfl (x := rawInt T) rfl ?_)
      show wpAny _ _ (loadIfAlive T >>= _) _ _ _
      refine wpAny_bind (wp_alive ?_)
      cases hT : s.heap.get? T with
      | none => exact wpAny_pure (.inl ⟨rfl, rfl⟩)
      | some oT =>
        refine wpAny_bind (wpAny_field hz rfl (x := f1) rfl ?_)
        show wpAny _ _ (if (f1 != Value.bool true) = true then _ else _) _ _ _
        split
        · refine wpAny_bind (setz hz (by decide) fun h' hz' hs => wpAny_pure (.inr ⟨rfl, h', T, .bool true, hs, ?_, rfl⟩))
          simpa [ZRec] using hz'
        · exact wpAny_pure (.inr ⟨rfl, s.heap, T, f1, .refl .., hz, rfl⟩)
  case go =>
    rintro b s1 (⟨rfl, rfl⟩ | ⟨rfl, h1, T, f1', hb, hz1, rfl⟩)
    · refine wpAny_bind (wpAny_rule ?_)
      refine wpAny_bind (wpAny_field hz rfl (x := .ref TO) rfl ?_)
      refine wpAny_bind (setz hz (by decide) fun h1 hz1 hs1 => ?_)
      have hz1' : ZRec h1 z TI TO .ellipsis f1 := by simpa [ZRec] using hz1
      have hI1 : ZTup h1 TI ((zs.map fun d => Value.ref d.it).toArray) := (hs1.2 _ (Ne.symm D.zI)).trans hI
      have hO1 : ZTup h1 TO vs := (hs1.2 _ (Ne.symm D.zO)).trans hO
      have g0 : ZGo zs i s1 [z, TO] [] zs [] s1 := ⟨rfl, rfl, ⟨_, _, rfl⟩, rfl, by simp, by simp, hst, fun c o _ _ e => e⟩
      have g1 := g0.own hs1 (by simp) fz
      refine wpAny_bind (wpAny_forIn_list _ (fun l b s2 => b = (none, ()) ∧ ∃ pre rest xs vs, l = (rest.map fun d => Value.ref d.it).zipIdx pre.length ∧ ZGo zs i s1 [z, TO] pre rest xs s2 ∧ ZRec s2.heap z TI TO .ellipsis f1 ∧ ZTup s2.heap TI ((zs.map fun d => Value.ref d.it).toArray) ∧ ZTup s2.heap TO vs ∧ vs.size = zs.length ∧ ∀ (j : Nat) x, xs[j]? = some x → vs[j]? = some x) _ ?turn ?fin _ _ ⟨rfl, [], zs, [], vs, rfl, g1, hz1', hI1, hO1, hv, by simp⟩)
      case turn =>
        rintro x l b s2 ⟨rfl, pre, rest, xs, vs, el, g, hz2, hI2, hO2, hv2, hx2⟩
        cases rest with
        | nil => cases el
        | cons d rest =>
          simp only [List.map_cons, List.zipIdx_cons, List.cons.injEq] at el
          obtain ⟨rfl, rfl⟩ := el
          have hd : d ∈ zs := by rw [← g.all]; simp
          obtain ⟨h2, tk2, e2⟩ := g.st
          refine wpAny_bind (wpAny_onRaise ?_)
          show wpAny _ _ (Builtin.SmallTypes.nextOf (.ref d.it) >>= _) _ _ _
          refine wpAny_bind ?_
          rcases Nat.lt_or_ge i d.n with hi | hi
          · refine d.D.item i s2 _ _ hi (g.rs d (by simp)) fun x h' tk hx hs hb => wpAny_pure ?_
            have g' := g.next D hi (tk := tk) hx hs hb
            have hz3 : ZRec h' z TI TO .ellipsis f1 := (hb.2 _ (Ne.symm (iz d hd))).trans hz2
            have hI3 : ZTup h' TI ((zs.map fun d => Value.ref d.it).toArray) := (hb.2 _ (Ne.symm (fI d hd))).trans hI2
            have hO3 : ZTup h' TO vs := (hb.2 _ (Ne.symm (iO d hd))).trans hO2
            refine wpAny_bind (wpAny_seqItems hO3 rfl ?_)
            refine wpAny_bind (up_tup hO3 (by omega) fun h4 hO4 hs4 => ?_)
            refine wpAny_bind (wpAny_letGo (wpAny_pure ⟨rfl, pre ++ [d], rest, xs ++ [x], _, by simp, g'.own hs4 (by simp) fO, (hs4.2 _ D.zO).trans hz3, (hs4.2 _ D.IO).trans hI3, hO4, by simpa using hv2, fun j y hj => ?_⟩))
            have hsz : pre.length < zs.length := by rw [← g.all]; simp
            rw [Array.getElem?_setIfInBounds]
            rcases Nat.lt_trichotomy j xs.length with h | h | h
            · rw [List.getElem?_append_left h] at hj
              rw [if_neg (by rw [← g.len]; omega)]
              exact hx2 j y hj
            · rw [List.getElem?_append_right (by omega), h, Nat.sub_self] at hj
              rw [if_pos (by rw [h, g.len]), if_pos (by omega)]
              exact hj
            · rw [List.getElem?_append_right (by omega), List.getElem?_eq_none (by simp; omega)] at hj
              cases hj
          · have hn : d.n = i := Nat.le_antisymm hi (hle d hd)
            refine d.D.done s2 _ _ (by rw [hn]; exact g.rs d (by simp)) fun h' e hb hs => ?_
            obtain ⟨oe, he, hc⟩ := hs
            have hz3 : ZRec h' z TI TO .ellipsis f1 := hb _ _ (Ne.symm (iz d hd)) hz2
            refine setz hz3 (by decide) fun h4 _ hs4 => ?_
            have hez : e ≠ z := fun q => by
              subst q
              unfold ZRec at hz3
              rw [hz3] at he
              cases he
              simp at hc
            have := hE h4 e tk2 ⟨d, hd, hn⟩ (fun c o c1 c2 c3 q => (hs4.2 c c1).trans (hb c o (c3 d hd) (g.keep c o (by simp [c1, c2]) c3 q))) ⟨oe, (hs4.2 _ hez).trans he, hc⟩
            rw [e2]
            exact this
      case fin =>
        rintro b s2 ⟨rfl, pre, rest, xs, vs, el, g, hz2, hI2, hO2, hv2, hx2⟩
        have er : rest = [] := by
          cases rest with
          | nil => rfl
          | cons d rest => cases el
        subst er
        have ep : pre = zs := by simpa using g.all
        subst ep
        obtain ⟨h2, tk2, e2⟩ := g.st
        have sz2 := g.sz
        have ev : vs = xs.toArray := by
          apply Array.ext (by rw [hv2, List.size_toArray, g.len])
          intro j j1 j2
          have hj : j < xs.length := by simpa using j2
          have := hx2 j xs[j] (List.getElem?_eq_getElem hj)
          rw [Array.getElem?_eq_getElem j1] at this
          simpa using this
        refine wpAny_bind (wpAny_seqItems hO2 rfl ?_)
        refine wpAny_bind (wpAny_newTuple ?_ (by rw [Array.length_toList, hv2]; exact Nat.le_trans hlen (by decide)))
        have hzlt : z < s2.heap.objs.size := Heap.lt_size hz2
        show wpAny _ _ (Builtin.SmallTypes.ownedTupleHandOut (.ref z) (.ref s2.heap.objs.size) >>= _) _ _ _
        refine wpAny_bind ?_
        unfold Builtin.SmallTypes.ownedTupleHandOut
        have hz3 : ZRec (s2.heap.push { cls := .type "tuple", data := .seq vs.toList.toArray }) z TI TO .ellipsis f1 := Heap.get?_push_of_some _ hz2
        refine wpAny_bind (setz hz3 (by decide) fun h5 hz5 hs5 => ?_)
        have hz5' : ZRec h5 z TI TO (rawInt s2.heap.objs.size) f1 := by simpa [ZRec] using hz5
        refine setz hz5' (by decide) fun h6 hz6 hs6 => ?_
        have hz6' : ZRec h6 z TI TO (rawInt s2.heap.objs.size) (.bool false) := by simpa [ZRec] using hz6
        have up : ∀ c o, c ≠ z → s2.heap.get? c = some o → h6.get? c = some o := fun c o c1 q => (hs6.2 _ c1).trans ((hs5.2 _ c1).trans (Heap.get?_push_of_some _ q))
        have hT : ZTup h6 s2.heap.objs.size xs.toArray := by
          rw [← ev]
          refine (hs6.2 _ (Nat.ne_of_gt hzlt)).trans ((hs5.2 _ (Nat.ne_of_gt hzlt)).trans ?_)
          exact Heap.get?_push_size _ rfl
        have hsz6 : h6.objs.size = s1.heap.objs.size + 1 := by rw [hs6.1, hs5.1, Heap.size_push, sz2]
        have := hQ xs h6 tk2 g.lt g.len (fun q hq => ?_) ⟨_, _, hz6'⟩ (up _ _ (Ne.symm D.zI) hI2) ⟨vs, hv2, up _ _ (Ne.symm D.zO) hO2⟩ (by rw [← sz2]; exact hT) hsz6 (fun c o c1 c2 c3 q => up c o c1 (g.keep c o (by simp [c1, c2]) c3 q))
        · rw [e2] at *
          refine wpAny_pure ?_
          rw [← sz2] at this
          exact this
        · obtain ⟨q1, q2⟩ := g.dr q hq
          exact ⟨q1, q.1.D.frame _ _ _ q2 fun b hb o e => up b o (fun e' => fz q.1 (List.of_mem_zip hq).1 (e' ▸ hb)) e⟩
    · have hI1 : ZTup h1 TI ((zs.map fun d => Value.ref d.it).toArray) := (hb.2 _ (Ne.symm D.zI)).trans hI
      have hO1 : ZTup h1 TO vs := (hb.2 _ (Ne.symm D.zO)).trans hO
      have g0 : ZGo zs i s [z] [] zs [] s := ⟨rfl, rfl, ⟨_, _, rfl⟩, rfl, by simp, by simp, hst, fun c o _ _ e => e⟩
      have g1 := g0.own hb (by simp) fz
      rw [if_neg (by simp), List.forIn_toArray]
      refine wpAny_bind (wpAny_forIn_list _ (fun l b s2 => ∃ pre rest xs, b = (none, xs.toArray) ∧ l = (rest.map fun d => Value.ref d.it) ∧ ZGo zs i s [z] pre rest xs s2 ∧ ZRec s2.heap z TI TO (rawInt T) f1' ∧ ZTup s2.heap TI ((zs.map fun d => Value.ref d.it).toArray) ∧ ZTup s2.heap TO vs) _ ?turn2 ?fin2 _ _ ⟨[], zs, [], rfl, rfl, g1, hz1, hI1, hO1⟩)
      case turn2 =>
        rintro x l b s2 ⟨pre, rest, xs, rfl, el, g, hz2, hI2, hO2⟩
        cases rest with
        | nil => cases el
        | cons d rest =>
          simp only [List.map_cons, List.cons.injEq] at el
          obtain ⟨rfl, rfl⟩ := el
          have hd : d ∈ zs := by rw [← g.all]; simp
          obtain ⟨h2, tk2, e2⟩ := g.st
          refine wpAny_bind (wpAny_holding ?_)
          show wpAny _ _ (Builtin.SmallTypes.nextOf (.ref d.it) >>= _) _ _ _
          refine wpAny_bind ?_
          rcases Nat.lt_or_ge i d.n with hi | hi
          · refine d.D.item i s2 _ _ hi (g.rs d (by simp)) fun x h' tk hx hs hb => wpAny_pure ?_
            exact wpAny_pure ⟨pre ++ [d], rest, xs ++ [x], by simp, rfl, g.next D hi (tk := tk) hx hs hb, (hb.2 _ (Ne.symm (iz d hd))).trans hz2, (hb.2 _ (Ne.symm (fI d hd))).trans hI2, (hb.2 _ (Ne.symm (iO d hd))).trans hO2⟩
          · have hn : d.n = i := Nat.le_antisymm hi (hle d hd)
            refine d.D.done s2 _ _ (by rw [hn]; exact g.rs d (by simp)) fun h' e hb hs => ?_
            have := hE h' e tk2 ⟨d, hd, hn⟩ (fun c o c1 c2 c3 q => hb c o (c3 d hd) (g.keep c o (by simp [c1]) c3 q)) hs
            rw [e2]
            exact this
      case fin2 =>
        rintro b s2 ⟨pre, rest, xs, rfl, el, g, hz2, hI2, hO2⟩
        have er : rest = [] := by
          cases rest with
          | nil => rfl
          | cons d rest => cases el
        subst er
        have ep : pre = zs := by simpa using g.all
        subst ep
        obtain ⟨h2, tk2, e2⟩ := g.st
        have sz2 := g.sz
        refine wpAny_bind (wpAny_newTuple ?_ (by simp only [List.toList_toArray]; rw [g.len]; exact Nat.le_trans hlen (by decide)))
        refine wpAny_pure ?_
        have up : ∀ c o, s2.heap.get? c = some o → (s2.heap.push { cls := .type "tuple", data := .seq xs.toArray.toList.toArray }).get? c = some o := fun c o q => Heap.get?_push_of_some _ q
        have := hQ xs (s2.heap.push { cls := .type "tuple", data := .seq xs.toArray.toList.toArray }) tk2 g.lt g.len (fun q hq => ?_) ⟨_, _, up _ _ hz2⟩ (up _ _ hI2) ⟨vs, hv, up _ _ hO2⟩ (by rw [← sz2]; exact Heap.get?_push_size _ rfl) (by rw [Heap.size_push, sz2]) (fun c o c1 c2 c3 q => up c o (g.keep c o (by simp [c1]) c3 q))
        · rw [← sz2] at this
          rw [e2] at *
          exact this
        · obtain ⟨q1, q2⟩ := g.dr q hq
          exact ⟨q1, q.1.D.frame _ _ _ q2 fun b hb o e => up b o e⟩
end
end PLm
namespace PLm
open PySem PySem.Spec L2 PyProof.Rows
section
variable {prog : Program} {w : World} {A : Around} {E : Value → Shared → Prop} {s : Shared}
theorem zip_pyNext (zs : List (Zd prog w A.in1)) (h0 : zs ≠ []) (hlen : zs.length ≤ 1000) {z TI TO : Addr} (D : ZApart zs z TI TO) {f0 f1 : Value} {i : Nat} {vs : Array Value} {Q : Option Value → Shared → Prop} (hz : ZRec s.heap z TI TO f0 f1) (hI : ZTup s.heap TI ((zs.map fun d => Value.ref d.it).toArray))
    (hO : ZTup s.heap TO vs) (hv : vs.size = zs.length) (hf : f0 = .none ∨ ∃ T : Nat, f0 = rawInt T) (hst : ∀ d ∈ zs, d.St i s.heap) (hle : ∀ d ∈ zs, i ≤ d.n)
    (hQ : ∀ xs h' tk, (∀ d ∈ zs, i < d.n) → xs.length = zs.length → (∀ q ∈ zs.zip xs, q.1.P i q.2 ∧ q.1.St (i + 1) h') → (∃ (T : Nat) (f1' : Value), ZRec h' z TI TO (rawInt T) f1') → ZTup h' TI ((zs.map fun d => Value.ref d.it).toArray) → (∃ vs' : Array Value, vs'.size = zs.length ∧ ZTup h' TO vs') →
      ZTup h' s.heap.objs.size xs.toArray → h'.objs.size = s.heap.objs.size + 1 → (∀ c o, c ≠ z → c ≠ TO → (∀ d ∈ zs, c ≠ d.it) → s.heap.get? c = some o → h'.get? c = some o) → Q (some (.ref s.heap.objs.size)) { s with heap := h', toks := tk })
    (hE : ∀ h' tk, (∃ d ∈ zs, d.n = i) → (∀ c o, c ≠ z → c ≠ TO → (∀ d ∈ zs, c ≠ d.it) → s.heap.get? c = some o → h'.get? c = some o) → Q none { s with heap := h', toks := tk }) :
    wpAny (model prog w) A (pyNext (.ref z)) Q E s := by
  have hT : s.TypeIs (.ref z) "zip" := ⟨_, hz, rfl⟩
  unfold pyNext
  refine wpAny_bind (wpAny_attempt (wpAny_callSpecial?_slot (name := Str.ofString "__next__") hT F.slot_zip_next
    (wpAny_call_entry F.slot_zip_next hT F.entry_zip_next (zip_next zs h0 hlen D hz hI hO hv hf hst hle ?_ ?_) (F.args_zip_next_1 _))))
  · intro xs h' tk a1 a2 a3 a4 a5 a6 a7 a8 a9
    exact ⟨_, rfl, wpAny_pure (hQ xs h' tk a1 a2 a3 a4 a5 a6 a7 a8 a9)⟩
  · intro h' e tk a1 a2 a3
    obtain ⟨o, ho, hc⟩ := a3
    refine wpAny_bind (wpAny_isInstance (T := "StopIteration") (b := true) ⟨o, ho, hc⟩ isSubtype_stop ?_)
    exact wpAny_pure (hE h' tk a1 a2)
/-- the step ahead of the store, whatever the target -/
theorem zip_letGo (tg : Expr) {z TI TO T : Addr} {f0 f1 : Value} {Q : Unit → Shared → Prop} (hz : ZRec s.heap z TI TO f0 f1) (h0 : Q () s) (h1 : ∀ h', ZRec h' z TI TO .none f1 → Heap.SameBut z s.heap h' → Q () { s with heap := h' }) :
    wpAny (model prog w) A (letOwnedTupleGo tg (.ref z) (.ref T)) Q E s := by
  have go : wpAny (model prog w) A (do
      let o ← load z
      match o.cls, o.data with
      | .type n, .fields vs =>
        if ["enumerate", "zip", "dict_itemiterator", "dict_reverseitemiterator", "odict_iterator", "itertools.zip_longest", "itertools.pairwise"].contains n && vs[0]? == some (rawInt T) then
          rule "for.unpacks-the-owned-tuple"
          updateField z 0 .none
      | _, _ => pure ()) Q E s := by
    refine wpAny_bind (wpAny_load hz ?_)
    show wpAny _ _ (if _ then _ else _) _ _ _
    split
    · refine wpAny_bind (wpAny_rule ?_)
      show wpAny _ _ (setField (.ref z) 0 .none) _ _ _
      exact wpAny_setField_rec hz (by simp) fun h' hz' hs' => h1 h' (by simpa [ZRec] using hz') hs'
    · exact wpAny_pure h0
  unfold letOwnedTupleGo
  cases tg <;> first | exact wpAny_pure h0 | exact go
end
/-- a zip's source: a list, a tuple or a text -/
inductive ZS where
  | lst (a : Addr)
  | tup (a : Addr)
  | str (x : Str)
def ZS.addr : ZS → List Addr
  | .lst a => [a]
  | .tup a => [a]
  | .str _ => []
/-- its iterator at turn i -/
def ZS.At (h : Heap) (I : Addr) (i : Nat) : ZS → Prop
  | .lst a => h.IsListIter I a i
  | .tup a => h.IsTupleIter I a i
  | .str x => ∃ t, h.IsStrIter I (strIterType x) x t i
def ZS.Has (K : PySem.W.Frag) (H : Hp) : ZS → List V → Prop
  | .lst a, xs => SqL K H a xs
  | .tup a, xs => SqT K H a xs
  | .str x, xs => xs = x.cps.toList.map fun c => .str ⟨#[c]⟩
section
variable {X : Cx} {pins : List (Addr × Obj)} {σ : L2.St} {H : Hp} {s : Shared}
theorem zs_inj (I : Inv X pins σ H s) {k : ZS} {xs ys : List V} (h : k.Has X.K H xs) (h' : k.Has X.K H ys) : xs = ys := by
  cases k with
  | lst a => exact I.list_inj h h'
  | tup a => exact I.tuple_inj h h'
  | str x => exact h.trans h'.symm
theorem zs_keep {h h' : Heap} {J : Addr} {i : Nat} {k : ZS} (st : k.At h J i) (e : ∀ o, h.get? J = some o → h'.get? J = some o) : k.At h' J i := by
  cases k with
  | lst a => exact Heap.IsListIter.at st e
  | tup a => exact Heap.IsTupleIter.at st e
  | str x => obtain ⟨t, o, ho, r⟩ := st; exact ⟨t, o, e o ho, r⟩
/-- what a source draws, as the invariant has it -/
theorem zs_draws (I : Inv X pins σ H s) (hh : X.A.in1.handled = none) {J : Addr} {i : Nat} {k : ZS} {xs : List V} (h : k.Has X.K H xs) (st : k.At s.heap J i) (ne : ∀ a ∈ k.addr, a ≠ J) :
    ∃ d : Zd X.prog X.w X.A.in1, d.it = J ∧ d.fp = J :: k.addr ∧ d.n = xs.length ∧ d.St i s.heap ∧ (∀ i u, d.P i u → ∃ v, xs[i]? = some v ∧ RelV v u) ∧ ∀ i h, d.St i h → k.At h J i := by
  cases k with
  | lst a =>
    obtain ⟨its, rv, p, _⟩ := I.list h
    have hl : its.toArray.size = xs.length := by rw [List.size_toArray, ← rv.length]
    refine ⟨⟨J, [J, a], its.toArray.size, _, _, Draws.list hh J a (ne a (by simp [ZS.addr])) its.toArray⟩, rfl, rfl, hl, ⟨st, p.isList⟩, fun i u hu => ?_, fun i h q => q.1⟩
    have hu' : its[i]? = some u := by simpa using hu
    obtain ⟨v, hv⟩ : ∃ v, xs[i]? = some v := by
      have hlt := (List.getElem?_eq_some_iff.mp hu').1
      have hl2 := rv.length
      exact ⟨xs[i]'(by omega), List.getElem?_eq_getElem (by omega)⟩
    obtain ⟨u2, e2, r2⟩ := rv.get hv
    rw [hu'] at e2
    cases e2
    exact ⟨v, hv, r2⟩
  | tup a =>
    obtain ⟨its, rv, p, _⟩ := I.tuple h
    have hl : its.toArray.size = xs.length := by rw [List.size_toArray, ← rv.length]
    refine ⟨⟨J, [J, a], its.toArray.size, _, _, Draws.tuple hh J a (ne a (by simp [ZS.addr])) its.toArray⟩, rfl, rfl, hl, ⟨st, p⟩, fun i u hu => ?_, fun i h q => q.1⟩
    have hu' : its[i]? = some u := by simpa using hu
    obtain ⟨v, hv⟩ : ∃ v, xs[i]? = some v := by
      have hlt := (List.getElem?_eq_some_iff.mp hu').1
      have hl2 := rv.length
      exact ⟨xs[i]'(by omega), List.getElem?_eq_getElem (by omega)⟩
    obtain ⟨u2, e2, r2⟩ := rv.get hv
    rw [hu'] at e2
    cases e2
    exact ⟨v, hv, r2⟩
  | str x =>
    obtain ⟨t, st⟩ := st
    have e : xs = x.cps.toList.map fun c => V.str ⟨#[c]⟩ := h
    subst e
    refine ⟨⟨J, [J], x.cps.size, _, _, Draws.text hh J x t⟩, rfl, rfl, by simp, st, fun i u hu => ?_, fun i h q => ⟨t, q⟩⟩
    obtain ⟨c, u', hc, rfl⟩ := hu
    exact ⟨.str ⟨#[c]⟩, by simp [hc], ⟨_, rfl⟩⟩
/-- the sources drawn from, in a row -/
inductive ZB (X : Cx) (i : Nat) (h : Heap) : List Addr → List ZS → List (List V) → List (Zd X.prog X.w X.A.in1) → Prop
  | nil : ZB X i h [] [] [] []
  | cons {J : Addr} {k : ZS} {xs : List V} {d : Zd X.prog X.w X.A.in1} {Js : List Addr} {ks : List ZS} {xss : List (List V)} {zs : List (Zd X.prog X.w X.A.in1)} (it : d.it = J) (fp : d.fp = J :: k.addr) (n : d.n = xs.length) (st : d.St i h)
      (dr : ∀ i u, d.P i u → ∃ v, xs[i]? = some v ∧ RelV v u) (back : ∀ i h, d.St i h → k.At h J i) (t : ZB X i h Js ks xss zs) : ZB X i h (J :: Js) (k :: ks) (xs :: xss) (d :: zs)
inductive ZHas (K : PySem.W.Frag) (H : Hp) : List ZS → List (List V) → Prop
  | nil : ZHas K H [] []
  | cons {k : ZS} {xs : List V} {ks : List ZS} {xss : List (List V)} (h : k.Has K H xs) (t : ZHas K H ks xss) : ZHas K H (k :: ks) (xs :: xss)
inductive ZAt (h : Heap) (i : Nat) : List Addr → List ZS → Prop
  | nil : ZAt h i [] []
  | cons {J : Addr} {k : ZS} {Js : List Addr} {ks : List ZS} (a : k.At h J i) (t : ZAt h i Js ks) : ZAt h i (J :: Js) (k :: ks)
theorem ZAt.keep {h h' : Heap} {i : Nat} {Js : List Addr} {ks : List ZS} (a : ZAt h i Js ks) (e : ∀ J ∈ Js, ∀ o, h.get? J = some o → h'.get? J = some o) : ZAt h' i Js ks := by
  induction a with
  | nil => exact .nil
  | cons a t ih => exact .cons (zs_keep a (e _ (by simp))) (ih fun J hJ => e J (by simp [hJ]))
theorem ZAt.obj {h : Heap} {i : Nat} {Js : List Addr} {ks : List ZS} (a : ZAt h i Js ks) : ∀ J ∈ Js, ∃ o, h.get? J = some o ∧ ∀ v, o.data ≠ .cell v := by
  induction a with
  | nil => simp
  | @cons J k Js ks a t ih =>
    intro b hb
    rcases List.mem_cons.mp hb with rfl | hb
    · cases k with
      | lst a' => obtain ⟨o, e, _, d⟩ := a; exact ⟨o, e, fun v q => by rw [d] at q; cases q⟩
      | tup a' => obtain ⟨o, e, _, d⟩ := a; exact ⟨o, e, fun v q => by rw [d] at q; cases q⟩
      | str x => obtain ⟨t, o, e, _, d⟩ := a; exact ⟨o, e, fun v q => by rw [d] at q; cases q⟩
    · exact ih b hb
theorem ZAt.len {h : Heap} {i : Nat} {Js : List Addr} {ks : List ZS} (a : ZAt h i Js ks) : Js.length = ks.length := by
  induction a with
  | nil => rfl
  | cons a t ih => simp [ih]
theorem ZHas.len {K : PySem.W.Frag} {ks : List ZS} {xss : List (List V)} (a : ZHas K H ks xss) : ks.length = xss.length := by
  induction a with
  | nil => rfl
  | cons a t ih => simp [ih]
theorem zhas_inj (I : Inv X pins σ H s) {ks : List ZS} {xss yss : List (List V)} (h : ZHas X.K H ks xss) (h' : ZHas X.K H ks yss) : xss = yss := by
  induction h generalizing yss with
  | nil => cases h'; rfl
  | cons a t ih => cases h' with | cons b u => rw [zs_inj I a b, ih u]
theorem zb_make (I : Inv X pins σ H s) (hh : X.A.in1.handled = none) {i : Nat} {Js : List Addr} {ks : List ZS} {xss : List (List V)} (a : ZAt s.heap i Js ks) (h : ZHas X.K H ks xss) (ne : ∀ k ∈ ks, ∀ a ∈ k.addr, a ∉ Js) :
    ∃ zs, ZB X i s.heap Js ks xss zs := by
  induction a generalizing xss with
  | nil => cases h; exact ⟨[], .nil⟩
  | cons a t ih =>
    cases h with
    | cons h u =>
      obtain ⟨zs, hz⟩ := ih u fun k hk b hb q => ne k (by simp [hk]) b hb (by simp [q])
      obtain ⟨d, e1, e2, e3, e4, e5, e6⟩ := zs_draws I hh h a fun b hb q => ne _ (by simp) b hb (by simp [q])
      exact ⟨d :: zs, .cons e1 e2 e3 e4 e5 e6 hz⟩
section
variable {i : Nat} {h : Heap} {Js : List Addr} {ks : List ZS} {xss : List (List V)} {zs : List (Zd X.prog X.w X.A.in1)}
theorem ZB.its (b : ZB X i h Js ks xss zs) : zs.map (fun d => d.it) = Js := by
  induction b with
  | nil => rfl
  | cons it _ _ _ _ _ _ ih => rw [List.map_cons, ih, it]
theorem ZB.sts (b : ZB X i h Js ks xss zs) : ∀ d ∈ zs, d.St i h := by
  induction b with
  | nil => simp
  | cons it _ _ st _ _ _ ih => intro d hd; rcases List.mem_cons.mp hd with rfl | hd; exact st; exact ih d hd
theorem ZB.ns (b : ZB X i h Js ks xss zs) : zs.map (fun d => d.n) = xss.map List.length := by
  induction b with
  | nil => rfl
  | cons it _ n _ _ _ _ ih => rw [List.map_cons, List.map_cons, ih, n]
theorem ZB.fps (b : ZB X i h Js ks xss zs) : ∀ d ∈ zs, ∃ J ∈ Js, ∃ k ∈ ks, d.it = J ∧ d.fp = J :: k.addr := by
  induction b with
  | nil => simp
  | cons it fp _ _ _ _ _ ih =>
    intro d hd
    rcases List.mem_cons.mp hd with rfl | hd
    · exact ⟨_, by simp, _, by simp, it, fp⟩
    · obtain ⟨J, hJ, k, hk, e⟩ := ih d hd
      exact ⟨J, by simp [hJ], k, by simp [hk], e⟩
theorem ZB.pw (b : ZB X i h Js ks xss zs) (nd : Js.Nodup) (ne : ∀ k ∈ ks, ∀ a ∈ k.addr, a ∉ Js) : zs.Pairwise fun d d' => d.it ∉ d'.fp ∧ d'.it ∉ d.fp := by
  induction b with
  | nil => exact .nil
  | cons it fp n st dr back t ih =>
    rename_i J k xs d Js ks xss zs
    obtain ⟨n1, n2⟩ := List.nodup_cons.mp nd
    refine .cons (fun d' hd' => ?_) (ih n2 fun k hk a ha q => ne k (by simp [hk]) a ha (by simp [q]))
    obtain ⟨J', hJ', k', hk', e1, e2⟩ := t.fps d' hd'
    rw [it, fp, e1, e2]
    refine ⟨fun q => ?_, fun q => ?_⟩
    · rcases List.mem_cons.mp q with q | q
      · exact n1 (q ▸ hJ')
      · exact ne k' (by simp [hk']) _ q (by simp)
    · rcases List.mem_cons.mp q with q | q
      · exact n1 (q ▸ hJ')
      · exact ne k (by simp) _ q (by simp [hJ'])
/-- what has been drawn, one by one -/
theorem ZB.drawn (b : ZB X i h Js ks xss zs) {us : List Value} {h' : Heap} (hl : us.length = zs.length) (hd : ∀ q ∈ zs.zip us, q.1.P i q.2 ∧ q.1.St (i + 1) h') :
    ZAt h' (i + 1) Js ks ∧ ∃ vs, Vals vs us ∧ vs.length = ks.length ∧ ∀ q ∈ vs.zip xss, q.2[i]? = some q.1 := by
  induction b generalizing us with
  | nil =>
    cases us with
    | nil => exact ⟨.nil, [], .nil, rfl, by simp⟩
    | cons _ _ => cases hl
  | cons it fp n st dr back t ih =>
    rename_i J k xs d Js ks xss zs
    cases us with
    | nil => cases hl
    | cons u us =>
      obtain ⟨a1, vs, a2, a3, a4⟩ := ih (us := us) (by simpa using hl) fun q hq => hd q (by simp [hq])
      obtain ⟨p1, p2⟩ := hd (d, u) (by simp)
      obtain ⟨v, hv, r⟩ := dr _ _ p1
      refine ⟨.cons (back _ _ p2) a1, v :: vs, .cons r a2, by simp [a3], fun q hq => ?_⟩
      rcases List.mem_cons.mp (show q ∈ (v, xs) :: vs.zip xss from hq) with rfl | hq
      · exact hv
      · exact a4 q hq
end
end
/-- the items of the sources in new tuples -/
def ItN (K : PySem.W.Frag) (ks : List ZS) : It :=
  ⟨fun i H => ∃ xss, ZHas K H ks xss ∧ ∀ xs ∈ xss, i < xs.length,
    fun i H v H' => ∃ T vs, v = .ref T ∧ H T = none ∧ H' = upd H T (.tup vs) ∧ vs.length = ks.length ∧ ∀ xss, ZHas K H ks xss → ∀ q ∈ vs.zip xss, q.2[i]? = some q.1,
    fun i H => ∃ xss, ZHas K H ks xss ∧ (∀ xs ∈ xss, i ≤ xs.length) ∧ ∃ xs ∈ xss, xs.length = i⟩
/-- a zip stands at turn i -/
structure ZOn (z TI TO : Addr) (Js : List Addr) (ks : List ZS) (i : Nat) (h : Heap) : Prop where
  rc : ∃ f0 f1, ZRec h z TI TO f0 f1 ∧ (f0 = .none ∨ ∃ T : Nat, f0 = rawInt T)
  ti : ZTup h TI (Js.map Value.ref).toArray
  to : ∃ vs : Array Value, vs.size = Js.length ∧ ZTup h TO vs
  at_ : ZAt h i Js ks
theorem turn_zipN {P : Program} {w : World} {K : PySem.W.Frag} (tg : Expr) {ks : List ZS} {Js : List Addr} {z TI TO : Addr} (nd : (z :: TI :: TO :: Js).Nodup) (ne : ∀ k ∈ ks, ∀ a ∈ k.addr, a ∉ z :: TI :: TO :: Js) (h0 : ks ≠ []) (hl : ks.length ≤ 1000) :
    Turn P w K tg (ItN K ks) (z :: TI :: TO :: Js) z (ZOn z TI TO Js ks) where
  mem := by simp
  obj := fun i h st b hb => by
    obtain ⟨⟨f0, f1, hr, _⟩, hti, ⟨vs, _, hto⟩, hat⟩ := st
    simp only [List.mem_cons] at hb
    rcases hb with rfl | rfl | rfl | hb
    · exact ⟨_, hr, fun v q => nomatch q⟩
    · exact ⟨_, hti, fun v q => nomatch q⟩
    · exact ⟨_, hto, fun v q => nomatch q⟩
    · exact hat.obj b hb
  keep := fun i h h' st k => by
    obtain ⟨⟨f0, f1, hr, hf⟩, hti, ⟨vs, hv, hto⟩, hat⟩ := st
    exact ⟨⟨f0, f1, k z (by simp) _ hr, hf⟩, k TI (by simp) _ hti, ⟨vs, hv, k TO (by simp) _ hto⟩, hat.keep fun J hJ o => k J (by simp [hJ]) o⟩
  item := by
    intro X hP hw hK hc i pins s σ H E I hf st hg
    subst hP hw hK
    obtain ⟨⟨f0, f1, hr, hf0⟩, hti, ⟨vs, hv, hto⟩, hat⟩ := st
    obtain ⟨xss, hx, hlt⟩ := hg
    obtain ⟨n1, n2⟩ := List.nodup_cons.mp nd
    obtain ⟨n3, n4⟩ := List.nodup_cons.mp n2
    obtain ⟨n5, n6⟩ := List.nodup_cons.mp n4
    simp only [List.mem_cons, not_or] at n1 n3
    obtain ⟨zs, hb⟩ := zb_make I (I.ok.hd hc) hat hx fun k hk a ha q => ne k hk a ha (by simp [q])
    have its := hb.its
    have hlz : zs.length = ks.length := by rw [← hat.len, ← its, List.length_map]
    have ap : ZApart zs z TI TO := ⟨n1.1, n1.2.1, n3.1, fun d hd => by
      obtain ⟨J, hJ, k, hk, e1, e2⟩ := hb.fps d hd
      rw [e1, e2]
      refine ⟨fun q => ?_, fun q => ?_, fun q => n3.2 (q ▸ hJ), by simp⟩
      · rcases List.mem_cons.mp q with q | q
        · exact n1.2.2 (q ▸ hJ)
        · exact ne k hk _ q (by simp)
      · rcases List.mem_cons.mp q with q | q
        · exact n5 (q ▸ hJ)
        · exact ne k hk _ q (by simp), hb.pw n6 fun k hk a ha q => ne k hk a ha (by simp [q])⟩
    have em : (zs.map fun d => Value.ref d.it) = Js.map Value.ref := by rw [← its, List.map_map]; rfl
    have ens := hb.ns
    have hle : ∀ d ∈ zs, i < d.n := fun d hd => by
      have : d.n ∈ zs.map fun d => d.n := List.mem_map.mpr ⟨d, hd, rfl⟩
      rw [ens] at this
      obtain ⟨xs, h1, h2⟩ := List.mem_map.mp this
      rw [← h2]; exact hlt xs h1
    have hzl : z < s.heap.objs.size := Heap.lt_size hr
    have hne : zs ≠ [] := fun q => by rw [q] at hlz; exact h0 (List.length_eq_zero_iff.mp hlz.symm)
    refine zip_pyNext zs hne (by omega) ap hr (by rw [em]; exact hti) hto (by rw [hv, ← its, List.length_map]) hf0 hb.sts (fun d hd => Nat.le_of_lt (hle d hd)) (fun us h' tk _ hul hdr hrc hti' hto' hT hsz hk => ?_) (fun h' tk hd hk => ?_)
    · obtain ⟨T, f1', hrc⟩ := hrc
      obtain ⟨vs', hv', hto'⟩ := hto'
      obtain ⟨hat', ws, hws, hwl, hwx⟩ := hb.drawn hul hdr
      have hkJ : ∀ c o, c ∉ z :: TI :: TO :: Js → s.heap.get? c = some o → h'.get? c = some o := fun c o hc => hk c o (fun q => hc (by simp [q])) (fun q => hc (by simp [q])) fun d hd q => by
        obtain ⟨J, hJ, k, hk, e1, e2⟩ := hb.fps d hd
        exact hc (by simp [q, e1, hJ])
      have fin : ∀ h'' f0 f1, ZRec h'' z TI TO f0 f1 → (f0 = .none ∨ ∃ T : Nat, f0 = rawInt T) → Heap.SameBut z h' h'' → ∃ x H', Inv X pins σ H' { s with heap := h'', toks := tk } ∧ RelV x (.ref s.heap.objs.size) ∧ (ItN X.K ks).yld i H x H' ∧ ZOn z TI TO Js ks (i + 1) h'' ∧ ∀ b ∈ z :: TI :: TO :: Js, H' b = none := fun h'' f0 f1 hr2 hf2 sb => by
        have hT2 : ZTup h'' s.heap.objs.size us.toArray := (sb.2 _ (Nat.ne_of_gt hzl)).trans hT
        have new : ObjOk X.prog X.w (upd H s.heap.objs.size (.tup ws)) h'' s.heap.objs.size (.tup ws) :=
          ⟨by rw [hwl]; exact Nat.le_trans hl (by decide), us, hws, ⟨_, hT2, rfl, _, rfl⟩⟩
        have I1 : Inv X pins σ (upd H s.heap.objs.size (.tup ws)) { s with heap := h'', toks := tk } :=
          I.turnedNew (ch := z :: TI :: TO :: Js) (fun c o hb q => (sb.2 c (fun q' => hb (by simp [q']))).trans (hkJ c o hb q)) hf (Nat.le_refl _) new
        have nz : ∀ J ∈ Js, J ≠ z := fun J hJ q => n1.2.2 (q ▸ hJ)
        refine ⟨.ref s.heap.objs.size, _, I1, rfl, ⟨_, ws, rfl, I.hok.fresh (Nat.le_refl _), rfl, hwl, fun yss hy => by rw [zhas_inj I hy hx]; exact hwx⟩, ⟨⟨f0, f1, hr2, hf2⟩, ?_, ⟨vs', by rw [hv', ← its, List.length_map], (sb.2 _ (Ne.symm n1.2.1)).trans hto'⟩, hat'.keep fun J hJ o q => (sb.2 _ (nz J hJ)).trans q⟩, fun c hcm => ?_⟩
        · rw [← em]; exact (sb.2 _ (Ne.symm n1.1)).trans hti'
        · have hlt : c < s.heap.objs.size := by
            have : ∃ o, s.heap.get? c = some o := by
              simp only [List.mem_cons] at hcm
              rcases hcm with rfl | rfl | rfl | hcm
              · exact ⟨_, hr⟩
              · exact ⟨_, hti⟩
              · exact ⟨_, hto⟩
              · rw [← its] at hcm
                obtain ⟨d, hd, rfl⟩ := List.mem_map.mp hcm
                exact d.D.live _ _ (hb.sts d hd)
            obtain ⟨o, e⟩ := this
            exact Heap.lt_size e
          rw [upd_ne (Nat.ne_of_lt hlt)]
          exact (hf c hcm).1
      refine ⟨_, rfl, zip_letGo tg hrc (fin h' _ _ hrc (.inr ⟨T, rfl⟩) (.refl ..)) fun h'' hr2 sb => fin h'' _ _ hr2 (.inl rfl) sb⟩
    · obtain ⟨d, hd, e⟩ := hd
      have := hle d hd
      omega
  done := by
    intro X hP hw hK hc i pins s σ H E I hf st hg
    subst hP hw hK
    obtain ⟨⟨f0, f1, hr, hf0⟩, hti, ⟨vs, hv, hto⟩, hat⟩ := st
    obtain ⟨xss, hx, hle0, xs0, hx0, hn0⟩ := hg
    obtain ⟨n1, n2⟩ := List.nodup_cons.mp nd
    obtain ⟨n3, n4⟩ := List.nodup_cons.mp n2
    obtain ⟨n5, n6⟩ := List.nodup_cons.mp n4
    simp only [List.mem_cons, not_or] at n1 n3
    obtain ⟨zs, hb⟩ := zb_make I (I.ok.hd hc) hat hx fun k hk a ha q => ne k hk a ha (by simp [q])
    have its := hb.its
    have hlz : zs.length = ks.length := by rw [← hat.len, ← its, List.length_map]
    have ap : ZApart zs z TI TO := ⟨n1.1, n1.2.1, n3.1, fun d hd => by
      obtain ⟨J, hJ, k, hk, e1, e2⟩ := hb.fps d hd
      rw [e1, e2]
      refine ⟨fun q => ?_, fun q => ?_, fun q => n3.2 (q ▸ hJ), by simp⟩
      · rcases List.mem_cons.mp q with q | q
        · exact n1.2.2 (q ▸ hJ)
        · exact ne k hk _ q (by simp)
      · rcases List.mem_cons.mp q with q | q
        · exact n5 (q ▸ hJ)
        · exact ne k hk _ q (by simp), hb.pw n6 fun k hk a ha q => ne k hk a ha (by simp [q])⟩
    have em : (zs.map fun d => Value.ref d.it) = Js.map Value.ref := by rw [← its, List.map_map]; rfl
    have ens := hb.ns
    have hle : ∀ d ∈ zs, i ≤ d.n := fun d hd => by
      have : d.n ∈ zs.map fun d => d.n := List.mem_map.mpr ⟨d, hd, rfl⟩
      rw [ens] at this
      obtain ⟨xs, h1, h2⟩ := List.mem_map.mp this
      rw [← h2]; exact hle0 xs h1
    have hne : zs ≠ [] := fun q => by rw [q] at hlz; exact h0 (List.length_eq_zero_iff.mp hlz.symm)
    refine zip_pyNext zs hne (by omega) ap hr (by rw [em]; exact hti) hto (by rw [hv, ← its, List.length_map]) hf0 hb.sts hle (fun us h' tk hlt _ _ _ _ _ _ _ _ => ?_) (fun h' tk hd hk => ⟨rfl, ?_⟩)
    · have : xs0.length ∈ zs.map fun d => d.n := by rw [ens]; exact List.mem_map.mpr ⟨_, hx0, rfl⟩
      obtain ⟨d, h1, h2⟩ := List.mem_map.mp this
      have := hlt d h1
      omega
    · exact I.turnedL (ch := z :: TI :: TO :: Js) (fun c o hc => hk c o (fun q => hc (by simp [q])) (fun q => hc (by simp [q])) fun d hd q => by
        obtain ⟨J, hJ, k, hk, e1, e2⟩ := hb.fps d hd
        exact hc (by simp [q, e1, hJ])) hf
  self := fun A i s Q E st h => by
    obtain ⟨⟨f0, f1, hr, _⟩, _⟩ := st
    have hT : s.TypeIs (.ref z) "zip" := ⟨_, hr, rfl⟩
    refine wpAny_pyIter_slot hT F.slot_zip_iter (wpAny_call_entry F.slot_zip_iter hT F.entry_zip_iter ?_ (F.args_zip_iter_1 _))
    show wpAny _ _ (ret (.ref z)) _ _ s
    exact wpAny_pure ⟨_, rfl, "zip", _, hT, F.slot_zip_next.lookup, h⟩
end PLm
namespace PLm
open PySem PySem.Spec L2 PyProof.Rows
/-- a source's value stands -/
def ZS.Src (h : Heap) (u : Value) : ZS → Prop
  | .lst a => u = .ref a ∧ ∃ its, h.IsList a its
  | .tup a => u = .ref a ∧ ∃ its, h.IsTuple a its
  | .str x => ∃ t, u = .str x t
inductive ZSrcs (h : Heap) : List ZS → List Value → Prop
  | nil : ZSrcs h [] []
  | cons {k : ZS} {u : Value} {ks : List ZS} {us : List Value} (a : k.Src h u) (t : ZSrcs h ks us) : ZSrcs h (k :: ks) (u :: us)
theorem zsrc_keep {h h' : Heap} {u : Value} {k : ZS} (a : k.Src h u) (e : ∀ c o, h.get? c = some o → h'.get? c = some o) : k.Src h' u := by
  cases k with
  | lst b => exact ⟨a.1, a.2.imp fun its q => q.at fun o => e b o⟩
  | tup b => exact ⟨a.1, a.2.imp fun its q => q.at fun o => e b o⟩
  | str x => exact a
theorem ZSrcs.keep {h h' : Heap} {us : List Value} {ks : List ZS} (a : ZSrcs h ks us) (e : ∀ c o, h.get? c = some o → h'.get? c = some o) : ZSrcs h' ks us := by
  induction a with
  | nil => exact .nil
  | cons a t ih => exact .cons (zsrc_keep a e) ih
theorem ZSrcs.len {h : Heap} {us : List Value} {ks : List ZS} (a : ZSrcs h ks us) : ks.length = us.length := by
  induction a with
  | nil => rfl
  | cons a t ih => simp [ih]
theorem ZAt.snoc {h : Heap} {i : Nat} {Js : List Addr} {ks : List ZS} {J : Addr} {k : ZS} (a : ZAt h i Js ks) (b : k.At h J i) : ZAt h i (Js ++ [J]) (ks ++ [k]) := by
  induction a with
  | nil => exact .cons b .nil
  | cons a t ih => exact .cons a ih
section
variable {prog : Program} {w : World} {A : Around} {E : Value → Shared → Prop} {s : Shared}
theorem zsrc_iter {k : ZS} {u : Value} {Q : Value → Shared → Prop} (a : k.Src s.heap u)
    (hQ : ∀ h', h'.objs.size = s.heap.objs.size + 1 → k.At h' s.heap.objs.size 0 → (∀ c o, s.heap.get? c = some o → h'.get? c = some o) → Q (.ref s.heap.objs.size) { s with heap := h' }) : wpAny (model prog w) A (pyIter u) Q E s := by
  cases k with
  | lst b =>
    obtain ⟨rfl, its, hl⟩ := a
    exact wpAny_pyIter_list hl (hQ _ (Heap.size_push ..) ⟨_, Heap.get?_push_size _ rfl, rfl, rfl⟩ fun c o e => Heap.get?_push_of_some _ e)
  | tup b =>
    obtain ⟨rfl, its, hl⟩ := a
    exact wpAny_pyIter_tuple hl (hQ _ (Heap.size_push ..) ⟨_, Heap.get?_push_size _ rfl, rfl, rfl⟩ fun c o e => Heap.get?_push_of_some _ e)
  | str x =>
    obtain ⟨t, rfl⟩ := a
    exact wpAny_pyIter_strU (hQ _ (Heap.size_push ..) ⟨t, _, Heap.get?_push_size _ rfl, rfl, rfl⟩ fun c o e => Heap.get?_push_of_some _ e)
/-- the new iterators' addresses -/
def newAt (n : Nat) (m : Nat) : List Addr := (List.range m).map fun j => n + j
theorem newAt_succ (n m : Nat) : newAt n (m + 1) = newAt n m ++ [n + m] := by
  unfold newAt
  rw [List.range_succ, List.map_append]; rfl
theorem zsrc_iters {ks : List ZS} {us : List Value} {Q : List Value → Shared → Prop} (a : ZSrcs s.heap ks us)
    (hQ : ∀ h', h'.objs.size = s.heap.objs.size + us.length → ZAt h' 0 (newAt s.heap.objs.size us.length) ks → (∀ c o, s.heap.get? c = some o → h'.get? c = some o) → Q ((newAt s.heap.objs.size us.length).map Value.ref) { s with heap := h' }) :
    wpAny (model prog w) A (Builtin.SmallTypes.iterAll us) Q E s := by
  unfold Builtin.SmallTypes.iterAll
  refine wpAny_bind (wpAny_forIn_list _ (fun l b s2 => ∃ k1 k2 m, ks = k1 ++ k2 ∧ b = ((newAt s.heap.objs.size m).map Value.ref).toArray ∧ m + l.length = us.length ∧ (∃ h, s2 = { s with heap := h }) ∧ s2.heap.objs.size = s.heap.objs.size + m ∧ ZAt s2.heap 0 (newAt s.heap.objs.size m) k1 ∧ ZSrcs s2.heap k2 l ∧ ∀ c o, s.heap.get? c = some o → s2.heap.get? c = some o) _ ?turn ?fin _ _ ⟨[], ks, 0, rfl, rfl, by simp, ⟨_, rfl⟩, rfl, .nil, a, fun _ _ e => e⟩)
  case turn =>
    rintro x l b s2 ⟨k1, k2, m, e1, rfl, hm, ⟨h, e2⟩, hsz, hat, hsr, hk⟩
    cases hsr with
    | cons a t =>
      refine wpAny_bind (wpAny_holding (zsrc_iter a fun h' z1 z2 z3 => wpAny_pure ?_))
      refine ⟨k1 ++ [_], _, m + 1, by rw [List.append_assoc]; exact e1, ?_, by simp at hm; omega, ⟨h', by rw [e2]⟩, by rw [z1, hsz]; rfl, ?_, t.keep z3, fun c o e => z3 c o (hk c o e)⟩
      · rw [newAt_succ, hsz]; simp
      · rw [newAt_succ, ← hsz]
        exact (hat.keep fun J _ o => z3 J o).snoc z2
  case fin =>
    rintro b s2 ⟨k1, k2, m, e1, rfl, hm, ⟨h, e2⟩, hsz, hat, hsr, hk⟩
    cases hsr
    have : m = us.length := by simpa using hm
    subst this
    rw [List.append_nil] at e1
    subst e1
    refine wpAny_pure ?_
    have := hQ h (by rw [← hsz, e2]) (by rw [e2] at hat; exact hat) (by rw [e2] at hk; exact hk)
    rw [e2]
    simpa using this
end
/-- zip's own making -/
theorem zip_new_meets (ks : List ZS) (us : List Value) (hl : us.length ≤ 1000) :
    Meets (Builtin.«zip.__new__» ⟨.type "zip" :: us, []⟩) (fun _ R s => ZSrcs s.heap ks us ∧ ∀ h', h'.objs.size = s.heap.objs.size + us.length + 3 →
      ZOn (s.heap.objs.size + us.length + 2) (s.heap.objs.size + us.length) (s.heap.objs.size + us.length + 1) (newAt s.heap.objs.size us.length) ks 0 h' → (∀ c o, s.heap.get? c = some o → h'.get? c = some o) →
      R (.ok (.ret (.ref (s.heap.objs.size + us.length + 2)))) { s with heap := h' }) :=
  .of_wp fun prog w A R s h => by
    obtain ⟨a, hQ⟩ := h
    have hsub := sub_zip
    have e1 : Builtin.SmallTypes.newClass "zip" ⟨.type "zip" :: us, []⟩ = pure (Value.type "zip", us) := by
      unfold Builtin.SmallTypes.newClass
      have e2 : isType (.type "zip") = pure true := rfl
      simp only [e2, pure_bind, hsub]
      rfl
    unfold Builtin.«zip.__new__»
    rw [e1, pure_bind]
    show wpAny _ _ (Builtin.SmallTypes.iterAll us >>= _) _ _ _
    refine wpAny_bind (zsrc_iters a fun h1 z1 at1 k1 => ?_)
    have hlen : (newAt s.heap.objs.size us.length).length = us.length := by unfold newAt; simp
    refine wpAny_bind (wpAny_newTuple ?_ (by rw [List.length_map, hlen]; exact Nat.le_trans hl (by decide)))
    refine wpAny_bind (wpAny_newTuple ?_ (by rw [List.length_map, List.length_map, hlen]; exact Nat.le_trans hl (by decide)))
    show wpAny _ _ (newObj (.type "zip") (.fields #[.none, .bool false, .bool false, _, _]) >>= _) _ _ _
    refine wpAny_bind (wpAny_newObj_type ?_ (by size_fits))
    refine wpAny_pure ⟨_, rfl, ?_⟩
    dsimp only
    generalize hA : (List.map Value.ref (newAt s.heap.objs.size us.length)).toArray = A1
    generalize hB : (List.map (fun _ => Value.none) (List.map Value.ref (newAt s.heap.objs.size us.length))).toArray = A2
    generalize h2e : h1.push { cls := .type "tuple", data := .seq A1 } = h2
    have z2 : h2.objs.size = s.heap.objs.size + us.length + 1 := by rw [← h2e, Heap.size_push, z1]
    generalize h3e : h2.push { cls := .type "tuple", data := .seq A2 } = h3
    have z3 : h3.objs.size = s.heap.objs.size + us.length + 2 := by rw [← h3e, Heap.size_push, z2]
    have g1 : h2.get? (s.heap.objs.size + us.length) = some { cls := .type "tuple", data := .seq A1 } := by rw [← h2e, ← z1]; exact Heap.get?_push_size _ rfl
    have g2 : h3.get? (s.heap.objs.size + us.length + 1) = some { cls := .type "tuple", data := .seq A2 } := by rw [← h3e, ← z2]; exact Heap.get?_push_size _ rfl
    have u2 : ∀ c o, h1.get? c = some o → h2.get? c = some o := fun c o e => by rw [← h2e]; exact Heap.get?_push_of_some _ e
    have u3 : ∀ c o, h2.get? c = some o → h3.get? c = some o := fun c o e => by rw [← h3e]; exact Heap.get?_push_of_some _ e
    rw [z1, z2, z3]
    have u4 : ∀ c o, h3.get? c = some o → (h3.push { cls := .type "zip", data := .fields #[.none, .bool false, .bool false, .ref (s.heap.objs.size + us.length), .ref (s.heap.objs.size + us.length + 1)] }).get? c = some o := fun c o e => Heap.get?_push_of_some _ e
    refine hQ _ (by rw [Heap.size_push, z3]) ⟨⟨.none, .bool false, ?_, .inl rfl⟩, ?_, ⟨A2, ?_, ?_⟩, ?_⟩ fun c o e => u4 _ _ (u3 _ _ (u2 _ _ (k1 _ _ e)))
    · rw [← z3]; exact Heap.get?_push_size _ rfl
    · rw [hA]; exact u4 _ _ (u3 _ _ g1)
    · rw [← hB, List.size_toArray, List.length_map, List.length_map]
    · exact u4 _ _ g2
    · exact at1.keep fun J _ o e => u4 _ _ (u3 _ _ (u2 _ _ e))
section
variable {prog : Program} {w : World} {A : Around} {E : Value → Shared → Prop} {s : Shared}
/-- zip called -/
theorem zip_call {ks : List ZS} {us : List Value} {Q : Value → Shared → Prop} (hl : us.length ≤ 1000) (a : ZSrcs s.heap ks us)
    (hct : checkTypeCall "zip" ⟨us, []⟩ = pure ()) (hcn : checkBuiltinCall "zip.__new__" ⟨.type "zip" :: us, []⟩ = pure ()) (hok : ∀ obj, argsOk "object.__init__" ⟨obj :: us, []⟩)
    (hQ : ∀ h', h'.objs.size = s.heap.objs.size + us.length + 3 → ZOn (s.heap.objs.size + us.length + 2) (s.heap.objs.size + us.length) (s.heap.objs.size + us.length + 1) (newAt s.heap.objs.size us.length) ks 0 h' →
      (∀ c o, s.heap.get? c = some o → h'.get? c = some o) → Q (.ref (s.heap.objs.size + us.length + 2)) { s with heap := h' }) :
    wpAny (model prog w) A (call (.type "zip") us) Q E s := by
  refine callType_new F.called_zip (by decide) hct hcn hok F.entry_zip_new (zip_new_meets ks us hl) ⟨a, fun h' z on k => ?_⟩
  obtain ⟨⟨f0, f1, hr, _⟩, _⟩ := id on
  exact ⟨⟨_, hr, rfl⟩, hQ h' z on k⟩
end
/-- what may be asked of a number of sources -/
structure ZOk (n : Nat) : Prop where
  ct : ∀ us : List Value, us.length = n → checkTypeCall "zip" ⟨us, []⟩ = pure ()
  cn : ∀ us : List Value, us.length = n → checkBuiltinCall "zip.__new__" ⟨.type "zip" :: us, []⟩ = pure ()
  ok : ∀ (us : List Value), us.length = n → ∀ obj, argsOk "object.__init__" ⟨obj :: us, []⟩
theorem zok2 : ZOk 2 :=
  ⟨fun us h => match us, h with | [a, b], _ => by kernel_rfl, fun us h => match us, h with | [a, b], _ => by kernel_rfl, fun us h obj => match us, h with | [a, b], _ => by unfold argsOk; kernel_rfl⟩
theorem zok3 : ZOk 3 :=
  ⟨fun us h => match us, h with | [a, b, c], _ => by kernel_rfl, fun us h => match us, h with | [a, b, c], _ => by kernel_rfl, fun us h obj => match us, h with | [a, b, c], _ => by unfold argsOk; kernel_rfl⟩
theorem zok4 : ZOk 4 :=
  ⟨fun us h => match us, h with | [a, b, c, d], _ => by kernel_rfl, fun us h => match us, h with | [a, b, c, d], _ => by kernel_rfl, fun us h obj => match us, h with | [a, b, c, d], _ => by unfold argsOk; kernel_rfl⟩
end PLm
namespace PLm
open PySem PySem.Spec L2 PyProof.Rows
theorem newAt_mem {n m c : Nat} (h : (c : Addr) ∈ newAt n m) : n ≤ c ∧ c < n + m := by
  unfold newAt at h
  obtain ⟨j, hj, rfl⟩ := List.mem_map.mp h
  have := List.mem_range.mp hj
  exact ⟨Nat.le_add_right _ _, by show n + j < n + m; omega⟩
theorem newAt_nodup (n m : Nat) : (newAt n m).Nodup := by
  induction m with
  | zero => exact .nil
  | succ m ih =>
    rw [newAt_succ]
    refine List.nodup_append.mpr ⟨ih, by simp, fun a ha b hb q => ?_⟩
    have h1 := newAt_mem ha
    have h2 : b = n + m := by simpa using hb
    subst h2
    subst q
    exact absurd h1.2 (Nat.lt_irrefl _)
theorem nodup3 (n m : Nat) : ((n + m + 2 : Addr) :: (n + m : Addr) :: (n + m + 1 : Addr) :: newAt n m).Nodup := by
  have a : ∀ c : Nat, n + m ≤ c → (c : Addr) ∉ newAt n m := fun c hc q => absurd (newAt_mem q).2 (Nat.not_lt.mpr hc)
  refine List.nodup_cons.mpr ⟨?_, List.nodup_cons.mpr ⟨?_, List.nodup_cons.mpr ⟨a _ (Nat.le_add_right _ _), newAt_nodup n m⟩⟩⟩
  · intro q
    rcases List.mem_cons.mp q with q | q
    · exact absurd q (by show ¬ (n + m + 2 = n + m); omega)
    · rcases List.mem_cons.mp q with q | q
      · exact absurd q (by show ¬ (n + m + 2 = n + m + 1); omega)
      · exact a _ (by omega) q
  · intro q
    rcases List.mem_cons.mp q with q | q
    · exact absurd q (by show ¬ (n + m = n + m + 1); omega)
    · exact a _ (Nat.le_refl _) q
theorem all_old {n m c : Nat} (h : (c : Addr) ∈ (n + m + 2 : Addr) :: (n + m : Addr) :: (n + m + 1 : Addr) :: newAt n m) : n ≤ c := by
  rcases List.mem_cons.mp h with q | h
  · have : c = n + m + 2 := q
    omega
  · rcases List.mem_cons.mp h with q | h
    · have : c = n + m := q
      omega
    · rcases List.mem_cons.mp h with q | h
      · have : c = n + m + 1 := q
        omega
      · exact (newAt_mem h).1
/-- the sources' values -/
inductive ZVs (K : PySem.W.Frag) (H : Hp) : List ZS → List V → Prop
  | nil : ZVs K H [] []
  | lst {a : Addr} {xs : List V} {ks : List ZS} {vs : List V} (h : SqL K H a xs) (t : ZVs K H ks vs) : ZVs K H (.lst a :: ks) (.ref a :: vs)
  | tup {a : Addr} {xs : List V} {ks : List ZS} {vs : List V} (h : SqT K H a xs) (t : ZVs K H ks vs) : ZVs K H (.tup a :: ks) (.ref a :: vs)
  | str {x : Str} {ks : List ZS} {vs : List V} (t : ZVs K H ks vs) : ZVs K H (.str x :: ks) (.str x :: vs)
def iZipN (K : PySem.W.Frag) (ta : TA) : TI := fun σ H R => ta σ H fun vs H1 => ∃ ks, ZVs K H1 ks vs ∧ ks ≠ [] ∧ ks.length ≤ 1000 ∧ ZOk ks.length ∧ R (ItN K ks) H1
theorem zvs_src {X : Cx} {pins : List (Addr × Obj)} {σ : L2.St} {H : Hp} {s : Shared} (I : Inv X pins σ H s) {ks : List ZS} {vs : List V} {us : List Value} (z : ZVs X.K H ks vs) (r : Vals vs us) :
    ZSrcs s.heap ks us ∧ ∀ k ∈ ks, ∀ a ∈ k.addr, a < s.heap.objs.size := by
  induction z generalizing us with
  | nil => cases r; exact ⟨.nil, by simp⟩
  | @lst b xs ks vs h t ih =>
    cases r with
    | cons r rr =>
      cases r
      obtain ⟨i1, i2⟩ := ih rr
      obtain ⟨its, rv, p, _⟩ := I.list h
      refine ⟨.cons ⟨rfl, _, p.isList⟩ i1, fun k hk a ha => ?_⟩
      rcases List.mem_cons.mp hk with rfl | hk
      · have : a = b := by simpa [ZS.addr] using ha
        rw [this]; exact p.lt
      · exact i2 k hk a ha
  | @tup b xs ks vs h t ih =>
    cases r with
    | cons r rr =>
      cases r
      obtain ⟨i1, i2⟩ := ih rr
      obtain ⟨its, rv, p, _⟩ := I.tuple h
      refine ⟨.cons ⟨rfl, _, p⟩ i1, fun k hk a ha => ?_⟩
      rcases List.mem_cons.mp hk with rfl | hk
      · have : a = b := by simpa [ZS.addr] using ha
        rw [this]
        obtain ⟨o, ho, _⟩ := p
        exact Heap.lt_size ho
      · exact i2 k hk a ha
  | str t ih =>
    cases r with
    | cons r rr =>
      obtain ⟨t, rfl⟩ := r
      obtain ⟨i1, i2⟩ := ih rr
      refine ⟨.cons ⟨t, rfl⟩ i1, fun k hk a ha => ?_⟩
      rcases List.mem_cons.mp hk with rfl | hk
      · cases ha
      · exact i2 k hk a ha
theorem pi_zipN {X : Cx} {e : Expr} {es : List Expr} {ta : TA} {tg : Expr} {p pos : Pos} (hg : Gl X "zip") (hm : X.mg "zip" = none) (ha : PA X (e :: es) ta)
    (hs : starEach (e :: es) X.env = (false, eval e X.env) :: starEach es X.env := by rfl) (hpl : (backTo pos (starEach es X.env)).any (·.1) = false := by rfl) : PI X tg (.Call (.Name "zip" p) (e :: es) [] pos) (iZipN X.K ta) := by
  refine ⟨fun pins s σ H R I h => ?_⟩
  refine Call_ (ld_blt I hg hm PyProof.Rows.boot_zip (PyProof.Rows.callWith_type1 (thn (ha.run pos pins s σ H _ I h) fun us s1 ⟨vs, H1, I1, r1, q1⟩ => ?_) hs hpl))
  obtain ⟨ks, zv, k0, kl, zo, q⟩ := q1
  obtain ⟨src, lt⟩ := zvs_src I1 zv r1
  have hl := src.len
  refine zip_call (by omega) src (zo.ct us hl.symm) (zo.cn us hl.symm) (zo.ok us hl.symm) fun h' z on k => ?_
  have I2 : Inv X pins σ H1 { s1 with heap := h' } := I1.kept (t' := s1.toks) k
  have fresh : ∀ c, c ∈ (s1.heap.objs.size + us.length + 2 : Addr) :: (s1.heap.objs.size + us.length : Addr) :: (s1.heap.objs.size + us.length + 1 : Addr) :: newAt s1.heap.objs.size us.length → FpOk X pins H1 c := fun c hc =>
    I1.fpOk (all_old hc) (I1.hok.fresh (all_old hc))
  have tn := turn_zipN (P := X.prog) (w := X.w) (K := X.K) tg (ks := ks) (nodup3 s1.heap.objs.size us.length) (fun k hk a ha q => absurd (lt k hk a ha) (Nat.not_lt.mpr (all_old q))) k0 kl
  refine tn.self _ 0 _ _ _ on ⟨_, _, _, _, H1, rfl, I2, tn, on, fresh, q⟩
end PLm
namespace PL
open PySem PySem.Spec L2 PLm
/-- the least length -/
def minL : List (List D) → Nat
  | [] => 0
  | [l] => l.length
  | l :: ls => min l.length (minL ls)
def rowAt (i : Nat) : List (List D) → List D
  | [] => []
  | l :: ls => l.getD i .non :: rowAt i ls
def zipL (ls : List (List D)) : List D := (List.range (minL ls)).map fun i => .tup (rowAt i ls)
def allItems : List D → Option (List (List D))
  | [] => some []
  | d :: ds => match itemsOf d, allItems ds with
    | some l, some ls => some (l :: ls)
    | _, _ => none
def zipN : List D → Option (List D) := fun ds => match allItems ds with
  | some ls => if ds.length = 2 ∨ ds.length = 3 ∨ ds.length = 4 then some (zipL ls) else none
  | none => none
theorem zipL_len (ls : List (List D)) : (zipL ls).length = minL ls := by unfold zipL; simp
theorem minL_le : ∀ {ls : List (List D)} {l : List D}, l ∈ ls → minL ls ≤ l.length
  | [l], _, h => by rw [List.mem_singleton.mp h]; exact Nat.le_refl _
  | l :: m :: ls, x, h => by
    show min l.length (minL (m :: ls)) ≤ _
    rcases List.mem_cons.mp h with rfl | h
    · exact Nat.min_le_left _ _
    · exact Nat.le_trans (Nat.min_le_right _ _) (minL_le h)
theorem minL_at : ∀ {ls : List (List D)}, ls ≠ [] → ∃ l ∈ ls, l.length = minL ls
  | [l], _ => ⟨l, by simp, rfl⟩
  | l :: m :: ls, _ => by
    obtain ⟨x, hx, e⟩ := minL_at (ls := m :: ls) (by simp)
    show ∃ y : List D, y ∈ l :: m :: ls ∧ y.length = min l.length (minL (m :: ls))
    rcases Nat.le_total l.length (minL (m :: ls)) with h | h
    · exact ⟨l, by simp, (Nat.min_eq_left h).symm⟩
    · exact ⟨x, List.mem_cons_of_mem _ hx, by rw [e]; exact (Nat.min_eq_right h).symm⟩
section
variable {K : PySem.W.Frag} {F : Hp}
/-- the sources as they stand frozen -/
inductive ZF (K : PySem.W.Frag) (F : Hp) : List ZS → List V → List (List V) → List (List D) → Prop
  | nil : ZF K F [] [] [] []
  | lst {a : Addr} {xs : List V} {l : List D} {ks : List ZS} {vs : List V} {xss : List (List V)} {ls : List (List D)} (e : F a = some (.lst xs)) (hl : xs.length ≤ sizeLine) (r : RepL K F xs l) (t : ZF K F ks vs xss ls) : ZF K F (.lst a :: ks) (.ref a :: vs) (xs :: xss) (l :: ls)
  | tup {a : Addr} {xs : List V} {l : List D} {ks : List ZS} {vs : List V} {xss : List (List V)} {ls : List (List D)} (e : F a = some (.tup xs)) (hl : xs.length ≤ sizeLine) (r : RepL K F xs l) (t : ZF K F ks vs xss ls) : ZF K F (.tup a :: ks) (.ref a :: vs) (xs :: xss) (l :: ls)
  | str {x : Str} {ks : List ZS} {vs : List V} {xss : List (List V)} {ls : List (List D)} (hl : x.length ≤ 100000) (t : ZF K F ks vs xss ls) : ZF K F (.str x :: ks) (.str x :: vs) ((x.cps.toList.map fun c => V.str ⟨#[c]⟩) :: xss) ((x.cps.toList.map fun c => D.str ⟨#[c]⟩) :: ls)
theorem rep_chars : ∀ (l : List Nat), RepL K F (l.map fun c => V.str ⟨#[c]⟩) (l.map fun c => D.str ⟨#[c]⟩)
  | [] => .nil
  | c :: l => .cons (Rep.str_iff.mpr rfl) (rep_chars l)
theorem zf_make : ∀ {ds : List D} {vs : List V} {ls : List (List D)}, RepL K F vs ds → allItems ds = some ls → ∃ ks xss, ZF K F ks vs xss ls ∧ ks.length = ds.length
  | [], vs, ls, r, e => by
    cases vs with
    | nil => cases e; exact ⟨[], [], .nil, rfl⟩
    | cons _ _ => exact r.not_cn.elim
  | d :: ds, vs, ls, r, e => by
    cases vs with
    | nil => exact r.not_nc.elim
    | cons v vs =>
      unfold allItems at e
      split at e
      · rename_i l ls' e1 e2
        cases e
        obtain ⟨ks, xss, z, hl⟩ := zf_make r.tl e2
        have hv := r.hd
        unfold itemsOf at e1
        split at e1
        · cases e1
          obtain ⟨a, xs, rfl, ea, hx, rx⟩ := Rep.lst_iff.mp hv
          exact ⟨_, _, .lst ea hx rx z, by simp [hl]⟩
        · cases e1
          obtain ⟨a, xs, rfl, ea, hx, rx⟩ := Rep.tup_iff.mp hv
          exact ⟨_, _, .tup ea hx rx z, by simp [hl]⟩
        · split at e1
          · rename_i hlen
            cases e1
            have := Rep.str_iff.mp hv
            subst this
            exact ⟨_, _, .str hlen z, by simp [hl]⟩
          · cases e1
        · cases e1
      · cases e
theorem ZF.has {ks : List ZS} {vs : List V} {xss : List (List V)} {ls : List (List D)} (z : ZF K F ks vs xss ls) {H : Hp} (s : Ext F H) : ZHas K H ks xss := by
  induction z with
  | nil => exact .nil
  | lst e _ _ _ ih => exact .cons (SqL.of (s _ _ e)) ih
  | tup e _ _ _ ih => exact .cons (SqT.of (s _ _ e)) ih
  | str _ _ ih => exact .cons rfl ih
theorem ZF.vals {ks : List ZS} {vs : List V} {xss : List (List V)} {ls : List (List D)} (z : ZF K F ks vs xss ls) {H : Hp} (s : Ext F H) : ZVs K H ks vs := by
  induction z with
  | nil => exact .nil
  | lst e _ _ _ ih => exact .lst (SqL.of (s _ _ e)) ih
  | tup e _ _ _ ih => exact .tup (SqT.of (s _ _ e)) ih
  | str _ _ ih => exact .str ih
theorem ZF.lens {ks : List ZS} {vs : List V} {xss : List (List V)} {ls : List (List D)} (z : ZF K F ks vs xss ls) : xss.map List.length = ls.map List.length ∧ ∀ l ∈ ls, l.length ≤ sizeLine := by
  induction z with
  | nil => exact ⟨rfl, by simp⟩
  | lst e hl r _ ih => exact ⟨by simp [ih.1, r.length], fun l hl' => by rcases List.mem_cons.mp hl' with rfl | h; rw [← r.length]; exact hl; exact ih.2 l h⟩
  | tup e hl r _ ih => exact ⟨by simp [ih.1, r.length], fun l hl' => by rcases List.mem_cons.mp hl' with rfl | h; rw [← r.length]; exact hl; exact ih.2 l h⟩
  | str hl _ ih => exact ⟨by simp [ih.1], fun l hl' => by rcases List.mem_cons.mp hl' with rfl | h; exact small100000 (by simpa [Str.length] using hl); exact ih.2 l h⟩
theorem ZF.row {ks : List ZS} {vs : List V} {xss : List (List V)} {ls : List (List D)} (z : ZF K F ks vs xss ls) {i : Nat} (hi : ∀ l ∈ ls, i < l.length) {ws : List V} (hw : ws.length = ks.length) (h : ∀ q ∈ ws.zip xss, q.2[i]? = some q.1) {F2 : Hp} (e2 : Ext F F2) : RepL K F2 ws (rowAt i ls) := by
  have one : ∀ {xs : List V} {l : List D} {v : V}, RepL K F xs l → i < l.length → xs[i]? = some v → Rep K F2 v (l.getD i .non) := fun r hl hv => by
    obtain ⟨d, hd, rd⟩ := r.getV hv
    rw [List.getD_eq_getElem?_getD, hd]
    exact rd.mono e2
  induction z generalizing ws with
  | nil =>
    cases ws with
    | nil => exact .nil
    | cons _ _ => cases hw
  | lst e hl r t ih =>
    cases ws with
    | nil => cases hw
    | cons v ws => exact .cons (one r (hi _ (by simp)) (h (v, _) (by simp))) (ih (fun l hl => hi l (by simp [hl])) (by simpa using hw) fun q hq => h q (by simp [hq]))
  | tup e hl r t ih =>
    cases ws with
    | nil => cases hw
    | cons v ws => exact .cons (one r (hi _ (by simp)) (h (v, _) (by simp))) (ih (fun l hl => hi l (by simp [hl])) (by simpa using hw) fun q hq => h q (by simp [hq]))
  | str hl t ih =>
    cases ws with
    | nil => cases hw
    | cons v ws => exact .cons (one (rep_chars _) (hi _ (by simp)) (h (v, _) (by simp))) (ih (fun l hl => hi l (by simp [hl])) (by simpa using hw) fun q hq => h q (by simp [hq]))
theorem rep_row {F2 H2 : Hp} {T : Addr} {ws : List V} {ds : List D} (s : Ext F2 H2) (n : H2 T = none) (hl : ws.length ≤ sizeLine) (r : RepL K F2 ws ds) :
    Grow F2 H2 (upd F2 T (.tup ws)) (upd H2 T (.tup ws)) ∧ Rep K (upd F2 T (.tup ws)) (.ref T) (.tup ds) := by
  have g := Grow.upd (o := .tup ws) s n
  exact ⟨g, Rep.tup_iff.mpr ⟨T, ws, rfl, upd_same, hl, r.mono g.f⟩⟩
theorem src_zipN {ks : List ZS} {vs : List V} {xss : List (List V)} {ls : List (List D)} (z : ZF K F ks vs xss ls) (h0 : ks ≠ []) (hk : ks.length ≤ 1000) : Src K F (zipL ls) (ItN K ks) := by
  obtain ⟨l1, l2⟩ := z.lens
  have hne : ls ≠ [] := fun q => by
    subst q
    cases z
    exact h0 rfl
  have to : ∀ xs ∈ xss, ∃ l ∈ ls, l.length = xs.length := fun xs hx => by
    have : xs.length ∈ xss.map List.length := List.mem_map.mpr ⟨xs, hx, rfl⟩
    rw [l1] at this
    obtain ⟨l, a, b⟩ := List.mem_map.mp this
    exact ⟨l, a, b⟩
  obtain ⟨lm, hm1, hm2⟩ := minL_at hne
  refine ⟨by rw [zipL_len, ← hm2]; exact l2 _ hm1, minL ls, fun H => ZHas K H ks xss, fun i H v H' => ∃ T ws, v = .ref T ∧ H T = none ∧ H' = upd H T (.tup ws) ∧ ws.length = ks.length ∧ ∀ q ∈ ws.zip xss, q.2[i]? = some q.1, ⟨fun i H hi h => ⟨xss, h, fun xs hx => ?_⟩, fun H h => ⟨xss, h, fun xs hx => ?_, ?_⟩, fun i H v H' hi h y => ?_⟩, (zipL_len ls).symm, fun H s => z.has s, fun i H v H' F2 hi e2 s y => ?_⟩
  · obtain ⟨l, a, b⟩ := to xs hx
    have := minL_le a; omega
  · obtain ⟨l, a, b⟩ := to xs hx
    have := minL_le a; omega
  · have : lm.length ∈ ls.map List.length := List.mem_map.mpr ⟨lm, hm1, rfl⟩
    rw [← l1] at this
    obtain ⟨xs, a, b⟩ := List.mem_map.mp this
    exact ⟨xs, a, by rw [b, hm2]⟩
  · obtain ⟨T, ws, a1, a2, a3, a4, a5⟩ := y
    exact ⟨T, ws, a1, a2, a3, a4, a5 xss h⟩
  · obtain ⟨T, ws, rfl, nT, rfl, hw, hq⟩ := y
    have r := z.row (fun l hl => Nat.lt_of_lt_of_le hi (minL_le hl)) hw hq e2
    obtain ⟨g, rp⟩ := rep_row s nT (by rw [hw]; exact Nat.le_trans hk (by decide)) r
    exact ⟨_, .tup (rowAt i ls), by unfold zipL; simp [hi], g, rp⟩
end
section
variable {X : Cx} {C : Cxt} {e : Expr} {es : List Expr} {tg : Expr} {p pos : Pos} {ers : E (List D)}
theorem i_zipN (hg : Gl X "zip") (hm : X.mg "zip" = none) (ha : PA X (e :: es) (tA C ers)) (hK : X.K = C.K := by rfl)
    (hs : starEach (e :: es) X.env = (false, eval e X.env) :: starEach es X.env := by rfl) (hpl : (backTo pos (starEach es X.env)).any (·.1) = false := by rfl) : PI X tg (.Call (.Name "zip" p) (e :: es) [] pos) (tI C (iFn zipN ers)) :=
  PI.imp (pi_zipN hg hm ha hs hpl) fun σ H Rr ⟨F, Z, ca, ρ, p, I, h⟩ => ⟨F, Z, ca, ρ, p, I, h.bind fun ds p1 F1 H1 e1 I1 h1 vs hvs => by
    obtain ⟨z, ez, k⟩ := h1.lift
    unfold zipN at ez
    split at ez
    · rename_i ls el
      split at ez
      · rename_i hn
        cases ez
        obtain ⟨ks, xss, zf, hl⟩ := zf_make hvs el
        have h0 : ks ≠ [] := fun q => by rw [q] at hl; simp at hl; omega
        have ok : ZOk ks.length := by
          rw [hl]
          rcases hn with h | h | h
          · rw [h]; exact zok2
          · rw [h]; exact zok3
          · rw [h]; exact zok4
        have hk : ks.length ≤ 1000 := by omega
        rw [hK]
        exact ⟨ks, zf.vals I1.sub, h0, hk, ok, k F1 H1 .rfl' I1 _ F1 H1 (.rfl' I1.sub) (src_zipN zf h0 hk)⟩
      · cases ez
    · cases ez⟩
end
end PL
namespace PLm
open PySem PySem.Spec L2 PyProof.Rows
theorem zipLen : typeLookup (.type "zip") "__len__" = pure none := by rw [typeLookup_type, builtinLookup_eq_fast]; kernel_rfl
theorem zipHint : typeLookup (.type "zip") "__length_hint__" = pure none := by rw [typeLookup_type, builtinLookup_eq_fast]; kernel_rfl
section
variable {X : Cx} {pins : List (Addr × Obj)} {σ : L2.St} {H : Hp} {s : Shared}
/-- the same frame, seen out of a builtin's own turn -/
theorem inA (I : Inv X pins σ H s) {A : Around} (hh : A.handled = X.A.handled) (hf : A.frames = X.A.frames) : Inv { X with A := A } pins σ H s :=
  ⟨{ I.ok with hd := fun c => hh.trans (I.ok.hd c), frames := hf.trans I.ok.frames }, I.os, I.bare, I.base, I.loc, I.cell, I.free, I.freeC, I.pin, I.hok, I.len⟩
theorem outA {A : Around} (ok : X.Ok) (I : Inv { X with A := A } pins σ H s) : Inv X pins σ H s :=
  ⟨ok, I.os, I.bare, I.base, I.loc, I.cell, I.free, I.freeC, I.pin, I.hok, I.len⟩
theorem fpA {A : Around} {b : Addr} (h : FpOk X pins H b) : FpOk { X with A := A } pins H b := h
/-- a list's filling out of an iterator -/
theorem ext_loop {nm : Str} {ps : Pos} {J : It} {fp : List Addr} {it : Addr} {tn : Nat → Heap → Prop} (T : Turn X.prog X.w X.K (.Name nm ps) J fp it tn) (hc : X.calm = true) {S : Addr} (hS : S ∉ fp) 
    {n : Nat} {Pv : Nat → Hp → Prop} (go : ∀ i H, i < n → Pv i H → J.go i H ∧ ∀ x H', J.yld i H x H' → ∃ xs, H' S = some (.lst xs) ∧ xs.length < sizeLine ∧ Pv (i + 1) (upd H' S (.lst (xs ++ [x])))) (stop : ∀ H, Pv n H → J.stop n H)
    {A : Around} (hh : A.handled = X.A.handled) (hf : A.frames = X.A.frames) {R : Result → Shared → Prop} {res : Value} :
    ∀ (k i : Nat) (s : Shared) (H : Hp), n - i = k → i ≤ n → Inv X pins σ H s → (∀ b ∈ fp, FpOk X pins H b) → tn i s.heap → Pv i H → (∀ s' H', Inv X pins σ H' s' → Pv n H' → R (.ok (.ret res)) s') →
    codeAny (model X.prog X.w) A (.builtin "list.extend.loop" ⟨[.ref S, .ref it, res], []⟩) R s := by
  intro k
  induction k with
  | zero =>
    intro i s H hk hi I hfp st p hR
    have hin : i = n := by omega
    subst hin
    refine codeAny_builtin F.entry_extend_loop ?_
    rw [Around.under_plainId F.plain_extend_loop _]
    have := T.done { X with A := A.in1 } rfl rfl rfl hc i pins s σ H (fun e s' => R (.error e) s') (inA I hh hf) hfp st (stop H p)
    refine wpAny_bind (wpAny_mono this (fun r s1 ⟨e, I1⟩ => ?_) fun _ _ h => h)
    subst e
    exact wpAny_pure (hR s1 H (outA I.ok I1) p)
  | succ k ih =>
    intro i s H hk hi I hfp st p hR
    have hlt : i < n := by omega
    obtain ⟨g1, g2⟩ := go i H hlt p
    refine codeAny_builtin F.entry_extend_loop ?_
    rw [Around.under_plainId F.plain_extend_loop _]
    have := T.item { X with A := A.in1 } rfl rfl rfl hc i pins s σ H (fun e s' => R (.error e) s') (inA I hh hf) hfp st g1
    refine wpAny_bind (wpAny_mono this (fun r s1 ⟨u, e, h1⟩ => ?_) fun _ _ h => h)
    subst e
    show wpAny _ _ (letOwnedTupleGo (.Name nm ps) (.ref it) u >>= fun _ => updateSeq S (·.push u) >>= fun _ => again (.builtin "list.extend.loop" ⟨[.ref S, .ref it, res], []⟩)) _ _ _
    refine wpAny_bind (wpAny_mono h1 (fun _ s2 ⟨x, H', I2, r, y, st2, hn⟩ => ?_) fun _ _ h => h)
    have I3 := outA I.ok I2
    obtain ⟨xs, hs, hl, p'⟩ := g2 x H' y
    obtain ⟨its, m, rv, ho, hz⟩ := I3.lst hs
    have hlen := rv.length
    refine wpAny_bind (wpAny_updateSeq ho rfl ?_ (by simp; omega) (by simp; omega))
    have I4 : Inv X pins σ (upd H' S (.lst (xs ++ [x]))) { s2 with heap := s2.heap.update S (Obj.mapSeq (·.push u)) } :=
      I3.lstUpd (its' := its ++ [u]) (t := s2.toks) hs ho (by simp [Obj.mapSeq]; rfl) (rv.snoc r) (by rw [List.length_append]; exact hl)
    refine wpAny_pure ⟨plainId_quiet F.plain_extend_loop _, ih (i + 1) _ _ (by omega) hlt I4 (fun b hb => ⟨?_, (hfp b hb).2⟩) (T.keep _ _ _ st2 fun b hb o e => ?_) p' hR⟩
    · rw [upd_ne (fun q : b = S => hS (by rw [← q]; exact hb))]; exact hn b hb
    · exact (Heap.get?_update_other _ _ (fun q : S = b => hS (by rw [q]; exact hb))).trans e
/-- list(z), z a zip that has just been made -/
theorem call_listZ {ks : List ZS} {Js : List Addr} {z TI TO : Addr} (hc : X.calm = true) (nd : (z :: TI :: TO :: Js).Nodup) (ne : ∀ k ∈ ks, ∀ a ∈ k.addr, a ∉ z :: TI :: TO :: Js) (h0 : ks ≠ []) (hl : ks.length ≤ 1000)
    (I : Inv X pins σ H s) (on : ZOn z TI TO Js ks 0 s.heap) (hfp : ∀ b ∈ z :: TI :: TO :: Js, FpOk X pins H b) {n : Nat} {Q : VK} {Qf : Value → Shared → Prop}
    (h : ∀ S, H S = none → ∃ Pv : Nat → Hp → Prop, Pv 0 (upd H S (.lst [])) ∧ (∀ i H, i < n → Pv i H → (ItN X.K ks).go i H ∧ ∀ x H', (ItN X.K ks).yld i H x H' → ∃ xs, H' S = some (.lst xs) ∧ xs.length < sizeLine ∧ Pv (i + 1) (upd H' S (.lst (xs ++ [x])))) ∧ (∀ H, Pv n H → (ItN X.K ks).stop n H) ∧ ∀ H, Pv n H → Q (.ref S) H)
    (hQ : ∀ S s' H', Inv X pins σ H' s' → Q (.ref S) H' → Qf (.ref S) s') {E : Value → Shared → Prop} :
    wpAny (model X.prog X.w) X.A (call (.type "list") [.ref z]) Qf E s := by
  have T := turn_zipN (P := X.prog) (w := X.w) (K := X.K) (.Name "t" ⟨0, 0, 0, 0⟩) nd ne h0 hl
  refine callType_codes (Q₁ := fun obj s₁ => obj = .ref s.heap.objs.size ∧ s₁ = { s with heap := s.heap.push { cls := .type "list", data := .seq #[] } }) F.called_list (F.typeCall_list_1 _) F.entry_list_init
    (code_list_new _ ⟨rfl, rfl⟩) fun obj s₁ h₁ => ?_
  obtain ⟨rfl, rfl⟩ := h₁
  generalize hS : s.heap.objs.size = S
  have hn : H S = none := I.hok.fresh (Nat.le_of_eq hS)
  have hg : (s.heap.push { cls := .type "list", data := .seq #[] }).get? S = some { cls := .type "list", data := .seq #[] } := by rw [← hS]; exact Heap.get?_push_size _ rfl
  generalize h1e : s.heap.push { cls := .type "list", data := .seq #[] } = h1 at *
  have keep1 : ∀ b o, s.heap.get? b = some o → h1.get? b = some o := fun b o e => by rw [← h1e]; exact Heap.get?_push_of_some _ e
  have I1 : Inv X pins σ (upd H S (.lst [])) { s with heap := h1 } := I.laid (t' := s.toks) keep1 (Nat.le_of_eq hS) ⟨Nat.zero_le _, [], 0, .nil, hg⟩
  have szf : ∀ b ∈ z :: TI :: TO :: Js, b ≠ S := fun b hb q => by
    obtain ⟨o, e, _⟩ := T.obj _ _ on b hb
    have := Heap.lt_size e
    rw [q, ← hS] at this
    exact Nat.lt_irrefl _ this
  have hSf : S ∉ z :: TI :: TO :: Js := fun q => szf S q rfl
  obtain ⟨Pv, p0, go, stop, fin⟩ := h S hn
  refine ⟨⟨_, hg, rfl⟩, F.args_list_init_2 _ _, ?_⟩
  show wpAny _ _ (Builtin.List.listItems (.ref S) >>= fun old => Builtin.List.listUpdate (.ref S) (fun _ => #[]) >>= fun _ => letGo old.toList.reverse >>= fun _ => Builtin.List.listExtendWith (.ref S) (.ref z) .none) _ _ _
  refine wpAny_bind ?_
  unfold Builtin.List.listItems
  refine wpAny_bind (wpAny_seqItems hg rfl (wpAny_pure ?_))
  refine wpAny_bind ?_
  show wpAny _ _ (updateSeq S (fun _ => #[])) _ _ _
  refine wpAny_updateSeq hg rfl ?_
  have I2 : Inv X pins σ (upd (upd H S (.lst [])) S (.lst [])) { s with heap := h1.update S (Obj.mapSeq fun _ => #[]) } :=
    I1.lstUpd (its := []) (its' := []) (t := s.toks) upd_same hg (by simp [Obj.mapSeq]; rfl) .nil (Nat.zero_le _)
  rw [upd_upd] at I2
  refine wpAny_bind (wpAny_letGo ?_)
  have on2 : ZOn z TI TO Js ks 0 (h1.update S (Obj.mapSeq fun _ => #[])) := T.keep _ _ _ on fun b hb o e => (Heap.get?_update_other _ _ (fun q => szf b hb q.symm)).trans (keep1 b o e)
  generalize h2e : h1.update S (Obj.mapSeq fun _ => #[]) = h2 at *
  unfold Builtin.List.listExtendWith
  obtain ⟨⟨f0, f1, hr, _⟩, _⟩ := id on2
  have hT : ({ s with heap := h2 } : Shared).TypeIs (.ref z) "zip" := ⟨_, hr, rfl⟩
  refine wpAny_bind (wpAny_typeOf hT ?_)
  have q1 : Builtin.List.listSameRef (.ref S) (.ref z) = false := by simp [Builtin.List.listSameRef, Ne.symm (szf z (by simp))]
  have q2 : (Value.type "zip" == Value.type "list") = false := by decide
  have q3 : (Value.type "zip" == Value.type "tuple") = false := by decide
  simp only [q1, q2, q3, Bool.or_false, Bool.false_eq_true, if_false]
  refine wpAny_bind (T.self _ 0 _ _ _ on2 ?_)
  refine wpAny_bind (wpAny_holding ?_)
  unfold Builtin.List.listLengthHint
  refine wpAny_bind (wpAny_specialOf hT zipLen ?_)
  show wpAny _ _ (specialOf (Value.ref z) (Str.ofString "__length_hint__") >>= _) _ _ _
  refine wpAny_bind (wpAny_specialOf hT zipHint (wpAny_pure ?_))
  show wpAny _ _ (rule "list.extend.makes-room" >>= fun _ => Builtin.List.listTouch (.ref S) >>= fun _ => again (.builtin "list.extend.loop" ⟨[.ref S, .ref z, .none], []⟩)) _ _ _
  refine wpAny_bind (wpAny_rule ?_)
  refine wpAny_bind ?_
  show wpAny _ _ (updateSeq S (·.push .none) >>= fun _ => updateSeq S (·.pop)) _ _ _
  obtain ⟨its, m, rv, ho, _⟩ := I2.lst upd_same
  cases rv
  refine wpAny_bind (wpAny_updateSeq ho rfl ?_)
  have I3 : Inv X pins σ (upd (upd H S (.lst [])) S (.lst [.non])) { s with heap := h2.update S (Obj.mapSeq (·.push Value.none)) } :=
    I2.lstUpd (its := []) (its' := [.none]) (t := s.toks) upd_same ho (by simp [Obj.mapSeq]; rfl) (.cons (show RelV .non Value.none from rfl) .nil) (by show 1 ≤ sizeLine; decide)
  have ho3 := Heap.get?_update_self (Obj.mapSeq (·.push Value.none)) ho rfl
  refine wpAny_updateSeq ho3 rfl ?_ (by simp [Obj.mapSeq]; decide) (by simp)
  obtain ⟨its3, m3, rv3, ho4, _⟩ := I3.lst upd_same
  rw [upd_upd] at I3
  have I4 : Inv X pins σ (upd (upd H S (.lst [.non])) S (.lst [])) { s with heap := (h2.update S (Obj.mapSeq (·.push Value.none))).update S (Obj.mapSeq (·.pop)) } := by
    cases rv3 with
    | cons r rr =>
      cases rr
      exact I3.lstUpd (its' := []) (t := s.toks) upd_same ho4 (by simp [Obj.mapSeq]; rfl) .nil (Nat.zero_le _)
  rw [upd_upd] at I4
  refine wpAny_pure ⟨plainId_quiet F.plain_extend_loop _, ext_loop (A := X.A.in1) (R := wants (fun r s₂ => r = Value.none ∧ Qf (Value.ref S) s₂) E) (res := .none) T hc hSf go stop rfl rfl n 0 _ _ rfl (Nat.zero_le _) I4 (fun b hb => ⟨?_, (hfp b hb).2⟩) (T.keep _ _ _ on2 fun b hb o e => ?_) p0 fun s' H' I' p' => ⟨rfl, hQ S s' H' I' (fin H' p')⟩⟩
  · rw [upd_ne (szf b hb)]; exact (hfp b hb).1
  · exact (Heap.get?_update_other _ _ (fun q => szf b hb q.symm)).trans ((Heap.get?_update_other _ _ (fun q => szf b hb q.symm)).trans e)
/-- what list(zip(..)) asks -/
def tListZip (K : PySem.W.Frag) (ta : TA) : TE := fun σ H Q => ta σ H fun vs H1 => ∃ ks n, ZVs K H1 ks vs ∧ ks ≠ [] ∧ ks.length ≤ 1000 ∧ ZOk ks.length ∧
  ∀ S, H1 S = none → ∃ Pv : Nat → Hp → Prop, Pv 0 (upd H1 S (.lst [])) ∧ (∀ i H, i < n → Pv i H → (ItN K ks).go i H ∧ ∀ x H', (ItN K ks).yld i H x H' → ∃ xs, H' S = some (.lst xs) ∧ xs.length < sizeLine ∧ Pv (i + 1) (upd H' S (.lst (xs ++ [x])))) ∧ (∀ H, Pv n H → (ItN K ks).stop n H) ∧ ∀ H, Pv n H → Q (.ref S) H
end
theorem pe_listZip {X : Cx} {e : Expr} {es : List Expr} {ta : TA} {p p2 q pos : Pos} (hg : Gl X "list") (hm : X.mg "list" = none) (hg2 : Gl X "zip") (hm2 : X.mg "zip" = none) (ha : PA X (e :: es) ta) (hc : X.calm = true := by rfl)
    (na : starEach [Expr.Call (.Name "zip" p2) (e :: es) [] q] X.env = (false, eval (Expr.Call (.Name "zip" p2) (e :: es) [] q) X.env) :: starEach [] X.env := by rfl)
    (hs : starEach (e :: es) X.env = (false, eval e X.env) :: starEach es X.env := by rfl) (hpl : (backTo q (starEach es X.env)).any (·.1) = false := by rfl) :
    PE X (.Call (.Name "list" p) [.Call (.Name "zip" p2) (e :: es) [] q] [] pos) (tListZip X.K ta) := by
  refine ⟨fun pins s σ H Q I h => ?_⟩
  refine Call_ (ld_blt I hg hm boot_list ?_)
  refine PyProof.Rows.callWith_type1 (PyProof.Rows.args_cons ?_ na) na rfl
  refine Call_ (ld_blt I hg2 hm2 PyProof.Rows.boot_zip (PyProof.Rows.callWith_type1 (thn (ha.run q pins s σ H _ I h) fun us s1 ⟨vs, H1, I1, r1, q1⟩ => ?_) hs hpl))
  obtain ⟨ks, n, zv, k0, kl, zo, q1⟩ := q1
  obtain ⟨src, lt⟩ := zvs_src I1 zv r1
  have hl := src.len
  refine zip_call (by omega) src (zo.ct us hl.symm) (zo.cn us hl.symm) (zo.ok us hl.symm) fun h' z on k => PyProof.Rows.args_nil ?_
  have I2 : Inv X pins σ H1 { s1 with heap := h' } := I1.kept (t' := s1.toks) k
  have fresh : ∀ c, c ∈ (s1.heap.objs.size + us.length + 2 : Addr) :: (s1.heap.objs.size + us.length : Addr) :: (s1.heap.objs.size + us.length + 1 : Addr) :: newAt s1.heap.objs.size us.length → FpOk X pins H1 c := fun c hc =>
    I1.fpOk (all_old hc) (I1.hok.fresh (all_old hc))
  exact call_listZ hc (nodup3 s1.heap.objs.size us.length) (fun k hk a ha q => absurd (lt k hk a ha) (Nat.not_lt.mpr (all_old q))) k0 kl I2 on fresh q1 fun S s' H' I' q => ⟨.ref S, H', I', rfl, q⟩
end PLm
namespace PL
open PySem PySem.Spec L2 PLm
section
variable {X : Cx} {C : Cxt} {e : Expr} {es : List Expr} {p p2 q pos : Pos} {ers : E (List D)}
theorem n_listZip (hg : Gl X "list") (hm : X.mg "list" = none) (hg2 : Gl X "zip") (hm2 : X.mg "zip" = none) (ha : PA X (e :: es) (tA C ers)) (hc : X.calm = true := by rfl) (hK : X.K = C.K := by rfl)
    (na : starEach [Expr.Call (.Name "zip" p2) (e :: es) [] q] X.env = (false, eval (Expr.Call (.Name "zip" p2) (e :: es) [] q) X.env) :: starEach [] X.env := by rfl)
    (hs : starEach (e :: es) X.env = (false, eval e X.env) :: starEach es X.env := by rfl) (hpl : (backTo q (starEach es X.env)).any (·.1) = false := by rfl) :
    PE X (.Call (.Name "list" p) [.Call (.Name "zip" p2) (e :: es) [] q] [] pos) (tN C (eFnL zipN ers)) :=
  PE.imp (pe_listZip hg hm hg2 hm2 ha hc na hs hpl) fun σ H Q ⟨F, Z, ca, ρ, p, I, h⟩ => ⟨F, Z, ca, ρ, p, I, h.bind fun ds p1 F1 H1 e1 I1 h1 vs hvs => by
    cases ez : zipN ds with
    | none => rw [ez] at h1; exact h1.elim
    | some l =>
      rw [ez] at h1
      unfold zipN at ez
      split at ez
      · rename_i ls el
        split at ez
        · rename_i hn
          cases ez
          obtain ⟨ks, xss, zf, hl⟩ := zf_make hvs el
          have h0 : ks ≠ [] := fun q => by rw [q] at hl; simp at hl; omega
          have ok : ZOk ks.length := by
            rw [hl]
            rcases hn with h | h | h
            · rw [h]; exact zok2
            · rw [h]; exact zok3
            · rw [h]; exact zok4
          have hk : ks.length ≤ 1000 := by omega
          have sr := src_zipN zf h0 hk
          have le := sr.le
          obtain ⟨n, G, Y, W, en, hG, hY⟩ := sr.ex
          rw [hK]
          refine ⟨ks, n, zf.vals I1.sub, h0, hk, ok, fun S hS => ?_⟩
          obtain ⟨f1, f2, f3⟩ := I1.fresh hS
          refine ⟨fun i H => i ≤ n ∧ ∃ F2 xs, Grow F1 (upd H1 S (.lst [])) F2 (upd H S (.lst [])) ∧ H S = some (.lst xs) ∧ F2 S = none ∧ RepL C.K F2 xs ((zipL ls).take i), ⟨Nat.zero_le _, F1, [], by rw [upd_upd]; exact .rfl' (I1.hp hS).sub, upd_same, f1, .nil⟩, ?_, ?_, ?_⟩
          · rintro i H hi ⟨_, F2, xs, g, hHS, hFS, r⟩
            have e2 : Ext F2 H := fun a o q => by
              have := g.sub _ _ q
              rwa [upd_ne (fun z => by rw [z, hFS] at q; cases q)] at this
            refine ⟨W.goes i _ hi (hG _ (g.f.trans e2)), fun x H' y => ?_⟩
            obtain ⟨F3, d, hd, g3, rd⟩ := hY i H x H' F2 hi g.f e2 (W.yields i H x H' hi (hG _ (g.f.trans e2)) y)
            have hHS' : H' S = some (.lst xs) := g3.h _ _ hHS
            have hFS' : F3 S = none := by
              cases q : F3 S with
              | none => rfl
              | some o =>
                rcases g3.new _ _ q with z | z
                · rw [hFS] at z; cases z
                · rw [hHS] at z; cases z
            have hxl : xs.length = i := by
              rw [r.length, List.length_take, ← en]; omega
            refine ⟨xs, hHS', by rw [hxl]; exact Nat.lt_of_lt_of_le (by rw [← en]; exact hi) le, hi, F3, xs ++ [x], g.trans ⟨g3.f, fun a o q => ?_, fun a o q => ?_, fun a o q => ?_⟩, upd_same, hFS', ?_⟩
            · rw [upd_upd]
              by_cases hb : a = S
              · subst hb; rw [upd_same] at q ⊢; exact q
              · rw [upd_ne hb] at q ⊢; exact g3.h _ _ q
            · rw [upd_upd]
              have hb : a ≠ S := fun z => by rw [z, hFS'] at q; cases q
              rw [upd_ne hb]; exact g3.sub _ _ q
            · have hb : a ≠ S := fun z => by rw [z, hFS'] at q; cases q
              rw [upd_ne hb]; exact g3.new _ _ q
            · rw [List.take_add_one, hd]
              exact (r.mono g3.f).append (.cons rd .nil)
          · rintro H ⟨_, F2, xs, g, hHS, hFS, r⟩
            have e2 : Ext F2 H := fun a o q => by
              have := g.sub _ _ q
              rwa [upd_ne (fun z => by rw [z, hFS] at q; cases q)] at this
            exact W.stops H (hG _ (g.f.trans e2))
          · rintro H ⟨_, F2, xs, g, hHS, hFS, r⟩
            have eH : upd H S (.lst xs) = H := by
              funext b
              by_cases hb : b = S
              · rw [hb, upd_same, hHS]
              · rw [upd_ne hb]
            have J := ((I1.hp (o := .lst []) hS).grow g).poke (o := .lst xs) hFS f2 f3
            rw [upd_upd, eH] at J
            rw [en, List.take_length] at r
            have hxl : xs.length ≤ sizeLine := by rw [r.length]; exact le
            exact h1 F2 H g.f J S ⟨xs, hHS, hxl, r⟩ hFS f2 f3
        · cases ez
      · cases ez⟩
end
end PL
/-! PL33: methods of instances, by tables. -/
namespace PLm
open PySem PySem.Spec L2
theorem pe_methR0 {X : Cx} {CX : CXT} {k : Nat} {C f : Addr} {m : Str} {sp : Sp} {E : XK} {o : Expr} {ta : TE} {apos pos : Pos} {pl : Sem Bool} (he : PE X o ta) (c : Cls X.K C) (hm : Meth X.K C m f)
    (F : FnR X.prog X.w X.K X.mg X.base CX k f sp) (hr : Room k X.A) (hx : Passes CX X E)
    (ht : eval (.Call (.Attribute o m apos) [] [] pos) X.env = (do
      let ov ← eval o X.env
      standAt apos.atName
      let (f, first) ← holding [ov] (getMethod ov m pl)
      callWith pos f first (backTo pos (starEach [] X.env)) (backToKw pos (keywordEach [] X.env))) := by rfl) :
    PE X (.Call (.Attribute o m apos) [] [] pos) (tMethR C m sp E ta tNil) := by
  refine ⟨fun pins s σ H Q I h => ?_⟩
  refine PySem.W.methodCall_KW (pl := pl) (thn (he.run pins s σ H _ I h) fun u s1 ⟨x, H1, I1, rx, a, dx, fs, ex, ea, l, q⟩ => ?_) ht
  subst ex
  obtain rfl : u = Value.ref a := rx
  refine getmeth_ok I1 ea c hm l (PySem.W.callWith_K0 (first := [.ref a]) I1.kIn hm.kp ?_)
  exact wpAny_call (run_fnR (us := [.ref a]) (vs := [.ref a]) F hr hx I1 (.cons rfl .nil) q)
end PLm
namespace PL
open PySem PySem.Spec L2 PLm
/-- the classes that have the method m, and what it gives -/
structure MetT (P : Program) (w : World) (K : PySem.W.Frag) (mg : Str → Option Value) (base : Heap) (n : Nat) (m : Str) (fb : Str → Option (List Sl → List Cell → R D)) : Prop where
  ok : ∀ c g, fb c = some g → Cls K (He.ga K c) ∧ ∃ a, Meth K (He.ga K c) m a ∧ FnP P w K mg base n a [] g
def eMeth (m : Str) (fb : Str → Option (List Sl → List Cell → R D)) (eo : E D) (ers : E (List D)) : E D := fun ρ p => (eo ρ p).bind fun o p1 => match o with
  | .ins c ns vs => (match fb c with
    | some g => if m ∈ ns then .no else (ers ρ p1).bind fun ds p2 => (match g (.v (.ins c ns vs) :: ds.map .v) [] with
      | .ok d _ => .ok d p2
      | _ => .no)
    | none => .no)
  | _ => .no
theorem not_lookup {m : Str} : ∀ {fs : List (Str × V)}, m ∉ fs.map (·.1) → fs.lookup m = none
  | [], _ => rfl
  | (n, v) :: fs, h => by
    rw [List.map_cons, List.mem_cons, not_or] at h
    show (match m == n with | true => some v | false => List.lookup m fs) = none
    rw [beq_eq_false_iff_ne.mpr h.1]
    exact not_lookup h.2
section
variable {X : Cx} {C : Cxt} {k j : Nat} {m : Str} {fb : Str → Option (List Sl → List Cell → R D)} {o e : Expr} {es : List Expr} {eo : E D} {ers : E (List D)} {apos pos : Pos} {pl : Sem Bool}
/-- any class's rule does for the state, if it is the instance's class -/
theorem meth_case (T : MetT X.prog X.w X.K X.mg X.base k m fb) (h0 : ∃ c g, fb c = some g) {es : List Expr} {t : TA} (hK : X.K = C.K) (ht : ∀ σ H Q, tA C ers σ H Q → t σ H Q)
    (rule : ∀ c a g, Cls X.K (He.ga X.K c) → Meth X.K (He.ga X.K c) m a → FnP X.prog X.w X.K X.mg X.base k a [] g → PE X (.Call (.Attribute o m apos) es [] pos) (tMethR (He.ga X.K c) m (spF X.K [] g) E0 (tE C eo) t)) :
    PE X (.Call (.Attribute o m apos) es [] pos) (tE C (eMeth m fb eo ers)) := by
  refine ⟨fun pins s σ H Q I ⟨F, Z, ca, ρ, p, I0, h⟩ => ?_⟩
  unfold eMeth at h
  have pick : ∃ c g, fb c = some g ∧ ∀ d p1, eo ρ p = .ok d p1 → ∃ ns vs, d = .ins c ns vs ∧ m ∉ ns := by
    obtain ⟨c0, g0, e0⟩ := h0
    cases ev : eo ρ p with
    | no => exact ⟨c0, g0, e0, fun d p1 q => by cases q⟩
    | ex x p1 => exact ⟨c0, g0, e0, fun d p1 q => by cases q⟩
    | ok d p1 =>
      rw [ev] at h
      cases d with
      | ins c ns vs =>
        rw [R.bind_ok] at h
        dsimp only at h
        split at h
        · rename_i g e2
          split at h
          · exact h.elim
          · rename_i hm
            exact ⟨c, g, e2, fun d' p' q => by cases q; exact ⟨ns, vs, rfl, hm⟩⟩
        · exact h.elim
      | _ => exact h.elim
  obtain ⟨c, g, hg, hd⟩ := pick
  obtain ⟨hc, a, hm, Fp⟩ := T.ok c g hg
  refine (rule c a g hc hm Fp).run pins s σ H Q I ⟨F, Z, ca, ρ, p, I0, ?_⟩
  cases ev : eo ρ p with
  | no => rw [ev] at h; exact h
  | ex x p1 => rw [ev] at h; exact h
  | ok d p1 =>
    obtain ⟨ns, vs, rfl, hmn⟩ := hd d p1 ev
    rw [ev, R.bind_ok] at h
    dsimp only at h
    rw [hg] at h
    dsimp only at h
    rw [if_neg hmn] at h
    intro F1 H1 e1 I1 v hv
    obtain ⟨b, dx, fs, rfl, hb, hn, r⟩ := Rep.ins_iff.mp hv
    have h2 := Rn.mono h e1
    refine ⟨b, dx, fs, rfl, by rw [hK]; exact I1.sub _ _ hb, not_lookup (by rw [hn]; exact hmn), ht _ _ _ ⟨F1, Z, ca, ρ, p1, I1, h2.bind fun ds p2 F2 H2 e2 I2 h3 us hus => ?_⟩⟩
    split at h3
    · rename_i d2 p3 q
      rw [hK]
      refine ⟨F2, [], .v (.ins c ns vs) :: ds.map .v, [], I2.sub, ?_, .nil, rfl, fun k a d h => by simp at h, d2, p3, q, fun F' H' v fe hv' => ?_⟩
      · exact RArgs.vals (ds := .ins c ns vs :: ds) (.cons (hv.mono e2) hus)
      · have gr := fe.grow
        exact h3 F' H' gr.f (I2.grow gr) v hv'
    · exact h3.elim
theorem e_meth (T : MetT X.prog X.w X.K X.mg X.base k m fb) (h0 : ∃ c g, fb c = some g) (hr : Room j X.A) (hk : k ≤ j) (ho : PE X o (tE C eo)) (ha : PA X (e :: es) (tA C ers)) (hK : X.K = C.K := by rfl)
    (hst : starEach (e :: es) X.env = (false, eval e X.env) :: starEach es X.env := by rfl) (hpl : (backTo pos (starEach es X.env)).any (·.1) = false := by rfl)
    (ht : eval (.Call (.Attribute o m apos) (e :: es) [] pos) X.env = (do
      let ov ← eval o X.env
      standAt apos.atName
      let (f, first) ← holding [ov] (getMethod ov m pl)
      callWith pos f first (backTo pos (starEach (e :: es) X.env)) (backToKw pos (keywordEach [] X.env))) := by rfl) : PE X (.Call (.Attribute o m apos) (e :: es) [] pos) (tE C (eMeth m fb eo ers)) :=
  meth_case T h0 hK (fun σ H Q h => h) fun c a g hc hm F => pe_methR (pl := pl) ho hc hm F (hr.mono hk) C8.pass0 ha hst hpl ht
theorem e_meth0 (T : MetT X.prog X.w X.K X.mg X.base k m fb) (h0 : ∃ c g, fb c = some g) (hr : Room j X.A) (hk : k ≤ j) (ho : PE X o (tE C eo)) (hK : X.K = C.K := by rfl)
    (ht : eval (.Call (.Attribute o m apos) [] [] pos) X.env = (do
      let ov ← eval o X.env
      standAt apos.atName
      let (f, first) ← holding [ov] (getMethod ov m pl)
      callWith pos f first (backTo pos (starEach [] X.env)) (backToKw pos (keywordEach [] X.env))) := by rfl) : PE X (.Call (.Attribute o m apos) [] [] pos) (tE C (eMeth m fb eo eNil)) :=
  meth_case T h0 hK (ers := eNil) (t := tNil) (fun σ H Q ⟨F, Z, ca, ρ, p, I, h⟩ => h F H .rfl' I [] .nil) fun c a g hc hm F => pe_methR0 (pl := pl) ho hc hm F (hr.mono hk) C8.pass0 ht
end
/-! ### the facts -/
def metTB (l : List (Str × Str)) (m : Str) (K : PySem.W.Frag) : Bool := l.all fun p => (He.Fa.cls p.1).ok K && (He.eqO (PySem.W.findIn K (.ref (He.ga K p.1)) m) (some (some (.ref (He.ma K (He.ga K p.2) m)))) && (PySem.W.isFn K (.ref (He.ma K (He.ga K p.2) m)) && PySem.W.keepIn K (.ref (He.ma K (He.ga K p.2) m))))
theorem metT_ok {P : Program} {w : World} {K : PySem.W.Frag} {mg : Str → Option Value} {base : Heap} {n : Nat} {l : List (Str × Str)} {m : Str} {f : Str → Option (List Sl → List Cell → R D)} (h : metTB l m K = true)
    (hf : ∀ d g, f d = some g → FnP P w K mg base n (He.ma K (He.ga K d) m) [] g) : MetT P w K mg base n m (ownOf l f) := ⟨fun c g hg => by
  obtain ⟨d, h1, h2⟩ := Option.bind_eq_some_iff.mp (show (l.lookup c).bind f = some g from hg)
  obtain ⟨c1, c2⟩ := ba (List.all_eq_true.mp h _ (lookup_all h1))
  obtain ⟨c3, c4⟩ := ba c2
  obtain ⟨c5, c6⟩ := ba c4
  exact ⟨He.cls_ok c1, _, ⟨He.eqO_ok c3, c5, c6⟩, hf d g h2⟩⟩
end PL
/-! PL34: sorted({a, b}); a def's rule with the fact of its code. -/
namespace PLm
open PySem PySem.Spec L2
section
variable {P : Program} {w : World} {A : Around} {E : Value → Shared → Prop} {s : Shared}
theorem set_new {Q : Value → Shared → Prop} (h : Q (.ref s.heap.objs.size) { s with heap := s.heap.push (PL.setOb w) }) : wpAny (model P w) A (newSet (.type "set")) Q E s := by
  unfold newSet setsByText
  refine wpAny_bind (wpAny_bind (wpAny_askSetting (wpAny_pure ?_)))
  refine wpAny_newObj_type ?_ (by size_fits)
  exact h
theorem set_add {D : Addr} {k : Int} {tk : Tok} {S : Int → Bool} {n : Nat} {Q : Bool → Shared → Prop} (R : SetR w s.heap D S n) (room : n + 1 < scanBound)
    (hQ : ∀ h', Heap.SameBut D s.heap h' → SetR w h' D (fun j => S j || decide (j = k)) (if S k = true then n else n + 1) → Q (!S k) { s with heap := h', toks := s.toks + 1 }) : wpAny (model P w) A (setAdd D (.int k tk)) Q E s := by
  unfold setAdd
  refine wpAny_holding (wpAny_bind ((intKind P w).pyHash (intKind_is P w k tk) ?_))
  exact setR_add_hashed (s := { s with toks := s.toks + 1 }) R room hQ
end
def tSortDis (ta tb : TE) : TE := fun σ H Q => ta σ H fun x H1 => tb σ H1 fun y H2 => ∃ i j, x = .int i ∧ y = .int j ∧ ∀ p, H2 p = none → Q (.ref p) (upd H2 p (.lst ((PL.sortI (PL.dedupI [i, j])).map V.int)))
theorem pe_sortDis {X : Cx} {a b : Expr} {ta tb : TE} {p q pos : Pos} (hc : X.calm = true) (hg : Gl X "sorted") (hm : X.mg "sorted" = none) (ha : PE X a ta) (hb : PE X b tb) (hcd : PySem.W.kdsCode X.K X.env.code = true) (hv : bootBuiltins "sorted" = some (.builtin "sorted"))
    (pl : [a, b].all PySem.W.kdsPlain = true) (nb : starEach [.Set [a, b] 0 q] X.env = (false, eval (.Set [a, b] 0 q) X.env) :: starEach [] X.env := by rfl) : PE X (.Call (.Name "sorted" p) [.Set [a, b] 0 q] [] pos) (tSortDis ta tb) := by
  refine ⟨fun pins s σ H Q I h => ?_⟩
  refine PyProof.Rows.Call_ (ld_blt I hg hm hv ?_)
  refine PyProof.Rows.callWith_builtin1 (PyProof.Rows.args_cons ?_ nb) nb rfl
  rw [arm_eval_Set]
  refine wpAny_bind (wpAny_standAt ?_)
  refine wpAny_bind (PySem.W.kds_main I.kIn hcd fun bb => ?_)
  rw [PySem.W.kds_star _ pl]
  have road : displayRoad 0 [a, b] = .oneByOne := rfl
  rw [road]
  unfold setDisplay
  refine wpAny_bind (set_new ?_)
  generalize hD : s.heap.objs.size = D
  have hn : H D = none := I.hok.fresh (Nat.le_of_eq hD)
  have g0 : (s.heap.push (PL.setOb X.w)).get? D = some (PL.setOb X.w) := by rw [← hD]; exact Heap.get?_push_size _ rfl
  have R0 : True := trivial
  have fpD := I.fpOk (b := D) (Nat.le_of_eq hD) hn
  have I1 : Inv X pins σ H { s with heap := s.heap.push (PL.setOb X.w) } := I.kept (t' := s.toks) fun b o e => Heap.get?_push_of_some _ e
  generalize s.heap.push (PL.setOb X.w) = h1 at *
  have hp2 : ∀ pr ∈ X.pn ++ ((D, PL.setOb X.w) :: pins), ({ s with heap := h1 } : Shared).heap.get? pr.1 = some pr.2 ∧ H pr.1 = none ∧ pr.1 ≠ X.env.locals ∧ pr.1 ∉ X.fs ∧ ∀ v, pr.2.data ≠ .cell v := by
    intro pr hp
    rcases List.mem_append.mp hp with hp | hp
    · exact I1.pin pr (List.mem_append_left _ hp)
    · rcases List.mem_cons.mp hp with rfl | hp
      · exact ⟨g0, hn, fpD.2.1, fpD.2.2.1, fun v q => by cases q⟩
      · exact I1.pin pr (List.mem_append_right _ hp)
  have I2 : Inv X ((D, PL.setOb X.w) :: pins) σ H { s with heap := h1 } := { I1 with pin := hp2 }
  show wpAny _ _ (holding [Value.ref D] (evalAll [(eval a X.env >>= fun v => standAt q >>= fun _ => pure v), (eval b X.env >>= fun v => standAt q >>= fun _ => pure v)] >>= fun first =>
    holding first (forIn first PUnit.unit (fun x _ => setAdd D x >>= fun _ => pure (ForInStep.yield PUnit.unit)) >>= fun _ => pure ()) >>= fun _ => (pure () : Sem Unit)) >>= fun _ => pure (Value.ref D)) _ _ _
  refine wpAny_bind (wpAny_holding (wpAny_bind ?_))
  refine PySem.W.kds_all q [a, b] _ _ ?_
  refine thn (ha.run _ _ σ H _ I2 h) fun v1 s1 ⟨x, H1, I3, r1, q1⟩ => ?_
  refine thn (hb.run _ s1 σ H1 _ I3 q1) fun v2 s2 ⟨y, H2, I4, r2, q2⟩ => ?_
  obtain ⟨i, j, rfl, rfl, q2⟩ := q2
  obtain ⟨t1, rfl⟩ := (show ∃ t, v1 = Value.int i t from r1)
  obtain ⟨t2, rfl⟩ := (show ∃ t, v2 = Value.int j t from r2)
  obtain ⟨p1, p2, p3, p4, p5⟩ := I4.pin (D, PL.setOb X.w) (List.mem_append_right _ (List.mem_cons_self ..))
  have hp5 : ∀ pr ∈ X.pn ++ pins, s2.heap.get? pr.1 = some pr.2 ∧ H2 pr.1 = none ∧ pr.1 ≠ X.env.locals ∧ pr.1 ∉ X.fs ∧ ∀ v, pr.2.data ≠ .cell v := by
    intro pr hp
    rcases List.mem_append.mp hp with hp | hp
    · exact I4.pin pr (List.mem_append_left _ hp)
    · exact I4.pin pr (List.mem_append_right _ (List.mem_cons_of_mem _ hp))
  have I5 : Inv X pins σ H2 s2 := { I4 with pin := hp5 }
  have fp2 : FpOk X pins H2 D := ⟨p2, fpD.2⟩
  show wpAny _ _ (holding [Value.int i t1, Value.int j t2] (forIn [Value.int i t1, Value.int j t2] PUnit.unit (fun x _ => setAdd D x >>= fun _ => pure (ForInStep.yield PUnit.unit)) >>= fun _ => pure ()) >>= fun _ => (pure () : Sem Unit)) _ _ _
  refine wpAny_bind (wpAny_holding (wpAny_bind ?_))
  simp only [List.forIn_cons, List.forIn_nil]
  refine wpAny_bind (wpAny_bind (set_add (setR_new_at (ns := []) p1) (by decide) fun h3 sb3 R3 => wpAny_pure ?_))
  refine wpAny_bind (wpAny_bind (set_add (s := { s2 with heap := h3, toks := s2.toks + 1 }) R3 (by split <;> decide) fun h4 sb4 R4 => wpAny_pure (wpAny_pure (wpAny_pure (wpAny_pure (wpAny_pure ?_))))))
  refine PyProof.Rows.args_nil ?_
  have I6 : Inv X pins σ H2 { s2 with heap := h4, toks := s2.toks + 1 + 1 } := I5.turnedL (t' := s2.toks + 1 + 1) (ch := [D]) (fun c o hc e => by
    have hcD : c ≠ D := fun q => hc (by simp [q])
    exact (sb4.2 c hcD).trans ((sb3.2 c hcD).trans e)) fun c hc => by
      have : c = D := by simpa using hc
      rw [this]; exact fp2
  refine sorted_set (s := { s2 with heap := h4, toks := s2.toks + 1 + 1 }) R4 (I6.ok.hd hc) (by split <;> split <;> decide) fun s' p out c2 ns2 k2 g2 o2 hp hg' hi hs hm' hl => ?_
  have hmem : ∀ k : Int, k ∈ ns2 ↔ k ∈ [i, j] := fun k => by rw [hm' k]; simp
  have he := PL.sorted_the hs hmem
  have hlen : (ns2.map V.int).length ≤ sizeLine := by
    rw [List.length_map, hl, sizeLine_eq]
    split <;> split <;> omega
  have hfr : H2 p = none := I6.hok.fresh hp
  have J : Inv X pins σ (upd H2 p (.lst (ns2.map V.int))) { ({ s2 with heap := h4, toks := s2.toks + 1 + 1 } : Shared) with heap := s'.heap, gens := s'.gens, drawn := s'.drawn, toks := s'.toks } :=
    I6.call (ch := []) (Un.laid k2 hp hfr) (I6.hok.laid k2 hp ⟨hlen, out.toList, c2, vals_of_ints hi, hg'⟩) (by rw [g2]; exact I6.bare) (fun _ z => nomatch z)
  have es : s' = { s2 with heap := s'.heap, gens := s'.gens, drawn := s'.drawn, toks := s'.toks } := by
    cases s'; cases s2; cases o2; rfl
  rw [es]
  refine ⟨.ref p, _, J, rfl, ?_⟩
  rw [he]
  exact q2 p hfr
end PLm
namespace PL
open PySem PySem.Spec L2 PLm
section
variable {P : Program} {w : World} {K : PySem.W.Frag} {mg : Str → Option Value} {base : Heap} {x qual : Str} {params : Arguments} {body : List Stmt} {scope : Scope} {dvs : List V} {kws : List (Str × V)} {f : Addr} {fd : FuncData}
theorem okC {CX : CXT} {N ps : List Str} {k : Nat} {sp : Sp} (F : FunD K x qual params body scope dvs kws f fd) (S : FnScope N ps scope) (len : ∀ vs H Q E, sp vs H Q E → vs.length = ps.length)
    (hbody : ∀ (cdv : Value), PySem.W.codeIn K cdv qual = true → ∀ (A : Around) (outer : List Env) (s : Shared) (H : Hp) (vs : List V) (Q : VK) (E : XK), Room k (A.deeper (PyProof.Rows.envOfC qual scope s.heap.objs.size f cdv)) → sp vs H Q E →
      ∃ t, PSs (cxOf CX P w K mg base N qual scope f cdv A outer s H E) body t ∧ t { nx := fun _ H' => Q .non H', rt := Q } (start N vs) H) : FnOk P w K mg base CX (k + 1) f fd ps sp := by
  obtain ⟨oc, od, dV, kV, doc, pm, an, cdv, ct, osl, rfl, lk, hcd, _, _⟩ := F.ex
  exact fn_of lk hcd S len fun A outer s H vs Q E hr hsp => hbody cdv hcd A outer s H vs Q E hr hsp
theorem kdsOf {cd : Value} {q : Str} (h : PySem.W.codeIn K cd q = true) : PySem.W.kdsCode K cd = true := by
  unfold PySem.W.codeIn at h
  split at h
  · split at h
    · rename_i c _ _ _ _ _ e
      show (match K.lookup c with | some ⟨_, _, .fields _, _⟩ => true | _ => false) = true
      rw [e]
    · cases h
  · cases h
/-- a def's rule, the fact of its code at hand -/
theorem fn_okC {N ps : List Str} {k na nc : Nat} {co : List Nat} {sb : S} (F : FunD K x qual params body scope dvs kws f fd) (Sc : FnScope N ps scope)
    (hbody : ∀ (cdv : Value), PySem.W.codeIn K cdv qual = true → ∀ (A : Around) (outer : List Env) (s : Shared) (H : Hp) (E : XK), Room k (A.deeper (PyProof.Rows.envOfC qual scope s.heap.objs.size f cdv)) →
      PSs (cxOf CX0 P w K mg base N qual scope f cdv A outer s H E).nox body (tS ⟨K, co, na, fun _ _ _ _ => False⟩ sb)) : FnOk P w K mg base CX0 (k + 1) f fd ps (spF K co (fnB ps.length N.length na nc sb)) := by
  have hlen : ∀ vs H Q E, spF K co (fnB ps.length N.length na nc sb) vs H Q E → vs.length = ps.length := fun vs H Q E h => by
    obtain ⟨F, as, args, ds, _, ra, _, _, _, d, p', e, _⟩ := h
    unfold fnB at e
    split at e
    · rename_i q; rw [ra.length]; exact q.1
    · cases e
  have hpl : ps.length ≤ N.length := by have := congrArg List.length Sc.pre; rw [List.length_take] at this; omega
  refine okC F Sc hlen fun cdv hcd A outer s H vs Q E hr h => ⟨tS ⟨K, co, na, fun _ _ _ _ => False⟩ sb, PSs.nox (hbody cdv hcd A outer s H E hr), ?_⟩
  have hl := hlen _ _ _ _ h
  obtain ⟨F, as, args, ds, hs, ra, nd, al, hh, d, p', e, k⟩ := h
  unfold fnB at e
  have hna : as.length ≤ na := by
    split at e
    · rename_i q; rw [al]; simpa using q.2
    · cases e
  have I := st_start (C := ⟨K, co, na, fun _ _ _ _ => False⟩) (N := N) (nc := nc) hs ra nd al hh (by omega) hna
  refine ⟨F, _, _, _, _, I, ?_⟩
  rw [if_pos ⟨by rw [← ra.length]; exact hl, by rw [List.length_map, ← al]; exact hna⟩] at e
  split at e
  · rename_i q
    rw [q]
    cases e
    intro F' H' ca' σ' v eF I' hv
    exact k F' H' v (st_end hs eF I') hv
  · rename_i q
    rw [q]
    cases e
    intro F' H' ca' σ' a eF I' hd hf hz hc
    obtain ⟨o, ho⟩ := hd.ob
    obtain ⟨e2, I2⟩ := I'.freeze ho hf hz hc
    exact k _ H' _ (st_end hs (eF.trans e2) I2) (hd.rep ho hf)
  · rename_i q
    rw [q]
    cases e
    intro F' H' ca' σ' eF I'
    exact k F' H' _ (st_end hs eF I') .non
  · cases e
  · cases e
  · cases e
end
/-- sorted({a, b}), two ints -/
def fSortDis : List D → Option (List D)
  | [.int i, .int j] => some ((sortI (dedupI [i, j])).map .int)
  | _ => none
section
variable {X : Cx} {C : Cxt} {a b : Expr} {ea eb : E D} {p q pos : Pos}
theorem n_sortDis (hcd : PySem.W.kdsCode X.K X.env.code = true) (hc : X.calm = true) (hg : Gl X "sorted") (hm : X.mg "sorted" = none) (ha : PE X a (tE C ea)) (hb : PE X b (tE C eb)) (hv : bootBuiltins "sorted" = some (.builtin "sorted")) (hK : X.K = C.K := by rfl)
    (pl : [a, b].all PySem.W.kdsPlain = true := by rfl) (nb : starEach [.Set [a, b] 0 q] X.env = (false, eval (.Set [a, b] 0 q) X.env) :: starEach [] X.env := by rfl) : PE X (.Call (.Name "sorted" p) [.Set [a, b] 0 q] [] pos) (tN C (eFnL fSortDis (eCons ea (eCons eb eNil)))) :=
  PE.imp (pe_sortDis hc hg hm ha hb hcd hv pl nb) fun σ H Q ⟨F, Z, ca, ρ, p, I, h⟩ => by
    have h' : Rn C F Z ca σ ρ ((ea ρ p).bind fun x p1 => (eb ρ p1).bind fun y p2 => (lift (fSortDis [x, y]) p2).bind fun l p3 => (.ok (.lst l) p3 : R D)) (kN C Z ca Q) := by
      have e : eFnL fSortDis (eCons ea (eCons eb eNil)) ρ p = ((ea ρ p).bind fun x p1 => (eb ρ p1).bind fun y p2 => (lift (fSortDis [x, y]) p2).bind fun l p3 => (.ok (.lst l) p3 : R D)) := by
        show ((ea ρ p).bind fun x p1 => ((eb ρ p1).bind fun y p2 => (R.ok [] p2).bind fun xs p3 => .ok (y :: xs) p3).bind fun xs p2 => .ok (x :: xs) p2).bind _ = _
        rw [R.bind_assoc]
        congr 1
        funext x p1
        rw [R.bind_assoc, R.bind_assoc]
        rfl
      rw [← e]; exact h
    refine ⟨F, Z, ca, ρ, p, I, h'.bind fun x p1 F1 H1 e1 I1 h1 u hu => ⟨F1, Z, ca, ρ, p1, I1, h1.bind fun y p2 F2 H2 e2 I2 h2 v hv => ?_⟩⟩
    cases ez : fSortDis [x, y] with
    | none => rw [ez] at h2; exact h2.elim
    | some l =>
      rw [ez] at h2
      unfold fSortDis at ez
      split at ez
      · rename_i i j e0
        cases e0
        cases ez
        refine ⟨i, j, Rep.int_iff.mp (hu.mono e2), Rep.int_iff.mp hv, fun p n => ?_⟩
        have hl : ((sortI (dedupI [i, j])).map V.int).length ≤ sizeLine := by
          rw [List.length_map, (sortI_perm _).length_eq]
          exact Nat.le_trans (dedupI_len [i, j]) (by show 2 ≤ sizeLine; decide)
        exact nl_end I2 h2 n hl (RepL.ints _)
      · cases ez
end
end PL
/-! PL35: evaluation: what simp needs of instances, zips and drawn lists. -/
namespace PL
open PySem PySem.Spec L2
section
variable {ρ : List Sl} {p : List Cell} {a b : E D} {ea : E (List D)}
@[simp] theorem sv_fld {i j : Nat} {cs : List Str} {f : Str} : xFld i j cs f a ρ p = RS.of (a ρ p) ρ fun d p1 => match ρ[i]? with
  | some (.cell j') => if j' = j then (match p1[j]? with
    | some (some (.ins c ns ds)) => if c ∈ cs ∧ ns.length < 1000 then .ok .nx ρ (p1.set j (some (.ins c (putD f d ns ds).1 (putD f d ns ds).2))) else .no
    | _ => .no) else .no
  | _ => .no := rfl
@[simp] theorem ev_callS {f : List Sl → List Cell → R D} : eCallS f a ρ p = (a ρ p).bind fun d p1 => match eCallS.itemsS d with
  | some ds => (match f (ds.map .v) [] with
    | .ok d _ => .ok d p1
    | _ => .no)
  | none => .no := rfl
@[simp] theorem itemsS_t {l : List D} : eCallS.itemsS (.tup l) = some l := rfl
@[simp] theorem itemsS_l {l : List D} : eCallS.itemsS (.lst l) = some l := rfl
@[simp] theorem ev_make' {c : Str} {fi : List Sl → List Cell → R D} : eMake c fi ea ρ p = (ea ρ p).bind fun ds p1 => match fi (.cell 0 :: ds.map .v) [some (.ins c [] [])] with
  | .ok .non [some d] => .ok d p1
  | _ => .no := rfl
@[simp] theorem ev_ch' {t : D → E D} : eCh a t ρ p = (a ρ p).bind fun x p1 => t x ρ p1 := rfl
@[simp] theorem ev_chN' {f : D → D → Option D} {t : D → E D} {y : D} : chN f b t y ρ p = (b ρ p).bind fun z p1 => match f y z with
  | some (.bl true) => t z ρ p1
  | some (.bl false) => .ok (.bl false) p1
  | _ => .no := rfl
@[simp] theorem ev_ch1' {f : D → D → Option D} {y : D} : ch1 f b y ρ p = (b ρ p).bind fun z p1 => lift (f y z) p1 := rfl
end
@[simp] theorem itemsOf_t {l : List D} : itemsOf (.tup l) = some l := rfl
@[simp] theorem itemsOf_l {l : List D} : itemsOf (.lst l) = some l := rfl
@[simp] theorem tupleOf_l {l : List D} : fTupleOf [.lst l] = some (.tup l) := rfl
@[simp] theorem tupleOf_t {l : List D} : fTupleOf [.tup l] = some (.tup l) := rfl
@[simp] theorem listOf_l {l : List D} : fListOf [.lst l] = some l := rfl
@[simp] theorem listOf_t {l : List D} : fListOf [.tup l] = some l := rfl
/-- over a mapped list -/
theorem compGo_onIf {α : Type} {g : G} {c : E Bool} {elt : E D} {ρ : List Sl} {p : List Cell} (inj : α → D) (cb : α → Bool) (f : α → D) : ∀ {ks : List α},
    (∀ k ∈ ks, ∃ ρ1, g.run (inj k) ρ = some ρ1 ∧ c ρ1 p = .ok (cb k) p ∧ (cb k = true → elt ρ1 p = .ok (f k) p)) → compGo g c elt ρ (ks.map inj) p = .ok ((ks.filter cb).map f) p
  | [], _ => rfl
  | k :: ks, h => by
    obtain ⟨ρ1, e1, e2, e3⟩ := h k (List.mem_cons_self ..)
    have ih := compGo_onIf inj cb f (ks := ks) fun d' hd => h d' (List.mem_cons_of_mem _ hd)
    show (match g.run (inj k) ρ with
      | some ρ1 => (c ρ1 p).bindn fun b p1 => if b = true then (elt ρ1 p1).bindn fun y p2 => (compGo g c elt ρ (ks.map inj) p2).bind fun ys p3 => .ok (y :: ys) p3 else compGo g c elt ρ (ks.map inj) p1
      | none => .no) = _
    rw [e1]
    show (c ρ1 p).bindn _ = _
    rw [e2]
    show (if cb k = true then _ else _) = _
    by_cases hc : cb k = true
    · rw [if_pos hc, e3 hc]
      show (compGo g c elt ρ _ p).bind _ = _
      rw [ih, List.filter_cons_of_pos hc]
      rfl
    · rw [if_neg hc, ih, List.filter_cons_of_neg hc]
theorem compGo_on {α : Type} {g : G} {elt : E D} {ρ : List Sl} {p : List Cell} (inj : α → D) (f : α → D) {ks : List α} (h : ∀ k ∈ ks, ∃ ρ1, g.run (inj k) ρ = some ρ1 ∧ elt ρ1 p = .ok (f k) p) : compGo g eYes elt ρ (ks.map inj) p = .ok (ks.map f) p := by
  have := compGo_onIf (c := eYes) inj (fun _ => true) f (ks := ks) fun d hd => by
    obtain ⟨ρ1, e1, e2⟩ := h d hd
    exact ⟨ρ1, e1, rfl, fun _ => e2⟩
  rwa [List.filter_eq_self.mpr fun _ _ => rfl] at this
/-- each element draws at most k times from the pen at cell 0 -/
theorem compGo_pen {g : G} {elt : E D} {ρ : List Sl} (k : Nat) (P : D → D → Prop) : ∀ {ds : List D} {T : Nat} {pc : Cell}, Pen T pc → T + k * ds.length ≤ 1000000 →
    (∀ d ∈ ds, ∀ T pc, T + k ≤ 1000000 → Pen T pc → ∃ ρ1 v pc', g.run d ρ = some ρ1 ∧ elt ρ1 [pc] = .ok v [pc'] ∧ Pen (T + k) pc' ∧ P d v) →
    ∃ vs pc', compGo g eYes elt ρ ds [pc] = .ok vs [pc'] ∧ Pen (T + k * ds.length) pc' ∧ vs.length = ds.length ∧ ∀ (i : Nat) d v, ds[i]? = some d → vs[i]? = some v → P d v
  | [], T, pc, hp, _, _ => ⟨[], pc, rfl, by simpa using hp, rfl, fun i d v h => by simp at h⟩
  | d :: ds, T, pc, hp, hT, h => by
    rw [List.length_cons, Nat.mul_add, Nat.mul_one] at hT
    obtain ⟨ρ1, v, p1, e1, e2, h1, h2⟩ := h d (List.mem_cons_self ..) T pc (by omega) hp
    obtain ⟨vs, p2, e3, h3, h4, h5⟩ := compGo_pen k P (ds := ds) (T := T + k) h1 (by omega) fun d' hd => h d' (List.mem_cons_of_mem _ hd)
    refine ⟨v :: vs, p2, ?_, ?_, by simp [h4], fun i d' v' => ?_⟩
    · show (match g.run d ρ with
        | some ρ1 => (eYes ρ1 [pc]).bindn fun b p1 => if b = true then (elt ρ1 p1).bindn fun y p2 => (compGo g eYes elt ρ ds p2).bind fun ys p3 => .ok (y :: ys) p3 else compGo g eYes elt ρ ds p1
        | none => .no) = _
      rw [e1]
      show (elt ρ1 [pc]).bindn _ = _
      rw [e2]
      show (compGo g eYes elt ρ ds [p1]).bind _ = _
      rw [e3]; rfl
    · rw [List.length_cons, Nat.mul_add, Nat.mul_one, show T + (k * ds.length + k) = T + k + k * ds.length by omega]; exact h3
    · cases i with
      | zero => intro a b; simp at a b; rw [← a, ← b]; exact h2
      | succ i => intro a b; exact h5 i d' v' (by simpa using a) (by simpa using b)
/-! ### zips -/
theorem zipL_cons {ls : List (List D)} {hs : List D} {ts : List (List D)} (h : minL ls = minL ts + 1) (h0 : rowAt 0 ls = hs) (hr : ∀ i, rowAt (i + 1) ls = rowAt i ts) : zipL ls = .tup hs :: zipL ts := by
  unfold zipL
  rw [h, List.range_succ_eq_map, List.map_cons, h0, List.map_map]
  congr 1
  exact List.map_congr_left fun i _ => by show D.tup (rowAt (i + 1) ls) = _; rw [hr]
def t2 {α β : Type} : List α → List β → List (α × β)
  | x :: a, y :: b => (x, y) :: t2 a b
  | _, _ => []
def t3 {α : Type} : List α → List α → List α → List (α × α × α)
  | x :: a, y :: b, z :: c => (x, y, z) :: t3 a b c
  | _, _, _ => []
def t4 {α : Type} : List α → List α → List α → List α → List (α × α × α × α)
  | x :: a, y :: b, z :: c, w :: d => (x, y, z, w) :: t4 a b c d
  | _, _, _, _ => []
theorem min2 {a b : Nat} : min (a + 1) (b + 1) = min a b + 1 := by omega
theorem zipL_0 {ls : List (List D)} (h : minL ls = 0) : zipL ls = [] := by unfold zipL; rw [h]; rfl
theorem zipL_2 {α β : Type} (f : α → D) (g : β → D) : ∀ (a : List α) (b : List β), zipL [a.map f, b.map g] = (t2 a b).map fun q => .tup [f q.1, g q.2]
  | [], b => by rw [zipL_0 (by simp [minL])]; rfl
  | x :: a, [] => by rw [zipL_0 (by simp [minL])]; rfl
  | x :: a, y :: b => by
    rw [zipL_cons (hs := [f x, g y]) (ts := [a.map f, b.map g]) (by simp only [minL, List.map_cons, List.length_cons]; exact min2) rfl (fun i => rfl), zipL_2 f g a b]; rfl
theorem min3 {a b c : Nat} : min (a + 1) (min (b + 1) (c + 1)) = min a (min b c) + 1 := by omega
theorem min4 {a b c d : Nat} : min (a + 1) (min (b + 1) (min (c + 1) (d + 1))) = min a (min b (min c d)) + 1 := by omega
theorem zipL_3 {α : Type} (f : α → D) : ∀ (a b c : List α), zipL [a.map f, b.map f, c.map f] = (t3 a b c).map fun q => .tup [f q.1, f q.2.1, f q.2.2]
  | [], b, c => by rw [zipL_0 (by simp [minL])]; rfl
  | x :: a, [], c => by rw [zipL_0 (by simp [minL])]; rfl
  | x :: a, y :: b, [] => by rw [zipL_0 (by simp [minL])]; rfl
  | x :: a, y :: b, z :: c => by
    rw [zipL_cons (hs := [f x, f y, f z]) (ts := [a.map f, b.map f, c.map f]) (by simp only [minL, List.map_cons, List.length_cons]; exact min3) rfl (fun i => rfl), zipL_3 f a b c]; rfl
theorem zipL_4 {α : Type} (f : α → D) : ∀ (a b c d : List α), zipL [a.map f, b.map f, c.map f, d.map f] = (t4 a b c d).map fun q => .tup [f q.1, f q.2.1, f q.2.2.1, f q.2.2.2]
  | [], b, c, d => by rw [zipL_0 (by simp [minL])]; rfl
  | x :: a, [], c, d => by rw [zipL_0 (by simp [minL])]; rfl
  | x :: a, y :: b, [], d => by rw [zipL_0 (by simp [minL])]; rfl
  | x :: a, y :: b, z :: c, [] => by rw [zipL_0 (by simp [minL])]; rfl
  | x :: a, y :: b, z :: c, w :: d => by
    rw [zipL_cons (hs := [f x, f y, f z, f w]) (ts := [a.map f, b.map f, c.map f, d.map f]) (by simp only [minL, List.map_cons, List.length_cons]; exact min4) rfl (fun i => rfl), zipL_4 f a b c d]; rfl
theorem zipN_2 {α β : Type} (f : α → D) (g : β → D) (a : List α) (b : List β) {x y : D} (hx : itemsOf x = some (a.map f)) (hy : itemsOf y = some (b.map g)) : zipN [x, y] = some ((t2 a b).map fun q => .tup [f q.1, g q.2]) := by
  unfold zipN allItems allItems allItems
  rw [hx, hy]
  dsimp only
  rw [if_pos (by simp), zipL_2]
theorem zipN_3 {α : Type} (f : α → D) (a b c : List α) {x y z : D} (hx : itemsOf x = some (a.map f)) (hy : itemsOf y = some (b.map f)) (hz : itemsOf z = some (c.map f)) : zipN [x, y, z] = some ((t3 a b c).map fun q => .tup [f q.1, f q.2.1, f q.2.2]) := by
  unfold zipN allItems allItems allItems allItems
  rw [hx, hy, hz]
  dsimp only
  rw [if_pos (by simp), zipL_3]
theorem zipN_4 {α : Type} (f : α → D) (a b c d : List α) {x y z w : D} (hx : itemsOf x = some (a.map f)) (hy : itemsOf y = some (b.map f)) (hz : itemsOf z = some (c.map f)) (hw : itemsOf w = some (d.map f)) : zipN [x, y, z, w] = some ((t4 a b c d).map fun q => .tup [f q.1, f q.2.1, f q.2.2.1, f q.2.2.2]) := by
  unfold zipN allItems allItems allItems allItems allItems
  rw [hx, hy, hz, hw]
  dsimp only
  rw [if_pos (by simp), zipL_4]
/-! ### bools and ints in lists -/
theorem all_bls (l : List Bool) : fAll [.lst (l.map .bl)] = some (.bl (l.all id)) := by
  show (blsOf _).map _ = _
  rw [blsOf_map]; rfl
theorem any_bls (l : List Bool) : fAny [.lst (l.map .bl)] = some (.bl (l.any id)) := by
  show (blsOf _).map _ = _
  rw [blsOf_map]; rfl
theorem sum_ints (l : List Int) : fSum [.lst (l.map .int)] = some (.int l.sum) := by
  show (intsOf _).map _ = _
  rw [intsOf_map]; rfl
theorem all_on {α : Type} (g : α → Bool) (l : List α) : fAll [.lst (l.map fun k => .bl (g k))] = some (.bl (l.all g)) := by
  have := all_bls (l.map g)
  rw [List.map_map, List.all_map] at this
  exact this
theorem any_on {α : Type} (g : α → Bool) (l : List α) : fAny [.lst (l.map fun k => .bl (g k))] = some (.bl (l.any g)) := by
  have := any_bls (l.map g)
  rw [List.map_map, List.any_map] at this
  exact this
theorem sum_on {α : Type} (g : α → Int) (l : List α) : fSum [.lst (l.map fun k => .int (g k))] = some (.int (l.map g).sum) := by
  have := sum_ints (l.map g)
  rw [List.map_map] at this
  exact this
theorem lenO_ins {fb : Str → Option (List Sl → List Cell → R D)} {c : Str} {ns : List Str} {ds : List D} {g : List Sl → List Cell → R D} {n : Nat} (h : fb c = some g) (q : ap g [.ins c ns ds] = some (.int n)) (hn : n ≤ 1000) : fLenO fb [.ins c ns ds] = some (.int n) := by
  have h1 : 0 ≤ (n : Int) := by omega
  have h2 : (n : Int) < 9223372036854775808 := by omega
  unfold fLenO
  dsimp only
  rw [h, Option.bind_some, q, Option.bind_some]
  dsimp only
  rw [if_pos ⟨h1, h2⟩]
end PL
namespace K04
open PySem PySem.Spec PyProof.Rows L2 PL
def top (i : Nat) : Stmt := PySem.Challenge.pw_fourthlike_k04_how_far_prices_go.main.body.getD i (.Pass ⟨0, 0, 0, 0⟩)
abbrev cv : List Str := ["Scan", "Row", "Fourth", "NoFourth", "Nearest"]
abbrev clsT : List (Str × List Str) := [("Paper", ["Paper"]), ("Denial", ["Denial", "Paper"]), ("Scan", ["Scan"]), ("Row", ["Row"]), ("Fourth", ["Fourth", "Paper"]), ("NoFourth", ["NoFourth", "Denial", "Paper"]), ("Nearest", ["Nearest", "Paper"])]
abbrev tab : D → D → Option Bool := tabC clsT
/-- what the walks ask of the text -/
structure Gf (K : PySem.W.Frag) (mg : Str → Option Value) : Prop where
  b_abs : mg "abs" = none
  b_all : mg "all" = none
  b_any : mg "any" = none
  b_bool : mg "bool" = none
  b_int : mg "int" = none
  b_isinstance : mg "isinstance" = none
  b_len : mg "len" = none
  b_list : mg "list" = none
  b_range : mg "range" = none
  b_sorted : mg "sorted" = none
  b_sum : mg "sum" = none
  b_super : mg "super" = none
  b_tuple : mg "tuple" = none
  b_zip : mg "zip" = none
  c_Fourth : mg "Fourth" = some (.ref (He.ga K "Fourth"))
  c_Nearest : mg "Nearest" = some (.ref (He.ga K "Nearest"))
  c_NoFourth : mg "NoFourth" = some (.ref (He.ga K "NoFourth"))
  c_Row : mg "Row" = some (.ref (He.ga K "Row"))
  i_FEWEST_MARKS : ∃ t, mg "FEWEST_MARKS" = some (.int 2 t)
  i_MOST_MARKS : ∃ t, mg "MOST_MARKS" = some (.int 4 t)
  i_MOST_PLACES : ∃ t, mg "MOST_PLACES" = some (.int 6 t)
  f_choices : FldT K cv "choices"
  f_marks : FldT K cv "marks"
  f_parts : FldT K cv "parts"
  f_place : FldT K cv "place"
  f_places : FldT K cv "places"
  f_price : FldT K cv "price"
  f_row : FldT K cv "row"
  f_word : FldT K cv "word"
  tab : ClsTab K tab
/-! ### Paper.__bool__ -/
def N_Paper_bool : List Str := ["self"]
theorem sc_Paper_bool : FnScope N_Paper_bool ["self"] (defScope (inC (top 3) 1)) := ⟨rfl, rfl, rfl, by decide +kernel, rfl, by decide +kernel, by decide +kernel⟩
def b_Paper_bool : S := (xRet (eC (.bl true)))
def fn_Paper_bool : List Sl → List Cell → R D := fnB 1 1 0 0 b_Paper_bool
theorem w_Paper_bool {P : Program} {w : World} {K : PySem.W.Frag} {mg : Str → Option Value} {base : Heap} (g : Gf K mg)  (f : Addr) (cdv : Value) (A : Around) (outer : List Env) (s : Shared) (H : Hp) (E : XK) (hr : Room 0 (A.deeper (envOfC "Paper.__bool__" (defScope (inC (top 3) 1)) s.heap.objs.size f cdv))) :
    PSs (cxOf CX0 P w K mg base N_Paper_bool "Paper.__bool__" (defScope (inC (top 3) 1)) f cdv A outer s H E).nox (defBody (inC (top 3) 1)) (tS ⟨K, [], 0, fun _ _ _ _ => False⟩ b_Paper_bool) :=
  (x_one (x_ret e_bl))
theorem ok_Paper_bool {P : Program} {w : World} {K : PySem.W.Frag} {mg : Str → Option Value} {base : Heap} (g : Gf K mg)  {f : Addr} {fd : FuncData} (F : FunD K "__bool__" "Paper.__bool__" (defArgs (inC (top 3) 1)) (defBody (inC (top 3) 1)) (defScope (inC (top 3) 1)) [] [] f fd) : FnP P w K mg base 1 f [] fn_Paper_bool :=
  FnP.ofOk (ps := ["self"]) (fn_ok (nc := 0) F sc_Paper_bool (fun cdv A outer s H E hr => w_Paper_bool g  f cdv A outer s H E hr)) (F.bindsN fun _ _ _ _ _ _ us hl => match us, hl with | [_], _ => rfl)
/-! ### Denial.__bool__ -/
def N_Denial_bool : List Str := ["self"]
theorem sc_Denial_bool : FnScope N_Denial_bool ["self"] (defScope (inC (top 4) 0)) := ⟨rfl, rfl, rfl, by decide +kernel, rfl, by decide +kernel, by decide +kernel⟩
def b_Denial_bool : S := (xRet (eC (.bl false)))
def fn_Denial_bool : List Sl → List Cell → R D := fnB 1 1 0 0 b_Denial_bool
theorem w_Denial_bool {P : Program} {w : World} {K : PySem.W.Frag} {mg : Str → Option Value} {base : Heap} (g : Gf K mg)  (f : Addr) (cdv : Value) (A : Around) (outer : List Env) (s : Shared) (H : Hp) (E : XK) (hr : Room 0 (A.deeper (envOfC "Denial.__bool__" (defScope (inC (top 4) 0)) s.heap.objs.size f cdv))) :
    PSs (cxOf CX0 P w K mg base N_Denial_bool "Denial.__bool__" (defScope (inC (top 4) 0)) f cdv A outer s H E).nox (defBody (inC (top 4) 0)) (tS ⟨K, [], 0, fun _ _ _ _ => False⟩ b_Denial_bool) :=
  (x_one (x_ret e_bl))
theorem ok_Denial_bool {P : Program} {w : World} {K : PySem.W.Frag} {mg : Str → Option Value} {base : Heap} (g : Gf K mg)  {f : Addr} {fd : FuncData} (F : FunD K "__bool__" "Denial.__bool__" (defArgs (inC (top 4) 0)) (defBody (inC (top 4) 0)) (defScope (inC (top 4) 0)) [] [] f fd) : FnP P w K mg base 1 f [] fn_Denial_bool :=
  FnP.ofOk (ps := ["self"]) (fn_ok (nc := 0) F sc_Denial_bool (fun cdv A outer s H E hr => w_Denial_bool g  f cdv A outer s H E hr)) (F.bindsN fun _ _ _ _ _ _ us hl => match us, hl with | [_], _ => rfl)
/-! ### the table of __bool__ -/
abbrev l_bool : List (Str × Str) := [("Fourth", "Paper"), ("NoFourth", "Denial"), ("Nearest", "Paper")]
def f_bool : Str → Option (List Sl → List Cell → R D) := fun d => if d = "Paper" then some fn_Paper_bool else if d = "Denial" then some fn_Denial_bool else none
abbrev fb_bool : Str → Option (List Sl → List Cell → R D) := ownOf l_bool f_bool
theorem ok_bool {P : Program} {w : World} {K : PySem.W.Frag} {mg : Str → Option Value} {base : Heap} (o : (Fc.ownT l_bool "__bool__").ok K = true) (m_Paper_bool : FnP P w K mg base 1 (He.ma K (He.ga K "Paper") "__bool__") [] fn_Paper_bool) (m_Denial_bool : FnP P w K mg base 1 (He.ma K (He.ga K "Denial") "__bool__") [] fn_Denial_bool) : OwnT P w K mg base 1 "__bool__" fb_bool :=
  ownT_ok (l := l_bool) (f := f_bool) o (fun d g e => by
    unfold f_bool at e
    split at e
    · rename_i q; subst q; cases e; exact m_Paper_bool.mono (by decide)
    split at e
    · rename_i q; subst q; cases e; exact m_Denial_bool.mono (by decide)
    cases e)
/-! ### is_integer -/
def N_is_integer : List Str := ["value"]
theorem sc_is_integer : FnScope N_is_integer ["value"] (defScope (top 7)) := ⟨rfl, rfl, rfl, by decide +kernel, rfl, by decide +kernel, by decide +kernel⟩
def b_is_integer : S := (xRet (eAndV (eFn (fIsi tab) (eCons (eVar 0) (eCons (eC (.ty "int")) eNil))) (eNotV (eFn (fIsi tab) (eCons (eVar 0) (eCons (eC (.ty "bool")) eNil))))))
def fn_is_integer : List Sl → List Cell → R D := fnB 1 1 0 0 b_is_integer
theorem w_is_integer {P : Program} {w : World} {K : PySem.W.Frag} {mg : Str → Option Value} {base : Heap} (g : Gf K mg)  (f : Addr) (cdv : Value) (A : Around) (outer : List Env) (s : Shared) (H : Hp) (E : XK) (hr : Room 0 (A.deeper (envOfC "is_integer" (defScope (top 7)) s.heap.objs.size f cdv))) :
    PSs (cxOf CX0 P w K mg base N_is_integer "is_integer" (defScope (top 7)) f cdv A outer s H E).nox (defBody (top 7)) (tS ⟨K, [], 0, fun _ _ _ _ => False⟩ b_is_integer) :=
  (x_one (x_ret (e_and (q_isi g.tab g.b_isinstance (a_cons (e_var 0) (a_cons (e_bty (T := "int") rfl g.b_int PyProof.Rows.boot_int) a_nil))) (e_one (e_not (q_isi g.tab g.b_isinstance (a_cons (e_var 0) (a_cons (e_bty (T := "bool") rfl g.b_bool PyProof.Rows.boot_bool) a_nil))))))))
theorem ok_is_integer {P : Program} {w : World} {K : PySem.W.Frag} {mg : Str → Option Value} {base : Heap} (g : Gf K mg)  {f : Addr} {fd : FuncData} (F : FunD K "is_integer" "is_integer" (defArgs (top 7)) (defBody (top 7)) (defScope (top 7)) [] [] f fd) (G : mg "is_integer" = some (.ref f)) : C8.Cal P w K mg base 1 "is_integer" (spF K [] fn_is_integer) [] :=
  ⟨f, fd, ["value"], [], fn_ok (nc := 0) F sc_is_integer (fun cdv A outer s H E hr => w_is_integer g  f cdv A outer s H E hr), G, F.kp, (F.bindsN fun _ _ _ _ _ _ us hl => match us, hl with | [_], _ => rfl), .nil⟩
/-! ### is_row -/
def N_is_row : List Str := ["value", "part"]
theorem sc_is_row : FnScope N_is_row ["value"] (defScope (top 9)) := ⟨rfl, rfl, rfl, by decide +kernel, rfl, by decide +kernel, by decide +kernel⟩
def e1_is_row : E D := (eCall fn_is_integer (eCons (eVar 1) eNil))
def b_is_row : S := (xRet (eAndV (eFn (fIsi tab) (eCons (eVar 0) (eCons (eFn dTup (eCons (eC (.ty "list")) (eCons (eC (.ty "tuple")) eNil))) eNil))) (eFn fAll (eCons (eComp (iAny (eVar 0)) (gV 1) eYes e1_is_row [1]) eNil))))
def fn_is_row : List Sl → List Cell → R D := fnB 1 2 0 0 b_is_row
theorem w_is_row {P : Program} {w : World} {K : PySem.W.Frag} {mg : Str → Option Value} {base : Heap} (g : Gf K mg) (c_is_integer : C8.Cal P w K mg base 1 "is_integer" (spF K [] fn_is_integer) []) (f : Addr) (cdv : Value) (A : Around) (outer : List Env) (s : Shared) (H : Hp) (E : XK) (hr : Room 1 (A.deeper (envOfC "is_row" (defScope (top 9)) s.heap.objs.size f cdv))) :
    PSs (cxOf CX0 P w K mg base N_is_row "is_row" (defScope (top 9)) f cdv A outer s H E).nox (defBody (top 9)) (tS ⟨K, [], 0, fun _ _ _ _ => False⟩ b_is_row) :=
  (x_one (x_ret (e_and (q_isi g.tab g.b_isinstance (a_cons (e_var 0) (a_cons (e_tup (a_cons (e_bty (T := "list") rfl g.b_list PyProof.Rows.boot_list) (a_cons (e_bty (T := "tuple") rfl g.b_tuple PyProof.Rows.boot_tuple) a_nil))) a_nil))) (e_one (q_all g.b_all (a_cons (n_e (n_lc (own := [("part", 1)]) rfl (sc_is_row).nd (i_any (e_var 0)) (by kernel_rfl) (fun s H Cc cl fp => (g_name 1 (sc_is_row).nd)) (fun s H Cc cl fp => ts_nil) (fun s H Cc cl fp => (e_call c_is_integer hr (by decide) rfl (a_cons (e_var 1) a_nil))) (by decide))) a_nil))))))
theorem ok_is_row {P : Program} {w : World} {K : PySem.W.Frag} {mg : Str → Option Value} {base : Heap} (g : Gf K mg) (c_is_integer : C8.Cal P w K mg base 1 "is_integer" (spF K [] fn_is_integer) []) {f : Addr} {fd : FuncData} (F : FunD K "is_row" "is_row" (defArgs (top 9)) (defBody (top 9)) (defScope (top 9)) [] [] f fd) (G : mg "is_row" = some (.ref f)) : C8.Cal P w K mg base 2 "is_row" (spF K [] fn_is_row) [] :=
  ⟨f, fd, ["value"], [], fn_ok (nc := 0) F sc_is_row (fun cdv A outer s H E hr => w_is_row g c_is_integer f cdv A outer s H E hr), G, F.kp, (F.bindsN fun _ _ _ _ _ _ us hl => match us, hl with | [_], _ => rfl), .nil⟩
/-! ### is_within -/
def N_is_within : List Str := ["value", "least", "most"]
theorem sc_is_within : FnScope N_is_within ["value", "least", "most"] (defScope (top 8)) := ⟨rfl, rfl, rfl, by decide +kernel, rfl, by decide +kernel, by decide +kernel⟩
def b_is_within : S := (xSeq (xIf (eOr (eNot (eTest (eCall fn_is_integer (eCons (eVar 0) eNil)))) (eAnd (eTest (eBin fIsNot (eVar 1) (eC .non))) (eTest (eBin fLt (eVar 0) (eVar 1))))) (xRet (eC (.bl false))) xSkip)
  (xRet (eOrV (eBin fIs (eVar 2) (eC .non)) (eBin fLe (eVar 0) (eVar 2)))))
def fn_is_within : List Sl → List Cell → R D := fnB 3 3 0 0 b_is_within
theorem w_is_within {P : Program} {w : World} {K : PySem.W.Frag} {mg : Str → Option Value} {base : Heap} (g : Gf K mg) (c_is_integer : C8.Cal P w K mg base 1 "is_integer" (spF K [] fn_is_integer) []) (f : Addr) (cdv : Value) (A : Around) (outer : List Env) (s : Shared) (H : Hp) (E : XK) (hr : Room 1 (A.deeper (envOfC "is_within" (defScope (top 8)) s.heap.objs.size f cdv))) :
    PSs (cxOf CX0 P w K mg base N_is_within "is_within" (defScope (top 8)) f cdv A outer s H E).nox (defBody (top 8)) (tS ⟨K, [], 0, fun _ _ _ _ => False⟩ b_is_within) :=
  (x_cons (x_if (t_w (w_or (t_not (t_val (e_call c_is_integer hr (by decide) rfl (a_cons (e_var 0) a_nil)))) (w_or1 (t_w (w_and (t_isnot (e_var 1) e_non) (w_and1 (t_lt (e_var 0) (e_var 1)))))))) (x_one (x_ret e_bl)) x_nil)
  (x_one (x_ret (e_or (e_is (e_var 2) e_non) (e_one (e_le (e_var 0) (e_var 2)))))))
theorem ok_is_within {P : Program} {w : World} {K : PySem.W.Frag} {mg : Str → Option Value} {base : Heap} (g : Gf K mg) (c_is_integer : C8.Cal P w K mg base 1 "is_integer" (spF K [] fn_is_integer) []) {f : Addr} {fd : FuncData} (F : FunD K "is_within" "is_within" (defArgs (top 8)) (defBody (top 8)) (defScope (top 8)) [] [] f fd) (G : mg "is_within" = some (.ref f)) : C8.Cal P w K mg base 2 "is_within" (spF K [] fn_is_within) [] :=
  ⟨f, fd, ["value", "least", "most"], [], fn_ok (nc := 0) F sc_is_within (fun cdv A outer s H E hr => w_is_within g c_is_integer f cdv A outer s H E hr), G, F.kp, (F.bindsN fun _ _ _ _ _ _ us hl => match us, hl with | [_, _, _], _ => rfl), .nil⟩
/-! ### Row.__init__ -/
def N_Row_init : List Str := ["self", "marks", "places", "mark"]
theorem sc_Row_init : FnScope N_Row_init ["self", "marks", "places"] (defScope (inC (top 24) 0)) := ⟨rfl, rfl, rfl, by decide +kernel, rfl, by decide +kernel, by decide +kernel⟩
def e1_Row_init : E D := (eCall fn_is_within (eCons (eVar 3) (eCons (eC (.int 0)) (eCons (eBin fSub (eVar 1) (eC (.int 1))) eNil))))
def b_Row_init : S := (xSeq (xIf (eNot (eTest (eCall fn_is_within (eCons (eVar 1) (eCons (eC (.int 2)) (eCons (eC (.int 4)) eNil)))))) xNever xSkip)
  (xSeq (xIf (eOr (eNot (eTest (eCall fn_is_row (eCons (eVar 2) eNil)))) (eNot (eTest (eCh (eC (.int 1)) (chN fLe (eFn fLen (eCons (eVar 2) eNil)) (ch1 fLe (eC (.int 6)))))))) xNever xSkip)
  (xSeq (xIf (eNot (eTest (eFn fAll (eCons (eComp (iAny (eVar 2)) (gV 3) eYes e1_Row_init [3]) eNil)))) xNever xSkip)
  (xSeq (xFld 0 0 cv "marks" (eVar 1))
  (xFld 0 0 cv "places" (eFn fTupleOf (eCons (eVar 2) eNil)))))))
def fn_Row_init : List Sl → List Cell → R D := fnB 3 4 1 1 b_Row_init
theorem w_Row_init {P : Program} {w : World} {K : PySem.W.Frag} {mg : Str → Option Value} {base : Heap} (g : Gf K mg) (c_is_row : C8.Cal P w K mg base 2 "is_row" (spF K [] fn_is_row) []) (c_is_within : C8.Cal P w K mg base 2 "is_within" (spF K [] fn_is_within) []) (f : Addr) (cdv : Value) (A : Around) (outer : List Env) (s : Shared) (H : Hp) (E : XK) (hr : Room 2 (A.deeper (envOfC "Row.__init__" (defScope (inC (top 24) 0)) s.heap.objs.size f cdv))) :
    PSs (cxOf CX0 P w K mg base N_Row_init "Row.__init__" (defScope (inC (top 24) 0)) f cdv A outer s H E).nox (defBody (inC (top 24) 0)) (tS ⟨K, [0], 1, fun _ _ _ _ => False⟩ b_Row_init) :=
  (x_cons (x_if (t_not (t_val (e_call c_is_within hr (by decide) rfl (a_cons (e_var 1) (a_cons (e_gint (i := 2) rfl g.i_FEWEST_MARKS.choose_spec) (a_cons (e_gint (i := 4) rfl g.i_MOST_MARKS.choose_spec) a_nil)))))) xs_never x_nil)
  (x_cons (x_if (t_w (w_or (t_not (t_val (e_call c_is_row hr (by decide) rfl (a_cons (e_var 2) a_nil)))) (w_or1 (t_not (t_chainN e_int (ch_link op_le v_le (q_len g.b_len (a_cons (e_var 2) a_nil)) (ch_last op_le v_le (e_gint (i := 6) rfl g.i_MOST_PLACES.choose_spec)))))))) xs_never x_nil)
  (x_cons (x_if (t_not (t_val (q_all g.b_all (a_cons (n_e (n_lc (own := [("mark", 3)]) rfl (sc_Row_init).nd (i_any (e_var 2)) (by kernel_rfl) (fun s H Cc cl fp => (g_name 3 (sc_Row_init).nd)) (fun s H Cc cl fp => ts_nil) (fun s H Cc cl fp => (e_call c_is_within hr (by decide) rfl (a_cons (e_var 3) (a_cons e_int (a_cons (e_sub (e_var 1) e_int) a_nil))))) (by decide))) a_nil)))) xs_never x_nil)
  (x_cons (x_fld 0 0 g.f_marks (e_var 1))
  (x_one (x_fld 0 0 g.f_places (q_tuple g.b_tuple (a_cons (e_var 2) a_nil))))))))
theorem ok_Row_init {P : Program} {w : World} {K : PySem.W.Frag} {mg : Str → Option Value} {base : Heap} (g : Gf K mg) (c_is_row : C8.Cal P w K mg base 2 "is_row" (spF K [] fn_is_row) []) (c_is_within : C8.Cal P w K mg base 2 "is_within" (spF K [] fn_is_within) []) {f : Addr} {fd : FuncData} (F : FunD K "__init__" "Row.__init__" (defArgs (inC (top 24) 0)) (defBody (inC (top 24) 0)) (defScope (inC (top 24) 0)) [] [] f fd) : FnP P w K mg base 3 f [0] fn_Row_init :=
  FnP.ofOk (ps := ["self", "marks", "places"]) (fn_ok (nc := 1) F sc_Row_init (fun cdv A outer s H E hr => w_Row_init g c_is_row c_is_within f cdv A outer s H E hr)) (F.bindsN fun _ _ _ _ _ _ us hl => match us, hl with | [_, _, _], _ => rfl)
/-! ### _law_draw -/
def N__law_draw : List Str := ["pen", "many", "turn", "cell", "mixed", "rest"]
theorem sc__law_draw : FnScope N__law_draw ["pen", "many"] (defScope (top 43)) := ⟨rfl, rfl, rfl, by decide +kernel, rfl, by decide +kernel, by decide +kernel⟩
def t4__law_draw : S := (xRet (eBin fMod (eFn fInt (eCons (eVar 5) eNil)) (eVar 1)))
def t3__law_draw : S := (xSeq (xPut 0 0 (eBin fDiv (eVar 5) (eVar 1)) (eC (.int 2)))
  t4__law_draw)
def t13__law_draw : S := (xRet (eBin fMod (eFn fInt (eCons (eVar 5) eNil)) (eVar 1)))
def t12__law_draw : S := (xSeq (xPut 0 0 (eBin fDiv (eFn fInt (eCons (eVar 5) eNil)) (eVar 1)) (eC (.int 2)))
  t13__law_draw)
def t16__law_draw : S := (xRet (eBin fMod (eFn fInt (eCons (eBin fDiv (eVar 4) (eC (.int 64))) eNil)) (eVar 1)))
def t15__law_draw : S := (xSeq (xAsg (eBin fMod (eFn fInt (eCons (eBin fPow (eBin fAdd (eBin fAdd (eBin fMul (eVar 4) (eBin fAdd (eBin fMul (eC (.int 2)) (eVar 2)) (eC (.int 6277)))) (eBin fMul (eBin fMul (eC (.int 35175)) (eVar 2)) (eVar 2))) (eC (.int 61183))) (eC (.int 3))) eNil)) (eC (.int 2147483587))) (gV 4))
  t16__law_draw)
def t14__law_draw : S := (xSeq (xAsg (eBin fMod (eFn fInt (eCons (eBin fPow (eBin fAdd (eBin fAdd (eBin fMod (eFn fInt (eCons (eVar 3) eNil)) (eC (.int 2147483549))) (eBin fMul (eC (.int 61183)) (eVar 2))) (eC (.int 8121))) (eC (.int 5))) eNil)) (eC (.int 2147483629))) (gV 4))
  t15__law_draw)
def t10__law_draw : S := (xSeq (xIf (tTr (eAnd (eTest (eBin fLt (eVar 2) (eFn fLen (eCons (eBin fIx (eVar 0) (eC (.int 0))) eNil)))) (eTest (eBin fGe (eFn fAbs (eCons (eVar 3) eNil)) (eBin fPow (eC (.int 10)) (eC (.int 18))))))) (xSeq (xAsg (eBin fAdd (eBin fMul (eC (.int 2)) (eBin fSub (eFn fAbs (eCons (eVar 3) eNil)) (eBin fPow (eC (.int 10)) (eC (.int 18))))) (eFn fInt (eCons (eBin fLt (eVar 3) (eC (.int 0))) eNil))) (gV 5))
  t12__law_draw) xSkip)
  t14__law_draw)
def t8__law_draw : S := (xSeq (xIf (tTr (eTest (eBin fNe (eBin fIx (eVar 0) (eC (.int 0))) (eFn dLst eNil)))) (xAsg (eTr (eBin fIx (eBin fIx (eVar 0) (eC (.int 0))) (eBin fMod (eFn fInt (eCons (eVar 2) eNil)) (eFn fLen (eCons (eBin fIx (eVar 0) (eC (.int 0))) eNil))))) (gV 3)) xSkip)
  t10__law_draw)
def t7__law_draw : S := (xSeq (xAsg (eBin fAdd (eBin fMul (eC (.int 61183)) (eVar 2)) (eC (.int 8121))) (gV 3))
  t8__law_draw)
def t6__law_draw : S := (xSeq (xPut 0 0 (eBin fAdd (eVar 2) (eC (.int 1))) (eC (.int 1)))
  t7__law_draw)
def t5__law_draw : S := (xSeq (xAsg (eCIx 0 0 (eC (.int 1))) (gV 2))
  t6__law_draw)
def b__law_draw : S := (xSeq (xIf (tTr (eTest (eBin fGt (eBin fIx (eVar 0) (eC (.int 2))) (eC (.int 0))))) (xSeq (xAsg (eTr (eFn fInt (eCons (eBin fIx (eVar 0) (eC (.int 2))) eNil))) (gV 5))
  t3__law_draw) xSkip)
  t5__law_draw)
def fn__law_draw : List Sl → List Cell → R D := fnB 2 6 1 1 b__law_draw
theorem w__law_draw {P : Program} {w : World} {K : PySem.W.Frag} {mg : Str → Option Value} {base : Heap} (g : Gf K mg)  (f : Addr) (cdv : Value) (A : Around) (outer : List Env) (s : Shared) (H : Hp) (E : XK) (hr : Room 0 (A.deeper (envOfC "_law_draw" (defScope (top 43)) s.heap.objs.size f cdv))) :
    PSs (cxOf CX0 P w K mg base N__law_draw "_law_draw" (defScope (top 43)) f cdv A outer s H E).nox (defBody (top 43)) (tS ⟨K, [0], 1, fun _ _ _ _ => False⟩ b__law_draw) :=
  (x_cons (x_if (t_tr (t_gt (e_ix (e_var 0) e_int) e_int)) (x_cons (x_set 5 (e_tr (q_int g.b_int (a_cons (e_ix (e_var 0) e_int) a_nil))) (sc__law_draw).nd)
  (x_cons (x_put 0 0 (e_fdiv (e_var 5) (e_var 1)) e_int)
  (x_one (x_ret (e_mod (q_int g.b_int (a_cons (e_var 5) a_nil)) (e_var 1)))))) x_nil)
  (x_cons (x_set 2 (e_cix 0 0 e_int (by exact fun _ _ => rfl)) (sc__law_draw).nd)
  (x_cons (x_put 0 0 (e_add (e_var 2) e_int) e_int)
  (x_cons (x_set 3 (e_add (e_mul e_int (e_var 2)) e_int) (sc__law_draw).nd)
  (x_cons (x_if (t_tr (t_ne (Rm.of hr) (e_ix (e_var 0) e_int) (e_lst a_nil))) (x_one (x_set 3 (e_tr (e_ix (e_ix (e_var 0) e_int) (e_mod (q_int g.b_int (a_cons (e_var 2) a_nil)) (q_len g.b_len (a_cons (e_ix (e_var 0) e_int) a_nil))))) (sc__law_draw).nd)) x_nil)
  (x_cons (x_if (t_tr (t_w (w_and (t_lt (e_var 2) (q_len g.b_len (a_cons (e_ix (e_var 0) e_int) a_nil))) (w_and1 (t_ge (q_abs g.b_abs (a_cons (e_var 3) a_nil)) (e_pow e_int e_int)))))) (x_cons (x_set 5 (e_add (e_mul e_int (e_sub (q_abs g.b_abs (a_cons (e_var 3) a_nil)) (e_pow e_int e_int))) (q_int g.b_int (a_cons (e_lt (e_var 3) e_int) a_nil))) (sc__law_draw).nd)
  (x_cons (x_put 0 0 (e_fdiv (q_int g.b_int (a_cons (e_var 5) a_nil)) (e_var 1)) e_int)
  (x_one (x_ret (e_mod (q_int g.b_int (a_cons (e_var 5) a_nil)) (e_var 1)))))) x_nil)
  (x_cons (x_set 4 (e_mod (q_int g.b_int (a_cons (e_pow (e_add (e_add (e_mod (q_int g.b_int (a_cons (e_var 3) a_nil)) e_int) (e_mul e_int (e_var 2))) e_int) e_int) a_nil)) e_int) (sc__law_draw).nd)
  (x_cons (x_set 4 (e_mod (q_int g.b_int (a_cons (e_pow (e_add (e_add (e_mul (e_var 4) (e_add (e_mul e_int (e_var 2)) e_int)) (e_mul (e_mul e_int (e_var 2)) (e_var 2))) e_int) e_int) a_nil)) e_int) (sc__law_draw).nd)
  (x_one (x_ret (e_mod (q_int g.b_int (a_cons (e_fdiv (e_var 4) e_int) a_nil)) (e_var 1))))))))))))
theorem ok__law_draw {P : Program} {w : World} {K : PySem.W.Frag} {mg : Str → Option Value} {base : Heap} (g : Gf K mg)  {f : Addr} {fd : FuncData} (F : FunD K "_law_draw" "_law_draw" (defArgs (top 43)) (defBody (top 43)) (defScope (top 43)) [] [] f fd) (G : mg "_law_draw" = some (.ref f)) : C8.Cal P w K mg base 1 "_law_draw" (spF K [0] fn__law_draw) [] :=
  ⟨f, fd, ["pen", "many"], [], fn_ok (nc := 1) F sc__law_draw (fun cdv A outer s H E hr => w__law_draw g  f cdv A outer s H E hr), G, F.kp, (F.bindsN fun _ _ _ _ _ _ us hl => match us, hl with | [_, _], _ => rfl), .nil⟩
/-! ### _law_place -/
def N__law_place : List Str := ["pen", "marks", "is_good", "one", "other", "way"]
theorem sc__law_place : FnScope N__law_place ["pen", "marks", "is_good"] (defScope (top 46)) := ⟨rfl, rfl, rfl, by decide +kernel, rfl, by decide +kernel, by decide +kernel⟩
def b__law_place : S := (xSeq (xPar [3, 4, 5] (eCons (eCallC [0] fn__law_draw (asCons (aCell 0 0 0) (asCons (aVal (eVar 1)) asNil))) (eCons (eCallC [0] fn__law_draw (asCons (aCell 0 0 0) (asCons (aVal (eVar 1)) asNil))) (eCons (eCallC [0] fn__law_draw (asCons (aCell 0 0 0) (asCons (aVal (eC (.int 2))) asNil))) eNil))))
  (xSeq (xIf (eNot (eTest (eVar 2))) (xRet (eFn dLst (eCons (eVar 3) (eCons (eVar 4) (eCons (eCallC [0] fn__law_draw (asCons (aCell 0 0 0) (asCons (aVal (eVar 1)) asNil))) (eCons (eCallC [0] fn__law_draw (asCons (aCell 0 0 0) (asCons (aVal (eVar 1)) asNil))) eNil)))))) xSkip)
  (xRet (eIf (eTest (eBin fEq (eVar 5) (eC (.int 0)))) (eFn dLst (eCons (eVar 3) (eCons (eVar 3) (eCons (eVar 4) (eCons (eVar 4) eNil))))) (eFn dLst (eCons (eVar 3) (eCons (eVar 4) (eCons (eVar 3) (eCons (eVar 4) eNil)))))))))
def fn__law_place : List Sl → List Cell → R D := fnB 3 6 1 1 b__law_place
theorem w__law_place {P : Program} {w : World} {K : PySem.W.Frag} {mg : Str → Option Value} {base : Heap} (g : Gf K mg) (c__law_draw : C8.Cal P w K mg base 1 "_law_draw" (spF K [0] fn__law_draw) []) (f : Addr) (cdv : Value) (A : Around) (outer : List Env) (s : Shared) (H : Hp) (E : XK) (hr : Room 1 (A.deeper (envOfC "_law_place" (defScope (top 46)) s.heap.objs.size f cdv))) :
    PSs (cxOf CX0 P w K mg base N__law_place "_law_place" (defScope (top 46)) f cdv A outer s H E).nox (defBody (top 46)) (tS ⟨K, [0], 1, fun _ _ _ _ => False⟩ b__law_place) :=
  (x_cons (x_par3 rfl (sc__law_place).nd (a_cons (e_callC (js := [0]) c__law_draw hr (by decide) rfl (by decide) (as_cell 0 (as_val (e_var 1) as_nil))) (a_cons (e_callC (js := [0]) c__law_draw hr (by decide) rfl (by decide) (as_cell 0 (as_val (e_var 1) as_nil))) (a_cons (e_callC (js := [0]) c__law_draw hr (by decide) rfl (by decide) (as_cell 0 (as_val e_int as_nil))) a_nil))))
  (x_cons (x_if (t_not (t_val (e_var 2))) (x_one (x_ret (e_lst (a_cons (e_var 3) (a_cons (e_var 4) (a_cons (e_callC (js := [0]) c__law_draw hr (by decide) rfl (by decide) (as_cell 0 (as_val (e_var 1) as_nil))) (a_cons (e_callC (js := [0]) c__law_draw hr (by decide) rfl (by decide) (as_cell 0 (as_val (e_var 1) as_nil))) a_nil))))))) x_nil)
  (x_one (x_ret (e_ifExp (t_eq (Rm.of hr) (e_var 5) e_int) (e_lst (a_cons (e_var 3) (a_cons (e_var 3) (a_cons (e_var 4) (a_cons (e_var 4) a_nil))))) (e_lst (a_cons (e_var 3) (a_cons (e_var 4) (a_cons (e_var 3) (a_cons (e_var 4) a_nil))))))))))
theorem ok__law_place {P : Program} {w : World} {K : PySem.W.Frag} {mg : Str → Option Value} {base : Heap} (g : Gf K mg) (c__law_draw : C8.Cal P w K mg base 1 "_law_draw" (spF K [0] fn__law_draw) []) {f : Addr} {fd : FuncData} (F : FunD K "_law_place" "_law_place" (defArgs (top 46)) (defBody (top 46)) (defScope (top 46)) [] [] f fd) (G : mg "_law_place" = some (.ref f)) : C8.Cal P w K mg base 2 "_law_place" (spF K [0] fn__law_place) [] :=
  ⟨f, fd, ["pen", "marks", "is_good"], [], fn_ok (nc := 1) F sc__law_place (fun cdv A outer s H E hr => w__law_place g c__law_draw f cdv A outer s H E hr), G, F.kp, (F.bindsN fun _ _ _ _ _ _ us hl => match us, hl with | [_, _, _], _ => rfl), .nil⟩
/-! ### _law_four -/
def N__law_four : List Str := ["pen", "marks", "many", "way", "spot", "places", "at", "which", "place"]
theorem sc__law_four : FnScope N__law_four ["pen", "marks", "many"] (defScope (top 47)) := ⟨rfl, rfl, rfl, by decide +kernel, rfl, by decide +kernel, by decide +kernel⟩
def e1__law_four : E D := (eCallC [0] fn__law_place (asCons (aCell 0 0 0) (asCons (aVal (eVar 1)) (asCons (aVal (eAndV (eBin fLt (eVar 3) (eC (.int 8))) (eBin fNe (eVar 6) (eVar 4)))) asNil))))
def e2__law_four : E D := (eBin fIx (eVar 8) (eVar 7))
def e3__law_four : E D := (eFn fTupleOf (eCons (eComp (iAny (eVar 5)) (gV 8) eYes e2__law_four [8]) eNil))
def b__law_four : S := (xSeq (xAsg (eCallC [0] fn__law_draw (asCons (aCell 0 0 0) (asCons (aVal (eC (.int 12))) asNil))) (gV 3))
  (xSeq (xAsg (eIf (eTest (eBin fLt (eVar 3) (eC (.int 3)))) (eCallC [0] fn__law_draw (asCons (aCell 0 0 0) (asCons (aVal (eVar 2)) asNil))) (eVar 2)) (gV 4))
  (xSeq (xAsg (eComp (iFn rng1 (eCons (eVar 2) eNil)) (gV 6) eYes e1__law_four [6]) (gV 5))
  (xRet (eComp (iFn rng1 (eCons (eC (.int 4)) eNil)) (gV 7) eYes e3__law_four [7])))))
def fn__law_four : List Sl → List Cell → R D := fnB 3 9 1 1 b__law_four
theorem w__law_four {P : Program} {w : World} {K : PySem.W.Frag} {mg : Str → Option Value} {base : Heap} (g : Gf K mg) (c__law_draw : C8.Cal P w K mg base 1 "_law_draw" (spF K [0] fn__law_draw) []) (c__law_place : C8.Cal P w K mg base 2 "_law_place" (spF K [0] fn__law_place) []) (f : Addr) (cdv : Value) (A : Around) (outer : List Env) (s : Shared) (H : Hp) (E : XK) (hr : Room 2 (A.deeper (envOfC "_law_four" (defScope (top 47)) s.heap.objs.size f cdv))) :
    PSs (cxOf CX0 P w K mg base N__law_four "_law_four" (defScope (top 47)) f cdv A outer s H E).nox (defBody (top 47)) (tS ⟨K, [0], 1, fun _ _ _ _ => False⟩ b__law_four) :=
  (x_cons (x_set 3 (e_callC (js := [0]) c__law_draw hr (by decide) rfl (by decide) (as_cell 0 (as_val e_int as_nil))) (sc__law_four).nd)
  (x_cons (x_set 4 (e_ifExp (t_lt (e_var 3) e_int) (e_callC (js := [0]) c__law_draw hr (by decide) rfl (by decide) (as_cell 0 (as_val (e_var 2) as_nil))) (e_var 2)) (sc__law_four).nd)
  (x_cons (x_set 5 (n_e (n_lc (own := [("at", 6)]) rfl (sc__law_four).nd (i_range1 rfl g.b_range (a_cons (e_var 2) a_nil)) (by kernel_rfl) (fun s H Cc cl fp => (g_name 6 (sc__law_four).nd)) (fun s H Cc cl fp => ts_nil) (fun s H Cc cl fp => (e_callC (js := [0]) c__law_place hr (by decide) rfl (by decide) (as_cell 0 (as_val (e_var 1) (as_val (e_and (e_lt (e_var 3) e_int) (e_one (e_ne (Rm.of hr) (e_var 6) (e_var 4)))) as_nil))))) (by decide))) (sc__law_four).nd)
  (x_one (x_ret (n_e (n_lc (own := [("which", 7)]) rfl (sc__law_four).nd (i_range1 rfl g.b_range (a_cons e_int a_nil)) (by kernel_rfl) (fun s H Cc cl fp => (g_name 7 (sc__law_four).nd)) (fun s H Cc cl fp => ts_nil) (fun s H Cc cl fp => (q_tuple g.b_tuple (a_cons (n_e (n_lc (own := [("place", 8)]) rfl (sc__law_four).nd (i_any (e_var 5)) (by kernel_rfl) (fun s H Cc cl fp => (g_name 8 (sc__law_four).nd)) (fun s H Cc cl fp => ts_nil) (fun s H Cc cl fp => (e_ix (e_var 8) (e_var 7))) (by decide))) a_nil))) (by decide))))))))
theorem ok__law_four {P : Program} {w : World} {K : PySem.W.Frag} {mg : Str → Option Value} {base : Heap} (g : Gf K mg) (c__law_draw : C8.Cal P w K mg base 1 "_law_draw" (spF K [0] fn__law_draw) []) (c__law_place : C8.Cal P w K mg base 2 "_law_place" (spF K [0] fn__law_place) []) {f : Addr} {fd : FuncData} (F : FunD K "_law_four" "_law_four" (defArgs (top 47)) (defBody (top 47)) (defScope (top 47)) [] [] f fd) (G : mg "_law_four" = some (.ref f)) : C8.Cal P w K mg base 3 "_law_four" (spF K [0] fn__law_four) [] :=
  ⟨f, fd, ["pen", "marks", "many"], [], fn_ok (nc := 1) F sc__law_four (fun cdv A outer s H E hr => w__law_four g c__law_draw c__law_place f cdv A outer s H E hr), G, F.kp, (F.bindsN fun _ _ _ _ _ _ us hl => match us, hl with | [_, _, _], _ => rfl), .nil⟩
/-! ### _law_marks -/
def N__law_marks : List Str := ["pen", "marks", "many", "at"]
theorem sc__law_marks : FnScope N__law_marks ["pen", "marks", "many"] (defScope (top 45)) := ⟨rfl, rfl, rfl, by decide +kernel, rfl, by decide +kernel, by decide +kernel⟩
def e1__law_marks : E D := (eCallC [0] fn__law_draw (asCons (aCell 0 0 0) (asCons (aVal (eVar 1)) asNil)))
def b__law_marks : S := (xRet (eFn fTupleOf (eCons (eComp (iFn rng1 (eCons (eVar 2) eNil)) (gV 3) eYes e1__law_marks [3]) eNil)))
def fn__law_marks : List Sl → List Cell → R D := fnB 3 4 1 1 b__law_marks
theorem w__law_marks {P : Program} {w : World} {K : PySem.W.Frag} {mg : Str → Option Value} {base : Heap} (g : Gf K mg) (c__law_draw : C8.Cal P w K mg base 1 "_law_draw" (spF K [0] fn__law_draw) []) (f : Addr) (cdv : Value) (A : Around) (outer : List Env) (s : Shared) (H : Hp) (E : XK) (hr : Room 1 (A.deeper (envOfC "_law_marks" (defScope (top 45)) s.heap.objs.size f cdv))) :
    PSs (cxOf CX0 P w K mg base N__law_marks "_law_marks" (defScope (top 45)) f cdv A outer s H E).nox (defBody (top 45)) (tS ⟨K, [0], 1, fun _ _ _ _ => False⟩ b__law_marks) :=
  (x_one (x_ret (q_tuple g.b_tuple (a_cons (n_e (n_lc (own := [("at", 3)]) rfl (sc__law_marks).nd (i_range1 rfl g.b_range (a_cons (e_var 2) a_nil)) (by kernel_rfl) (fun s H Cc cl fp => (g_name 3 (sc__law_marks).nd)) (fun s H Cc cl fp => ts_nil) (fun s H Cc cl fp => (e_callC (js := [0]) c__law_draw hr (by decide) rfl (by decide) (as_cell 0 (as_val (e_var 1) as_nil)))) (by decide))) a_nil))))
theorem ok__law_marks {P : Program} {w : World} {K : PySem.W.Frag} {mg : Str → Option Value} {base : Heap} (g : Gf K mg) (c__law_draw : C8.Cal P w K mg base 1 "_law_draw" (spF K [0] fn__law_draw) []) {f : Addr} {fd : FuncData} (F : FunD K "_law_marks" "_law_marks" (defArgs (top 45)) (defBody (top 45)) (defScope (top 45)) [] [] f fd) (G : mg "_law_marks" = some (.ref f)) : C8.Cal P w K mg base 2 "_law_marks" (spF K [0] fn__law_marks) [] :=
  ⟨f, fd, ["pen", "marks", "many"], [], fn_ok (nc := 1) F sc__law_marks (fun cdv A outer s H E hr => w__law_marks g c__law_draw f cdv A outer s H E hr), G, F.kp, (F.bindsN fun _ _ _ _ _ _ us hl => match us, hl with | [_, _, _], _ => rfl), .nil⟩
/-! ### _law_pen -/
def N__law_pen : List Str := ["script", "cell"]
theorem sc__law_pen : FnScope N__law_pen ["script"] (defScope (top 42)) := ⟨rfl, rfl, rfl, by decide +kernel, rfl, by decide +kernel, by decide +kernel⟩
def e1__law_pen : E D := (eFn fInt (eCons (eVar 1) eNil))
def b__law_pen : S := (xRetNew (eFnL dispL (eCons (eComp (iAny (eCut (eVar 0) pNone (pSome (eC (.int 63))))) (gV 1) eYes e1__law_pen [1]) (eCons (eC (.int 0)) (eCons (eC (.int 0)) eNil)))))
def fn__law_pen : List Sl → List Cell → R D := fnBN 1 2 0 0 b__law_pen
theorem w__law_pen {P : Program} {w : World} {K : PySem.W.Frag} {mg : Str → Option Value} {base : Heap} (g : Gf K mg)  (f : Addr) (cdv : Value) (A : Around) (outer : List Env) (s : Shared) (H : Hp) (E : XK) (hr : Room 0 (A.deeper (envOfC "_law_pen" (defScope (top 42)) s.heap.objs.size f cdv))) :
    PSs (cxOf CX0 P w K mg base N__law_pen "_law_pen" (defScope (top 42)) f cdv A outer s H E).nox (defBody (top 42)) (tS ⟨K, [], 0, fun _ _ _ _ => False⟩ b__law_pen) :=
  (x_one (x_retNew (n_lst (a_cons (n_e (n_lc (own := [("cell", 1)]) rfl (sc__law_pen).nd (i_any (e_cut (e_var 0) p_none (p_some e_int))) (by kernel_rfl) (fun s H Cc cl fp => (g_name 1 (sc__law_pen).nd)) (fun s H Cc cl fp => ts_nil) (fun s H Cc cl fp => (q_int g.b_int (a_cons (e_var 1) a_nil))) (by decide))) (a_cons e_int (a_cons e_int a_nil))))))
theorem ok__law_pen {P : Program} {w : World} {K : PySem.W.Frag} {mg : Str → Option Value} {base : Heap} (g : Gf K mg)  {f : Addr} {fd : FuncData} (F : FunD K "_law_pen" "_law_pen" (defArgs (top 42)) (defBody (top 42)) (defScope (top 42)) [] [] f fd) (G : mg "_law_pen" = some (.ref f)) : C8.Cal P w K mg base 1 "_law_pen" (spFN K [] fn__law_pen) [] :=
  ⟨f, fd, ["script"], [], fn_okN (nc := 0) F sc__law_pen (fun cdv A outer s H E hr => w__law_pen g  f cdv A outer s H E hr), G, F.kp, (F.bindsN fun _ _ _ _ _ _ us hl => match us, hl with | [_], _ => rfl), .nil⟩
/-! ### _law_pick -/
def N__law_pick : List Str := ["pen", "some"]
theorem sc__law_pick : FnScope N__law_pick ["pen", "some"] (defScope (top 44)) := ⟨rfl, rfl, rfl, by decide +kernel, rfl, by decide +kernel, by decide +kernel⟩
def b__law_pick : S := (xRet (eBin fIx (eVar 1) (eCallC [0] fn__law_draw (asCons (aCell 0 0 0) (asCons (aVal (eFn fLen (eCons (eVar 1) eNil))) asNil)))))
def fn__law_pick : List Sl → List Cell → R D := fnB 2 2 1 1 b__law_pick
theorem w__law_pick {P : Program} {w : World} {K : PySem.W.Frag} {mg : Str → Option Value} {base : Heap} (g : Gf K mg) (c__law_draw : C8.Cal P w K mg base 1 "_law_draw" (spF K [0] fn__law_draw) []) (f : Addr) (cdv : Value) (A : Around) (outer : List Env) (s : Shared) (H : Hp) (E : XK) (hr : Room 1 (A.deeper (envOfC "_law_pick" (defScope (top 44)) s.heap.objs.size f cdv))) :
    PSs (cxOf CX0 P w K mg base N__law_pick "_law_pick" (defScope (top 44)) f cdv A outer s H E).nox (defBody (top 44)) (tS ⟨K, [0], 1, fun _ _ _ _ => False⟩ b__law_pick) :=
  (x_one (x_ret (e_ix (e_var 1) (e_callC (js := [0]) c__law_draw hr (by decide) rfl (by decide) (as_cell 0 (as_val (q_len g.b_len (a_cons (e_var 1) a_nil)) as_nil))))))
theorem ok__law_pick {P : Program} {w : World} {K : PySem.W.Frag} {mg : Str → Option Value} {base : Heap} (g : Gf K mg) (c__law_draw : C8.Cal P w K mg base 1 "_law_draw" (spF K [0] fn__law_draw) []) {f : Addr} {fd : FuncData} (F : FunD K "_law_pick" "_law_pick" (defArgs (top 44)) (defBody (top 44)) (defScope (top 44)) [] [] f fd) (G : mg "_law_pick" = some (.ref f)) : C8.Cal P w K mg base 2 "_law_pick" (spF K [0] fn__law_pick) [] :=
  ⟨f, fd, ["pen", "some"], [], fn_ok (nc := 1) F sc__law_pick (fun cdv A outer s H E hr => w__law_pick g c__law_draw f cdv A outer s H E hr), G, F.kp, (F.bindsN fun _ _ _ _ _ _ us hl => match us, hl with | [_, _], _ => rfl), .nil⟩
/-! ### _law_unlike -/
def N__law_unlike : List Str := ["one", "other", "mine", "its"]
theorem sc__law_unlike : FnScope N__law_unlike ["one", "other"] (defScope (top 48)) := ⟨rfl, rfl, rfl, by decide +kernel, rfl, by decide +kernel, by decide +kernel⟩
def e1__law_unlike : E D := (eC (.int 1))
def c2__law_unlike : E Bool := (eTest (eBin fNe (eVar 2) (eVar 3)))
def b__law_unlike : S := (xRet (eFn fLen (eCons (eComp (iFn zipN (eCons (eVar 0) (eCons (eVar 1) eNil))) (gTp (gCn (gV 2) (gCn (gV 3) gNl))) c2__law_unlike e1__law_unlike [2, 3]) eNil)))
def fn__law_unlike : List Sl → List Cell → R D := fnB 2 4 0 0 b__law_unlike
theorem w__law_unlike {P : Program} {w : World} {K : PySem.W.Frag} {mg : Str → Option Value} {base : Heap} (g : Gf K mg)  (f : Addr) (cdv : Value) (A : Around) (outer : List Env) (s : Shared) (H : Hp) (E : XK) (hr : Room 0 (A.deeper (envOfC "_law_unlike" (defScope (top 48)) s.heap.objs.size f cdv))) :
    PSs (cxOf CX0 P w K mg base N__law_unlike "_law_unlike" (defScope (top 48)) f cdv A outer s H E).nox (defBody (top 48)) (tS ⟨K, [], 0, fun _ _ _ _ => False⟩ b__law_unlike) :=
  (x_one (x_ret (q_len g.b_len (a_cons (n_e (n_lc (own := [("mine", 2), ("its", 3)]) rfl (sc__law_unlike).nd (i_zipN rfl g.b_zip (a_cons (e_var 0) (a_cons (e_var 1) a_nil))) (by kernel_rfl) (fun s H Cc cl fp => (g_tup rfl (gs_cons (g_name 2 (sc__law_unlike).nd) (gs_cons (g_name 3 (sc__law_unlike).nd) gs_nil)) (gCn_len (gCn_len gNl_len)) rfl)) (fun s H Cc cl fp => (ts_one (t_ne (Rm.of hr) (e_var 2) (e_var 3)))) (fun s H Cc cl fp => e_int) (by decide))) a_nil))))
theorem ok__law_unlike {P : Program} {w : World} {K : PySem.W.Frag} {mg : Str → Option Value} {base : Heap} (g : Gf K mg)  {f : Addr} {fd : FuncData} (F : FunD K "_law_unlike" "_law_unlike" (defArgs (top 48)) (defBody (top 48)) (defScope (top 48)) [] [] f fd) (G : mg "_law_unlike" = some (.ref f)) : C8.Cal P w K mg base 1 "_law_unlike" (spF K [] fn__law_unlike) [] :=
  ⟨f, fd, ["one", "other"], [], fn_ok (nc := 0) F sc__law_unlike (fun cdv A outer s H E hr => w__law_unlike g  f cdv A outer s H E hr), G, F.kp, (F.bindsN fun _ _ _ _ _ _ us hl => match us, hl with | [_, _], _ => rfl), .nil⟩
/-! ### fixed -/
def N_fixed : List Str := ["value", "part"]
theorem sc_fixed : FnScope N_fixed ["value"] (defScope (top 2)) := ⟨rfl, rfl, rfl, by decide +kernel, rfl, by decide +kernel, by decide +kernel⟩
def e1_fixed (fx : List Sl → List Cell → R D) : E D := (eCall fx (eCons (eVar 1) eNil))
def b_fixed (fx : List Sl → List Cell → R D) : S := (xSeq (xIf (eNot (eTest (eFn (fIsi tab) (eCons (eVar 0) (eCons (eFn dTup (eCons (eC (.ty "list")) (eCons (eC (.ty "tuple")) eNil))) eNil))))) (xRet (eVar 0)) xSkip)
  (xRet (eFn fTupleOf (eCons (eComp (iAny (eVar 0)) (gV 1) eYes (e1_fixed fx) [1]) eNil))))
def fn_fixed : Nat → List Sl → List Cell → R D
  | 0 => fun _ _ => .no
  | n + 1 => fnB 1 2 0 0 (b_fixed (fn_fixed n))
theorem w_fixed {P : Program} {w : World} {K : PySem.W.Frag} {mg : Str → Option Value} {base : Heap} (g : Gf K mg)  {fx : List Sl → List Cell → R D} {n : Nat} (c_fixed : C8.Cal P w K mg base (0 + n) "fixed" (spF K [] fx) []) (f : Addr) (cdv : Value) (A : Around) (outer : List Env) (s : Shared) (H : Hp) (E : XK) (hr : Room (0 + n) (A.deeper (envOfC "fixed" (defScope (top 2)) s.heap.objs.size f cdv))) :
    PSs (cxOf CX0 P w K mg base N_fixed "fixed" (defScope (top 2)) f cdv A outer s H E).nox (defBody (top 2)) (tS ⟨K, [], 0, fun _ _ _ _ => False⟩ (b_fixed fx)) :=
  (x_cons (x_if (t_not (t_val (q_isi g.tab g.b_isinstance (a_cons (e_var 0) (a_cons (e_tup (a_cons (e_bty (T := "list") rfl g.b_list PyProof.Rows.boot_list) (a_cons (e_bty (T := "tuple") rfl g.b_tuple PyProof.Rows.boot_tuple) a_nil))) a_nil))))) (x_one (x_ret (e_var 0))) x_nil)
  (x_one (x_ret (q_tuple g.b_tuple (a_cons (n_e (n_lc (own := [("part", 1)]) rfl (sc_fixed).nd (i_any (e_var 0)) (by kernel_rfl) (fun s H Cc cl fp => (g_name 1 (sc_fixed).nd)) (fun s H Cc cl fp => ts_nil) (fun s H Cc cl fp => (e_call c_fixed hr (by omega) rfl (a_cons (e_var 1) a_nil))) (by decide))) a_nil)))))
theorem ok_fixed {P : Program} {w : World} {K : PySem.W.Frag} {mg : Str → Option Value} {base : Heap} (g : Gf K mg)  {f : Addr} {fd : FuncData} (F : FunD K "fixed" "fixed" (defArgs (top 2)) (defBody (top 2)) (defScope (top 2)) [] [] f fd) (G : mg "fixed" = some (.ref f)) : ∀ n : Nat, C8.Cal P w K mg base (0 + n) "fixed" (spF K [] (fn_fixed n)) []
  | 0 => ⟨f, fd, ["value"], [], ⟨fun vs H Q E h => (spF_no h).elim, fun A outer s H args us vs Q E hr e0 b r h => (spF_no h).elim⟩, G, F.kp, (F.bindsN fun _ _ _ _ _ _ us hl => match us, hl with | [_], _ => rfl), .nil⟩
  | n + 1 => ⟨f, fd, ["value"], [], fn_ok (nc := 0) F sc_fixed (fun cdv A outer s H E hr => w_fixed g  (ok_fixed g  F G n) f cdv A outer s H E hr), G, F.kp, (F.bindsN fun _ _ _ _ _ _ us hl => match us, hl with | [_], _ => rfl), .nil⟩
/-! ### Paper.__init__ -/
def N_Paper_init : List Str := ["self", "word", "parts"]
theorem sc_Paper_init : FnScope N_Paper_init ["self", "word", "parts"] (defScope (inC (top 3) 0)) := ⟨rfl, rfl, rfl, by decide +kernel, rfl, by decide +kernel, by decide +kernel⟩
def b_Paper_init : S := (xSeq (xFld 0 0 cv "word" (eVar 1))
  (xFld 0 0 cv "parts" (eCall (fn_fixed 4) (eCons (eVar 2) eNil))))
def fn_Paper_init : List Sl → List Cell → R D := starF 2 (fnB 3 3 1 1 b_Paper_init)
theorem w_Paper_init {P : Program} {w : World} {K : PySem.W.Frag} {mg : Str → Option Value} {base : Heap} (g : Gf K mg) (c_fixed : C8.Cal P w K mg base 4 "fixed" (spF K [] (fn_fixed 4)) []) (f : Addr) (cdv : Value) (A : Around) (outer : List Env) (s : Shared) (H : Hp) (E : XK) (hr : Room 4 (A.deeper (envOfC "Paper.__init__" (defScope (inC (top 3) 0)) s.heap.objs.size f cdv))) :
    PSs (cxOf CX0 P w K mg base N_Paper_init "Paper.__init__" (defScope (inC (top 3) 0)) f cdv A outer s H E).nox (defBody (inC (top 3) 0)) (tS ⟨K, [0], 1, fun _ _ _ _ => False⟩ b_Paper_init) :=
  (x_cons (x_fld 0 0 g.f_word (e_var 1))
  (x_one (x_fld 0 0 g.f_parts (e_call c_fixed hr (by decide) rfl (a_cons (e_var 2) a_nil)))))
theorem ok_Paper_init {P : Program} {w : World} {K : PySem.W.Frag} {mg : Str → Option Value} {base : Heap} (g : Gf K mg) (c_fixed : C8.Cal P w K mg base 4 "fixed" (spF K [] (fn_fixed 4)) []) {f : Addr} {fd : FuncData} (F : FunD K "__init__" "Paper.__init__" (defArgs (inC (top 3) 0)) (defBody (inC (top 3) 0)) (defScope (inC (top 3) 0)) [] [] f fd) : FnP P w K mg base 5 f [0] fn_Paper_init :=
  fn_starP (ps := ["self", "word"]) (N := N_Paper_init) F sc_Paper_init (fun _ _ _ _ _ _ us rest hl => match us, hl with | [_, _], _ => by cases rest <;> rfl) (fun cdv A outer s H E hr => w_Paper_init g c_fixed f cdv A outer s H E hr)
/-! ### Fourth.__init__ -/
def N_Fourth_init : List Str := ["self", "row"]
theorem sc_Fourth_init : ScS N_Fourth_init ["self", "row"] (defScope (inC (top 29) 0)) := ⟨rfl, rfl, rfl, by decide +kernel, rfl, by decide +kernel, by decide +kernel, by decide +kernel⟩
def a_Fourth_init : E (List D) := (eCons (eC (.str "fourth")) (eCons (eVar 1) eNil))
def b_Fourth_init : S := (xFld 0 0 cv "row" (eBin fIx (eCFld 0 0 cv "parts") (eC (.int 0))))
def fn_Fourth_init : List Sl → List Cell → R D := fnB 2 2 1 1 (xSup ["Fourth"] fn_Paper_init a_Fourth_init b_Fourth_init)
theorem w_Fourth_init {P : Program} {w : World} {K : PySem.W.Frag} {mg : Str → Option Value} {base : Heap} (g : Gf K mg)  (f : Addr) (cdv : Value) (cc : Addr) (A : Around) (outer : List Env) (s : Shared) (H : Hp) (E : XK) (hr : Room 5 (A.deeper (PySem.W.ksEnv "Fourth.__init__" (defScope (inC (top 29) 0)) s.heap.objs.size f cdv cc))) :
    PA (cxS CX0 P w K mg base N_Fourth_init "Fourth.__init__" (defScope (inC (top 29) 0)) f cdv cc A outer s H E) (superArgs (inC (top 29) 0)) (tA ⟨K, [0], 1, fun _ _ _ _ => False⟩ a_Fourth_init) ∧ PSs (cxS CX0 P w K mg base N_Fourth_init "Fourth.__init__" (defScope (inC (top 29) 0)) f cdv cc A outer s H E) ((defBody (inC (top 29) 0)).drop 1) (tS ⟨K, [0], 1, fun _ _ _ _ => False⟩ b_Fourth_init) :=
  ⟨(a_cons e_str (a_cons (e_var 1) a_nil)),
  (x_one (x_fld 0 0 g.f_row (e_ix (e_cfld 0 0 g.f_parts) e_int)))⟩
theorem ok_Fourth_init {P : Program} {w : World} {K : PySem.W.Frag} {mg : Str → Option Value} {base : Heap} (g : Gf K mg)  (m_Paper_init : FnP P w K mg base 5 (He.ma K (He.ga K "Paper") "__init__") [0] fn_Paper_init) (hfile : P.main.file = PySem.Challenge.pw_fourthlike_k04_how_far_prices_go.main.file) (htop : (P.main.scope.names.lookup ("super" : Str)).isSome = false) (o : (Fc.supT ["Fourth"] "Fourth" "Paper" "__init__").ok K = true) {fd : FuncData} (F : FunS K PySem.Challenge.pw_fourthlike_k04_how_far_prices_go.main.file "__init__" "Fourth.__init__" (defArgs (inC (top 29) 0)) (defBody (inC (top 29) 0)) (defScope (inC (top 29) 0)) (He.ga K "Fourth") (He.ma K (He.ga K "Fourth") "__init__") fd) : FnP P w K mg base 6 (He.ma K (He.ga K "Fourth") "__init__") [0] fn_Fourth_init :=
  FnP.ofOk (ps := ["self", "row"]) (fn_supP (N := N_Fourth_init) F sc_Fourth_init rfl hfile htop g.b_super (by decide) rfl rfl rfl rfl rfl (supT_ok (co := []) o m_Paper_init) (by decide) rfl (fun cdv cc A outer s H E hr => w_Fourth_init g  _ cdv cc A outer s H E hr) (fun _ _ _ => rfl) (fun _ _ _ => rfl) (fun _ _ _ => rfl))
    (FunS.binds F fun _ _ _ _ _ _ _ us hl => match us, hl with | [_, _], _ => rfl)
/-! ### NoFourth.__init__ -/
def N_NoFourth_init : List Str := ["self", "place"]
theorem sc_NoFourth_init : ScS N_NoFourth_init ["self", "place"] (defScope (inC (top 30) 0)) := ⟨rfl, rfl, rfl, by decide +kernel, rfl, by decide +kernel, by decide +kernel, by decide +kernel⟩
def a_NoFourth_init : E (List D) := (eCons (eC (.str "nofourth")) (eCons (eVar 1) eNil))
def b_NoFourth_init : S := (xFld 0 0 cv "place" (eBin fIx (eCFld 0 0 cv "parts") (eC (.int 0))))
def fn_NoFourth_init : List Sl → List Cell → R D := fnB 2 2 1 1 (xSup ["NoFourth"] fn_Paper_init a_NoFourth_init b_NoFourth_init)
theorem w_NoFourth_init {P : Program} {w : World} {K : PySem.W.Frag} {mg : Str → Option Value} {base : Heap} (g : Gf K mg)  (f : Addr) (cdv : Value) (cc : Addr) (A : Around) (outer : List Env) (s : Shared) (H : Hp) (E : XK) (hr : Room 5 (A.deeper (PySem.W.ksEnv "NoFourth.__init__" (defScope (inC (top 30) 0)) s.heap.objs.size f cdv cc))) :
    PA (cxS CX0 P w K mg base N_NoFourth_init "NoFourth.__init__" (defScope (inC (top 30) 0)) f cdv cc A outer s H E) (superArgs (inC (top 30) 0)) (tA ⟨K, [0], 1, fun _ _ _ _ => False⟩ a_NoFourth_init) ∧ PSs (cxS CX0 P w K mg base N_NoFourth_init "NoFourth.__init__" (defScope (inC (top 30) 0)) f cdv cc A outer s H E) ((defBody (inC (top 30) 0)).drop 1) (tS ⟨K, [0], 1, fun _ _ _ _ => False⟩ b_NoFourth_init) :=
  ⟨(a_cons e_str (a_cons (e_var 1) a_nil)),
  (x_one (x_fld 0 0 g.f_place (e_ix (e_cfld 0 0 g.f_parts) e_int)))⟩
theorem ok_NoFourth_init {P : Program} {w : World} {K : PySem.W.Frag} {mg : Str → Option Value} {base : Heap} (g : Gf K mg)  (m_Paper_init : FnP P w K mg base 5 (He.ma K (He.ga K "Paper") "__init__") [0] fn_Paper_init) (hfile : P.main.file = PySem.Challenge.pw_fourthlike_k04_how_far_prices_go.main.file) (htop : (P.main.scope.names.lookup ("super" : Str)).isSome = false) (o : (Fc.supT ["NoFourth"] "NoFourth" "Paper" "__init__").ok K = true) {fd : FuncData} (F : FunS K PySem.Challenge.pw_fourthlike_k04_how_far_prices_go.main.file "__init__" "NoFourth.__init__" (defArgs (inC (top 30) 0)) (defBody (inC (top 30) 0)) (defScope (inC (top 30) 0)) (He.ga K "NoFourth") (He.ma K (He.ga K "NoFourth") "__init__") fd) : FnP P w K mg base 6 (He.ma K (He.ga K "NoFourth") "__init__") [0] fn_NoFourth_init :=
  FnP.ofOk (ps := ["self", "place"]) (fn_supP (N := N_NoFourth_init) F sc_NoFourth_init rfl hfile htop g.b_super (by decide) rfl rfl rfl rfl rfl (supT_ok (co := []) o m_Paper_init) (by decide) rfl (fun cdv cc A outer s H E hr => w_NoFourth_init g  _ cdv cc A outer s H E hr) (fun _ _ _ => rfl) (fun _ _ _ => rfl) (fun _ _ _ => rfl))
    (FunS.binds F fun _ _ _ _ _ _ _ us hl => match us, hl with | [_, _], _ => rfl)
/-! ### fourth_mark -/
def N_fourth_mark : List Str := ["one", "two", "three"]
theorem sc_fourth_mark : FnScope N_fourth_mark ["one", "two", "three"] (defScope (top 35)) := ⟨rfl, rfl, rfl, by decide +kernel, rfl, by decide +kernel, by decide +kernel⟩
def b_fourth_mark : S := (xSeq (xIf (eTest (eBin fEq (eVar 0) (eVar 1))) (xRet (eVar 2)) xSkip)
  (xRet (eIf (eTest (eBin fEq (eVar 0) (eVar 2))) (eVar 1) (eC .non))))
def fn_fourth_mark : List Sl → List Cell → R D := fnB 3 3 0 0 b_fourth_mark
theorem w_fourth_mark {P : Program} {w : World} {K : PySem.W.Frag} {mg : Str → Option Value} {base : Heap} (g : Gf K mg)  (f : Addr) (cdv : Value) (A : Around) (outer : List Env) (s : Shared) (H : Hp) (E : XK) (hr : Room 0 (A.deeper (envOfC "fourth_mark" (defScope (top 35)) s.heap.objs.size f cdv))) :
    PSs (cxOf CX0 P w K mg base N_fourth_mark "fourth_mark" (defScope (top 35)) f cdv A outer s H E).nox (defBody (top 35)) (tS ⟨K, [], 0, fun _ _ _ _ => False⟩ b_fourth_mark) :=
  (x_cons (x_if (t_eq (Rm.of hr) (e_var 0) (e_var 1)) (x_one (x_ret (e_var 2))) x_nil)
  (x_one (x_ret (e_ifExp (t_eq (Rm.of hr) (e_var 0) (e_var 2)) (e_var 1) e_non))))
theorem ok_fourth_mark {P : Program} {w : World} {K : PySem.W.Frag} {mg : Str → Option Value} {base : Heap} (g : Gf K mg)  {f : Addr} {fd : FuncData} (F : FunD K "fourth_mark" "fourth_mark" (defArgs (top 35)) (defBody (top 35)) (defScope (top 35)) [] [] f fd) (G : mg "fourth_mark" = some (.ref f)) : C8.Cal P w K mg base 1 "fourth_mark" (spF K [] fn_fourth_mark) [] :=
  ⟨f, fd, ["one", "two", "three"], [], fn_ok (nc := 0) F sc_fourth_mark (fun cdv A outer s H E hr => w_fourth_mark g  f cdv A outer s H E hr), G, F.kp, (F.bindsN fun _ _ _ _ _ _ us hl => match us, hl with | [_, _, _], _ => rfl), .nil⟩
/-! ### Row.__len__ -/
def N_Row_len : List Str := ["self"]
theorem sc_Row_len : FnScope N_Row_len ["self"] (defScope (inC (top 24) 1)) := ⟨rfl, rfl, rfl, by decide +kernel, rfl, by decide +kernel, by decide +kernel⟩
def b_Row_len : S := (xRet (eFn fLen (eCons (eUn (fFld cv "places") (eVar 0)) eNil)))
def fn_Row_len : List Sl → List Cell → R D := fnB 1 1 0 0 b_Row_len
theorem w_Row_len {P : Program} {w : World} {K : PySem.W.Frag} {mg : Str → Option Value} {base : Heap} (g : Gf K mg)  (f : Addr) (cdv : Value) (A : Around) (outer : List Env) (s : Shared) (H : Hp) (E : XK) (hr : Room 0 (A.deeper (envOfC "Row.__len__" (defScope (inC (top 24) 1)) s.heap.objs.size f cdv))) :
    PSs (cxOf CX0 P w K mg base N_Row_len "Row.__len__" (defScope (inC (top 24) 1)) f cdv A outer s H E).nox (defBody (inC (top 24) 1)) (tS ⟨K, [], 0, fun _ _ _ _ => False⟩ b_Row_len) :=
  (x_one (x_ret (q_len g.b_len (a_cons (e_fld g.f_places (e_var 0)) a_nil))))
theorem ok_Row_len {P : Program} {w : World} {K : PySem.W.Frag} {mg : Str → Option Value} {base : Heap} (g : Gf K mg)  {f : Addr} {fd : FuncData} (F : FunD K "__len__" "Row.__len__" (defArgs (inC (top 24) 1)) (defBody (inC (top 24) 1)) (defScope (inC (top 24) 1)) [] [] f fd) : FnP P w K mg base 1 f [] fn_Row_len :=
  FnP.ofOk (ps := ["self"]) (fn_ok (nc := 0) F sc_Row_len (fun cdv A outer s H E hr => w_Row_len g  f cdv A outer s H E hr)) (F.bindsN fun _ _ _ _ _ _ us hl => match us, hl with | [_], _ => rfl)
/-! ### the table of __len__ -/
abbrev l_len : List (Str × Str) := [("Row", "Row")]
def f_len : Str → Option (List Sl → List Cell → R D) := fun d => if d = "Row" then some fn_Row_len else none
abbrev fb_len : Str → Option (List Sl → List Cell → R D) := ownOf l_len f_len
theorem ok_len {P : Program} {w : World} {K : PySem.W.Frag} {mg : Str → Option Value} {base : Heap} (o : (Fc.ownT l_len "__len__").ok K = true) (m_Row_len : FnP P w K mg base 1 (He.ma K (He.ga K "Row") "__len__") [] fn_Row_len) : OwnT P w K mg base 1 "__len__" fb_len :=
  ownT_ok (l := l_len) (f := f_len) o (fun d g e => by
    unfold f_len at e
    split at e
    · rename_i q; subst q; cases e; exact m_Row_len.mono (by decide)
    cases e)
/-! ### need_alike -/
def N_need_alike : List Str := ["rows", "row"]
theorem sc_need_alike : FnScope N_need_alike ["rows"] (defScope (top 27)) := ⟨rfl, rfl, rfl, by decide +kernel, rfl, by decide +kernel, by decide +kernel⟩
def e1_need_alike : E D := (eBin fNe (eUn (fFld cv "marks") (eVar 1)) (eUn (fFld cv "marks") (eBin fIx (eVar 0) (eC (.int 0)))))
def e2_need_alike : E D := (eBin fNe (eFn (fLenO fb_len) (eCons (eVar 1) eNil)) (eFn (fLenO fb_len) (eCons (eBin fIx (eVar 0) (eC (.int 0))) eNil)))
def b_need_alike : S := (xSeq (xIf (eTest (eFn fAny (eCons (eComp (iAny (eVar 0)) (gV 1) eYes e1_need_alike [1]) eNil))) xNever xSkip)
  (xIf (eTest (eFn fAny (eCons (eComp (iAny (eVar 0)) (gV 1) eYes e2_need_alike [1]) eNil))) xNever xSkip))
def fn_need_alike : List Sl → List Cell → R D := fnB 1 2 0 0 b_need_alike
theorem w_need_alike {P : Program} {w : World} {K : PySem.W.Frag} {mg : Str → Option Value} {base : Heap} (g : Gf K mg) (t_len : OwnT P w K mg base 1 "__len__" fb_len) (f : Addr) (cdv : Value) (A : Around) (outer : List Env) (s : Shared) (H : Hp) (E : XK) (hr : Room 2 (A.deeper (envOfC "need_alike" (defScope (top 27)) s.heap.objs.size f cdv))) :
    PSs (cxOf CX0 P w K mg base N_need_alike "need_alike" (defScope (top 27)) f cdv A outer s H E).nox (defBody (top 27)) (tS ⟨K, [], 0, fun _ _ _ _ => False⟩ b_need_alike) :=
  (x_cons (x_if (t_val (q_any g.b_any (a_cons (n_e (n_lc (own := [("row", 1)]) rfl (sc_need_alike).nd (i_any (e_var 0)) (by kernel_rfl) (fun s H Cc cl fp => (g_name 1 (sc_need_alike).nd)) (fun s H Cc cl fp => ts_nil) (fun s H Cc cl fp => (e_ne (Rm.of hr) (e_fld g.f_marks (e_var 1)) (e_fld g.f_marks (e_ix (e_var 0) e_int)))) (by decide))) a_nil))) xs_never x_nil)
  (x_one (x_if (t_val (q_any g.b_any (a_cons (n_e (n_lc (own := [("row", 1)]) rfl (sc_need_alike).nd (i_any (e_var 0)) (by kernel_rfl) (fun s H Cc cl fp => (g_name 1 (sc_need_alike).nd)) (fun s H Cc cl fp => ts_nil) (fun s H Cc cl fp => (e_ne (Rm.of hr) (q_lenO t_len hr (by decide) g.b_len (a_cons (e_var 1) a_nil)) (q_lenO t_len hr (by decide) g.b_len (a_cons (e_ix (e_var 0) e_int) a_nil)))) (by decide))) a_nil))) xs_never x_nil)))
theorem ok_need_alike {P : Program} {w : World} {K : PySem.W.Frag} {mg : Str → Option Value} {base : Heap} (g : Gf K mg) (t_len : OwnT P w K mg base 1 "__len__" fb_len) {f : Addr} {fd : FuncData} (F : FunD K "need_alike" "need_alike" (defArgs (top 27)) (defBody (top 27)) (defScope (top 27)) [] [] f fd) (G : mg "need_alike" = some (.ref f)) : C8.Cal P w K mg base 3 "need_alike" (spF K [] fn_need_alike) [] :=
  ⟨f, fd, ["rows"], [], fn_ok (nc := 0) F sc_need_alike (fun cdv A outer s H E hr => w_need_alike g t_len f cdv A outer s H E hr), G, F.kp, (F.bindsN fun _ _ _ _ _ _ us hl => match us, hl with | [_], _ => rfl), .nil⟩
/-! ### need_row -/
def N_need_row : List Str := ["value", "part"]
theorem sc_need_row : FnScope N_need_row ["value", "part"] (defScope (top 26)) := ⟨rfl, rfl, rfl, by decide +kernel, rfl, by decide +kernel, by decide +kernel⟩
def b_need_row : S := (xIf (eNot (eTest (eFn (fIsi tab) (eCons (eVar 0) (eCons (eC (.cls "Row")) eNil))))) xNever xSkip)
def fn_need_row : List Sl → List Cell → R D := fnB 2 2 0 0 b_need_row
theorem w_need_row {P : Program} {w : World} {K : PySem.W.Frag} {mg : Str → Option Value} {base : Heap} (g : Gf K mg)  (f : Addr) (cdv : Value) (A : Around) (outer : List Env) (s : Shared) (H : Hp) (E : XK) (hr : Room 0 (A.deeper (envOfC "need_row" (defScope (top 26)) s.heap.objs.size f cdv))) :
    PSs (cxOf CX0 P w K mg base N_need_row "need_row" (defScope (top 26)) f cdv A outer s H E).nox (defBody (top 26)) (tS ⟨K, [], 0, fun _ _ _ _ => False⟩ b_need_row) :=
  (x_one (x_if (t_not (t_val (q_isi g.tab g.b_isinstance (a_cons (e_var 0) (a_cons (e_gcls rfl g.c_Row) a_nil))))) xs_never x_nil))
theorem ok_need_row {P : Program} {w : World} {K : PySem.W.Frag} {mg : Str → Option Value} {base : Heap} (g : Gf K mg)  {f : Addr} {fd : FuncData} (F : FunD K "need_row" "need_row" (defArgs (top 26)) (defBody (top 26)) (defScope (top 26)) [] [] f fd) (G : mg "need_row" = some (.ref f)) : C8.Cal P w K mg base 1 "need_row" (spF K [] fn_need_row) [] :=
  ⟨f, fd, ["value", "part"], [], fn_ok (nc := 0) F sc_need_row (fun cdv A outer s H E hr => w_need_row g  f cdv A outer s H E hr), G, F.kp, (F.bindsN fun _ _ _ _ _ _ us hl => match us, hl with | [_, _], _ => rfl), .nil⟩
/-! ### need_three -/
def N_need_three : List Str := ["a", "b", "c"]
theorem sc_need_three : FnScope N_need_three ["a", "b", "c"] (defScope (top 32)) := ⟨rfl, rfl, rfl, by decide +kernel, rfl, by decide +kernel, by decide +kernel⟩
def b_need_three : S := (xSeq (xExpr (eCall fn_need_row (eCons (eVar 0) (eCons (eC (.str "a")) eNil))))
  (xSeq (xExpr (eCall fn_need_row (eCons (eVar 1) (eCons (eC (.str "b")) eNil))))
  (xSeq (xExpr (eCall fn_need_row (eCons (eVar 2) (eCons (eC (.str "c")) eNil))))
  (xExpr (eCall fn_need_alike (eCons (eFn dLst (eCons (eVar 0) (eCons (eVar 1) (eCons (eVar 2) eNil)))) eNil))))))
def fn_need_three : List Sl → List Cell → R D := fnB 3 3 0 0 b_need_three
theorem w_need_three {P : Program} {w : World} {K : PySem.W.Frag} {mg : Str → Option Value} {base : Heap} (g : Gf K mg) (c_need_alike : C8.Cal P w K mg base 3 "need_alike" (spF K [] fn_need_alike) []) (c_need_row : C8.Cal P w K mg base 1 "need_row" (spF K [] fn_need_row) []) (f : Addr) (cdv : Value) (A : Around) (outer : List Env) (s : Shared) (H : Hp) (E : XK) (hr : Room 3 (A.deeper (envOfC "need_three" (defScope (top 32)) s.heap.objs.size f cdv))) :
    PSs (cxOf CX0 P w K mg base N_need_three "need_three" (defScope (top 32)) f cdv A outer s H E).nox (defBody (top 32)) (tS ⟨K, [], 0, fun _ _ _ _ => False⟩ b_need_three) :=
  (x_cons (x_expr (e_call c_need_row hr (by decide) rfl (a_cons (e_var 0) (a_cons e_str a_nil))))
  (x_cons (x_expr (e_call c_need_row hr (by decide) rfl (a_cons (e_var 1) (a_cons e_str a_nil))))
  (x_cons (x_expr (e_call c_need_row hr (by decide) rfl (a_cons (e_var 2) (a_cons e_str a_nil))))
  (x_one (x_expr (e_call c_need_alike hr (by decide) rfl (a_cons (e_lst (a_cons (e_var 0) (a_cons (e_var 1) (a_cons (e_var 2) a_nil)))) a_nil)))))))
theorem ok_need_three {P : Program} {w : World} {K : PySem.W.Frag} {mg : Str → Option Value} {base : Heap} (g : Gf K mg) (c_need_alike : C8.Cal P w K mg base 3 "need_alike" (spF K [] fn_need_alike) []) (c_need_row : C8.Cal P w K mg base 1 "need_row" (spF K [] fn_need_row) []) {f : Addr} {fd : FuncData} (F : FunD K "need_three" "need_three" (defArgs (top 32)) (defBody (top 32)) (defScope (top 32)) [] [] f fd) (G : mg "need_three" = some (.ref f)) : C8.Cal P w K mg base 4 "need_three" (spF K [] fn_need_three) [] :=
  ⟨f, fd, ["a", "b", "c"], [], fn_ok (nc := 0) F sc_need_three (fun cdv A outer s H E hr => w_need_three g c_need_alike c_need_row f cdv A outer s H E hr), G, F.kp, (F.bindsN fun _ _ _ _ _ _ us hl => match us, hl with | [_, _, _], _ => rfl), .nil⟩
/-! ### fourth_of -/
def N_fourth_of : List Str := ["a", "b", "c", "found", "marks"]
theorem sc_fourth_of : FnScope N_fourth_of ["a", "b", "c"] (defScope (top 36)) := ⟨rfl, rfl, rfl, by decide +kernel, rfl, by decide +kernel, by decide +kernel⟩
def e1_fourth_of : E D := (eCallS fn_fourth_mark (eVar 4))
def b_fourth_of : S := (xSeq (xExpr (eCall fn_need_three (eCons (eVar 0) (eCons (eVar 1) (eCons (eVar 2) eNil)))))
  (xSeq (xAsg (eComp (iFn zipN (eCons (eUn (fFld cv "places") (eVar 0)) (eCons (eUn (fFld cv "places") (eVar 1)) (eCons (eUn (fFld cv "places") (eVar 2)) eNil)))) (gV 4) eYes e1_fourth_of [4]) (gV 3))
  (xRet (eIf (eTest (eBin fIn (eC .non) (eVar 3))) (eMake "NoFourth" fn_NoFourth_init (eCons (eMtT "list" fIndex (eVar 3) (eCons (eC .non) eNil)) eNil)) (eMake "Fourth" fn_Fourth_init (eCons (eMake "Row" fn_Row_init (eCons (eUn (fFld cv "marks") (eVar 0)) (eCons (eVar 3) eNil))) eNil))))))
def fn_fourth_of : List Sl → List Cell → R D := fnB 3 5 0 0 b_fourth_of
theorem w_fourth_of {P : Program} {w : World} {K : PySem.W.Frag} {mg : Str → Option Value} {base : Heap} (g : Gf K mg) (c_fourth_mark : C8.Cal P w K mg base 1 "fourth_mark" (spF K [] fn_fourth_mark) []) (c_need_three : C8.Cal P w K mg base 4 "need_three" (spF K [] fn_need_three) []) (k_Fourth : Mkp P w K mg base 6 "Fourth" [] fn_Fourth_init) (k_NoFourth : Mkp P w K mg base 6 "NoFourth" [] fn_NoFourth_init) (k_Row : Mkp P w K mg base 3 "Row" [] fn_Row_init) (f : Addr) (cdv : Value) (A : Around) (outer : List Env) (s : Shared) (H : Hp) (E : XK) (hr : Room 7 (A.deeper (envOfC "fourth_of" (defScope (top 36)) s.heap.objs.size f cdv))) :
    PSs (cxOf CX0 P w K mg base N_fourth_of "fourth_of" (defScope (top 36)) f cdv A outer s H E).nox (defBody (top 36)) (tS ⟨K, [], 0, fun _ _ _ _ => False⟩ b_fourth_of) :=
  (x_cons (x_expr (e_call c_need_three hr (by decide) rfl (a_cons (e_var 0) (a_cons (e_var 1) (a_cons (e_var 2) a_nil)))))
  (x_cons (x_setLc 3 (own := [("marks", 4)]) rfl (sc_fourth_of).nd (i_zipN rfl g.b_zip (a_cons (e_fld g.f_places (e_var 0)) (a_cons (e_fld g.f_places (e_var 1)) (a_cons (e_fld g.f_places (e_var 2)) a_nil)))) (by kernel_rfl) (fun s H Cc cl fp => (g_name 4 (sc_fourth_of).nd)) (fun s H Cc cl fp => ts_nil) (fun s H Cc cl fp => (e_callS (Cp.of c_fourth_mark) hr (by decide) rfl (e_var 4))) (by decide))
  (x_one (x_ret (e_ifExp (t_in (Rm.of hr) e_non (e_var 3)) (e_make k_NoFourth hr (by decide) rfl (a_cons (q_index (Rm.of hr) (e_var 3) (a_cons e_non a_nil)) a_nil)) (e_make k_Fourth hr (by decide) rfl (a_cons (e_make k_Row hr (by decide) rfl (a_cons (e_fld g.f_marks (e_var 0)) (a_cons (e_var 3) a_nil))) a_nil)))))))
theorem ok_fourth_of {P : Program} {w : World} {K : PySem.W.Frag} {mg : Str → Option Value} {base : Heap} (g : Gf K mg) (c_fourth_mark : C8.Cal P w K mg base 1 "fourth_mark" (spF K [] fn_fourth_mark) []) (c_need_three : C8.Cal P w K mg base 4 "need_three" (spF K [] fn_need_three) []) (k_Fourth : Mkp P w K mg base 6 "Fourth" [] fn_Fourth_init) (k_NoFourth : Mkp P w K mg base 6 "NoFourth" [] fn_NoFourth_init) (k_Row : Mkp P w K mg base 3 "Row" [] fn_Row_init) {f : Addr} {fd : FuncData} (F : FunD K "fourth_of" "fourth_of" (defArgs (top 36)) (defBody (top 36)) (defScope (top 36)) [] [] f fd) (G : mg "fourth_of" = some (.ref f)) : C8.Cal P w K mg base 8 "fourth_of" (spF K [] fn_fourth_of) [] :=
  ⟨f, fd, ["a", "b", "c"], [], fn_ok (nc := 0) F sc_fourth_of (fun cdv A outer s H E hr => w_fourth_of g c_fourth_mark c_need_three k_Fourth k_NoFourth k_Row f cdv A outer s H E hr), G, F.kp, (F.bindsN fun _ _ _ _ _ _ us hl => match us, hl with | [_, _, _], _ => rfl), .nil⟩
/-! ### Nearest.__init__ -/
def N_Nearest_init : List Str := ["self", "price", "choices"]
theorem sc_Nearest_init : ScS N_Nearest_init ["self", "price", "choices"] (defScope (inC (top 31) 0)) := ⟨rfl, rfl, rfl, by decide +kernel, rfl, by decide +kernel, by decide +kernel, by decide +kernel⟩
def a_Nearest_init : E (List D) := (eCons (eC (.str "nearest")) (eCons (eVar 1) (eCons (eVar 2) eNil)))
def b_Nearest_init : S := (xFlds 0 0 cv ["price", "choices"] (eCFld 0 0 cv "parts"))
def fn_Nearest_init : List Sl → List Cell → R D := fnB 3 3 1 1 (xSup ["Nearest"] fn_Paper_init a_Nearest_init b_Nearest_init)
theorem w_Nearest_init {P : Program} {w : World} {K : PySem.W.Frag} {mg : Str → Option Value} {base : Heap} (g : Gf K mg)  (f : Addr) (cdv : Value) (cc : Addr) (A : Around) (outer : List Env) (s : Shared) (H : Hp) (E : XK) (hr : Room 5 (A.deeper (PySem.W.ksEnv "Nearest.__init__" (defScope (inC (top 31) 0)) s.heap.objs.size f cdv cc))) :
    PA (cxS CX0 P w K mg base N_Nearest_init "Nearest.__init__" (defScope (inC (top 31) 0)) f cdv cc A outer s H E) (superArgs (inC (top 31) 0)) (tA ⟨K, [0], 1, fun _ _ _ _ => False⟩ a_Nearest_init) ∧ PSs (cxS CX0 P w K mg base N_Nearest_init "Nearest.__init__" (defScope (inC (top 31) 0)) f cdv cc A outer s H E) ((defBody (inC (top 31) 0)).drop 1) (tS ⟨K, [0], 1, fun _ _ _ _ => False⟩ b_Nearest_init) :=
  ⟨(a_cons e_str (a_cons (e_var 1) (a_cons (e_var 2) a_nil))),
  (x_one (x_flds 0 0 (fa_cons g.f_price (fa_cons g.f_choices fa_nil)) (e_cfld 0 0 g.f_parts)))⟩
theorem ok_Nearest_init {P : Program} {w : World} {K : PySem.W.Frag} {mg : Str → Option Value} {base : Heap} (g : Gf K mg)  (m_Paper_init : FnP P w K mg base 5 (He.ma K (He.ga K "Paper") "__init__") [0] fn_Paper_init) (hfile : P.main.file = PySem.Challenge.pw_fourthlike_k04_how_far_prices_go.main.file) (htop : (P.main.scope.names.lookup ("super" : Str)).isSome = false) (o : (Fc.supT ["Nearest"] "Nearest" "Paper" "__init__").ok K = true) {fd : FuncData} (F : FunS K PySem.Challenge.pw_fourthlike_k04_how_far_prices_go.main.file "__init__" "Nearest.__init__" (defArgs (inC (top 31) 0)) (defBody (inC (top 31) 0)) (defScope (inC (top 31) 0)) (He.ga K "Nearest") (He.ma K (He.ga K "Nearest") "__init__") fd) : FnP P w K mg base 6 (He.ma K (He.ga K "Nearest") "__init__") [0] fn_Nearest_init :=
  FnP.ofOk (ps := ["self", "price", "choices"]) (fn_supP (N := N_Nearest_init) F sc_Nearest_init rfl hfile htop g.b_super (by decide) rfl rfl rfl rfl rfl (supT_ok (co := []) o m_Paper_init) (by decide) rfl (fun cdv cc A outer s H E hr => w_Nearest_init g  _ cdv cc A outer s H E hr) (fun _ _ _ => rfl) (fun _ _ _ => rfl) (fun _ _ _ => rfl))
    (FunS.binds F fun _ _ _ _ _ _ _ us hl => match us, hl with | [_, _, _], _ => rfl)
/-! ### choices_at -/
def N_choices_at : List Str := ["one", "two", "three", "mark"]
theorem sc_choices_at : FnScope N_choices_at ["one", "two", "three"] (defScope (top 39)) := ⟨rfl, rfl, rfl, by decide +kernel, rfl, by decide +kernel, by decide +kernel⟩
def b_choices_at : S := (xSeq (xAsg (eCall fn_fourth_mark (eCons (eVar 0) (eCons (eVar 1) (eCons (eVar 2) eNil)))) (gV 3))
  (xRet (eIf (eTest (eBin fIs (eVar 3) (eC .non))) (eFn fTupleOf (eCons (eFnL fSortDis (eCons (eVar 1) (eCons (eVar 2) eNil))) eNil)) (eFn dTup (eCons (eVar 3) eNil)))))
def fn_choices_at : List Sl → List Cell → R D := fnB 3 4 0 0 b_choices_at
theorem w_choices_at {P : Program} {w : World} {K : PySem.W.Frag} {mg : Str → Option Value} {base : Heap} (g : Gf K mg) (c_fourth_mark : C8.Cal P w K mg base 1 "fourth_mark" (spF K [] fn_fourth_mark) []) (f : Addr) (cdv : Value) (hcd : PySem.W.codeIn K cdv "choices_at" = true) (A : Around) (outer : List Env) (s : Shared) (H : Hp) (E : XK) (hr : Room 1 (A.deeper (envOfC "choices_at" (defScope (top 39)) s.heap.objs.size f cdv))) :
    PSs (cxOf CX0 P w K mg base N_choices_at "choices_at" (defScope (top 39)) f cdv A outer s H E).nox (defBody (top 39)) (tS ⟨K, [], 0, fun _ _ _ _ => False⟩ b_choices_at) :=
  (x_cons (x_set 3 (e_call c_fourth_mark hr (by decide) rfl (a_cons (e_var 0) (a_cons (e_var 1) (a_cons (e_var 2) a_nil)))) (sc_choices_at).nd)
  (x_one (x_ret (e_ifExp (t_is (e_var 3) e_non) (q_tuple g.b_tuple (a_cons (n_e (n_sortDis (kdsOf hcd) rfl rfl g.b_sorted (e_var 1) (e_var 2) PyProof.Rows.boot_sorted)) a_nil)) (e_tup (a_cons (e_var 3) a_nil))))))
theorem ok_choices_at {P : Program} {w : World} {K : PySem.W.Frag} {mg : Str → Option Value} {base : Heap} (g : Gf K mg) (c_fourth_mark : C8.Cal P w K mg base 1 "fourth_mark" (spF K [] fn_fourth_mark) []) {f : Addr} {fd : FuncData} (F : FunD K "choices_at" "choices_at" (defArgs (top 39)) (defBody (top 39)) (defScope (top 39)) [] [] f fd) (G : mg "choices_at" = some (.ref f)) : C8.Cal P w K mg base 2 "choices_at" (spF K [] fn_choices_at) [] :=
  ⟨f, fd, ["one", "two", "three"], [], fn_okC (nc := 0) F sc_choices_at (fun cdv hcd A outer s H E hr => w_choices_at g c_fourth_mark f cdv hcd A outer s H E hr), G, F.kp, (F.bindsN fun _ _ _ _ _ _ us hl => match us, hl with | [_, _, _], _ => rfl), .nil⟩
/-! ### nearest -/
def N_nearest : List Str := ["a", "b", "c", "threes", "many", "marks"]
theorem sc_nearest : FnScope N_nearest ["a", "b", "c"] (defScope (top 40)) := ⟨rfl, rfl, rfl, by decide +kernel, rfl, by decide +kernel, by decide +kernel⟩
def e1_nearest : E D := (eVar 5)
def c2_nearest : E Bool := (eTest (eBin fIs (eCallS fn_fourth_mark (eVar 5)) (eC .non)))
def e3_nearest : E D := (eCallS fn_choices_at (eVar 5))
def b_nearest : S := (xSeq (xExpr (eCall fn_need_three (eCons (eVar 0) (eCons (eVar 1) (eCons (eVar 2) eNil)))))
  (xSeq (xAsg (eFnL zipN (eCons (eUn (fFld cv "places") (eVar 0)) (eCons (eUn (fFld cv "places") (eVar 1)) (eCons (eUn (fFld cv "places") (eVar 2)) eNil)))) (gV 3))
  (xSeq (xAsg (eFn fLen (eCons (eComp (iAny (eVar 3)) (gV 5) c2_nearest e1_nearest [5]) eNil)) (gV 4))
  (xRet (eMake "Nearest" fn_Nearest_init (eCons (eVar 4) (eCons (eComp (iAny (eVar 3)) (gV 5) eYes e3_nearest [5]) eNil)))))))
def fn_nearest : List Sl → List Cell → R D := fnB 3 6 0 0 b_nearest
theorem w_nearest {P : Program} {w : World} {K : PySem.W.Frag} {mg : Str → Option Value} {base : Heap} (g : Gf K mg) (c_choices_at : C8.Cal P w K mg base 2 "choices_at" (spF K [] fn_choices_at) []) (c_fourth_mark : C8.Cal P w K mg base 1 "fourth_mark" (spF K [] fn_fourth_mark) []) (c_need_three : C8.Cal P w K mg base 4 "need_three" (spF K [] fn_need_three) []) (k_Nearest : Mkp P w K mg base 6 "Nearest" [] fn_Nearest_init) (f : Addr) (cdv : Value) (A : Around) (outer : List Env) (s : Shared) (H : Hp) (E : XK) (hr : Room 7 (A.deeper (envOfC "nearest" (defScope (top 40)) s.heap.objs.size f cdv))) :
    PSs (cxOf CX0 P w K mg base N_nearest "nearest" (defScope (top 40)) f cdv A outer s H E).nox (defBody (top 40)) (tS ⟨K, [], 0, fun _ _ _ _ => False⟩ b_nearest) :=
  (x_cons (x_expr (e_call c_need_three hr (by decide) rfl (a_cons (e_var 0) (a_cons (e_var 1) (a_cons (e_var 2) a_nil)))))
  (x_cons (x_set 3 (n_e (n_listZip rfl g.b_list rfl g.b_zip (a_cons (e_fld g.f_places (e_var 0)) (a_cons (e_fld g.f_places (e_var 1)) (a_cons (e_fld g.f_places (e_var 2)) a_nil))))) (sc_nearest).nd)
  (x_cons (x_set 4 (q_len g.b_len (a_cons (n_e (n_lc (own := [("marks", 5)]) rfl (sc_nearest).nd (i_any (e_var 3)) (by kernel_rfl) (fun s H Cc cl fp => (g_name 5 (sc_nearest).nd)) (fun s H Cc cl fp => (ts_one (t_is (e_callS (Cp.of c_fourth_mark) hr (by decide) rfl (e_var 5)) e_non))) (fun s H Cc cl fp => (e_var 5)) (by decide))) a_nil)) (sc_nearest).nd)
  (x_one (x_ret (e_make k_Nearest hr (by decide) rfl (a_cons (e_var 4) (a_cons (n_e (n_lc (own := [("marks", 5)]) rfl (sc_nearest).nd (i_any (e_var 3)) (by kernel_rfl) (fun s H Cc cl fp => (g_name 5 (sc_nearest).nd)) (fun s H Cc cl fp => ts_nil) (fun s H Cc cl fp => (e_callS (Cp.of c_choices_at) hr (by decide) rfl (e_var 5))) (by decide))) a_nil))))))))
theorem ok_nearest {P : Program} {w : World} {K : PySem.W.Frag} {mg : Str → Option Value} {base : Heap} (g : Gf K mg) (c_choices_at : C8.Cal P w K mg base 2 "choices_at" (spF K [] fn_choices_at) []) (c_fourth_mark : C8.Cal P w K mg base 1 "fourth_mark" (spF K [] fn_fourth_mark) []) (c_need_three : C8.Cal P w K mg base 4 "need_three" (spF K [] fn_need_three) []) (k_Nearest : Mkp P w K mg base 6 "Nearest" [] fn_Nearest_init) {f : Addr} {fd : FuncData} (F : FunD K "nearest" "nearest" (defArgs (top 40)) (defBody (top 40)) (defScope (top 40)) [] [] f fd) (G : mg "nearest" = some (.ref f)) : C8.Cal P w K mg base 8 "nearest" (spF K [] fn_nearest) [] :=
  ⟨f, fd, ["a", "b", "c"], [], fn_ok (nc := 0) F sc_nearest (fun cdv A outer s H E hr => w_nearest g c_choices_at c_fourth_mark c_need_three k_Nearest f cdv A outer s H E hr), G, F.kp, (F.bindsN fun _ _ _ _ _ _ us hl => match us, hl with | [_, _, _], _ => rfl), .nil⟩
/-! ### need_four -/
def N_need_four : List Str := ["a", "b", "c", "d"]
theorem sc_need_four : FnScope N_need_four ["a", "b", "c", "d"] (defScope (top 33)) := ⟨rfl, rfl, rfl, by decide +kernel, rfl, by decide +kernel, by decide +kernel⟩
def b_need_four : S := (xSeq (xExpr (eCall fn_need_row (eCons (eVar 0) (eCons (eC (.str "a")) eNil))))
  (xSeq (xExpr (eCall fn_need_row (eCons (eVar 1) (eCons (eC (.str "b")) eNil))))
  (xSeq (xExpr (eCall fn_need_row (eCons (eVar 2) (eCons (eC (.str "c")) eNil))))
  (xSeq (xExpr (eCall fn_need_row (eCons (eVar 3) (eCons (eC (.str "d")) eNil))))
  (xExpr (eCall fn_need_alike (eCons (eFn dLst (eCons (eVar 0) (eCons (eVar 1) (eCons (eVar 2) (eCons (eVar 3) eNil))))) eNil)))))))
def fn_need_four : List Sl → List Cell → R D := fnB 4 4 0 0 b_need_four
theorem w_need_four {P : Program} {w : World} {K : PySem.W.Frag} {mg : Str → Option Value} {base : Heap} (g : Gf K mg) (c_need_alike : C8.Cal P w K mg base 3 "need_alike" (spF K [] fn_need_alike) []) (c_need_row : C8.Cal P w K mg base 1 "need_row" (spF K [] fn_need_row) []) (f : Addr) (cdv : Value) (A : Around) (outer : List Env) (s : Shared) (H : Hp) (E : XK) (hr : Room 3 (A.deeper (envOfC "need_four" (defScope (top 33)) s.heap.objs.size f cdv))) :
    PSs (cxOf CX0 P w K mg base N_need_four "need_four" (defScope (top 33)) f cdv A outer s H E).nox (defBody (top 33)) (tS ⟨K, [], 0, fun _ _ _ _ => False⟩ b_need_four) :=
  (x_cons (x_expr (e_call c_need_row hr (by decide) rfl (a_cons (e_var 0) (a_cons e_str a_nil))))
  (x_cons (x_expr (e_call c_need_row hr (by decide) rfl (a_cons (e_var 1) (a_cons e_str a_nil))))
  (x_cons (x_expr (e_call c_need_row hr (by decide) rfl (a_cons (e_var 2) (a_cons e_str a_nil))))
  (x_cons (x_expr (e_call c_need_row hr (by decide) rfl (a_cons (e_var 3) (a_cons e_str a_nil))))
  (x_one (x_expr (e_call c_need_alike hr (by decide) rfl (a_cons (e_lst (a_cons (e_var 0) (a_cons (e_var 1) (a_cons (e_var 2) (a_cons (e_var 3) a_nil))))) a_nil))))))))
theorem ok_need_four {P : Program} {w : World} {K : PySem.W.Frag} {mg : Str → Option Value} {base : Heap} (g : Gf K mg) (c_need_alike : C8.Cal P w K mg base 3 "need_alike" (spF K [] fn_need_alike) []) (c_need_row : C8.Cal P w K mg base 1 "need_row" (spF K [] fn_need_row) []) {f : Addr} {fd : FuncData} (F : FunD K "need_four" "need_four" (defArgs (top 33)) (defBody (top 33)) (defScope (top 33)) [] [] f fd) (G : mg "need_four" = some (.ref f)) : C8.Cal P w K mg base 4 "need_four" (spF K [] fn_need_four) [] :=
  ⟨f, fd, ["a", "b", "c", "d"], [], fn_ok (nc := 0) F sc_need_four (fun cdv A outer s H E hr => w_need_four g c_need_alike c_need_row f cdv A outer s H E hr), G, F.kp, (F.bindsN fun _ _ _ _ _ _ us hl => match us, hl with | [_, _, _, _], _ => rfl), .nil⟩
/-! ### kind_of -/
def N_kind_of : List Str := ["one", "two", "three", "four", "is_steady", "is_change"]
theorem sc_kind_of : FnScope N_kind_of ["one", "two", "three", "four"] (defScope (top 34)) := ⟨rfl, rfl, rfl, by decide +kernel, rfl, by decide +kernel, by decide +kernel⟩
def b_kind_of : S := (xSeq (xPar [4, 5] (eCons (eAndV (eBin fEq (eVar 0) (eVar 1)) (eBin fEq (eVar 2) (eVar 3))) (eCons (eAndV (eBin fEq (eVar 0) (eVar 2)) (eBin fEq (eVar 1) (eVar 3))) eNil)))
  (xSeq (xIf (eAnd (eTest (eVar 4)) (eTest (eVar 5))) (xRet (eC (.str "both"))) xSkip)
  (xSeq (xIf (eTest (eVar 4)) (xRet (eC (.str "steady"))) xSkip)
  (xRet (eIf (eTest (eVar 5)) (eC (.str "change")) (eC .non))))))
def fn_kind_of : List Sl → List Cell → R D := fnB 4 6 0 0 b_kind_of
theorem w_kind_of {P : Program} {w : World} {K : PySem.W.Frag} {mg : Str → Option Value} {base : Heap} (g : Gf K mg)  (f : Addr) (cdv : Value) (A : Around) (outer : List Env) (s : Shared) (H : Hp) (E : XK) (hr : Room 0 (A.deeper (envOfC "kind_of" (defScope (top 34)) s.heap.objs.size f cdv))) :
    PSs (cxOf CX0 P w K mg base N_kind_of "kind_of" (defScope (top 34)) f cdv A outer s H E).nox (defBody (top 34)) (tS ⟨K, [], 0, fun _ _ _ _ => False⟩ b_kind_of) :=
  (x_cons (x_par2 rfl (sc_kind_of).nd (a_cons (e_and (e_eq (Rm.of hr) (e_var 0) (e_var 1)) (e_one (e_eq (Rm.of hr) (e_var 2) (e_var 3)))) (a_cons (e_and (e_eq (Rm.of hr) (e_var 0) (e_var 2)) (e_one (e_eq (Rm.of hr) (e_var 1) (e_var 3)))) a_nil)))
  (x_cons (x_if (t_w (w_and (t_val (e_var 4)) (w_and1 (t_val (e_var 5))))) (x_one (x_ret e_str)) x_nil)
  (x_cons (x_if (t_val (e_var 4)) (x_one (x_ret e_str)) x_nil)
  (x_one (x_ret (e_ifExp (t_val (e_var 5)) e_str e_non))))))
theorem ok_kind_of {P : Program} {w : World} {K : PySem.W.Frag} {mg : Str → Option Value} {base : Heap} (g : Gf K mg)  {f : Addr} {fd : FuncData} (F : FunD K "kind_of" "kind_of" (defArgs (top 34)) (defBody (top 34)) (defScope (top 34)) [] [] f fd) (G : mg "kind_of" = some (.ref f)) : C8.Cal P w K mg base 1 "kind_of" (spF K [] fn_kind_of) [] :=
  ⟨f, fd, ["one", "two", "three", "four"], [], fn_ok (nc := 0) F sc_kind_of (fun cdv A outer s H E hr => w_kind_of g  f cdv A outer s H E hr), G, F.kp, (F.bindsN fun _ _ _ _ _ _ us hl => match us, hl with | [_, _, _, _], _ => rfl), .nil⟩
/-! ### price_at -/
def N_price_at : List Str := ["one", "two", "three", "four"]
theorem sc_price_at : FnScope N_price_at ["one", "two", "three", "four"] (defScope (top 37)) := ⟨rfl, rfl, rfl, by decide +kernel, rfl, by decide +kernel, by decide +kernel⟩
def b_price_at : S := (xSeq (xIf (eTest (eBin fIsNot (eCall fn_kind_of (eCons (eVar 0) (eCons (eVar 1) (eCons (eVar 2) (eCons (eVar 3) eNil))))) (eC .non))) (xRet (eC (.int 0))) xSkip)
  (xRet (eIf (eOr (eTest (eBin fEq (eVar 0) (eVar 1))) (eOr (eTest (eBin fEq (eVar 2) (eVar 3))) (eOr (eTest (eBin fEq (eVar 0) (eVar 2))) (eTest (eBin fEq (eVar 1) (eVar 3)))))) (eC (.int 1)) (eC (.int 2)))))
def fn_price_at : List Sl → List Cell → R D := fnB 4 4 0 0 b_price_at
theorem w_price_at {P : Program} {w : World} {K : PySem.W.Frag} {mg : Str → Option Value} {base : Heap} (g : Gf K mg) (c_kind_of : C8.Cal P w K mg base 1 "kind_of" (spF K [] fn_kind_of) []) (f : Addr) (cdv : Value) (A : Around) (outer : List Env) (s : Shared) (H : Hp) (E : XK) (hr : Room 1 (A.deeper (envOfC "price_at" (defScope (top 37)) s.heap.objs.size f cdv))) :
    PSs (cxOf CX0 P w K mg base N_price_at "price_at" (defScope (top 37)) f cdv A outer s H E).nox (defBody (top 37)) (tS ⟨K, [], 0, fun _ _ _ _ => False⟩ b_price_at) :=
  (x_cons (x_if (t_isnot (e_call c_kind_of hr (by decide) rfl (a_cons (e_var 0) (a_cons (e_var 1) (a_cons (e_var 2) (a_cons (e_var 3) a_nil))))) e_non) (x_one (x_ret e_int)) x_nil)
  (x_one (x_ret (e_ifExp (t_w (w_or (t_eq (Rm.of hr) (e_var 0) (e_var 1)) (w_or (t_eq (Rm.of hr) (e_var 2) (e_var 3)) (w_or (t_eq (Rm.of hr) (e_var 0) (e_var 2)) (w_or1 (t_eq (Rm.of hr) (e_var 1) (e_var 3))))))) e_int e_int))))
theorem ok_price_at {P : Program} {w : World} {K : PySem.W.Frag} {mg : Str → Option Value} {base : Heap} (g : Gf K mg) (c_kind_of : C8.Cal P w K mg base 1 "kind_of" (spF K [] fn_kind_of) []) {f : Addr} {fd : FuncData} (F : FunD K "price_at" "price_at" (defArgs (top 37)) (defBody (top 37)) (defScope (top 37)) [] [] f fd) (G : mg "price_at" = some (.ref f)) : C8.Cal P w K mg base 2 "price_at" (spF K [] fn_price_at) [] :=
  ⟨f, fd, ["one", "two", "three", "four"], [], fn_ok (nc := 0) F sc_price_at (fun cdv A outer s H E hr => w_price_at g c_kind_of f cdv A outer s H E hr), G, F.kp, (F.bindsN fun _ _ _ _ _ _ us hl => match us, hl with | [_, _, _, _], _ => rfl), .nil⟩
/-! ### price -/
def N_price : List Str := ["a", "b", "c", "d", "marks"]
theorem sc_price : FnScope N_price ["a", "b", "c", "d"] (defScope (top 38)) := ⟨rfl, rfl, rfl, by decide +kernel, rfl, by decide +kernel, by decide +kernel⟩
def e1_price : E D := (eCallS fn_price_at (eVar 4))
def b_price : S := (xSeq (xExpr (eCall fn_need_four (eCons (eVar 0) (eCons (eVar 1) (eCons (eVar 2) (eCons (eVar 3) eNil))))))
  (xRet (eFn fSum (eCons (eComp (iFn zipN (eCons (eUn (fFld cv "places") (eVar 0)) (eCons (eUn (fFld cv "places") (eVar 1)) (eCons (eUn (fFld cv "places") (eVar 2)) (eCons (eUn (fFld cv "places") (eVar 3)) eNil))))) (gV 4) eYes e1_price [4]) eNil))))
def fn_price : List Sl → List Cell → R D := fnB 4 5 0 0 b_price
theorem w_price {P : Program} {w : World} {K : PySem.W.Frag} {mg : Str → Option Value} {base : Heap} (g : Gf K mg) (c_need_four : C8.Cal P w K mg base 4 "need_four" (spF K [] fn_need_four) []) (c_price_at : C8.Cal P w K mg base 2 "price_at" (spF K [] fn_price_at) []) (f : Addr) (cdv : Value) (A : Around) (outer : List Env) (s : Shared) (H : Hp) (E : XK) (hr : Room 4 (A.deeper (envOfC "price" (defScope (top 38)) s.heap.objs.size f cdv))) :
    PSs (cxOf CX0 P w K mg base N_price "price" (defScope (top 38)) f cdv A outer s H E).nox (defBody (top 38)) (tS ⟨K, [], 0, fun _ _ _ _ => False⟩ b_price) :=
  (x_cons (x_expr (e_call c_need_four hr (by decide) rfl (a_cons (e_var 0) (a_cons (e_var 1) (a_cons (e_var 2) (a_cons (e_var 3) a_nil))))))
  (x_one (x_ret (q_sum g.b_sum (a_cons (n_e (n_lc (own := [("marks", 4)]) rfl (sc_price).nd (i_zipN rfl g.b_zip (a_cons (e_fld g.f_places (e_var 0)) (a_cons (e_fld g.f_places (e_var 1)) (a_cons (e_fld g.f_places (e_var 2)) (a_cons (e_fld g.f_places (e_var 3)) a_nil))))) (by kernel_rfl) (fun s H Cc cl fp => (g_name 4 (sc_price).nd)) (fun s H Cc cl fp => ts_nil) (fun s H Cc cl fp => (e_callS (Cp.of c_price_at) hr (by decide) rfl (e_var 4))) (by decide))) a_nil)))))
theorem ok_price {P : Program} {w : World} {K : PySem.W.Frag} {mg : Str → Option Value} {base : Heap} (g : Gf K mg) (c_need_four : C8.Cal P w K mg base 4 "need_four" (spF K [] fn_need_four) []) (c_price_at : C8.Cal P w K mg base 2 "price_at" (spF K [] fn_price_at) []) {f : Addr} {fd : FuncData} (F : FunD K "price" "price" (defArgs (top 38)) (defBody (top 38)) (defScope (top 38)) [] [] f fd) (G : mg "price" = some (.ref f)) : C8.Cal P w K mg base 5 "price" (spF K [] fn_price) [] :=
  ⟨f, fd, ["a", "b", "c", "d"], [], fn_ok (nc := 0) F sc_price (fun cdv A outer s H E hr => w_price g c_need_four c_price_at f cdv A outer s H E hr), G, F.kp, (F.bindsN fun _ _ _ _ _ _ us hl => match us, hl with | [_, _, _, _], _ => rfl), .nil⟩
/-! ### law -/
def N_law : List Str := ["script", "pen", "turn", "told", "mixed", "bent", "near", "far", "best", "last", "prices", "marks", "many", "which", "other", "rows", "changed", "first", "second", "turn_so", "row", "marks_so", "one", "its", "mark"]
theorem sc_law : FnScope N_law ["script"] (defScope (top 49)) := ⟨rfl, rfl, rfl, by decide +kernel, rfl, by decide +kernel, by decide +kernel⟩
def e1_law : E D := (eCallC [0] fn__law_pick (asCons (aCell 1 0 0) (asCons (aVal (eFn dLst (eCons (eVar 22) (eCons (eVar 22) (eCons (eVar 23) eNil))))) asNil)))
def e2_law : E D := (eMake "Row" fn_Row_init (eCons (eVar 11) (eCons (eVar 20) eNil)))
def e3_law : E D := (eMake "Row" fn_Row_init (eCons (eVar 11) (eCons (eVar 20) eNil)))
def e4_law : E D := (eC (.int 1))
def c5_law : E Bool := (eTest (eBin fNotIn (eVar 24) (eVar 21)))
def e6_law : E D := (eCallC [0] fn__law_pick (asCons (aCell 1 0 0) (asCons (aVal (eFnL fListOf (eCons (eVar 21) eNil))) asNil)))
def e7_law : E D := (eMake "Row" fn_Row_init (eCons (eVar 11) (eCons (eCallC [0] fn__law_marks (asCons (aCell 1 0 0) (asCons (aVal (eVar 11)) (asCons (aVal (eVar 12)) asNil)))) eNil)))
def t23_law : S := (xIf (eOr (eTest (eBin fNe (eCall fn_price (eCons (eBin fIx (eVar 15) (eC (.int 0))) (eCons (eBin fIx (eVar 15) (eC (.int 1))) (eCons (eBin fIx (eVar 15) (eC (.int 0))) (eCons (eBin fIx (eVar 15) (eC (.int 1))) eNil))))) (eC (.int 0)))) (eTest (eBin fNe (eCall fn_price (eCons (eBin fIx (eVar 15) (eC (.int 0))) (eCons (eBin fIx (eVar 15) (eC (.int 0))) (eCons (eBin fIx (eVar 9) (eC (.int 0))) (eCons (eBin fIx (eVar 9) (eC (.int 0))) eNil))))) (eC (.int 0))))) (xRet (eC (.bl false))) xSkip)
def t21_law : S := (xSeq (xIf (eOr (eTest (eBin fGt (eBin fIx (eVar 10) (eC (.int 2))) (eBin fAdd (eBin fIx (eVar 10) (eC (.int 0))) (eBin fIx (eVar 10) (eC (.int 1)))))) (eOr (eTest (eBin fGt (eBin fIx (eVar 10) (eC (.int 0))) (eBin fAdd (eBin fIx (eVar 10) (eC (.int 1))) (eBin fIx (eVar 10) (eC (.int 2)))))) (eTest (eBin fGt (eBin fIx (eVar 10) (eC (.int 1))) (eBin fAdd (eBin fIx (eVar 10) (eC (.int 0))) (eBin fIx (eVar 10) (eC (.int 2)))))))) (xRet (eC (.bl false))) xSkip)
  t23_law)
def t20_law : S := (xSeq (xAsg (eFn dLst (eCons (eCall fn_price (eCons (eBin fIx (eVar 15) (eC (.int 0))) (eCons (eBin fIx (eVar 15) (eC (.int 1))) (eCons (eBin fIx (eVar 15) (eC (.int 2))) (eCons (eBin fIx (eVar 15) (eC (.int 3))) eNil))))) (eCons (eCall fn_price (eCons (eBin fIx (eVar 15) (eC (.int 2))) (eCons (eBin fIx (eVar 15) (eC (.int 3))) (eCons (eBin fIx (eVar 9) (eC (.int 0))) (eCons (eBin fIx (eVar 9) (eC (.int 1))) eNil))))) (eCons (eCall fn_price (eCons (eBin fIx (eVar 15) (eC (.int 0))) (eCons (eBin fIx (eVar 15) (eC (.int 1))) (eCons (eBin fIx (eVar 9) (eC (.int 0))) (eCons (eBin fIx (eVar 9) (eC (.int 1))) eNil))))) eNil)))) (gV 10))
  t21_law)
def t19_law : S := (xSeq (xAsg (eComp (iFn rng1 (eCons (eC (.int 2)) eNil)) (gV 19) eYes e7_law [19]) (gV 9))
  t20_law)
def t17_law : S := (xSeq (xIf (eOr (eTest (eBin fNe (eCall fn_price (eCons (eBin fIx (eVar 15) (eC (.int 0))) (eCons (eBin fIx (eVar 15) (eC (.int 1))) (eCons (eBin fIx (eVar 15) (eC (.int 2))) (eCons (eVar 8) eNil))))) (eUn (fFld cv "price") (eVar 6)))) (eOr (eTest (eBin fGt (eUn (fFld cv "price") (eVar 6)) (eVar 12))) (eTest (eBin fNe (eBin fEq (eUn (fFld cv "price") (eVar 6)) (eC (.int 0))) (eFn (fBoolO fb_bool) (eCons (eCall fn_fourth_of (eCons (eBin fIx (eVar 15) (eC (.int 0))) (eCons (eBin fIx (eVar 15) (eC (.int 1))) (eCons (eBin fIx (eVar 15) (eC (.int 2))) eNil)))) eNil)))))) (xRet (eC (.bl false))) xSkip)
  t19_law)
def t16_law : S := (xSeq (xAsg (eMake "Row" fn_Row_init (eCons (eVar 11) (eCons (eComp (iAny (eUn (fFld cv "choices") (eVar 6))) (gV 21) eYes e6_law [21]) eNil))) (gV 8))
  t17_law)
def t14_law : S := (xSeq (xIf (eTest (eBin fNe (eVar 17) (eBin fAdd (eUn (fFld cv "price") (eVar 6)) (eVar 7)))) (xRet (eC (.bl false))) xSkip)
  t16_law)
def t13_law : S := (xSeq (xAsg (eFn fLen (eCons (eComp (iFn zipN (eCons (eBin fIx (eVar 3) (eC (.int 3))) (eCons (eUn (fFld cv "choices") (eVar 6)) eNil))) (gTp (gCn (gV 24) (gCn (gV 21) gNl))) c5_law e4_law [24, 21]) eNil)) (gV 7))
  t14_law)
def t12_law : S := (xSeq (xAsg (eCall fn_nearest (eCons (eBin fIx (eVar 15) (eC (.int 0))) (eCons (eBin fIx (eVar 15) (eC (.int 1))) (eCons (eBin fIx (eVar 15) (eC (.int 2))) eNil)))) (gV 6))
  t13_law)
def t10_law : S := (xSeq (xIf (eOr (eTest (eBin fGt (eFn fAbs (eCons (eBin fSub (eVar 17) (eVar 18)) eNil)) (eCall fn__law_unlike (eCons (eBin fIx (eVar 3) (eVar 13)) (eCons (eVar 4) eNil))))) (eNot (eTest (eCh (eC (.int 0)) (chN fLe (eVar 18) (ch1 fLe (eBin fMul (eC (.int 2)) (eVar 12)))))))) (xRet (eC (.bl false))) xSkip)
  t12_law)
def t9_law : S := (xSeq (xPar [17, 18] (eCons (eCall fn_price (eCons (eBin fIx (eVar 15) (eC (.int 0))) (eCons (eBin fIx (eVar 15) (eC (.int 1))) (eCons (eBin fIx (eVar 15) (eC (.int 2))) (eCons (eBin fIx (eVar 15) (eC (.int 3))) eNil))))) (eCons (eCall fn_price (eCons (eBin fIx (eVar 16) (eC (.int 0))) (eCons (eBin fIx (eVar 16) (eC (.int 1))) (eCons (eBin fIx (eVar 16) (eC (.int 2))) (eCons (eBin fIx (eVar 16) (eC (.int 3))) eNil))))) eNil)))
  t10_law)
def t8_law : S := (xSeq (xPar [15, 16] (eCons (eComp (iAny (eVar 3)) (gV 20) eYes e2_law [20]) (eCons (eComp (iAny (eVar 5)) (gV 20) eYes e3_law [20]) eNil)))
  t9_law)
def t7_law : S := (xSeq (xAsg (eBin fAdd (eBin fAdd (eCut (eVar 3) pNone (pSome (eVar 13))) (eFn dLst (eCons (eVar 4) eNil))) (eCut (eVar 3) (pSome (eBin fAdd (eVar 13) (eC (.int 1)))) pNone)) (gV 5))
  t8_law)
def t6_law : S := (xSeq (xAsg (eFn fTupleOf (eCons (eComp (iFn zipN (eCons (eBin fIx (eVar 3) (eVar 13)) (eCons (eVar 14) eNil))) (gTp (gCn (gV 22) (gCn (gV 23) gNl))) eYes e1_law [22, 23]) eNil)) (gV 4))
  t7_law)
def t5_law : S := (xSeq (xPar [13, 14] (eCons (eCallC [0] fn__law_draw (asCons (aCell 1 0 0) (asCons (aVal (eC (.int 4))) asNil))) (eCons (eCallC [0] fn__law_marks (asCons (aCell 1 0 0) (asCons (aVal (eVar 11)) (asCons (aVal (eVar 12)) asNil)))) eNil)))
  t6_law)
def t4_law : S := (xSeq (xAsg (eCallC [0] fn__law_four (asCons (aCell 1 0 0) (asCons (aVal (eVar 11)) (asCons (aVal (eVar 12)) asNil)))) (gV 3))
  t5_law)
def l8_law : S := (xSeq (xAsg (eFn dTup (eCons (eBin fAdd (eC (.int 2)) (eCallC [0] fn__law_draw (asCons (aCell 1 0 0) (asCons (aVal (eC (.int 3))) asNil)))) (eCons (eBin fAdd (eC (.int 1)) (eCallC [0] fn__law_draw (asCons (aCell 1 0 0) (asCons (aVal (eC (.int 6))) asNil)))) eNil))) (gTp (gCn (gV 11) (gCn (gV 12) gNl))))
  t4_law)
def t25_law : S := (xRet (eC (.bl true)))
def t2_law : S := (xSeq (xFor (iFn rng1 (eCons (eC (.int 8)) eNil)) (gV 2)
  l8_law)
  t25_law)
def b_law : S := (xSeq (xNew 1 0 (eCall fn__law_pen (eCons (eVar 0) eNil)))
  t2_law)
def fn_law : List Sl → List Cell → R D := fnB 1 25 0 1 b_law
theorem w_law {P : Program} {w : World} {K : PySem.W.Frag} {mg : Str → Option Value} {base : Heap} (g : Gf K mg) (c__law_draw : C8.Cal P w K mg base 1 "_law_draw" (spF K [0] fn__law_draw) []) (c__law_four : C8.Cal P w K mg base 3 "_law_four" (spF K [0] fn__law_four) []) (c__law_marks : C8.Cal P w K mg base 2 "_law_marks" (spF K [0] fn__law_marks) []) (c__law_pen : C8.Cal P w K mg base 1 "_law_pen" (spFN K [] fn__law_pen) []) (c__law_pick : C8.Cal P w K mg base 2 "_law_pick" (spF K [0] fn__law_pick) []) (c__law_unlike : C8.Cal P w K mg base 1 "_law_unlike" (spF K [] fn__law_unlike) []) (c_fourth_of : C8.Cal P w K mg base 8 "fourth_of" (spF K [] fn_fourth_of) []) (c_nearest : C8.Cal P w K mg base 8 "nearest" (spF K [] fn_nearest) []) (c_price : C8.Cal P w K mg base 5 "price" (spF K [] fn_price) []) (t_bool : OwnT P w K mg base 1 "__bool__" fb_bool) (k_Row : Mkp P w K mg base 3 "Row" [] fn_Row_init) (f : Addr) (cdv : Value) (A : Around) (outer : List Env) (s : Shared) (H : Hp) (E : XK) (hr : Room 8 (A.deeper (envOfC "law" (defScope (top 49)) s.heap.objs.size f cdv))) :
    PSs (cxOf CX0 P w K mg base N_law "law" (defScope (top 49)) f cdv A outer s H E).nox (defBody (top 49)) (tS ⟨K, [1], 0, fun _ _ _ _ => False⟩ b_law) :=
  (x_cons (x_new 1 0 (n_call c__law_pen hr (by decide) rfl (a_cons (e_var 0) a_nil)) (sc_law).nd)
  (x_cons (x_for PassesOwn.never rfl (i_range1 rfl g.b_range (a_cons e_int a_nil)) (g_name 2 (sc_law).nd)
  (x_cons (x_asg (e_tup (a_cons (e_add e_int (e_callC (js := [0]) c__law_draw hr (by decide) rfl (by decide) (as_cell 1 (as_val e_int as_nil)))) (a_cons (e_add e_int (e_callC (js := [0]) c__law_draw hr (by decide) rfl (by decide) (as_cell 1 (as_val e_int as_nil)))) a_nil))) (g_tup rfl (gs_cons (g_name 11 (sc_law).nd) (gs_cons (g_name 12 (sc_law).nd) gs_nil)) (gCn_len (gCn_len gNl_len)) rfl))
  (x_cons (x_set 3 (e_callC (js := [0]) c__law_four hr (by decide) rfl (by decide) (as_cell 1 (as_val (e_var 11) (as_val (e_var 12) as_nil)))) (sc_law).nd)
  (x_cons (x_par2 rfl (sc_law).nd (a_cons (e_callC (js := [0]) c__law_draw hr (by decide) rfl (by decide) (as_cell 1 (as_val e_int as_nil))) (a_cons (e_callC (js := [0]) c__law_marks hr (by decide) rfl (by decide) (as_cell 1 (as_val (e_var 11) (as_val (e_var 12) as_nil)))) a_nil)))
  (x_cons (x_set 4 (q_tuple g.b_tuple (a_cons (n_e (n_lc (own := [("one", 22), ("its", 23)]) rfl (sc_law).nd (i_zipN rfl g.b_zip (a_cons (e_ix (e_var 3) (e_var 13)) (a_cons (e_var 14) a_nil))) (by kernel_rfl) (fun s H Cc cl fp => (g_tup rfl (gs_cons (g_name 22 (sc_law).nd) (gs_cons (g_name 23 (sc_law).nd) gs_nil)) (gCn_len (gCn_len gNl_len)) rfl)) (fun s H Cc cl fp => ts_nil) (fun s H Cc cl fp => (e_callC (js := [0]) c__law_pick hr (by decide) rfl (by decide) (as_cell 1 (as_val (e_lst (a_cons (e_var 22) (a_cons (e_var 22) (a_cons (e_var 23) a_nil)))) as_nil)))) (by decide))) a_nil)) (sc_law).nd)
  (x_cons (x_set 5 (e_add (e_add (e_cut (e_var 3) p_none (p_some (e_var 13))) (e_lst (a_cons (e_var 4) a_nil))) (e_cut (e_var 3) (p_some (e_add (e_var 13) e_int)) p_none)) (sc_law).nd)
  (x_cons (x_par2 rfl (sc_law).nd (a_cons (n_e (n_lc (own := [("row", 20)]) rfl (sc_law).nd (i_any (e_var 3)) (by kernel_rfl) (fun s H Cc cl fp => (g_name 20 (sc_law).nd)) (fun s H Cc cl fp => ts_nil) (fun s H Cc cl fp => (e_make k_Row hr (by decide) rfl (a_cons (e_var 11) (a_cons (e_var 20) a_nil)))) (by decide))) (a_cons (n_e (n_lc (own := [("row", 20)]) rfl (sc_law).nd (i_any (e_var 5)) (by kernel_rfl) (fun s H Cc cl fp => (g_name 20 (sc_law).nd)) (fun s H Cc cl fp => ts_nil) (fun s H Cc cl fp => (e_make k_Row hr (by decide) rfl (a_cons (e_var 11) (a_cons (e_var 20) a_nil)))) (by decide))) a_nil)))
  (x_cons (x_par2 rfl (sc_law).nd (a_cons (e_call c_price hr (by decide) rfl (a_cons (e_ix (e_var 15) e_int) (a_cons (e_ix (e_var 15) e_int) (a_cons (e_ix (e_var 15) e_int) (a_cons (e_ix (e_var 15) e_int) a_nil))))) (a_cons (e_call c_price hr (by decide) rfl (a_cons (e_ix (e_var 16) e_int) (a_cons (e_ix (e_var 16) e_int) (a_cons (e_ix (e_var 16) e_int) (a_cons (e_ix (e_var 16) e_int) a_nil))))) a_nil)))
  (x_cons (x_if (t_w (w_or (t_gt (q_abs g.b_abs (a_cons (e_sub (e_var 17) (e_var 18)) a_nil)) (e_call c__law_unlike hr (by decide) rfl (a_cons (e_ix (e_var 3) (e_var 13)) (a_cons (e_var 4) a_nil)))) (w_or1 (t_not (t_chainN e_int (ch_link op_le v_le (e_var 18) (ch_last op_le v_le (e_mul e_int (e_var 12))))))))) (x_one (x_ret e_bl)) x_nil)
  (x_cons (x_set 6 (e_call c_nearest hr (by decide) rfl (a_cons (e_ix (e_var 15) e_int) (a_cons (e_ix (e_var 15) e_int) (a_cons (e_ix (e_var 15) e_int) a_nil)))) (sc_law).nd)
  (x_cons (x_set 7 (q_len g.b_len (a_cons (n_e (n_lc (own := [("mark", 24), ("marks_so", 21)]) rfl (sc_law).nd (i_zipN rfl g.b_zip (a_cons (e_ix (e_var 3) e_int) (a_cons (e_fld g.f_choices (e_var 6)) a_nil))) (by kernel_rfl) (fun s H Cc cl fp => (g_tup rfl (gs_cons (g_name 24 (sc_law).nd) (gs_cons (g_name 21 (sc_law).nd) gs_nil)) (gCn_len (gCn_len gNl_len)) rfl)) (fun s H Cc cl fp => (ts_one (t_notin (Rm.of hr) (e_var 24) (e_var 21)))) (fun s H Cc cl fp => e_int) (by decide))) a_nil)) (sc_law).nd)
  (x_cons (x_if (t_ne (Rm.of hr) (e_var 17) (e_add (e_fld g.f_price (e_var 6)) (e_var 7))) (x_one (x_ret e_bl)) x_nil)
  (x_cons (x_set 8 (e_make k_Row hr (by decide) rfl (a_cons (e_var 11) (a_cons (n_e (n_lc (own := [("marks_so", 21)]) rfl (sc_law).nd (i_any (e_fld g.f_choices (e_var 6))) (by kernel_rfl) (fun s H Cc cl fp => (g_name 21 (sc_law).nd)) (fun s H Cc cl fp => ts_nil) (fun s H Cc cl fp => (e_callC (js := [0]) c__law_pick hr (by decide) rfl (by decide) (as_cell 1 (as_val (n_e (q_list g.b_list (a_cons (e_var 21) a_nil))) as_nil)))) (by decide))) a_nil))) (sc_law).nd)
  (x_cons (x_if (t_w (w_or (t_ne (Rm.of hr) (e_call c_price hr (by decide) rfl (a_cons (e_ix (e_var 15) e_int) (a_cons (e_ix (e_var 15) e_int) (a_cons (e_ix (e_var 15) e_int) (a_cons (e_var 8) a_nil))))) (e_fld g.f_price (e_var 6))) (w_or (t_gt (e_fld g.f_price (e_var 6)) (e_var 12)) (w_or1 (t_ne (Rm.of hr) (e_eq (Rm.of hr) (e_fld g.f_price (e_var 6)) e_int) (q_boolO t_bool hr (by decide) g.b_bool (a_cons (e_call c_fourth_of hr (by decide) rfl (a_cons (e_ix (e_var 15) e_int) (a_cons (e_ix (e_var 15) e_int) (a_cons (e_ix (e_var 15) e_int) a_nil)))) a_nil))))))) (x_one (x_ret e_bl)) x_nil)
  (x_cons (x_setLc 9 (own := [("turn_so", 19)]) rfl (sc_law).nd (i_range1 rfl g.b_range (a_cons e_int a_nil)) (by kernel_rfl) (fun s H Cc cl fp => (g_name 19 (sc_law).nd)) (fun s H Cc cl fp => ts_nil) (fun s H Cc cl fp => (e_make k_Row hr (by decide) rfl (a_cons (e_var 11) (a_cons (e_callC (js := [0]) c__law_marks hr (by decide) rfl (by decide) (as_cell 1 (as_val (e_var 11) (as_val (e_var 12) as_nil)))) a_nil)))) (by decide))
  (x_cons (x_set 10 (e_lst (a_cons (e_call c_price hr (by decide) rfl (a_cons (e_ix (e_var 15) e_int) (a_cons (e_ix (e_var 15) e_int) (a_cons (e_ix (e_var 15) e_int) (a_cons (e_ix (e_var 15) e_int) a_nil))))) (a_cons (e_call c_price hr (by decide) rfl (a_cons (e_ix (e_var 15) e_int) (a_cons (e_ix (e_var 15) e_int) (a_cons (e_ix (e_var 9) e_int) (a_cons (e_ix (e_var 9) e_int) a_nil))))) (a_cons (e_call c_price hr (by decide) rfl (a_cons (e_ix (e_var 15) e_int) (a_cons (e_ix (e_var 15) e_int) (a_cons (e_ix (e_var 9) e_int) (a_cons (e_ix (e_var 9) e_int) a_nil))))) a_nil)))) (sc_law).nd)
  (x_cons (x_if (t_w (w_or (t_gt (e_ix (e_var 10) e_int) (e_add (e_ix (e_var 10) e_int) (e_ix (e_var 10) e_int))) (w_or (t_gt (e_ix (e_var 10) e_int) (e_add (e_ix (e_var 10) e_int) (e_ix (e_var 10) e_int))) (w_or1 (t_gt (e_ix (e_var 10) e_int) (e_add (e_ix (e_var 10) e_int) (e_ix (e_var 10) e_int))))))) (x_one (x_ret e_bl)) x_nil)
  (x_one (x_if (t_w (w_or (t_ne (Rm.of hr) (e_call c_price hr (by decide) rfl (a_cons (e_ix (e_var 15) e_int) (a_cons (e_ix (e_var 15) e_int) (a_cons (e_ix (e_var 15) e_int) (a_cons (e_ix (e_var 15) e_int) a_nil))))) e_int) (w_or1 (t_ne (Rm.of hr) (e_call c_price hr (by decide) rfl (a_cons (e_ix (e_var 15) e_int) (a_cons (e_ix (e_var 15) e_int) (a_cons (e_ix (e_var 9) e_int) (a_cons (e_ix (e_var 9) e_int) a_nil))))) e_int)))) (x_one (x_ret e_bl)) x_nil)))))))))))))))))))
  (x_one (x_ret e_bl))))
theorem ok_law {P : Program} {w : World} {K : PySem.W.Frag} {mg : Str → Option Value} {base : Heap} (g : Gf K mg) (c__law_draw : C8.Cal P w K mg base 1 "_law_draw" (spF K [0] fn__law_draw) []) (c__law_four : C8.Cal P w K mg base 3 "_law_four" (spF K [0] fn__law_four) []) (c__law_marks : C8.Cal P w K mg base 2 "_law_marks" (spF K [0] fn__law_marks) []) (c__law_pen : C8.Cal P w K mg base 1 "_law_pen" (spFN K [] fn__law_pen) []) (c__law_pick : C8.Cal P w K mg base 2 "_law_pick" (spF K [0] fn__law_pick) []) (c__law_unlike : C8.Cal P w K mg base 1 "_law_unlike" (spF K [] fn__law_unlike) []) (c_fourth_of : C8.Cal P w K mg base 8 "fourth_of" (spF K [] fn_fourth_of) []) (c_nearest : C8.Cal P w K mg base 8 "nearest" (spF K [] fn_nearest) []) (c_price : C8.Cal P w K mg base 5 "price" (spF K [] fn_price) []) (t_bool : OwnT P w K mg base 1 "__bool__" fb_bool) (k_Row : Mkp P w K mg base 3 "Row" [] fn_Row_init) {f : Addr} {fd : FuncData} (F : FunD K "law" "law" (defArgs (top 49)) (defBody (top 49)) (defScope (top 49)) [] [] f fd) (G : mg "law" = some (.ref f)) : C8.Cal P w K mg base 9 "law" (spF K [1] fn_law) [] :=
  ⟨f, fd, ["script"], [], fn_ok (nc := 1) F sc_law (fun cdv A outer s H E hr => w_law g c__law_draw c__law_four c__law_marks c__law_pen c__law_pick c__law_unlike c_fourth_of c_nearest c_price t_bool k_Row f cdv A outer s H E hr), G, F.kp, (F.bindsN fun _ _ _ _ _ _ us hl => match us, hl with | [_], _ => rfl), .nil⟩
end K04
namespace K04
open PySem PySem.Spec PL
/-! ### rows -/
def rowD (m : Int) (l : List Int) : D := .ins "Row" ["marks", "places"] [.int m, .tup (l.map .int)]
structure RowOk (m : Int) (l : List Int) : Prop where
  lo : 2 ≤ m
  hi : m ≤ 4
  ne : 1 ≤ l.length
  le : l.length ≤ 6
  all : ∀ x ∈ l, 0 ≤ x ∧ x < m
theorem isi_i (i : Int) : fIsi tab [.int i, .ty "int"] = some (.bl true) := by kernel_rfl
theorem isi_b (i : Int) : fIsi tab [.int i, .ty "bool"] = some (.bl false) := by kernel_rfl
theorem isi_t (l : List D) : fIsi tab [.tup l, .tup [.ty "list", .ty "tuple"]] = some (.bl true) := by kernel_rfl
theorem isi_l (l : List D) : fIsi tab [.lst l, .tup [.ty "list", .ty "tuple"]] = some (.bl true) := by kernel_rfl
theorem isi_r (m : Int) (l : List Int) : fIsi tab [rowD m l, .cls "Row"] = some (.bl true) := by kernel_rfl
theorem fld_m (m : Int) (l : List Int) : fFld cv "marks" (rowD m l) = some (.int m) := by kernel_rfl
theorem fld_p (m : Int) (l : List Int) : fFld cv "places" (rowD m l) = some (.tup (l.map .int)) := by kernel_rfl
theorem sp_is_integer (i : Int) : fn_is_integer [.v (.int i)] [] = .ok (.bl true) [] := by
  simp [fn_is_integer, fnB, b_is_integer, isi_i, isi_b]
theorem sp_is_within (i lo hi : Int) : fn_is_within [.v (.int i), .v (.int lo), .v (.int hi)] [] = .ok (.bl (decide (lo ≤ i) && decide (i ≤ hi))) [] := by
  by_cases h1 : i < lo
  · have h2 : ¬ lo ≤ i := by omega
    simp [fn_is_within, fnB, b_is_within, sp_is_integer, fIs, fIsNot, isNon, h1, h2]
  · have h2 : lo ≤ i := by omega
    simp [fn_is_within, fnB, b_is_within, sp_is_integer, fIs, fIsNot, isNon, h1, h2]
/-- a tuple or a list of ints -/
def IsL (d : D) (l : List Int) : Prop := d = .tup (l.map .int) ∨ d = .lst (l.map .int)
theorem IsL.items {d : D} {l : List Int} (h : IsL d l) : itemsOf d = some (l.map .int) := by rcases h with rfl | rfl <;> rfl
theorem IsL.len {d : D} {l : List Int} (h : IsL d l) : fLen [d] = some (.int l.length) := by rcases h with rfl | rfl <;> simp
theorem IsL.tup {d : D} {l : List Int} (h : IsL d l) : fTupleOf [d] = some (.tup (l.map .int)) := by rcases h with rfl | rfl <;> rfl
theorem IsL.isi {d : D} {l : List Int} (h : IsL d l) : fIsi tab [d, .tup [.ty "list", .ty "tuple"]] = some (.bl true) := by
  rcases h with rfl | rfl
  · exact isi_t _
  · exact isi_l _
theorem sp_is_row {d : D} {l : List Int} (h : IsL d l) : fn_is_row [.v d] [] = .ok (.bl true) [] := by
  have c := compGo_on (g := gV 1) (elt := e1_is_row) (ρ := [.v d, .un]) (p := []) D.int (fun _ => .bl true) (ks := l) fun k hk => ⟨_, by simp; rfl, by simp [e1_is_row, sp_is_integer]⟩
  have a := all_on (fun _ : Int => true) l
  simp only [fn_is_row, fnB_at]
  simp [b_is_row, h.isi, h.items, c, a]
theorem put_p (x y : D) : putD "places" x ["marks"] [y] = ((["marks", "places"] : List Str), [y, x]) := by kernel_rfl
theorem put_m (x : D) : putD "marks" x [] [] = ((["marks"] : List Str), [x]) := by kernel_rfl
theorem sp_Row {m : Int} {l : List Int} {d : D} (R : RowOk m l) (h : IsL d l) : fn_Row_init [.cell 0, .v (.int m), .v d] [some (.ins "Row" [] [])] = .ok .non [some (rowD m l)] := by
  obtain ⟨lo, hi, ne, le, al⟩ := R
  have c := compGo_on (g := gV 3) (elt := e1_Row_init) (ρ := [.cell 0, .v (.int m), .v d, .un]) (p := [some (.ins "Row" [] [])]) D.int (fun k => .bl (decide (0 ≤ k) && decide (k ≤ m - 1))) (ks := l) fun k hk => ⟨_, by simp; rfl, by simp [e1_Row_init, sp_is_within]⟩
  have a := all_on (fun k : Int => decide (0 ≤ k) && decide (k ≤ m - 1)) l
  have a2 : (l.all fun k => decide (0 ≤ k) && decide (k ≤ m - 1)) = true := List.all_eq_true.mpr fun x hx => by
    have := al x hx
    simp; omega
  rw [a2] at a
  have w := sp_is_within m 2 4
  have l1 : (1 : Int) ≤ l.length := by omega
  have l2 : (l.length : Int) ≤ 6 := by omega
  have e : rowD m l = .ins "Row" ["marks", "places"] [.int m, .tup (l.map .int)] := rfl
  simp only [fn_Row_init, fnB_at]
  simp [b_Row_init, w, lo, hi, sp_is_row h, h.len, h.items, l1, l2, c, a, h.tup, put_m, put_p, e]
theorem fb_row : fb_len "Row" = some fn_Row_len := by kernel_rfl
theorem ap_row (m : Int) (l : List Int) : ap fn_Row_len [rowD m l] = some (.int l.length) := by
  unfold ap
  simp [fn_Row_len, fnB, b_Row_len, fld_p]
theorem len_row (m : Int) (l : List Int) (h : l.length ≤ 1000) : fLenO fb_len [rowD m l] = some (.int l.length) := lenO_ins fb_row (ap_row m l) h
theorem ix_0 (a : D) (t : List D) : fIx (.lst (a :: t)) (.int 0) = some a := by
  show L2.atI (a :: t) ((0 : Nat) : Int) = _
  exact L2.atI_nat rfl
theorem sp_need_row (m : Int) (l : List Int) (d : D) : fn_need_row [.v (rowD m l), .v d] [] = .ok .non [] := by
  simp [fn_need_row, fnB, b_need_row, isi_r]
end K04
namespace K04
open PySem PySem.Spec PL
theorem al_0 (F : List D → Option D) (m : Int) (l0 k : List Int) (T : List D) (q1 : F [rowD m k] = some (.int l0.length)) (q2 : F [rowD m l0] = some (.int l0.length)) :
    (eBin fNe (eFn F (eCons (eVar 1) eNil)) (eFn F (eCons (eBin fIx (eVar 0) (eC (.int 0))) eNil))) [.v (.lst (rowD m l0 :: T)), .v (rowD m k)] [] = .ok (.bl false) [] := by
  simp [ix_0, q1, q2]
theorem al_1 (m : Int) (l0 k : List Int) (T : List D) : e1_need_alike [.v (.lst (rowD m l0 :: T)), .v (rowD m k)] [] = .ok (.bl false) [] := by
  simp [e1_need_alike, ix_0, fld_m]
theorem al_2 (m : Int) (l0 k : List Int) (T : List D) (h : k.length = l0.length) (h1 : l0.length ≤ 1000) : e2_need_alike [.v (.lst (rowD m l0 :: T)), .v (rowD m k)] [] = .ok (.bl false) [] := by
  have q1 := len_row m k (Nat.le_trans (Nat.le_of_eq h) h1)
  have q2 := len_row m l0 h1
  have q3 : fLenO fb_len [rowD m k] = some (.int l0.length) := by rw [q1, h]
  unfold e2_need_alike
  exact al_0 (fLenO fb_len) m l0 k T q3 q2
theorem al_c (E : E D) (m : Int) (X : List D) (ks : List (List Int)) (h : ∀ k ∈ ks, E [.v (.lst X), .v (rowD m k)] [] = .ok (.bl false) []) : compGo (gV 1) eYes E [.v (.lst X), .un] (ks.map (rowD m)) [] = .ok (ks.map fun _ => .bl false) [] :=
  compGo_on (rowD m) (fun _ => .bl false) fun k hk => ⟨[.v (.lst X), .v (rowD m k)], rfl, h k hk⟩
theorem al_s (E1 E2 : E D) (X Y : List D) (c1 : compGo (gV 1) eYes E1 [.v (.lst X), .un] X [] = .ok Y []) (c2 : compGo (gV 1) eYes E2 [.v (.lst X), .un] X [] = .ok Y []) (a : fAny [.lst Y] = some (.bl false)) :
    fnB 1 2 0 0 (xSeq (xIf (eTest (eFn fAny (eCons (eComp (iAny (eVar 0)) (gV 1) eYes E1 [1]) eNil))) xNever xSkip) (xIf (eTest (eFn fAny (eCons (eComp (iAny (eVar 0)) (gV 1) eYes E2 [1]) eNil))) xNever xSkip)) [.v (.lst X)] [] = .ok .non [] := by
  simp only [fnB_at]
  simp [c1, c2, a]
theorem sp_need_alike (m : Int) (n : Nat) (hn : n ≤ 1000) (l0 : List Int) (ls : List (List Int)) (h0 : l0.length = n) (h : ∀ l ∈ ls, l.length = n) : fn_need_alike [.v (.lst (rowD m l0 :: ls.map (rowD m)))] [] = .ok .non [] := by
  have hk' : ∀ k ∈ l0 :: ls, k.length = l0.length := fun k hk => by
    rcases List.mem_cons.mp hk with rfl | hk
    · rfl
    · rw [h0]; exact h k hk
  have hl : l0.length ≤ 1000 := by rw [h0]; exact hn
  have c1 := al_c e1_need_alike m (rowD m l0 :: ls.map (rowD m)) (l0 :: ls) fun k hk => al_1 m l0 k _
  have c2 := al_c e2_need_alike m (rowD m l0 :: ls.map (rowD m)) (l0 :: ls) fun k hk => al_2 m l0 k _ (hk' k hk) hl
  have a := any_on (fun _ : List Int => false) (l0 :: ls)
  have a2 : ((l0 :: ls).any fun _ => false) = false := by simp
  rw [a2] at a
  rw [List.map_cons (f := rowD m)] at c1 c2
  exact al_s e1_need_alike e2_need_alike _ _ c1 c2 a
theorem sp_need_three (m : Int) (a b c : List Int) (h1 : a.length ≤ 1000) (h2 : b.length = a.length) (h3 : c.length = a.length) : fn_need_three [.v (rowD m a), .v (rowD m b), .v (rowD m c)] [] = .ok .non [] := by
  have q := sp_need_alike m a.length h1 a [b, c] rfl (by simp [h2, h3])
  simp only [List.map_cons, List.map_nil] at q
  simp only [fn_need_three, fnB_at]
  simp [b_need_three, sp_need_row, q]
theorem sp_need_four (m : Int) (a b c d : List Int) (h1 : a.length ≤ 1000) (h2 : b.length = a.length) (h3 : c.length = a.length) (h4 : d.length = a.length) : fn_need_four [.v (rowD m a), .v (rowD m b), .v (rowD m c), .v (rowD m d)] [] = .ok .non [] := by
  have q := sp_need_alike m a.length h1 a [b, c, d] rfl (by simp [h2, h3, h4])
  simp only [List.map_cons, List.map_nil] at q
  simp only [fn_need_four, fnB_at]
  simp [b_need_four, sp_need_row, q]
/-! ### marks at a place -/
def p4 (w x y z : Int) : Int := if (w = x ∧ y = z) ∨ (w = y ∧ x = z) then 0 else if w = x ∨ y = z ∨ w = y ∨ x = z then 1 else 2
def fm (w x y : Int) : Option Int := if w = x then some y else if w = y then some x else none
def ch (w x y : Int) : List Int := match fm w x y with
  | some z => [z]
  | none => sortI (dedupI [x, y])
def optD : Option Int → D
  | some z => .int z
  | none => .non
theorem sp_fourth_mark (w x y : Int) : fn_fourth_mark [.v (.int w), .v (.int x), .v (.int y)] [] = .ok (optD (fm w x y)) [] := by
  unfold fm
  by_cases h1 : w = x
  · simp [fn_fourth_mark, fnB, b_fourth_mark, h1, optD]
  · by_cases h2 : w = y
    · subst h2
      simp [fn_fourth_mark, fnB, b_fourth_mark, h1, optD]
    · simp [fn_fourth_mark, fnB, b_fourth_mark, h1, h2, optD]
def kindD (w x y z : Int) : D := if w = x ∧ y = z then (if w = y ∧ x = z then .str "both" else .str "steady") else (if w = y ∧ x = z then .str "change" else .non)
theorem sp_kind_of (w x y z : Int) : fn_kind_of [.v (.int w), .v (.int x), .v (.int y), .v (.int z)] [] = .ok (kindD w x y z) [] := by
  unfold kindD
  simp only [fn_kind_of, fnB_at]
  by_cases h1 : w = x <;> by_cases h2 : y = z <;> by_cases h3 : w = y <;> by_cases h4 : x = z <;> simp [b_kind_of, h1, h2, h3, h4] <;> (try omega) <;> simp_all
theorem sp_price_at (w x y z : Int) : fn_price_at [.v (.int w), .v (.int x), .v (.int y), .v (.int z)] [] = .ok (.int (p4 w x y z)) [] := by
  have k := sp_kind_of w x y z
  simp only [fn_price_at, fnB_at]
  unfold p4
  by_cases h : (w = x ∧ y = z) ∨ (w = y ∧ x = z)
  · have hk : ∃ s, kindD w x y z = .str s := by
      unfold kindD
      by_cases h1 : w = x ∧ y = z
      · rw [if_pos h1]
        by_cases h2 : w = y ∧ x = z
        · rw [if_pos h2]; exact ⟨_, rfl⟩
        · rw [if_neg h2]; exact ⟨_, rfl⟩
      · rw [if_neg h1, if_pos (h.resolve_left h1)]; exact ⟨_, rfl⟩
    obtain ⟨s, hs⟩ := hk
    rw [hs] at k
    simp [b_price_at, k, h, fIsNot, isNon]
  · have hk : kindD w x y z = .non := by
      unfold kindD
      rw [if_neg (fun q => h (.inl q)), if_neg (fun q => h (.inr q))]
    rw [hk] at k
    rw [if_neg h]
    by_cases h1 : w = x <;> by_cases h2 : y = z <;> by_cases h3 : w = y <;> by_cases h4 : x = z <;> simp [b_price_at, k, fIsNot, isNon, h1, h2, h3, h4] <;> simp_all
end K04
namespace K04
open PySem PySem.Spec PL
def pr (a b c d : List Int) : Int := ((t4 a b c d).map fun q => p4 q.1 q.2.1 q.2.2.1 q.2.2.2).sum
theorem sp_price (m : Int) (a b c d : List Int) (h1 : a.length ≤ 1000) (h2 : b.length = a.length) (h3 : c.length = a.length) (h4 : d.length = a.length) : fn_price [.v (rowD m a), .v (rowD m b), .v (rowD m c), .v (rowD m d)] [] = .ok (.int (pr a b c d)) [] := by
  have n := sp_need_four m a b c d h1 h2 h3 h4
  have z := zipN_4 D.int a b c d (x := .tup (a.map .int)) (y := .tup (b.map .int)) (z := .tup (c.map .int)) (w := .tup (d.map .int)) rfl rfl rfl rfl
  have k := compGo_on (g := gV 4) (elt := e1_price) (ρ := [.v (rowD m a), .v (rowD m b), .v (rowD m c), .v (rowD m d), .un]) (p := []) (fun q : Int × Int × Int × Int => D.tup [.int q.1, .int q.2.1, .int q.2.2.1, .int q.2.2.2]) (fun q => .int (p4 q.1 q.2.1 q.2.2.1 q.2.2.2)) (ks := t4 a b c d) fun q hq =>
    ⟨[.v (rowD m a), .v (rowD m b), .v (rowD m c), .v (rowD m d), .v (.tup [.int q.1, .int q.2.1, .int q.2.2.1, .int q.2.2.2])], rfl, by simp [e1_price, sp_price_at]⟩
  have s := sum_on (fun q : Int × Int × Int × Int => p4 q.1 q.2.1 q.2.2.1 q.2.2.2) (t4 a b c d)
  simp only [fn_price, fnB_at]
  simp [b_price, n, fld_p, z, k, s, pr]
theorem sp_choices_at (w x y : Int) : fn_choices_at [.v (.int w), .v (.int x), .v (.int y)] [] = .ok (.tup ((ch w x y).map .int)) [] := by
  have f := sp_fourth_mark w x y
  unfold ch
  cases h : fm w x y with
  | none =>
    rw [h] at f
    have f' : fn_fourth_mark [.v (.int w), .v (.int x), .v (.int y)] [] = .ok .non [] := f
    simp only [fn_choices_at, fnB_at]
    simp [b_choices_at, f', fIs, isNon, fSortDis]
  | some z =>
    rw [h] at f
    have f' : fn_fourth_mark [.v (.int w), .v (.int x), .v (.int y)] [] = .ok (.int z) [] := f
    simp only [fn_choices_at, fnB_at]
    simp [b_choices_at, f', fIs, isNon]
/-! ### what is told -/
def nearD (p : Int) (cs : List D) : D := .ins "Nearest" ["word", "parts", "price", "choices"] [.str "nearest", .tup [.int p, .tup cs], .int p, .tup cs]
def fourthD (m : Int) (l : List Int) : D := .ins "Fourth" ["word", "parts", "row"] [.str "fourth", .tup [rowD m l], rowD m l]
def noD (i : Int) : D := .ins "NoFourth" ["word", "parts", "place"] [.str "nofourth", .tup [.int i], .int i]
theorem fld_price (p : Int) (cs : List D) : fFld cv "price" (nearD p cs) = some (.int p) := by kernel_rfl
theorem fld_choices (p : Int) (cs : List D) : fFld cv "choices" (nearD p cs) = some (.tup cs) := by kernel_rfl
theorem init_no (i : Int) : fn_NoFourth_init [.cell 0, .v (.int i)] [some (.ins "NoFourth" [] [])] = .ok .non [some (noD i)] := by kernel_rfl
theorem init_fourth (m : Int) (l : List Int) : fn_Fourth_init [.cell 0, .v (rowD m l)] [some (.ins "Fourth" [] [])] = .ok .non [some (fourthD m l)] := by kernel_rfl
theorem bool_fourth (m : Int) (l : List Int) : fBoolO fb_bool [fourthD m l] = some (.bl true) := by kernel_rfl
theorem bool_no (i : Int) : fBoolO fb_bool [noD i] = some (.bl false) := by kernel_rfl
end K04
namespace K04
open PySem PySem.Spec PL
theorem isi_il (i : Int) : fIsi tab [.int i, .tup [.ty "list", .ty "tuple"]] = some (.bl false) := by kernel_rfl
theorem fx_i (n : Nat) (i : Int) : fn_fixed (n + 1) [.v (.int i)] [] = .ok (.int i) [] := by
  show fnB _ _ _ _ (b_fixed (fn_fixed n)) _ _ = _
  simp only [fnB_at]
  simp [b_fixed, isi_il]
theorem fx_seq {α : Type} (n : Nat) (d : D) (X : List α) (f g : α → D) (hd : itemsOf d = some (X.map f)) (hi : fIsi tab [d, .tup [.ty "list", .ty "tuple"]] = some (.bl true)) (h : ∀ x ∈ X, fn_fixed n [.v (f x)] [] = .ok (g x) []) :
    fn_fixed (n + 1) [.v d] [] = .ok (.tup (X.map g)) [] := by
  have c := compGo_on (g := gV 1) (elt := e1_fixed (fn_fixed n)) (ρ := [.v d, .un]) (p := []) f g (ks := X) fun k hk => ⟨[.v d, .v (f k)], rfl, by simp [e1_fixed, h k hk]⟩
  show fnB _ _ _ _ (b_fixed (fn_fixed n)) _ _ = _
  simp only [fnB_at]
  simp [b_fixed, hi, hd, c]
def tupI (l : List Int) : D := .tup (l.map .int)
theorem fx_t (n : Nat) (l : List Int) : fn_fixed (n + 2) [.v (tupI l)] [] = .ok (tupI l) [] := fx_seq (n + 1) (tupI l) l D.int D.int rfl (isi_t _) fun x _ => fx_i n x
theorem fx_tt (n : Nat) (L : List (List Int)) : fn_fixed (n + 3) [.v (.lst (L.map tupI))] [] = .ok (.tup (L.map tupI)) [] := fx_seq (n + 2) _ L tupI tupI rfl (isi_l _) fun x _ => fx_t n x
theorem fx_near (p : Int) (L : List (List Int)) : fn_fixed 4 [.v (.tup [.int p, .lst (L.map tupI)])] [] = .ok (.tup [.int p, .tup (L.map tupI)]) [] :=
  fx_seq 3 _ [true, false] (fun b => if b = true then .int p else .lst (L.map tupI)) (fun b => if b = true then .int p else .tup (L.map tupI)) rfl (isi_t _) fun x hx => by
    cases x
    · exact fx_tt 0 L
    · exact fx_i 2 p
theorem pa_near (p : Int) (X Y : List D) (h : fn_fixed 4 [.v (.tup [.int p, .lst X])] [] = .ok (.tup [.int p, .tup Y]) []) :
    fn_Paper_init [.cell 0, .v (.str "nearest"), .v (.int p), .v (.lst X)] [some (.ins "Nearest" [] [])] = .ok .non [some (.ins "Nearest" ["word", "parts"] [.str "nearest", .tup [.int p, .tup Y]])] := by
  unfold fn_Paper_init b_Paper_init starF
  generalize fn_fixed 4 = FX at *
  simp [valsOf, fnB_at, h]
  kernel_rfl
theorem near_rest (FP : List Sl → List Cell → R D) (p : Int) (X Y : List D) (h : FP [.cell 0, .v (.str "nearest"), .v (.int p), .v (.lst X)] [some (.ins "Nearest" [] [])] = .ok .non [some (.ins "Nearest" ["word", "parts"] [.str "nearest", .tup [.int p, .tup Y]])]) :
    fnB 3 3 1 1 (xSup ["Nearest"] FP a_Nearest_init b_Nearest_init) [.cell 0, .v (.int p), .v (.lst X)] [some (.ins "Nearest" [] [])] = .ok .non [some (nearD p Y)] := by
  simp only [fnB_at]
  unfold xSup
  simp [a_Nearest_init, h]
  kernel_rfl
theorem init_near (p : Int) (L : List (List Int)) : fn_Nearest_init [.cell 0, .v (.int p), .v (.lst (L.map tupI))] [some (.ins "Nearest" [] [])] = .ok .non [some (nearD p (L.map tupI))] :=
  near_rest fn_Paper_init p _ _ (pa_near p _ _ (fx_near p L))
abbrev tup3 (q : Int × Int × Int) : D := .tup [.int q.1, .int q.2.1, .int q.2.2]
def os (a b c : List Int) : List (Option Int) := (t3 a b c).map fun q => fm q.1 q.2.1 q.2.2
def nm (a b c : List Int) : Nat := ((t3 a b c).filter fun q => (fm q.1 q.2.1 q.2.2).isNone).length
def nc (a b c : List Int) : List (List Int) := (t3 a b c).map fun q => ch q.1 q.2.1 q.2.2
theorem isNon_opt (o : Option Int) : isNon (optD o) = o.isNone := by cases o <;> rfl
theorem sp_nearest (m : Int) (a b c : List Int) (h1 : a.length ≤ 1000) (h2 : b.length = a.length) (h3 : c.length = a.length) : fn_nearest [.v (rowD m a), .v (rowD m b), .v (rowD m c)] [] = .ok (nearD (nm a b c) ((nc a b c).map tupI)) [] := by
  have n := sp_need_three m a b c h1 h2 h3
  have z := zipN_3 D.int a b c (x := .tup (a.map .int)) (y := .tup (b.map .int)) (z := .tup (c.map .int)) rfl rfl rfl
  have k1 := compGo_onIf (g := gV 5) (c := c2_nearest) (elt := e1_nearest) (ρ := [.v (rowD m a), .v (rowD m b), .v (rowD m c), .v (.lst ((t3 a b c).map tup3)), .un, .un]) (p := []) tup3 (fun q => (fm q.1 q.2.1 q.2.2).isNone) tup3 (ks := t3 a b c) fun q hq =>
    ⟨[.v (rowD m a), .v (rowD m b), .v (rowD m c), .v (.lst ((t3 a b c).map tup3)), .un, .v (tup3 q)], rfl, by
      simp [c2_nearest, sp_fourth_mark, fIs, isNon_opt], fun _ => by simp [e1_nearest]⟩
  have k2 := compGo_on (g := gV 5) (elt := e3_nearest) (ρ := [.v (rowD m a), .v (rowD m b), .v (rowD m c), .v (.lst ((t3 a b c).map tup3)), .v (.int (nm a b c)), .un]) (p := []) tup3 (fun q => tupI (ch q.1 q.2.1 q.2.2)) (ks := t3 a b c) fun q hq =>
    ⟨[.v (rowD m a), .v (rowD m b), .v (rowD m c), .v (.lst ((t3 a b c).map tup3)), .v (.int (nm a b c)), .v (tup3 q)], rfl, by simp [e3_nearest, sp_choices_at, tupI]⟩
  have e2 : (t3 a b c).map (fun q => tupI (ch q.1 q.2.1 q.2.2)) = (nc a b c).map tupI := by unfold nc; rw [List.map_map]; rfl
  rw [e2] at k2
  have i := init_near (nm a b c) (nc a b c)
  have z' : zipN [.tup (a.map .int), .tup (b.map .int), .tup (c.map .int)] = some ((t3 a b c).map tup3) := z
  have l1 : fLen [.lst (((t3 a b c).filter fun q => (fm q.1 q.2.1 q.2.2).isNone).map tup3)] = some (.int (nm a b c)) := by
    show some (D.int (List.length _)) = _
    rw [List.length_map]; rfl
  generalize ((t3 a b c).filter fun q => (fm q.1 q.2.1 q.2.2).isNone).map tup3 = Y at *
  generalize (t3 a b c).map tup3 = X at *
  generalize (nc a b c).map tupI = Zs at *
  simp only [fn_nearest, fnB_at]
  simp [-len_l, b_nearest, n, fld_p, z', k1, l1, k2, i]
/-! ### the fourth -/
theorem flat_opt {n : Nat} : ∀ {l : List (Option Int)}, flatL n (l.map optD) = true
  | [] => by unfold flatL; rfl
  | x :: xs => by
    show flatL n (optD x :: xs.map optD) = true
    unfold flatL
    rw [flat_opt]
    cases x
    · cases n <;> (unfold optD flatD; rfl)
    · unfold optD; rw [flat_i]; rfl
theorem eqD_opt (x : Option Int) : eqD (optD x) .non = x.isNone := by cases x <;> (unfold optD eqD; rfl)
theorem in_opt (l : List (Option Int)) : fIn .non (.lst (l.map optD)) = some (.bl (l.any Option.isNone)) := by
  have f1 : flatD 12 .non = true := by unfold flatD; rfl
  have f2 : flatD 12 (.lst (l.map optD)) = true := by unfold flatD; exact flat_opt
  show (if flatD 12 .non = true ∧ flatD 12 (.lst (l.map optD)) = true then some ((l.map optD).any fun z => eqD z .non) else none).map D.bl = _
  rw [if_pos ⟨f1, f2⟩, List.any_map]
  have : (l.any ((fun z => eqD z .non) ∘ optD)) = l.any Option.isNone := by congr 1; funext x; exact eqD_opt x
  rw [this]; rfl
theorem pos_opt : ∀ (l : List (Option Int)) (i : Nat), l.any Option.isNone = true → ∃ j, posD .non i (l.map optD) = some j
  | [], i, h => by cases h
  | x :: xs, i, h => by
    show ∃ j, (if eqD (optD x) .non = true then some i else posD .non (i + 1) (xs.map optD)) = some j
    rw [eqD_opt]
    cases hx : x.isNone
    · rw [if_neg (by simp)]
      exact pos_opt xs (i + 1) (by rw [List.any_cons, hx] at h; simpa using h)
    · exact ⟨i, by simp⟩
theorem ix_opt (l : List (Option Int)) (h : l.any Option.isNone = true) : ∃ j : Nat, fIndex (.lst (l.map optD)) [.non] = some (.int j) := by
  obtain ⟨j, hj⟩ := pos_opt l 0 h
  refine ⟨j, ?_⟩
  show (if flatL 12 (l.map optD) = true ∧ flatD 12 .non = true then (posD .non 0 (l.map optD)).map fun i => D.int (i : Nat) else none) = _
  rw [if_pos ⟨flat_opt, by unfold flatD; rfl⟩, hj]; rfl
end K04
namespace K04
open PySem PySem.Spec PL
theorem t3_len : ∀ {a b c : List Int}, b.length = a.length → c.length = a.length → (t3 a b c).length = a.length
  | [], _, _, _, _ => rfl
  | x :: a, [], _, h, _ => by cases h
  | x :: a, y :: b, [], _, h => by cases h
  | x :: a, y :: b, z :: c, h, h' => by
    show (t3 a b c).length + 1 = a.length + 1
    rw [t3_len (by simpa using h) (by simpa using h')]
theorem t3_mem : ∀ {a b c : List Int} {q : Int × Int × Int}, q ∈ t3 a b c → q.1 ∈ a ∧ q.2.1 ∈ b ∧ q.2.2 ∈ c
  | [], _, _, q, h => by cases h
  | x :: a, [], _, q, h => by cases h
  | x :: a, y :: b, [], q, h => by cases h
  | x :: a, y :: b, z :: c, q, h => by
    rcases List.mem_cons.mp (show q ∈ (x, y, z) :: t3 a b c from h) with rfl | h
    · simp
    · obtain ⟨h1, h2, h3⟩ := t3_mem h
      exact ⟨List.mem_cons_of_mem _ h1, List.mem_cons_of_mem _ h2, List.mem_cons_of_mem _ h3⟩
theorem fm_in {w x y z : Int} (h : fm w x y = some z) : z = x ∨ z = y := by
  unfold fm at h
  split at h
  · cases h; exact .inr rfl
  · split at h
    · cases h; exact .inl rfl
    · cases h
theorem all_some : ∀ {l : List (Option Int)}, l.any Option.isNone = false → ∃ k : List Int, l = k.map some
  | [], _ => ⟨[], rfl⟩
  | none :: l, h => by simp at h
  | some x :: l, h => by
    obtain ⟨k, e⟩ := all_some (l := l) (by simpa using h)
    exact ⟨x :: k, by rw [e]; rfl⟩
theorem nm_any (a b c : List Int) : (os a b c).any Option.isNone = !decide (nm a b c = 0) := by
  unfold os nm
  induction t3 a b c with
  | nil => rfl
  | cons q l ih =>
    rw [List.map_cons, List.any_cons, ih]
    cases h : (fm q.1 q.2.1 q.2.2).isNone
    · rw [List.filter_cons_of_neg (by simp [h])]; simp
    · rw [List.filter_cons_of_pos (by simp [h])]; simp
theorem opt_some (k : List Int) : (k.map some).map optD = k.map .int := by rw [List.map_map]; rfl
theorem sp_fourth_of {m : Int} {a b c : List Int} (R : RowOk m a) (R2 : RowOk m b) (R3 : RowOk m c) (h2 : b.length = a.length) (h3 : c.length = a.length) :
    ∃ d, fn_fourth_of [.v (rowD m a), .v (rowD m b), .v (rowD m c)] [] = .ok d [] ∧ fBoolO fb_bool [d] = some (.bl (decide (nm a b c = 0))) := by
  have n := sp_need_three m a b c (Nat.le_trans R.le (by decide)) h2 h3
  have z' : zipN [.tup (a.map .int), .tup (b.map .int), .tup (c.map .int)] = some ((t3 a b c).map tup3) := zipN_3 D.int a b c rfl rfl rfl
  have k1 := compGo_on (g := gV 4) (elt := e1_fourth_of) (ρ := [.v (rowD m a), .v (rowD m b), .v (rowD m c), .un, .un]) (p := []) tup3 (fun q => optD (fm q.1 q.2.1 q.2.2)) (ks := t3 a b c) fun q hq =>
    ⟨[.v (rowD m a), .v (rowD m b), .v (rowD m c), .un, .v (tup3 q)], rfl, by simp [e1_fourth_of, sp_fourth_mark]⟩
  have e2 : (t3 a b c).map (fun q => optD (fm q.1 q.2.1 q.2.2)) = (os a b c).map optD := by unfold os; rw [List.map_map]; rfl
  rw [e2] at k1
  have iN := in_opt (os a b c)
  rw [nm_any] at iN
  by_cases hz : nm a b c = 0
  · have hn : (os a b c).any Option.isNone = false := by rw [nm_any]; simp [hz]
    obtain ⟨k, hk⟩ := all_some hn
    have hkl : k.length = a.length := by
      have := congrArg List.length hk
      unfold os at this
      rw [List.length_map, List.length_map, t3_len h2 h3] at this
      exact this.symm
    have RK : RowOk m k := by
      refine ⟨R.lo, R.hi, by rw [hkl]; exact R.ne, by rw [hkl]; exact R.le, fun x hx => ?_⟩
      have : some x ∈ os a b c := by rw [hk]; exact List.mem_map.mpr ⟨x, hx, rfl⟩
      obtain ⟨q, hq, e⟩ := List.mem_map.mp (show some x ∈ (t3 a b c).map _ from this)
      obtain ⟨q1, q2, q3⟩ := t3_mem hq
      rcases fm_in e with rfl | rfl
      · exact R2.all _ q2
      · exact R3.all _ q3
    have sr := sp_Row RK (d := .lst (k.map .int)) (.inr rfl)
    have io := init_fourth m k
    rw [hk, opt_some] at k1 iN
    refine ⟨fourthD m k, ?_, by rw [bool_fourth]; simp [hz]⟩
    generalize (t3 a b c).map tup3 = X at *
    simp only [fn_fourth_of, fnB_at]
    simp [b_fourth_of, n, fld_p, fld_m, z', k1, iN, hz, sr, io]
  · obtain ⟨j, hj⟩ := ix_opt (os a b c) (by rw [nm_any]; simp [hz])
    have io := init_no j
    refine ⟨noD j, ?_, by rw [bool_no]; simp [hz]⟩
    generalize (t3 a b c).map tup3 = X at *
    generalize (os a b c).map optD = Y at *
    have ty : tyD "list" (.lst Y) = true := rfl
    simp only [fn_fourth_of, fnB_at]
    simp [b_fourth_of, n, fld_p, fld_m, z', k1, iN, hz, hj, io, ty]
/-! ### the draws -/
def kd : Kd4 61183 8121 6277 35175 := by constructor <;> decide
theorem draw_eq : fn__law_draw = fn_dr 61183 8121 6277 35175 := rfl
theorem pick_eq : fn__law_pick = fn_pick 61183 8121 6277 35175 := rfl
theorem pen_eq : fn__law_pen = fn_pen := rfl
/-- a drawn mark -/
theorem dr {T : Nat} (hT : T ≤ 1000000) {i : Nat} {ρ : List Sl} {pc : Cell} {e : E D} {many : Int} (h1 : ρ[i]? = some (.cell 0)) (he : ∀ p, e ρ p = .ok (.int many) p) (h : Pen T pc) (hm : 0 < many) (hm2 : many ≤ 1000000) :
    ∃ v c', eCallC [0] fn__law_draw (asCons (aCell i 0 0) (asCons (aVal e) asNil)) ρ [pc] = .ok (.int v) [c'] ∧ 0 ≤ v ∧ v < many ∧ Pen (T + 1) c' := by
  rw [draw_eq]
  exact call_dr kd T hT (i := i) (j := 0) (p := [pc]) (p1 := [pc]) h1 (he _) rfl h hm hm2
theorem sp_place {T : Nat} (hT : T + 5 ≤ 1000000) {pc : Cell} (h : Pen T pc) (m : Int) (hm : 0 < m) (hm2 : m ≤ 1000) (g : Bool) :
    ∃ x y z w pc', fn__law_place [.cell 0, .v (.int m), .v (.bl g)] [pc] = .ok (.lst [.int x, .int y, .int z, .int w]) [pc'] ∧ Pen (T + 5) pc' ∧ (0 ≤ x ∧ x < m) ∧ (0 ≤ y ∧ y < m) ∧ (0 ≤ z ∧ z < m) ∧ (0 ≤ w ∧ w < m) := by
  obtain ⟨x, c1, q1, x1, x2, p1⟩ := dr (T := T) (by omega) (i := 0) (ρ := [.cell 0, .v (.int m), .v (.bl g), .un, .un, .un]) (e := eVar 1) rfl (fun p => rfl) h hm (by omega)
  obtain ⟨y, c2, q2, y1, y2, p2⟩ := dr (T := T + 1) (by omega) (i := 0) (ρ := [.cell 0, .v (.int m), .v (.bl g), .un, .un, .un]) (e := eVar 1) rfl (fun p => rfl) p1 hm (by omega)
  obtain ⟨w, c3, q3, w1, w2, p3⟩ := dr (T := T + 2) (by omega) (i := 0) (ρ := [.cell 0, .v (.int m), .v (.bl g), .un, .un, .un]) (e := eC (.int 2)) (many := 2) rfl (fun p => rfl) p2 (by omega) (by omega)
  cases g with
  | true =>
    by_cases hw : w = 0
    · refine ⟨x, x, y, y, c3, ?_, p3.mono (by omega), ⟨x1, x2⟩, ⟨x1, x2⟩, ⟨y1, y2⟩, ⟨y1, y2⟩⟩
      simp only [fn__law_place, fnB_at]
      simp [-ev_callC, b__law_place, q1, q2, q3, hw]
    · refine ⟨x, y, x, y, c3, ?_, p3.mono (by omega), ⟨x1, x2⟩, ⟨y1, y2⟩, ⟨x1, x2⟩, ⟨y1, y2⟩⟩
      simp only [fn__law_place, fnB_at]
      simp [-ev_callC, b__law_place, q1, q2, q3, hw]
  | false =>
    obtain ⟨u, c4, q4, u1, u2, p4'⟩ := dr (T := T + 3) (by omega) (i := 0) (ρ := [.cell 0, .v (.int m), .v (.bl false), .v (.int x), .v (.int y), .v (.int w)]) (e := eVar 1) rfl (fun p => rfl) p3 hm (by omega)
    obtain ⟨v, c5, q5, v1, v2, p5⟩ := dr (T := T + 4) (by omega) (i := 0) (ρ := [.cell 0, .v (.int m), .v (.bl false), .v (.int x), .v (.int y), .v (.int w)]) (e := eVar 1) rfl (fun p => rfl) p4' hm (by omega)
    refine ⟨x, y, u, v, c5, ?_, p5, ⟨x1, x2⟩, ⟨y1, y2⟩, ⟨u1, u2⟩, ⟨v1, v2⟩⟩
    simp only [fn__law_place, fnB_at]
    simp [-ev_callC, b__law_place, q1, q2, q3, q4, q5]
theorem sp_marks {T : Nat} {k : Nat} (hT : T + k ≤ 1000000) {pc : Cell} (h : Pen T pc) (m : Int) (hm : 0 < m) (hm2 : m ≤ 1000) (hk : k ≤ 1000) :
    ∃ (l : List Int) (pc' : Cell), fn__law_marks [.cell 0, .v (.int m), .v (.int k)] [pc] = .ok (.tup (l.map .int)) [pc'] ∧ Pen (T + k) pc' ∧ l.length = k ∧ ∀ x ∈ l, 0 ≤ x ∧ x < m := by
  obtain ⟨vs, pc', c, hp, hl, hv⟩ := compGo_pen (g := gV 3) (elt := e1__law_marks) (ρ := [.cell 0, .v (.int m), .v (.int k), .un]) 1 (fun _ v => ∃ i, v = .int i ∧ 0 ≤ i ∧ i < m) (ds := rangeD 0 k) h (by rw [rangeD_len]; omega) fun d hd T pc hT hp => by
    obtain ⟨v, c', q, v1, v2, hp'⟩ := dr (T := T) (by omega) (i := 0) (ρ := [.cell 0, .v (.int m), .v (.int k), .v d]) (e := eVar 1) rfl (fun p => rfl) hp hm (by omega)
    exact ⟨[.cell 0, .v (.int m), .v (.int k), .v d], .int v, c', rfl, q, hp', v, rfl, v1, v2⟩
  rw [rangeD_len] at hp hl
  have ex : ∃ l : List Int, vs = l.map .int ∧ ∀ x ∈ l, 0 ≤ x ∧ x < m := by
    have : ∀ v ∈ vs, ∃ i, v = .int i ∧ 0 ≤ i ∧ i < m := fun v hv' => by
      obtain ⟨i, hi, e⟩ := List.mem_iff_getElem.mp hv'
      have : i < (rangeD 0 k).length := by rw [rangeD_len]; omega
      exact hv i _ v (List.getElem?_eq_getElem this) (by rw [List.getElem?_eq_getElem hi, e])
    clear hv hl c
    induction vs with
    | nil => exact ⟨[], rfl, by simp⟩
    | cons v vs ih =>
      obtain ⟨l, e, hl⟩ := ih fun v hv => this v (List.mem_cons_of_mem _ hv)
      obtain ⟨i, rfl, h1, h2⟩ := this v (List.mem_cons_self ..)
      exact ⟨i :: l, by rw [e]; rfl, fun x hx => by rcases List.mem_cons.mp hx with rfl | hx; exact ⟨h1, h2⟩; exact hl x hx⟩
  obtain ⟨l, rfl, hl2⟩ := ex
  rw [Nat.one_mul] at hp
  refine ⟨l, pc', ?_, hp, by simpa using hl, hl2⟩
  have r1 : rng1 [.int k] = some (rangeD 0 k) := by
    show (if -100000000 ≤ (k : Int) ∧ (k : Int) ≤ 100000 then some (rangeD 0 (k : Int).toNat) else none) = _
    rw [if_pos (by omega)]; rfl
  simp only [fn__law_marks, fnB_at]
  simp [b__law_marks, r1, c]
end K04
namespace K04
open PySem PySem.Spec PL
abbrev Q4 := Int × Int × Int × Int
def pl4 (q : Q4) : D := .lst [.int q.1, .int q.2.1, .int q.2.2.1, .int q.2.2.2]
def nth (i : Int) (q : Q4) : Int := if i = 0 then q.1 else if i = 1 then q.2.1 else if i = 2 then q.2.2.1 else q.2.2.2
theorem ix_pl (q : Q4) (i : Int) (h : i = 0 ∨ i = 1 ∨ i = 2 ∨ i = 3) : fIx (pl4 q) (.int i) = some (.int (nth i q)) := by
  rcases h with rfl | rfl | rfl | rfl <;> rfl
theorem four_row (X : List Q4) (a b c d : Sl) (i : Int) (h : i = 0 ∨ i = 1 ∨ i = 2 ∨ i = 3) (s6 : Sl) (pc : Cell) :
    e3__law_four [.cell 0, a, b, c, d, .v (.lst (X.map pl4)), s6, .v (.int i), .un] [pc] = .ok (tupI (X.map (nth i))) [pc] := by
  have k := compGo_on (g := gV 8) (elt := e2__law_four) (ρ := [.cell 0, a, b, c, d, .v (.lst (X.map pl4)), s6, .v (.int i), .un]) (p := [pc]) pl4 (fun q => .int (nth i q)) (ks := X) fun q hq =>
    ⟨[.cell 0, a, b, c, d, .v (.lst (X.map pl4)), s6, .v (.int i), .v (pl4 q)], rfl, by simp [e2__law_four, ix_pl q i h]⟩
  have e : X.map (fun q => D.int (nth i q)) = (X.map (nth i)).map .int := by rw [List.map_map]; rfl
  rw [e] at k
  generalize X.map pl4 = Y at *
  simp [e3__law_four, k, tupI]
structure Told (m : Int) (k : Nat) (r : List Int) : Prop where
  len : r.length = k
  all : ∀ x ∈ r, 0 ≤ x ∧ x < m
theorem sp_four {T : Nat} {k : Nat} (hT : T + (2 + 5 * k) ≤ 1000000) {pc : Cell} (h : Pen T pc) (m : Int) (hm : 0 < m) (hm2 : m ≤ 1000) (hk0 : 0 < k) (hk : k ≤ 1000) :
    ∃ r0 r1 r2 r3 pc', fn__law_four [.cell 0, .v (.int m), .v (.int k)] [pc] = .ok (.lst [tupI r0, tupI r1, tupI r2, tupI r3]) [pc'] ∧ Pen (T + (2 + 5 * k)) pc' ∧ Told m k r0 ∧ Told m k r1 ∧ Told m k r2 ∧ Told m k r3 := by
  obtain ⟨way, c1, q1, w1, w2, p1⟩ := dr (T := T) (by omega) (i := 0) (ρ := [.cell 0, .v (.int m), .v (.int k), .un, .un, .un, .un, .un, .un]) (e := eC (.int 12)) (many := 12) rfl (fun p => rfl) h (by omega) (by omega)
  have spot : ∃ sp c2, (eIf (eTest (eBin fLt (eVar 3) (eC (.int 3)))) (eCallC [0] fn__law_draw (asCons (aCell 0 0 0) (asCons (aVal (eVar 2)) asNil))) (eVar 2)) [.cell 0, .v (.int m), .v (.int k), .v (.int way), .un, .un, .un, .un, .un] [c1] = .ok (.int sp) [c2] ∧ Pen (T + 2) c2 := by
    by_cases hw : way < 3
    · obtain ⟨sp, c2, q2, s1, s2, p2⟩ := dr (T := T + 1) (by omega) (i := 0) (ρ := [.cell 0, .v (.int m), .v (.int k), .v (.int way), .un, .un, .un, .un, .un]) (e := eVar 2) (many := k) rfl (fun p => rfl) p1 (by omega) (by omega)
      exact ⟨sp, c2, by simp [-ev_callC, hw, q2], p2⟩
    · exact ⟨k, c1, by simp [-ev_callC, hw], p1.mono (by omega)⟩
  obtain ⟨sp, c2, q2, p2⟩ := spot
  obtain ⟨vs, c3, k3, p3, hl, hv⟩ := compGo_pen (g := gV 6) (elt := e1__law_four) (ρ := [.cell 0, .v (.int m), .v (.int k), .v (.int way), .v (.int sp), .un, .un, .un, .un]) 5
    (fun _ v => ∃ q : Q4, v = pl4 q ∧ ∀ i, 0 ≤ nth i q ∧ nth i q < m) (ds := rangeD 0 k) p2 (by rw [rangeD_len]; omega) fun d hd T pc hT hp => by
      obtain ⟨n, _, rfl⟩ : ∃ n : Nat, n < k ∧ d = .int (0 + n) := by
        obtain ⟨i, hi, e⟩ := List.mem_iff_getElem.mp hd
        rw [rangeD_len] at hi
        have := rangeD_get (lo := 0) hi
        rw [List.getElem?_eq_getElem (by rw [rangeD_len]; exact hi), e] at this
        exact ⟨i, hi, Option.some.inj this⟩
      obtain ⟨x, y, z, w, pc', q, hp', hx, hy, hz, hw⟩ := sp_place (T := T) (by omega) hp m hm hm2 (decide (way < 8) && !decide ((0 + (n : Int)) = sp))
      refine ⟨[.cell 0, .v (.int m), .v (.int k), .v (.int way), .v (.int sp), .un, .v (.int (0 + n)), .un, .un], pl4 (x, y, z, w), pc', rfl, ?_, hp', (x, y, z, w), rfl, fun i => ?_⟩
      · obtain ⟨_, _, _, rfl, _⟩ := hp
        obtain ⟨_, _, _, rfl, _⟩ := hp'
        by_cases h8 : way < 8
        · simp [h8] at q
          simp [e1__law_four, h8, getC, q, putC, pl4]
        · simp [h8] at q
          simp [e1__law_four, h8, getC, q, putC, pl4]
      · unfold nth
        split
        · exact hx
        · split
          · exact hy
          · split
            · exact hz
            · exact hw
  rw [rangeD_len] at p3 hl
  have ex : ∃ X : List Q4, vs = X.map pl4 ∧ ∀ q ∈ X, ∀ i, 0 ≤ nth i q ∧ nth i q < m := by
    have : ∀ v ∈ vs, ∃ q : Q4, v = pl4 q ∧ ∀ i, 0 ≤ nth i q ∧ nth i q < m := fun v hv' => by
      obtain ⟨i, hi, e⟩ := List.mem_iff_getElem.mp hv'
      have : i < (rangeD 0 k).length := by rw [rangeD_len]; omega
      exact hv i _ v (List.getElem?_eq_getElem this) (by rw [List.getElem?_eq_getElem hi, e])
    clear hv hl k3
    induction vs with
    | nil => exact ⟨[], rfl, by simp⟩
    | cons v vs ih =>
      obtain ⟨X, e, hX⟩ := ih fun v hv => this v (List.mem_cons_of_mem _ hv)
      obtain ⟨q, rfl, h1⟩ := this v (List.mem_cons_self ..)
      exact ⟨q :: X, by rw [e]; rfl, fun x hx => by rcases List.mem_cons.mp hx with rfl | hx; exact h1; exact hX x hx⟩
  obtain ⟨X, rfl, hX⟩ := ex
  rw [List.length_map] at hl
  have td : ∀ i, Told m k (X.map (nth i)) := fun i => ⟨by rw [List.length_map, hl], fun x hx => by
    obtain ⟨q, hq, rfl⟩ := List.mem_map.mp hx
    exact hX q hq i⟩
  have k4 := compGo_on (g := gV 7) (elt := e3__law_four) (ρ := [.cell 0, .v (.int m), .v (.int k), .v (.int way), .v (.int sp), .v (.lst (X.map pl4)), .un, .un, .un]) (p := [c3]) D.int (fun i => tupI (X.map (nth i))) (ks := [0, 1, 2, 3]) fun i hi =>
    ⟨[.cell 0, .v (.int m), .v (.int k), .v (.int way), .v (.int sp), .v (.lst (X.map pl4)), .un, .v (.int i), .un], rfl, four_row X _ _ _ _ i (by simpa using hi) _ _⟩
  refine ⟨_, _, _, _, c3, ?_, by rw [show T + (2 + 5 * k) = T + 2 + 5 * k by omega]; exact p3, td 0, td 1, td 2, td 3⟩
  have r1 : rng1 [.int k] = some (rangeD 0 k) := by
    show (if -100000000 ≤ (k : Int) ∧ (k : Int) ≤ 100000 then some (rangeD 0 (k : Int).toNat) else none) = _
    rw [if_pos (by omega)]; rfl
  have r4 : rng1 [.int 4] = some (([0, 1, 2, 3] : List Int).map D.int) := rfl
  have k4' : compGo (gV 7) eYes e3__law_four [.cell 0, .v (.int m), .v (.int k), .v (.int way), .v (.int sp), .v (.lst (X.map pl4)), .un, .un, .un] (([0, 1, 2, 3] : List Int).map D.int) [c3] = .ok [tupI (X.map (nth 0)), tupI (X.map (nth 1)), tupI (X.map (nth 2)), tupI (X.map (nth 3))] [c3] := k4
  generalize X.map pl4 = Y at *
  generalize ([0, 1, 2, 3] : List Int).map D.int = R4 at *
  simp only [fn__law_four, fnB_at]
  simp [-ev_callC, -ev_if, b__law_four, q1, q2, r1, k3, r4, k4']
theorem sp_unlike (a b : List Int) : fn__law_unlike [.v (tupI a), .v (tupI b)] [] = .ok (.int ((t2 a b).filter fun q => decide (q.1 ≠ q.2)).length) [] := by
  have z : zipN [tupI a, tupI b] = some ((t2 a b).map fun q : Int × Int => D.tup [.int q.1, .int q.2]) := zipN_2 D.int D.int a b rfl rfl
  have k := compGo_onIf (g := gTp (gCn (gV 2) (gCn (gV 3) gNl))) (c := c2__law_unlike) (elt := e1__law_unlike) (ρ := [.v (tupI a), .v (tupI b), .un, .un]) (p := []) (fun q : Int × Int => D.tup [.int q.1, .int q.2]) (fun q => decide (q.1 ≠ q.2)) (fun _ => .int 1) (ks := t2 a b) fun q hq =>
    ⟨[.v (tupI a), .v (tupI b), .v (.int q.1), .v (.int q.2)], rfl, by simp [c2__law_unlike], fun _ => by simp [e1__law_unlike]⟩
  generalize hX : (t2 a b).map (fun q : Int × Int => D.tup [.int q.1, .int q.2]) = X at *
  simp only [fn__law_unlike, fnB_at]
  simp [b__law_unlike, z, k]
end K04
namespace K04
open PySem PySem.Spec PL
theorem pr_cons (w x y z : Int) (a b c d : List Int) : pr (w :: a) (x :: b) (y :: c) (z :: d) = p4 w x y z + pr a b c d := by
  show ((p4 w x y z) :: ((t4 a b c d).map fun q => p4 q.1 q.2.1 q.2.2.1 q.2.2.2)).sum = _
  rw [List.sum_cons]; rfl
theorem pr_nil : pr [] [] [] [] = 0 := rfl
theorem p4_02 (w x y z : Int) : 0 ≤ p4 w x y z ∧ p4 w x y z ≤ 2 := by
  unfold p4; repeat' split
  all_goals omega
theorem p4_tri (w x y z s t : Int) : p4 w x s t ≤ p4 w x y z + p4 y z s t ∧ p4 w x y z ≤ p4 y z s t + p4 w x s t ∧ p4 y z s t ≤ p4 w x y z + p4 w x s t := by
  unfold p4; repeat' split
  all_goals omega
theorem p4_one (w w' x y z : Int) : p4 w x y z - p4 w' x y z ≤ (if w = w' then 0 else 1) := by
  unfold p4; repeat' split
  all_goals omega
theorem p4_sw1 (w x y z : Int) : p4 w x y z = p4 x w z y := by
  unfold p4; repeat' split
  all_goals omega
theorem p4_sw2 (w x y z : Int) : p4 w x y z = p4 y z w x := by
  unfold p4; repeat' split
  all_goals omega
theorem mem_ch (w x y z : Int) : z ∈ ch w x y ↔ (w = x ∧ z = y) ∨ (w ≠ x ∧ w = y ∧ z = x) ∨ (w ≠ x ∧ w ≠ y ∧ (z = x ∨ z = y)) := by
  unfold ch fm
  by_cases h1 : w = x
  · simp [h1]
  · by_cases h2 : w = y
    · subst h2
      simp [h1]
    · simp [h1, h2]
      rw [(sortI_perm _).mem_iff, dedupI_mem]
      simp
theorem fm_none (w x y : Int) : (fm w x y).isNone = true ↔ w ≠ x ∧ w ≠ y := by
  unfold fm
  by_cases h1 : w = x
  · simp [h1]
  · by_cases h2 : w = y
    · subst h2
      simp [h1]
    · simp [h1, h2]
theorem p4_near (w x y z : Int) : p4 w x y z = (if (fm w x y).isNone = true then 1 else 0) + (if z ∈ ch w x y then 0 else 1) := by
  simp only [fm_none, mem_ch]
  unfold p4
  repeat' split
  all_goals omega
/-- lists as long as one another -/
inductive E4 : List Int → List Int → List Int → List Int → Prop
  | nil : E4 [] [] [] []
  | cons (w x y z : Int) {a b c d : List Int} (h : E4 a b c d) : E4 (w :: a) (x :: b) (y :: c) (z :: d)
theorem E4.of : ∀ {a b c d : List Int}, b.length = a.length → c.length = a.length → d.length = a.length → E4 a b c d
  | [], [], [], [], _, _, _ => .nil
  | [], _ :: _, _, _, h, _, _ => by cases h
  | [], [], _ :: _, _, _, h, _ => by cases h
  | [], [], [], _ :: _, _, _, h => by cases h
  | _ :: _, [], _, _, h, _, _ => by cases h
  | _ :: _, _ :: _, [], _, _, h, _ => by cases h
  | _ :: _, _ :: _, _ :: _, [], _, _, h => by cases h
  | w :: a, x :: b, y :: c, z :: d, h1, h2, h3 => .cons w x y z (E4.of (by simpa using h1) (by simpa using h2) (by simpa using h3))
theorem pr_02 {a b c d : List Int} (e : E4 a b c d) : 0 ≤ pr a b c d ∧ pr a b c d ≤ 2 * (a.length : Int) := by
  induction e with
  | nil => exact ⟨by rw [pr_nil]; omega, by rw [pr_nil]; simp⟩
  | cons w x y z h ih =>
    rw [pr_cons, List.length_cons]
    have := p4_02 w x y z
    omega
theorem pr_tri {a b c d : List Int} (e : E4 a b c d) : ∀ {s t : List Int}, s.length = a.length → t.length = a.length → pr a b s t ≤ pr a b c d + pr c d s t ∧ pr a b c d ≤ pr c d s t + pr a b s t ∧ pr c d s t ≤ pr a b c d + pr a b s t := by
  induction e with
  | nil =>
    intro s t h1 h2
    have : s = [] := List.length_eq_zero_iff.mp h1
    have : t = [] := List.length_eq_zero_iff.mp h2
    subst s t
    rw [pr_nil]; omega
  | cons w x y z h ih =>
    intro s t h1 h2
    match s, t, h1, h2 with
    | u :: s, v :: t, h1, h2 =>
      have := ih (s := s) (t := t) (by simpa using h1) (by simpa using h2)
      have q := p4_tri w x y z u v
      rw [pr_cons, pr_cons, pr_cons]
      omega
/-- how many places differ -/
def unl (a b : List Int) : Nat := ((t2 a b).filter fun q => decide (q.1 ≠ q.2)).length
theorem unl_cons (x y : Int) (a b : List Int) : (unl (x :: a) (y :: b) : Int) = (if x = y then 0 else 1) + unl a b := by
  show ((((x, y) :: t2 a b).filter fun q => decide (q.1 ≠ q.2)).length : Int) = _
  by_cases h : x = y
  · rw [List.filter_cons_of_neg (by simp [h]), if_pos h]; simp [unl]
  · rw [List.filter_cons_of_pos (by simp [h]), if_neg h, List.length_cons]; simp [unl]; omega
theorem unl_sym : ∀ (a b : List Int), unl a b = unl b a
  | [], [] => rfl
  | [], _ :: _ => rfl
  | _ :: _, [] => rfl
  | x :: a, y :: b => by
    have h := unl_sym a b
    have h1 := unl_cons x y a b
    have h2 := unl_cons y x b a
    by_cases e : x = y
    · rw [if_pos e] at h1
      rw [if_pos e.symm] at h2
      omega
    · rw [if_neg e] at h1
      rw [if_neg fun q => e q.symm] at h2
      omega
theorem pr_one {a b c d : List Int} (e : E4 a b c d) : ∀ {a' : List Int}, a'.length = a.length → pr a b c d - pr a' b c d ≤ unl a a' := by
  induction e with
  | nil =>
    intro a' h
    have : a' = [] := List.length_eq_zero_iff.mp h
    subst a'
    rw [pr_nil]; simp
  | cons w x y z h ih =>
    intro a' h'
    match a', h' with
    | w' :: a', h' =>
      have := ih (a' := a') (by simpa using h')
      have q := p4_one w w' x y z
      rw [pr_cons, pr_cons, unl_cons]
      omega
theorem pr_sw1 {a b c d : List Int} (e : E4 a b c d) : pr a b c d = pr b a d c := by
  induction e with
  | nil => rfl
  | cons w x y z h ih => rw [pr_cons, pr_cons, ih, p4_sw1]
theorem pr_sw2 {a b c d : List Int} (e : E4 a b c d) : pr a b c d = pr c d a b := by
  induction e with
  | nil => rfl
  | cons w x y z h ih => rw [pr_cons, pr_cons, ih, p4_sw2]
theorem pr_abs {a b c d a' : List Int} (h1 : b.length = a.length) (h2 : c.length = a.length) (h3 : d.length = a.length) (h4 : a'.length = a.length) :
    (pr a b c d - pr a' b c d ≤ unl a a' ∧ pr a' b c d - pr a b c d ≤ unl a a') ∧ (pr b a c d - pr b a' c d ≤ unl a a' ∧ pr b a' c d - pr b a c d ≤ unl a a') ∧
    (pr b c a d - pr b c a' d ≤ unl a a' ∧ pr b c a' d - pr b c a d ≤ unl a a') ∧ (pr b c d a - pr b c d a' ≤ unl a a' ∧ pr b c d a' - pr b c d a ≤ unl a a') := by
  have s := unl_sym a' a
  have q : ∀ {x y z : List Int}, x.length = a.length → y.length = a.length → z.length = a.length → pr a x y z - pr a' x y z ≤ unl a a' ∧ pr a' x y z - pr a x y z ≤ unl a a' := fun hx hy hz =>
    ⟨pr_one (E4.of hx hy hz) h4, by rw [← s]; exact pr_one (E4.of (hx.trans h4.symm) (hy.trans h4.symm) (hz.trans h4.symm)) h4.symm⟩
  refine ⟨q h1 h2 h3, ?_, ?_, ?_⟩
  · have := q h1 h3 h2
    rw [pr_sw1 (E4.of (a := b) (b := a) (c := c) (d := d) (by omega) (by omega) (by omega)), pr_sw1 (E4.of (a := b) (b := a') (c := c) (d := d) (by omega) (by omega) (by omega))]
    exact this
  · have := q h3 h1 h2
    rw [pr_sw2 (E4.of (a := b) (b := c) (c := a) (d := d) (by omega) (by omega) (by omega)), pr_sw2 (E4.of (a := b) (b := c) (c := a') (d := d) (by omega) (by omega) (by omega))]
    exact this
  · have := q h3 h2 h1
    rw [pr_sw2 (E4.of (a := b) (b := c) (c := d) (d := a) (by omega) (by omega) (by omega)), pr_sw2 (E4.of (a := b) (b := c) (c := d) (d := a') (by omega) (by omega) (by omega)), pr_sw1 (E4.of (a := d) (b := a) (c := b) (d := c) (by omega) (by omega) (by omega)), pr_sw1 (E4.of (a := d) (b := a') (c := b) (d := c) (by omega) (by omega) (by omega))]
    exact this
/-- the marks that are not among the choices -/
def far (d : List Int) (cs : List (List Int)) : Nat := ((t2 d cs).filter fun q => decide (q.1 ∉ q.2)).length
theorem nm_cons (w x y : Int) (a b c : List Int) : (nm (w :: a) (x :: b) (y :: c) : Int) = (if (fm w x y).isNone = true then 1 else 0) + nm a b c := by
  show ((((w, x, y) :: t3 a b c).filter fun q => (fm q.1 q.2.1 q.2.2).isNone).length : Int) = _
  by_cases h : (fm w x y).isNone = true
  · rw [List.filter_cons_of_pos (by simpa using h), if_pos h, List.length_cons]; simp [nm]; omega
  · rw [List.filter_cons_of_neg (by simpa using h), if_neg h]; simp [nm]
theorem far_cons (z : Int) (k : List Int) (d : List Int) (cs : List (List Int)) : (far (z :: d) (k :: cs) : Int) = (if z ∈ k then 0 else 1) + far d cs := by
  show ((((z, k) :: t2 d cs).filter fun q => decide (q.1 ∉ q.2)).length : Int) = _
  by_cases h : z ∈ k
  · rw [List.filter_cons_of_neg (by simp [h]), if_pos h]; simp [far]
  · rw [List.filter_cons_of_pos (by simp [h]), if_neg h, List.length_cons]; simp [far]; omega
theorem pr_near {a b c d : List Int} (e : E4 a b c d) : pr a b c d = nm a b c + far d (nc a b c) := by
  induction e with
  | nil => rfl
  | @cons w x y z a b c d h ih =>
    have e1 : nc (w :: a) (x :: b) (y :: c) = ch w x y :: nc a b c := rfl
    rw [pr_cons, nm_cons, e1, far_cons, ih, p4_near]
    omega
theorem nm_le {a b c : List Int} (h2 : b.length = a.length) (h3 : c.length = a.length) : nm a b c ≤ a.length := by
  unfold nm
  exact Nat.le_trans (List.length_filter_le _ _) (Nat.le_of_eq (t3_len h2 h3))
/-- each from its choices -/
inductive From : List Int → List (List Int) → Prop
  | nil : From [] []
  | cons {x : Int} {k : List Int} {e : List Int} {cs : List (List Int)} (h : x ∈ k) (t : From e cs) : From (x :: e) (k :: cs)
theorem From.far {e : List Int} {cs : List (List Int)} (h : From e cs) : far e cs = 0 := by
  induction h with
  | nil => rfl
  | cons h t ih =>
    have := far_cons _ _ _ _ |>.trans (by rw [if_pos h, ih])
    omega
theorem From.len {e : List Int} {cs : List (List Int)} (h : From e cs) : e.length = cs.length := by
  induction h with
  | nil => rfl
  | cons h t ih => simp [ih]
theorem nc_len {a b c : List Int} (h2 : b.length = a.length) (h3 : c.length = a.length) : (nc a b c).length = a.length := by unfold nc; rw [List.length_map, t3_len h2 h3]
theorem From.range {m : Int} {a b c : List Int} (hb : ∀ x ∈ b, 0 ≤ x ∧ x < m) (hc : ∀ x ∈ c, 0 ≤ x ∧ x < m) : ∀ {e : List Int} {cs : List (List Int)}, From e cs → (∀ k ∈ cs, k ∈ nc a b c) → ∀ x ∈ e, 0 ≤ x ∧ x < m
  | _, _, .nil, _ => by simp
  | _, _, .cons (x := z) (k := k) h t, hk => by
    intro x hx
    rcases List.mem_cons.mp hx with rfl | hx
    · obtain ⟨q, hq, e⟩ := List.mem_map.mp (show k ∈ (t3 a b c).map _ from hk k (List.mem_cons_self ..))
      obtain ⟨q1, q2, q3⟩ := t3_mem hq
      rw [← e, mem_ch] at h
      rcases h with ⟨_, rfl⟩ | ⟨_, _, rfl⟩ | ⟨_, _, rfl | rfl⟩
      · exact hc _ q3
      · exact hb _ q2
      · exact hb _ q2
      · exact hc _ q3
    · exact From.range hb hc t (fun k hk' => hk k (List.mem_cons_of_mem _ hk')) x hx
theorem pr_same {a b : List Int} (h : b.length = a.length) : pr a b a b = 0 := by
  have e := E4.of (a := a) (b := b) (c := a) (d := b) h rfl h
  have : ∀ {a b c d : List Int}, E4 a b c d → a = c → b = d → pr a b c d = 0 := fun e => by
    induction e with
    | nil => intros; rfl
    | cons w x y z h ih =>
      intro h1 h2
      cases h1; cases h2
      rw [pr_cons, ih rfl rfl]
      unfold p4; rw [if_pos (.inr ⟨rfl, rfl⟩)]; rfl
  exact this e rfl rfl
theorem pr_pairs {a b : List Int} (h : b.length = a.length) : pr a a b b = 0 := by
  have e := E4.of (a := a) (b := a) (c := b) (d := b) rfl h h
  have : ∀ {a b c d : List Int}, E4 a b c d → a = b → c = d → pr a b c d = 0 := fun e => by
    induction e with
    | nil => intros; rfl
    | cons w x y z h ih =>
      intro h1 h2
      cases h1; cases h2
      rw [pr_cons, ih rfl rfl]
      unfold p4; rw [if_pos (.inl ⟨rfl, rfl⟩)]; rfl
  exact this e rfl rfl
end K04
namespace K04
open PySem PySem.Spec PL
structure Fr (ρ : List Sl) : Prop where
  len : ρ.length = 25
  pen : ρ[1]? = some (.cell 0)
theorem Fr.set {ρ : List Sl} (h : Fr ρ) {i : Nat} (hi : i ≠ 1) (x : Sl) : Fr (ρ.set i x) :=
  ⟨by rw [List.length_set, h.len], by rw [List.getElem?_set_ne hi]; exact h.pen⟩
theorem Pen.some {T : Nat} {pc : Cell} (h : Pen T pc) : ∃ d, pc = Option.some d := by obtain ⟨l, t, r, e, _⟩ := h; exact ⟨_, e⟩
theorem call2 {f : List Sl → List Cell → R D} {ρ : List Sl} {a b : E D} {da db d : D} {T T' : Nat} {pc pc' : Cell} (h1 : ρ[1]? = some (.cell 0)) (ha : a ρ [pc] = .ok da [pc]) (hb : b ρ [pc] = .ok db [pc]) (hp : Pen T pc) (hp' : Pen T' pc')
    (q : f [.cell 0, .v da, .v db] [pc] = .ok d [pc']) : eCallC [0] f (asCons (aCell 1 0 0) (asCons (aVal a) (asCons (aVal b) asNil))) ρ [pc] = .ok d [pc'] := by
  obtain ⟨x, rfl⟩ := Pen.some hp
  obtain ⟨y, rfl⟩ := Pen.some hp'
  simp [h1, ha, hb, getC, q, putC]
theorem penI {g : G} {elt : E D} {ρ : List Sl} (k : Nat) (P : D → Int → Prop) {ds : List D} {T : Nat} {pc : Cell} (hp : Pen T pc) (hT : T + k * ds.length ≤ 1000000)
    (h : ∀ d ∈ ds, ∀ T pc, T + k ≤ 1000000 → Pen T pc → ∃ ρ1 i pc', g.run d ρ = Option.some ρ1 ∧ elt ρ1 [pc] = .ok (.int i) [pc'] ∧ Pen (T + k) pc' ∧ P d i) :
    ∃ (l : List Int) (pc' : Cell), compGo g eYes elt ρ ds [pc] = .ok (l.map .int) [pc'] ∧ Pen (T + k * ds.length) pc' ∧ l.length = ds.length ∧ ∀ (i : Nat) d x, ds[i]? = Option.some d → l[i]? = Option.some x → P d x := by
  obtain ⟨vs, pc', c, p, hl, hv⟩ := compGo_pen k (fun d v => ∃ i, v = .int i ∧ P d i) hp hT fun d hd T pc hT hp => by
    obtain ⟨ρ1, i, pc', e1, e2, h1, h2⟩ := h d hd T pc hT hp
    exact ⟨ρ1, .int i, pc', e1, e2, h1, i, rfl, h2⟩
  have : ∃ l : List Int, vs = l.map .int := by
    have : ∀ v ∈ vs, ∃ i, v = .int i := fun v hv' => by
      obtain ⟨i, hi, e⟩ := List.mem_iff_getElem.mp hv'
      obtain ⟨j, hj, _⟩ := hv i (ds[i]'(by omega)) v (List.getElem?_eq_getElem (by omega)) (by rw [List.getElem?_eq_getElem hi, e])
      exact ⟨j, hj⟩
    clear hv hl c
    induction vs with
    | nil => exact ⟨[], rfl⟩
    | cons v vs ih =>
      obtain ⟨l, e⟩ := ih fun v hv => this v (List.mem_cons_of_mem _ hv)
      obtain ⟨i, rfl⟩ := this v (List.mem_cons_self ..)
      exact ⟨i :: l, by rw [e]; rfl⟩
  obtain ⟨l, rfl⟩ := this
  refine ⟨l, pc', c, p, by simpa using hl, fun i d x h1 h2 => ?_⟩
  obtain ⟨j, hj, q⟩ := hv i d (.int x) h1 (by rw [List.getElem?_map, h2]; rfl)
  cases hj
  exact q
theorem told_of {m : Int} {k : Nat} {l : List Int} (hl : l.length = k) (h : ∀ x ∈ l, 0 ≤ x ∧ x < m) : Told m k l := ⟨hl, h⟩
theorem Told.row {m : Int} {k : Nat} {l : List Int} (t : Told m k l) (h1 : 2 ≤ m) (h2 : m ≤ 4) (h3 : 1 ≤ k) (h4 : k ≤ 6) : RowOk m l := ⟨h1, h2, by rw [t.len]; exact h3, by rw [t.len]; exact h4, t.all⟩
end K04
namespace K04
open PySem PySem.Spec PL
theorem ix4_0 (a b c d : D) : fIx (.lst [a, b, c, d]) (.int 0) = some a := rfl
theorem ix4_1 (a b c d : D) : fIx (.lst [a, b, c, d]) (.int 1) = some b := rfl
theorem ix4_2 (a b c d : D) : fIx (.lst [a, b, c, d]) (.int 2) = some c := rfl
theorem ix4_3 (a b c d : D) : fIx (.lst [a, b, c, d]) (.int 3) = some d := rfl
theorem ix2_0 (a b : D) : fIx (.lst [a, b]) (.int 0) = some a := rfl
theorem ix2_1 (a b : D) : fIx (.lst [a, b]) (.int 1) = some b := rfl
theorem ix3_0 (a b c : D) : fIx (.lst [a, b, c]) (.int 0) = some a := rfl
theorem ix3_1 (a b c : D) : fIx (.lst [a, b, c]) (.int 1) = some b := rfl
theorem ix3_2 (a b c : D) : fIx (.lst [a, b, c]) (.int 2) = some c := rfl
theorem st_1 (F__law_draw : List Sl → List Cell → R D) (TT : S) {ρ : List Sl} {pc : Cell} {c1 c2 : Cell} {x y : Int} (hl : ρ.length = 25) (q1 : eCallC [0] F__law_draw (asCons (aCell 1 0 0) (asCons (aVal (eC (.int 3))) asNil)) ρ [pc] = .ok (.int x) [c1]) (q2 : eCallC [0] F__law_draw (asCons (aCell 1 0 0) (asCons (aVal (eC (.int 6))) asNil)) ρ [c1] = .ok (.int y) [c2]) :
    (xSeq (xAsg (eFn dTup (eCons (eBin fAdd (eC (.int 2)) (eCallC [0] F__law_draw (asCons (aCell 1 0 0) (asCons (aVal (eC (.int 3))) asNil)))) (eCons (eBin fAdd (eC (.int 1)) (eCallC [0] F__law_draw (asCons (aCell 1 0 0) (asCons (aVal (eC (.int 6))) asNil)))) eNil))) (gTp (gCn (gV 11) (gCn (gV 12) gNl)))) TT) ρ [pc] = TT ((ρ.set 11 (.v (.int (2 + x)))).set 12 (.v (.int (1 + y)))) [c2] := by
  simp [-getElem?_pos, -ev_callC, hl, q1, q2]
theorem st_2 (F__law_four : List Sl → List Cell → R D) (TT : S) {ρ : List Sl} {pc : Cell} {c1 : Cell} {d : D} (hl : ρ.length = 25) (c : eCallC [0] F__law_four (asCons (aCell 1 0 0) (asCons (aVal (eVar 11)) (asCons (aVal (eVar 12)) asNil))) ρ [pc] = .ok d [c1]) :
    (xSeq (xAsg (eCallC [0] F__law_four (asCons (aCell 1 0 0) (asCons (aVal (eVar 11)) (asCons (aVal (eVar 12)) asNil)))) (gV 3)) TT) ρ [pc] = TT (ρ.set 3 (.v d)) [c1] := by
  simp [-getElem?_pos, -ev_callC, hl, c]
theorem st_3 (F__law_draw : List Sl → List Cell → R D) (F__law_marks : List Sl → List Cell → R D) (TT : S) {ρ : List Sl} {pc : Cell} {c1 c2 : Cell} {w : Int} {d : D} (hl : ρ.length = 25) (q1 : eCallC [0] F__law_draw (asCons (aCell 1 0 0) (asCons (aVal (eC (.int 4))) asNil)) ρ [pc] = .ok (.int w) [c1]) (c : eCallC [0] F__law_marks (asCons (aCell 1 0 0) (asCons (aVal (eVar 11)) (asCons (aVal (eVar 12)) asNil))) ρ [c1] = .ok d [c2]) :
    (xSeq (xPar [13, 14] (eCons (eCallC [0] F__law_draw (asCons (aCell 1 0 0) (asCons (aVal (eC (.int 4))) asNil))) (eCons (eCallC [0] F__law_marks (asCons (aCell 1 0 0) (asCons (aVal (eVar 11)) (asCons (aVal (eVar 12)) asNil)))) eNil))) TT) ρ [pc] = TT ((ρ.set 13 (.v (.int w))).set 14 (.v d)) [c2] := by
  simp [-getElem?_pos, -ev_callC, hl, q1, c]
theorem st_4 (E1 : E D) (TT : S) {ρ : List Sl} {pc : Cell} {c1 : Cell} {w : Int} {L y o : D} {Z X : List D} (hl : ρ.length = 25) (f3 : ρ[3]? = some (.v L)) (f13 : ρ[13]? = some (.v (.int w))) (f14 : ρ[14]? = some (.v o)) (i : fIx L (.int w) = some y) (z : zipN [y, o] = some Z) (c : compGo (gTp (gCn (gV 22) (gCn (gV 23) gNl))) eYes E1 ((ρ.set 23 .un).set 22 .un) Z [pc] = .ok X [c1]) :
    (xSeq (xAsg (eFn fTupleOf (eCons (eComp (iFn zipN (eCons (eBin fIx (eVar 3) (eVar 13)) (eCons (eVar 14) eNil))) (gTp (gCn (gV 22) (gCn (gV 23) gNl))) eYes E1 [22, 23]) eNil)) (gV 4)) TT) ρ [pc] = TT (ρ.set 4 (.v (.tup X))) [c1] := by
  simp [-getElem?_pos, -ev_callC, hl, f3, f13, f14, i, z, c]
theorem st_5 (TT : S) {ρ : List Sl} {pc : Cell} {w : Int} {L x M1 M2 A B : D} (hl : ρ.length = 25) (f3 : ρ[3]? = some (.v L)) (f13 : ρ[13]? = some (.v (.int w))) (f4 : ρ[4]? = some (.v x)) (k1 : fCut L none (some w) = some A) (k2 : fCut L (some (w + 1)) none = some B) (a1 : fAdd A (.lst [x]) = some M1) (a2 : fAdd M1 B = some M2) :
    (xSeq (xAsg (eBin fAdd (eBin fAdd (eCut (eVar 3) pNone (pSome (eVar 13))) (eFn dLst (eCons (eVar 4) eNil))) (eCut (eVar 3) (pSome (eBin fAdd (eVar 13) (eC (.int 1)))) pNone)) (gV 5)) TT) ρ [pc] = TT (ρ.set 5 (.v M2)) [pc] := by
  simp [-getElem?_pos, -ev_callC, hl, f3, f13, f4, k1, k2, a1, a2]
theorem st_6 (E2 : E D) (E3 : E D) (TT : S) {ρ : List Sl} {pc : Cell} {L1 L2 X1 X2 : List D} (hl : ρ.length = 25) (f3 : ρ[3]? = some (.v (.lst L1))) (f5 : ρ[5]? = some (.v (.lst L2))) (c1 : compGo (gV 20) eYes E2 (ρ.set 20 .un) L1 [pc] = .ok X1 [pc]) (c2 : compGo (gV 20) eYes E3 (ρ.set 20 .un) L2 [pc] = .ok X2 [pc]) :
    (xSeq (xPar [15, 16] (eCons (eComp (iAny (eVar 3)) (gV 20) eYes E2 [20]) (eCons (eComp (iAny (eVar 5)) (gV 20) eYes E3 [20]) eNil))) TT) ρ [pc] = TT ((ρ.set 15 (.v (.lst X1))).set 16 (.v (.lst X2))) [pc] := by
  simp [-getElem?_pos, -ev_callC, hl, f3, f5, c1, c2]
theorem st_7 (F_price : List Sl → List Cell → R D) (TT : S) {ρ : List Sl} {pc : Cell} {A0 A1 A2 A3 B0 B1 B2 B3 P1 P2 : D} (hl : ρ.length = 25) (f15 : ρ[15]? = some (.v (.lst [A0, A1, A2, A3]))) (f16 : ρ[16]? = some (.v (.lst [B0, B1, B2, B3]))) (p1 : F_price [.v A0, .v A1, .v A2, .v A3] [] = .ok P1 []) (p2 : F_price [.v B0, .v B1, .v B2, .v B3] [] = .ok P2 []) :
    (xSeq (xPar [17, 18] (eCons (eCall F_price (eCons (eBin fIx (eVar 15) (eC (.int 0))) (eCons (eBin fIx (eVar 15) (eC (.int 1))) (eCons (eBin fIx (eVar 15) (eC (.int 2))) (eCons (eBin fIx (eVar 15) (eC (.int 3))) eNil))))) (eCons (eCall F_price (eCons (eBin fIx (eVar 16) (eC (.int 0))) (eCons (eBin fIx (eVar 16) (eC (.int 1))) (eCons (eBin fIx (eVar 16) (eC (.int 2))) (eCons (eBin fIx (eVar 16) (eC (.int 3))) eNil))))) eNil))) TT) ρ [pc] = TT ((ρ.set 17 (.v P1)).set 18 (.v P2)) [pc] := by
  simp [-getElem?_pos, -ev_callC, hl, f15, f16, p1, p2, ix4_0, ix4_1, ix4_2, ix4_3]
theorem st_8 (F__law_unlike : List Sl → List Cell → R D) (TT : S) {ρ : List Sl} {pc : Cell} {L x y : D} {w U P1 P2 k : Int} (hl : ρ.length = 25) (f3 : ρ[3]? = some (.v L)) (f13 : ρ[13]? = some (.v (.int w))) (f4 : ρ[4]? = some (.v x)) (f17 : ρ[17]? = some (.v (.int P1))) (f18 : ρ[18]? = some (.v (.int P2))) (f12 : ρ[12]? = some (.v (.int k))) (i : fIx L (.int w) = some y) (u : F__law_unlike [.v y, .v x] [] = .ok (.int U) []) (h1 : ¬ U < (if P1 - P2 < 0 then -(P1 - P2) else P1 - P2)) (h2 : 0 ≤ P2) (h3 : P2 ≤ 2 * k) (hm : fMul (.int 2) (.int k) = some (.int (2 * k))) :
    (xSeq (xIf (eOr (eTest (eBin fGt (eFn fAbs (eCons (eBin fSub (eVar 17) (eVar 18)) eNil)) (eCall F__law_unlike (eCons (eBin fIx (eVar 3) (eVar 13)) (eCons (eVar 4) eNil))))) (eNot (eTest (eCh (eC (.int 0)) (chN fLe (eVar 18) (ch1 fLe (eBin fMul (eC (.int 2)) (eVar 12)))))))) (xRet (eC (.bl false))) xSkip) TT) ρ [pc] = TT ρ [pc] := by
  simp [-getElem?_pos, -ev_callC, hl, f3, f13, f4, f17, f18, f12, i, u, h1, h2, h3, hm]
theorem st_9 (F_nearest : List Sl → List Cell → R D) (TT : S) {ρ : List Sl} {pc : Cell} {A0 A1 A2 A3 N : D} (hl : ρ.length = 25) (f15 : ρ[15]? = some (.v (.lst [A0, A1, A2, A3]))) (n : F_nearest [.v A0, .v A1, .v A2] [] = .ok N []) :
    (xSeq (xAsg (eCall F_nearest (eCons (eBin fIx (eVar 15) (eC (.int 0))) (eCons (eBin fIx (eVar 15) (eC (.int 1))) (eCons (eBin fIx (eVar 15) (eC (.int 2))) eNil)))) (gV 6)) TT) ρ [pc] = TT (ρ.set 6 (.v N)) [pc] := by
  simp [-getElem?_pos, -ev_callC, hl, f15, n, ix4_0, ix4_1, ix4_2, ix4_3]
theorem st_10 (E4 : E D) (C5 : E Bool) (FC : D → Option D) (TT : S) {ρ : List Sl} {pc : Cell} {L y N cs : D} {Z X : List D} (hl : ρ.length = 25) (f3 : ρ[3]? = some (.v L)) (f6 : ρ[6]? = some (.v N)) (i : fIx L (.int 3) = some y) (fc : FC N = some cs) (z : zipN [y, cs] = some Z) (c : compGo (gTp (gCn (gV 24) (gCn (gV 21) gNl))) C5 E4 ((ρ.set 21 .un).set 24 .un) Z [pc] = .ok X [pc]) :
    (xSeq (xAsg (eFn fLen (eCons (eComp (iFn zipN (eCons (eBin fIx (eVar 3) (eC (.int 3))) (eCons (eUn FC (eVar 6)) eNil))) (gTp (gCn (gV 24) (gCn (gV 21) gNl))) C5 E4 [24, 21]) eNil)) (gV 7)) TT) ρ [pc] = TT (ρ.set 7 (.v (.int X.length))) [pc] := by
  simp [-getElem?_pos, -ev_callC, hl, f3, f6, i, fc, z, c]
theorem st_11 (FP : D → Option D) (TT : S) {ρ : List Sl} {pc : Cell} {N : D} {P1 p fa : Int} (hl : ρ.length = 25) (f17 : ρ[17]? = some (.v (.int P1))) (f6 : ρ[6]? = some (.v N)) (f7 : ρ[7]? = some (.v (.int fa))) (fp : FP N = some (.int p)) (e : P1 = p + fa) :
    (xSeq (xIf (eTest (eBin fNe (eVar 17) (eBin fAdd (eUn FP (eVar 6)) (eVar 7)))) (xRet (eC (.bl false))) xSkip) TT) ρ [pc] = TT ρ [pc] := by
  simp [-getElem?_pos, -ev_callC, hl, f17, f6, f7, fp, e]
theorem st_12 (F_Row_init : List Sl → List Cell → R D) (E6 : E D) (FC : D → Option D) (TT : S) {ρ : List Sl} {pc : Cell} {c1 : Cell} {N R : D} {m : Int} {cs X : List D} (hl : ρ.length = 25) (f11 : ρ[11]? = some (.v (.int m))) (f6 : ρ[6]? = some (.v N)) (fc : FC N = some (.tup cs)) (c : compGo (gV 21) eYes E6 (ρ.set 21 .un) cs [pc] = .ok X [c1]) (mk : F_Row_init [.cell 0, .v (.int m), .v (.lst X)] [some (.ins "Row" [] [])] = .ok .non [some R]) :
    (xSeq (xAsg (eMake "Row" F_Row_init (eCons (eVar 11) (eCons (eComp (iAny (eUn FC (eVar 6))) (gV 21) eYes E6 [21]) eNil))) (gV 8)) TT) ρ [pc] = TT (ρ.set 8 (.v R)) [c1] := by
  simp [-getElem?_pos, -ev_callC, hl, f11, f6, fc, c, mk]
theorem st_13 (F_fourth_of : List Sl → List Cell → R D) (F_price : List Sl → List Cell → R D) (FP : D → Option D) (FB : List D → Option D) (TT : S) {ρ : List Sl} {pc : Cell} {A0 A1 A2 A3 R N d : D} {p k : Int} {b : Bool} (hl : ρ.length = 25) (f15 : ρ[15]? = some (.v (.lst [A0, A1, A2, A3]))) (f8 : ρ[8]? = some (.v R)) (f6 : ρ[6]? = some (.v N)) (f12 : ρ[12]? = some (.v (.int k))) (p3 : F_price [.v A0, .v A1, .v A2, .v R] [] = .ok (.int p) []) (fp : FP N = some (.int p)) (h1 : ¬ k < p) (q : F_fourth_of [.v A0, .v A1, .v A2] [] = .ok d []) (fb : FB [d] = some (.bl b)) (nb : fNe (.bl (decide (p = 0))) (.bl b) = some (.bl false)) :
    (xSeq (xIf (eOr (eTest (eBin fNe (eCall F_price (eCons (eBin fIx (eVar 15) (eC (.int 0))) (eCons (eBin fIx (eVar 15) (eC (.int 1))) (eCons (eBin fIx (eVar 15) (eC (.int 2))) (eCons (eVar 8) eNil))))) (eUn FP (eVar 6)))) (eOr (eTest (eBin fGt (eUn FP (eVar 6)) (eVar 12))) (eTest (eBin fNe (eBin fEq (eUn FP (eVar 6)) (eC (.int 0))) (eFn FB (eCons (eCall F_fourth_of (eCons (eBin fIx (eVar 15) (eC (.int 0))) (eCons (eBin fIx (eVar 15) (eC (.int 1))) (eCons (eBin fIx (eVar 15) (eC (.int 2))) eNil)))) eNil)))))) (xRet (eC (.bl false))) xSkip) TT) ρ [pc] = TT ρ [pc] := by
  simp [-getElem?_pos, -ev_callC, hl, f15, f8, f6, f12, p3, fp, h1, q, fb, nb, ix4_0, ix4_1, ix4_2, ix4_3]
theorem st_14 (E7 : E D) (TT : S) {ρ : List Sl} {pc : Cell} {c1 : Cell} {R2 X : List D} (hl : ρ.length = 25) (r : rng1 [.int 2] = some R2) (c : compGo (gV 19) eYes E7 (ρ.set 19 .un) R2 [pc] = .ok X [c1]) :
    (xSeq (xAsg (eComp (iFn rng1 (eCons (eC (.int 2)) eNil)) (gV 19) eYes E7 [19]) (gV 9)) TT) ρ [pc] = TT (ρ.set 9 (.v (.lst X))) [c1] := by
  simp [-getElem?_pos, -ev_callC, hl, r, c]
theorem st_15 (F_price : List Sl → List Cell → R D) (TT : S) {ρ : List Sl} {pc : Cell} {A0 A1 A2 A3 B0 B1 P0 P1 P2 : D} (hl : ρ.length = 25) (f15 : ρ[15]? = some (.v (.lst [A0, A1, A2, A3]))) (f9 : ρ[9]? = some (.v (.lst [B0, B1]))) (p0 : F_price [.v A0, .v A1, .v A2, .v A3] [] = .ok P0 []) (p1 : F_price [.v A2, .v A3, .v B0, .v B1] [] = .ok P1 []) (p2 : F_price [.v A0, .v A1, .v B0, .v B1] [] = .ok P2 []) :
    (xSeq (xAsg (eFn dLst (eCons (eCall F_price (eCons (eBin fIx (eVar 15) (eC (.int 0))) (eCons (eBin fIx (eVar 15) (eC (.int 1))) (eCons (eBin fIx (eVar 15) (eC (.int 2))) (eCons (eBin fIx (eVar 15) (eC (.int 3))) eNil))))) (eCons (eCall F_price (eCons (eBin fIx (eVar 15) (eC (.int 2))) (eCons (eBin fIx (eVar 15) (eC (.int 3))) (eCons (eBin fIx (eVar 9) (eC (.int 0))) (eCons (eBin fIx (eVar 9) (eC (.int 1))) eNil))))) (eCons (eCall F_price (eCons (eBin fIx (eVar 15) (eC (.int 0))) (eCons (eBin fIx (eVar 15) (eC (.int 1))) (eCons (eBin fIx (eVar 9) (eC (.int 0))) (eCons (eBin fIx (eVar 9) (eC (.int 1))) eNil))))) eNil)))) (gV 10)) TT) ρ [pc] = TT (ρ.set 10 (.v (.lst [P0, P1, P2]))) [pc] := by
  simp [-getElem?_pos, -ev_callC, hl, f15, f9, p0, p1, p2, ix4_0, ix4_1, ix4_2, ix4_3, ix2_0, ix2_1]
theorem st_16 (TT : S) {ρ : List Sl} {pc : Cell} {P0 P1 P2 : Int} (hl : ρ.length = 25) (f10 : ρ[10]? = some (.v (.lst [.int P0, .int P1, .int P2]))) (h1 : ¬ P0 + P1 < P2) (h2 : ¬ P1 + P2 < P0) (h3 : ¬ P0 + P2 < P1) :
    (xSeq (xIf (eOr (eTest (eBin fGt (eBin fIx (eVar 10) (eC (.int 2))) (eBin fAdd (eBin fIx (eVar 10) (eC (.int 0))) (eBin fIx (eVar 10) (eC (.int 1)))))) (eOr (eTest (eBin fGt (eBin fIx (eVar 10) (eC (.int 0))) (eBin fAdd (eBin fIx (eVar 10) (eC (.int 1))) (eBin fIx (eVar 10) (eC (.int 2)))))) (eTest (eBin fGt (eBin fIx (eVar 10) (eC (.int 1))) (eBin fAdd (eBin fIx (eVar 10) (eC (.int 0))) (eBin fIx (eVar 10) (eC (.int 2)))))))) (xRet (eC (.bl false))) xSkip) TT) ρ [pc] = TT ρ [pc] := by
  simp [-getElem?_pos, -ev_callC, hl, f10, h1, h2, h3, ix3_0, ix3_1, ix3_2]
theorem st_17 (F_price : List Sl → List Cell → R D) {ρ : List Sl} {pc : Cell} {A0 A1 A2 A3 B0 B1 : D} (hl : ρ.length = 25) (f15 : ρ[15]? = some (.v (.lst [A0, A1, A2, A3]))) (f9 : ρ[9]? = some (.v (.lst [B0, B1]))) (p1 : F_price [.v A0, .v A1, .v A0, .v A1] [] = .ok (.int 0) []) (p2 : F_price [.v A0, .v A0, .v B0, .v B0] [] = .ok (.int 0) []) :
    (xIf (eOr (eTest (eBin fNe (eCall F_price (eCons (eBin fIx (eVar 15) (eC (.int 0))) (eCons (eBin fIx (eVar 15) (eC (.int 1))) (eCons (eBin fIx (eVar 15) (eC (.int 0))) (eCons (eBin fIx (eVar 15) (eC (.int 1))) eNil))))) (eC (.int 0)))) (eTest (eBin fNe (eCall F_price (eCons (eBin fIx (eVar 15) (eC (.int 0))) (eCons (eBin fIx (eVar 15) (eC (.int 0))) (eCons (eBin fIx (eVar 9) (eC (.int 0))) (eCons (eBin fIx (eVar 9) (eC (.int 0))) eNil))))) (eC (.int 0))))) (xRet (eC (.bl false))) xSkip) ρ [pc] = .ok .nx ρ [pc] := by
  simp [-getElem?_pos, -ev_callC, hl, f15, f9, p1, p2, ix4_0, ix4_1, ix4_2, ix4_3, ix2_0, ix2_1]
end K04
namespace K04
open PySem PySem.Spec PL
structure Head (ρ : List Sl) (m : Int) (k : Nat) : Prop where
  fr : Fr ρ
  f11 : ρ[11]? = some (.v (.int m))
  f12 : ρ[12]? = some (.v (.int k))
theorem Head.set {ρ : List Sl} {m : Int} {k : Nat} (h : Head ρ m k) {i : Nat} (h1 : i ≠ 1) (h2 : i ≠ 11) (h3 : i ≠ 12) (x : Sl) : Head (ρ.set i x) m k :=
  ⟨h.fr.set h1 x, by rw [List.getElem?_set_ne h2]; exact h.f11, by rw [List.getElem?_set_ne h3]; exact h.f12⟩
theorem at_set {ρ : List Sl} (h : ρ.length = 25) {i : Nat} (hi : i < 25) (x : Sl) : (ρ.set i x)[i]? = some x := List.getElem?_set_self (by rw [h]; exact hi)
theorem at_ne {ρ : List Sl} {i j : Nat} (h : i ≠ j) {x y : Sl} (e : ρ[j]? = some y) : (ρ.set i x)[j]? = some y := by rw [List.getElem?_set_ne h]; exact e
/-- one of the four -/
def sel (w : Int) (r0 r1 r2 r3 : List Int) : List Int := if w = 0 then r0 else if w = 1 then r1 else if w = 2 then r2 else r3
theorem ix_sel (w : Int) (h1 : 0 ≤ w) (h2 : w < 4) (r0 r1 r2 r3 : List Int) : fIx (.lst [tupI r0, tupI r1, tupI r2, tupI r3]) (.int w) = some (tupI (sel w r0 r1 r2 r3)) := by
  have : w = 0 ∨ w = 1 ∨ w = 2 ∨ w = 3 := by omega
  rcases this with rfl | rfl | rfl | rfl <;> rfl
def bt (w i : Int) (x r : List Int) : List Int := if w = i then x else r
theorem add_ll (l m : List D) (h : l.length + m.length ≤ 1000) : fAdd (.lst l) (.lst m) = some (.lst (l ++ m)) := by
  unfold fAdd
  exact if_pos (by omega)
theorem bend (w : Int) (h1 : 0 ≤ w) (h2 : w < 4) (a b c d x : D) : ∃ A B M1 M2, fCut (.lst [a, b, c, d]) none (some w) = some A ∧ fCut (.lst [a, b, c, d]) (some (w + 1)) none = some B ∧ fAdd A (.lst [x]) = some M1 ∧ fAdd M1 B = some M2 ∧
    M2 = .lst [if w = 0 then x else a, if w = 1 then x else b, if w = 2 then x else c, if w = 3 then x else d] := by
  have : w = 0 ∨ w = 1 ∨ w = 2 ∨ w = 3 := by omega
  rcases this with rfl | rfl | rfl | rfl
  · exact ⟨.lst [], .lst [b, c, d], _, _, rfl, rfl, add_ll _ _ (by simp), add_ll _ _ (by simp), rfl⟩
  · exact ⟨.lst [a], .lst [c, d], _, _, rfl, rfl, add_ll _ _ (by simp), add_ll _ _ (by simp), rfl⟩
  · exact ⟨.lst [a, b], .lst [d], _, _, rfl, rfl, add_ll _ _ (by simp), add_ll _ _ (by simp), rfl⟩
  · exact ⟨.lst [a, b, c], .lst [], _, _, rfl, rfl, add_ll _ _ (by simp), add_ll _ _ (by simp), rfl⟩
theorem if_tup (w i : Int) (x r : List Int) : (if w = i then tupI x else tupI r) = tupI (bt w i x r) := by unfold bt; split <;> rfl
theorem mk_row (FR : List Sl → List Cell → R D) {ρ : List Sl} {p : List Cell} {m : Int} {y R : D} (h11 : ρ[11]? = some (.v (.int m))) (h20 : ρ[20]? = some (.v y)) (h : FR [.cell 0, .v (.int m), .v y] [some (.ins "Row" [] [])] = .ok .non [some R]) :
    eMake "Row" FR (eCons (eVar 11) (eCons (eVar 20) eNil)) ρ p = .ok R p := by
  simp [-getElem?_pos, h11, h20, h]
theorem mk_row2 (FR : List Sl → List Cell → R D) (E : E D) {ρ : List Sl} {p p1 : List Cell} {m : Int} {y R : D} (h11 : ρ[11]? = some (.v (.int m))) (hE : E ρ p = .ok y p1) (h : FR [.cell 0, .v (.int m), .v y] [some (.ins "Row" [] [])] = .ok .non [some R]) :
    eMake "Row" FR (eCons (eVar 11) (eCons E eNil)) ρ p = .ok R p1 := by
  simp [-getElem?_pos, h11, hE, h]
theorem flat0_i : ∀ (l : List Int), (l.map D.int).all flat0 = true
  | [] => rfl
  | x :: l => by rw [List.map_cons, List.all_cons, flat0_i l]; rfl
theorem notin (z : Int) (l : List Int) : fNotIn (.int z) (tupI l) = some (.bl (!decide (z ∈ l))) := by
  show (if flat0 (.int z) = true ∧ (l.map D.int).all flat0 = true then some ((l.map D.int).any fun y => eqD y (.int z)) else none).map (fun b => D.bl (!b)) = _
  rw [if_pos ⟨rfl, flat0_i l⟩, List.any_map]
  have : (l.any ((fun y => eqD y (.int z)) ∘ D.int)) = decide (z ∈ l) := by
    induction l with
    | nil => simp
    | cons x l ih =>
      rw [List.any_cons, ih]
      show (eqD (.int x) (.int z) || _) = _
      rw [eqD_ii]
      by_cases h : x = z
      · simp [h]
      · simp [h, Ne.symm h]
  rw [this]; rfl
theorem ne_bb (x : Bool) : fNe (.bl x) (.bl x) = some (.bl false) := by
  have f : flatD 12 (.bl x) = true := by unfold flatD; rfl
  unfold fNe
  rw [if_pos ⟨f, f⟩]
  unfold eqD
  cases x <;> rfl
theorem t2_len {α β : Type} : ∀ {a : List α} {b : List β}, b.length = a.length → (t2 a b).length = a.length
  | [], [], _ => rfl
  | [], _ :: _, h => by cases h
  | _ :: _, [], h => by cases h
  | x :: a, y :: b, h => by
    show (t2 a b).length + 1 = a.length + 1
    rw [t2_len (by simpa using h)]
theorem t2_mem {α β : Type} : ∀ {a : List α} {b : List β} {q : α × β}, q ∈ t2 a b → q.1 ∈ a ∧ q.2 ∈ b
  | [], _, q, h => by cases h
  | x :: a, [], q, h => by cases h
  | x :: a, y :: b, q, h => by
    rcases List.mem_cons.mp (show q ∈ (x, y) :: t2 a b from h) with rfl | h
    · simp
    · obtain ⟨h1, h2⟩ := t2_mem h
      exact ⟨List.mem_cons_of_mem _ h1, List.mem_cons_of_mem _ h2⟩
theorem from_of : ∀ {e : List Int} {cs : List (List Int)}, e.length = cs.length → (∀ (i : Nat) k x, cs[i]? = some k → e[i]? = some x → x ∈ k) → From e cs
  | [], [], _, _ => .nil
  | [], _ :: _, h, _ => by cases h
  | _ :: _, [], h, _ => by cases h
  | x :: e, k :: cs, h, hh => .cons (hh 0 k x rfl rfl) (from_of (by simpa using h) fun i k x a b => hh (i + 1) k x a b)
theorem sel_told {m : Int} {k : Nat} {w : Int} {r0 r1 r2 r3 : List Int} (t0 : Told m k r0) (t1 : Told m k r1) (t2 : Told m k r2) (t3 : Told m k r3) : Told m k (sel w r0 r1 r2 r3) := by
  unfold sel; repeat' split
  all_goals assumption
theorem bt_told {m : Int} {k : Nat} {w i : Int} {x r : List Int} (t0 : Told m k x) (t1 : Told m k r) : Told m k (bt w i x r) := by
  unfold bt; split <;> assumption
/-- the price turns by no more than what differs -/
theorem bent_price {m : Int} {k : Nat} {w : Int} (h1 : 0 ≤ w) (h2 : w < 4) {r0 r1 r2 r3 x : List Int} (t0 : Told m k r0) (t1 : Told m k r1) (t2 : Told m k r2) (t3 : Told m k r3) (tx : Told m k x) :
    pr r0 r1 r2 r3 - pr (bt w 0 x r0) (bt w 1 x r1) (bt w 2 x r2) (bt w 3 x r3) ≤ unl (sel w r0 r1 r2 r3) x ∧ pr (bt w 0 x r0) (bt w 1 x r1) (bt w 2 x r2) (bt w 3 x r3) - pr r0 r1 r2 r3 ≤ unl (sel w r0 r1 r2 r3) x := by
  have l0 := t0.len; have l1 := t1.len; have l2 := t2.len; have l3 := t3.len; have lx := tx.len
  have : w = 0 ∨ w = 1 ∨ w = 2 ∨ w = 3 := by omega
  rcases this with rfl | rfl | rfl | rfl
  · exact (pr_abs (a := r0) (b := r1) (c := r2) (d := r3) (a' := x) (by omega) (by omega) (by omega) (by omega)).1
  · exact (pr_abs (a := r1) (b := r0) (c := r2) (d := r3) (a' := x) (by omega) (by omega) (by omega) (by omega)).2.1
  · exact (pr_abs (a := r2) (b := r0) (c := r1) (d := r3) (a' := x) (by omega) (by omega) (by omega) (by omega)).2.2.1
  · exact (pr_abs (a := r3) (b := r0) (c := r1) (d := r2) (a' := x) (by omega) (by omega) (by omega) (by omega)).2.2.2
end K04
namespace K04
open PySem PySem.Spec PL
structure Dim (m : Int) (k : Nat) : Prop where
  m1 : 2 ≤ m
  m2 : m ≤ 4
  k1 : 1 ≤ k
  k2 : k ≤ 6
theorem Dim.row {m : Int} {k : Nat} (g : Dim m k) {l : List Int} (t : Told m k l) : RowOk m l := t.row g.m1 g.m2 g.k1 g.k2
theorem ch_ne (w x y : Int) : (ch w x y).map D.int ≠ [] := by
  have : ∃ z, z ∈ ch w x y := by
    by_cases h1 : w = x
    · exact ⟨y, (mem_ch w x y y).mpr (.inl ⟨h1, rfl⟩)⟩
    · by_cases h2 : w = y
      · exact ⟨x, (mem_ch w x y x).mpr (.inr (.inl ⟨h1, h2, rfl⟩))⟩
      · exact ⟨x, (mem_ch w x y x).mpr (.inr (.inr ⟨h1, h2, .inl rfl⟩))⟩
  obtain ⟨z, hz⟩ := this
  intro h
  have : ch w x y = [] := List.map_eq_nil_iff.mp h
  rw [this] at hz; cases hz
theorem ch_len (w x y : Int) : (ch w x y).length ≤ 2 := by
  unfold ch
  cases fm w x y with
  | some z => simp
  | none =>
    show (sortI (dedupI [x, y])).length ≤ 2
    rw [(sortI_perm _).length_eq]
    exact dedupI_len _
theorem nc_ch {a b c k : List Int} (h : k ∈ nc a b c) : ∃ w x y, k = ch w x y := by
  obtain ⟨q, _, e⟩ := List.mem_map.mp h
  exact ⟨_, _, _, e.symm⟩
section
variable {s0 s2 s3 s4 s5 s6 s7 s8 s9 s10 s11 s12 s13 s14 s15 s16 s17 s18 s19 s20 s21 s22 s23 s24 : Sl} {pc : Cell} {T : Nat} {m : Int} {k : Nat}
theorem s_1 (hT : T + 40 ≤ 1000000) (h : Pen T pc) : ∃ (m : Int) (k : Nat) (pc' : Cell), l8_law [s0, .cell 0, s2, s3, s4, s5, s6, s7, s8, s9, s10, s11, s12, s13, s14, s15, s16, s17, s18, s19, s20, s21, s22, s23, s24] [pc] = t4_law [s0, .cell 0, s2, s3, s4, s5, s6, s7, s8, s9, s10, .v (.int m), .v (.int k), s13, s14, s15, s16, s17, s18, s19, s20, s21, s22, s23, s24] [pc'] ∧ Pen (T + 2) pc' ∧ Dim m k := by
  obtain ⟨x, c1, q1, x1, x2, p1⟩ := dr (T := T) (by omega) (i := 1) (ρ := [s0, .cell 0, s2, s3, s4, s5, s6, s7, s8, s9, s10, s11, s12, s13, s14, s15, s16, s17, s18, s19, s20, s21, s22, s23, s24]) (e := eC (.int 3)) (many := 3) rfl (fun p => rfl) h (by omega) (by omega)
  obtain ⟨y, c2, q2, y1, y2, p2⟩ := dr (T := T + 1) (by omega) (i := 1) (ρ := [s0, .cell 0, s2, s3, s4, s5, s6, s7, s8, s9, s10, s11, s12, s13, s14, s15, s16, s17, s18, s19, s20, s21, s22, s23, s24]) (e := eC (.int 6)) (many := 6) rfl (fun p => rfl) p1 (by omega) (by omega)
  refine ⟨2 + x, (1 + y).toNat, c2, ?_, p2, by omega, by omega, by omega, by omega⟩
  have e : ((1 + y).toNat : Int) = 1 + y := by omega
  rw [e]
  exact st_1 fn__law_draw t4_law rfl q1 q2
theorem s_2 (g : Dim m k) (hT : T + 40 ≤ 1000000) (h : Pen T pc) : ∃ r0 r1 r2 r3 pc', t4_law [s0, .cell 0, s2, s3, s4, s5, s6, s7, s8, s9, s10, .v (.int m), .v (.int k), s13, s14, s15, s16, s17, s18, s19, s20, s21, s22, s23, s24] [pc] = t5_law [s0, .cell 0, s2, .v (.lst [tupI r0, tupI r1, tupI r2, tupI r3]), s4, s5, s6, s7, s8, s9, s10, .v (.int m), .v (.int k), s13, s14, s15, s16, s17, s18, s19, s20, s21, s22, s23, s24] [pc'] ∧ Pen (T + 32) pc' ∧ Told m k r0 ∧ Told m k r1 ∧ Told m k r2 ∧ Told m k r3 := by
  obtain ⟨m1, m2, k1, k2⟩ := g
  obtain ⟨r0, r1, r2, r3, pc', q, hp, t0, t1, t2, t3⟩ := sp_four (T := T) (k := k) (by omega) h m (by omega) (by omega) (by omega) (by omega)
  exact ⟨r0, r1, r2, r3, pc', st_2 fn__law_four t5_law rfl (call2 (a := eVar 11) (b := eVar 12) rfl rfl rfl h hp q), hp.mono (by omega), t0, t1, t2, t3⟩
variable {r0 r1 r2 r3 o x : List Int} {w : Int}
theorem s_3 (g : Dim m k) (hT : T + 40 ≤ 1000000) (h : Pen T pc) : ∃ (w : Int) (o : List Int) (pc' : Cell), t5_law [s0, .cell 0, s2, .v (.lst [tupI r0, tupI r1, tupI r2, tupI r3]), s4, s5, s6, s7, s8, s9, s10, .v (.int m), .v (.int k), s13, s14, s15, s16, s17, s18, s19, s20, s21, s22, s23, s24] [pc] = t6_law [s0, .cell 0, s2, .v (.lst [tupI r0, tupI r1, tupI r2, tupI r3]), s4, s5, s6, s7, s8, s9, s10, .v (.int m), .v (.int k), .v (.int w), .v (tupI o), s15, s16, s17, s18, s19, s20, s21, s22, s23, s24] [pc'] ∧ Pen (T + 7) pc' ∧ 0 ≤ w ∧ w < 4 ∧ Told m k o := by
  obtain ⟨m1, m2, k1, k2⟩ := g
  obtain ⟨w, c1, q1, w1, w2, p1⟩ := dr (T := T) (by omega) (i := 1) (ρ := [s0, .cell 0, s2, .v (.lst [tupI r0, tupI r1, tupI r2, tupI r3]), s4, s5, s6, s7, s8, s9, s10, .v (.int m), .v (.int k), s13, s14, s15, s16, s17, s18, s19, s20, s21, s22, s23, s24]) (e := eC (.int 4)) (many := 4) rfl (fun p => rfl) h (by omega) (by omega)
  obtain ⟨o, c2, q2, p2, ol, oa⟩ := sp_marks (T := T + 1) (k := k) (by omega) p1 m (by omega) (by omega) (by omega)
  exact ⟨w, o, c2, st_3 fn__law_draw fn__law_marks t6_law rfl q1 (call2 (a := eVar 11) (b := eVar 12) rfl rfl rfl p1 p2 q2), p2.mono (by omega), w1, w2, ol, oa⟩
theorem run4 (a b : Int) : (gTp (gCn (gV 22) (gCn (gV 23) gNl))).run (.tup [.int a, .int b]) [s0, .cell 0, s2, .v (.lst [tupI r0, tupI r1, tupI r2, tupI r3]), s4, s5, s6, s7, s8, s9, s10, .v (.int m), .v (.int k), .v (.int w), .v (tupI o), s15, s16, s17, s18, s19, s20, s21, .un, .un, s24] = some [s0, .cell 0, s2, .v (.lst [tupI r0, tupI r1, tupI r2, tupI r3]), s4, s5, s6, s7, s8, s9, s10, .v (.int m), .v (.int k), .v (.int w), .v (tupI o), s15, s16, s17, s18, s19, s20, s21, .v (.int a), .v (.int b), s24] := rfl
theorem pick4 (hT : T ≤ 1000000) (h : Pen T pc) (a b : Int) : ∃ y c', e1_law [s0, .cell 0, s2, .v (.lst [tupI r0, tupI r1, tupI r2, tupI r3]), s4, s5, s6, s7, s8, s9, s10, .v (.int m), .v (.int k), .v (.int w), .v (tupI o), s15, s16, s17, s18, s19, s20, s21, .v (.int a), .v (.int b), s24] [pc] = .ok (.int y) [c'] ∧ (y = a ∨ y = b) ∧ Pen (T + 1) c' := by
  obtain ⟨v, c', q, hv, hp'⟩ := call_pk kd T hT (i := 1) (j := 0) (ρ := [s0, .cell 0, s2, .v (.lst [tupI r0, tupI r1, tupI r2, tupI r3]), s4, s5, s6, s7, s8, s9, s10, .v (.int m), .v (.int k), .v (.int w), .v (tupI o), s15, s16, s17, s18, s19, s20, s21, .v (.int a), .v (.int b), s24]) (p := [pc]) (p1 := [pc]) (pc := pc) (e := eFn dLst (eCons (eVar 22) (eCons (eVar 22) (eCons (eVar 23) eNil)))) (l := [.int a, .int a, .int b]) rfl rfl rfl h (by simp) (by simp)
  rw [← pick_eq] at q
  simp at hv
  rcases hv with rfl | rfl
  · exact ⟨a, c', q, .inl rfl, hp'⟩
  · exact ⟨b, c', q, .inr rfl, hp'⟩
theorem s_4 (g : Dim m k) (hT : T + 40 ≤ 1000000) (h : Pen T pc) (w1 : 0 ≤ w) (w2 : w < 4) (ts : Told m k (sel w r0 r1 r2 r3)) (to : Told m k o) : ∃ (x : List Int) (pc' : Cell), t6_law [s0, .cell 0, s2, .v (.lst [tupI r0, tupI r1, tupI r2, tupI r3]), s4, s5, s6, s7, s8, s9, s10, .v (.int m), .v (.int k), .v (.int w), .v (tupI o), s15, s16, s17, s18, s19, s20, s21, s22, s23, s24] [pc] = t7_law [s0, .cell 0, s2, .v (.lst [tupI r0, tupI r1, tupI r2, tupI r3]), .v (tupI x), s5, s6, s7, s8, s9, s10, .v (.int m), .v (.int k), .v (.int w), .v (tupI o), s15, s16, s17, s18, s19, s20, s21, s22, s23, s24] [pc'] ∧ Pen (T + 6) pc' ∧ Told m k x := by
  obtain ⟨m1, m2, k1, k2⟩ := g
  have z : zipN [tupI (sel w r0 r1 r2 r3), tupI o] = some ((t2 (sel w r0 r1 r2 r3) o).map fun q : Int × Int => D.tup [.int q.1, .int q.2]) := zipN_2 D.int D.int _ _ rfl rfl
  have tl : (t2 (sel w r0 r1 r2 r3) o).length = k := by rw [t2_len (by rw [to.len, ts.len]), ts.len]
  obtain ⟨x, pc', c, p, xl, hx⟩ := penI (g := gTp (gCn (gV 22) (gCn (gV 23) gNl))) (elt := e1_law) (ρ := [s0, .cell 0, s2, .v (.lst [tupI r0, tupI r1, tupI r2, tupI r3]), s4, s5, s6, s7, s8, s9, s10, .v (.int m), .v (.int k), .v (.int w), .v (tupI o), s15, s16, s17, s18, s19, s20, s21, .un, .un, s24]) 1 (fun _ i => 0 ≤ i ∧ i < m) (ds := (t2 (sel w r0 r1 r2 r3) o).map fun q : Int × Int => D.tup [.int q.1, .int q.2]) h (by rw [List.length_map, tl]; omega) fun d hd T pc hT hp => by
    obtain ⟨q, hq, rfl⟩ := List.mem_map.mp hd
    obtain ⟨q1, q2⟩ := t2_mem hq
    obtain ⟨y, c', e, hy, hp'⟩ := pick4 (T := T) (by omega) hp q.1 q.2
    refine ⟨_, y, c', run4 q.1 q.2, e, hp', ?_⟩
    rcases hy with rfl | rfl
    · exact ts.all _ q1
    · exact to.all _ q2
  rw [List.length_map, tl] at p xl
  refine ⟨x, pc', st_4 e1_law t7_law rfl rfl rfl rfl (ix_sel w w1 w2 r0 r1 r2 r3) z c, p.mono (by omega), xl, fun y hy => ?_⟩
  obtain ⟨j, hj, e⟩ := List.mem_iff_getElem.mp hy
  exact hx j _ y (List.getElem?_eq_getElem (by rw [List.length_map, tl]; omega)) (by rw [List.getElem?_eq_getElem hj, e])
theorem s_5 (w1 : 0 ≤ w) (w2 : w < 4) : t7_law [s0, .cell 0, s2, .v (.lst [tupI r0, tupI r1, tupI r2, tupI r3]), .v (tupI x), s5, s6, s7, s8, s9, s10, .v (.int m), .v (.int k), .v (.int w), .v (tupI o), s15, s16, s17, s18, s19, s20, s21, s22, s23, s24] [pc] = t8_law [s0, .cell 0, s2, .v (.lst [tupI r0, tupI r1, tupI r2, tupI r3]), .v (tupI x), .v (.lst [tupI (bt w 0 x r0), tupI (bt w 1 x r1), tupI (bt w 2 x r2), tupI (bt w 3 x r3)]), s6, s7, s8, s9, s10, .v (.int m), .v (.int k), .v (.int w), .v (tupI o), s15, s16, s17, s18, s19, s20, s21, s22, s23, s24] [pc] := by
  obtain ⟨A, B, M1, M2, k1, k2, a1, a2, e⟩ := bend w w1 w2 (tupI r0) (tupI r1) (tupI r2) (tupI r3) (tupI x)
  rw [if_tup, if_tup, if_tup, if_tup] at e
  subst e
  exact st_5 t8_law rfl rfl rfl rfl k1 k2 a1 a2
theorem rows6 (E : E D) (hE : E = eMake "Row" fn_Row_init (eCons (eVar 11) (eCons (eVar 20) eNil))) {ks : List (List Int)} (g : Dim m k) (h : ∀ y ∈ ks, Told m k y) : compGo (gV 20) eYes E [s0, .cell 0, s2, .v (.lst [tupI r0, tupI r1, tupI r2, tupI r3]), .v (tupI x), .v (.lst [tupI (bt w 0 x r0), tupI (bt w 1 x r1), tupI (bt w 2 x r2), tupI (bt w 3 x r3)]), s6, s7, s8, s9, s10, .v (.int m), .v (.int k), .v (.int w), .v (tupI o), s15, s16, s17, s18, s19, .un, s21, s22, s23, s24] (ks.map tupI) [pc] = .ok (ks.map (rowD m)) [pc] :=
  compGo_on tupI (rowD m) fun y hy => ⟨[s0, .cell 0, s2, .v (.lst [tupI r0, tupI r1, tupI r2, tupI r3]), .v (tupI x), .v (.lst [tupI (bt w 0 x r0), tupI (bt w 1 x r1), tupI (bt w 2 x r2), tupI (bt w 3 x r3)]), s6, s7, s8, s9, s10, .v (.int m), .v (.int k), .v (.int w), .v (tupI o), s15, s16, s17, s18, s19, .v (tupI y), s21, s22, s23, s24], rfl, by rw [hE]; exact mk_row fn_Row_init rfl rfl (sp_Row (g.row (h y hy)) (.inl rfl))⟩
theorem s_6 (g : Dim m k) (t0 : Told m k r0) (t1 : Told m k r1) (t2 : Told m k r2) (t3 : Told m k r3) (tx : Told m k x) : t8_law [s0, .cell 0, s2, .v (.lst [tupI r0, tupI r1, tupI r2, tupI r3]), .v (tupI x), .v (.lst [tupI (bt w 0 x r0), tupI (bt w 1 x r1), tupI (bt w 2 x r2), tupI (bt w 3 x r3)]), s6, s7, s8, s9, s10, .v (.int m), .v (.int k), .v (.int w), .v (tupI o), s15, s16, s17, s18, s19, s20, s21, s22, s23, s24] [pc] = t9_law [s0, .cell 0, s2, .v (.lst [tupI r0, tupI r1, tupI r2, tupI r3]), .v (tupI x), .v (.lst [tupI (bt w 0 x r0), tupI (bt w 1 x r1), tupI (bt w 2 x r2), tupI (bt w 3 x r3)]), s6, s7, s8, s9, s10, .v (.int m), .v (.int k), .v (.int w), .v (tupI o), .v (.lst [rowD m r0, rowD m r1, rowD m r2, rowD m r3]), .v (.lst [rowD m (bt w 0 x r0), rowD m (bt w 1 x r1), rowD m (bt w 2 x r2), rowD m (bt w 3 x r3)]), s17, s18, s19, s20, s21, s22, s23, s24] [pc] :=
  st_6 e2_law e3_law t9_law rfl rfl rfl (rows6 (ks := [r0, r1, r2, r3]) e2_law rfl g (by simp; exact ⟨t0, t1, t2, t3⟩)) (rows6 (ks := [bt w 0 x r0, bt w 1 x r1, bt w 2 x r2, bt w 3 x r3]) e3_law rfl g (by simp; exact ⟨bt_told tx t0, bt_told tx t1, bt_told tx t2, bt_told tx t3⟩))
theorem Told.prc (g : Dim m k) {a b c d : List Int} (t0 : Told m k a) (t1 : Told m k b) (t2 : Told m k c) (t3 : Told m k d) : fn_price [.v (rowD m a), .v (rowD m b), .v (rowD m c), .v (rowD m d)] [] = .ok (.int (pr a b c d)) [] :=
  sp_price m a b c d (by rw [t0.len]; exact Nat.le_trans g.k2 (by decide)) (by rw [t0.len, t1.len]) (by rw [t0.len, t2.len]) (by rw [t0.len, t3.len])
theorem Told.e4 {a b c d : List Int} (t0 : Told m k a) (t1 : Told m k b) (t2 : Told m k c) (t3 : Told m k d) : E4 a b c d := E4.of (by rw [t0.len, t1.len]) (by rw [t0.len, t2.len]) (by rw [t0.len, t3.len])
theorem s_7 (g : Dim m k) (t0 : Told m k r0) (t1 : Told m k r1) (t2 : Told m k r2) (t3 : Told m k r3) (tx : Told m k x) : t9_law [s0, .cell 0, s2, .v (.lst [tupI r0, tupI r1, tupI r2, tupI r3]), .v (tupI x), .v (.lst [tupI (bt w 0 x r0), tupI (bt w 1 x r1), tupI (bt w 2 x r2), tupI (bt w 3 x r3)]), s6, s7, s8, s9, s10, .v (.int m), .v (.int k), .v (.int w), .v (tupI o), .v (.lst [rowD m r0, rowD m r1, rowD m r2, rowD m r3]), .v (.lst [rowD m (bt w 0 x r0), rowD m (bt w 1 x r1), rowD m (bt w 2 x r2), rowD m (bt w 3 x r3)]), s17, s18, s19, s20, s21, s22, s23, s24] [pc] = t10_law [s0, .cell 0, s2, .v (.lst [tupI r0, tupI r1, tupI r2, tupI r3]), .v (tupI x), .v (.lst [tupI (bt w 0 x r0), tupI (bt w 1 x r1), tupI (bt w 2 x r2), tupI (bt w 3 x r3)]), s6, s7, s8, s9, s10, .v (.int m), .v (.int k), .v (.int w), .v (tupI o), .v (.lst [rowD m r0, rowD m r1, rowD m r2, rowD m r3]), .v (.lst [rowD m (bt w 0 x r0), rowD m (bt w 1 x r1), rowD m (bt w 2 x r2), rowD m (bt w 3 x r3)]), .v (.int (pr r0 r1 r2 r3)), .v (.int (pr (bt w 0 x r0) (bt w 1 x r1) (bt w 2 x r2) (bt w 3 x r3))), s19, s20, s21, s22, s23, s24] [pc] :=
  st_7 fn_price t10_law rfl rfl rfl (t0.prc g t1 t2 t3) ((bt_told tx t0).prc g (bt_told tx t1) (bt_told tx t2) (bt_told tx t3))
theorem s_8 (g : Dim m k) (w1 : 0 ≤ w) (w2 : w < 4) (t0 : Told m k r0) (t1 : Told m k r1) (t2 : Told m k r2) (t3 : Told m k r3) (tx : Told m k x) : t10_law [s0, .cell 0, s2, .v (.lst [tupI r0, tupI r1, tupI r2, tupI r3]), .v (tupI x), .v (.lst [tupI (bt w 0 x r0), tupI (bt w 1 x r1), tupI (bt w 2 x r2), tupI (bt w 3 x r3)]), s6, s7, s8, s9, s10, .v (.int m), .v (.int k), .v (.int w), .v (tupI o), .v (.lst [rowD m r0, rowD m r1, rowD m r2, rowD m r3]), .v (.lst [rowD m (bt w 0 x r0), rowD m (bt w 1 x r1), rowD m (bt w 2 x r2), rowD m (bt w 3 x r3)]), .v (.int (pr r0 r1 r2 r3)), .v (.int (pr (bt w 0 x r0) (bt w 1 x r1) (bt w 2 x r2) (bt w 3 x r3))), s19, s20, s21, s22, s23, s24] [pc] = t12_law [s0, .cell 0, s2, .v (.lst [tupI r0, tupI r1, tupI r2, tupI r3]), .v (tupI x), .v (.lst [tupI (bt w 0 x r0), tupI (bt w 1 x r1), tupI (bt w 2 x r2), tupI (bt w 3 x r3)]), s6, s7, s8, s9, s10, .v (.int m), .v (.int k), .v (.int w), .v (tupI o), .v (.lst [rowD m r0, rowD m r1, rowD m r2, rowD m r3]), .v (.lst [rowD m (bt w 0 x r0), rowD m (bt w 1 x r1), rowD m (bt w 2 x r2), rowD m (bt w 3 x r3)]), .v (.int (pr r0 r1 r2 r3)), .v (.int (pr (bt w 0 x r0) (bt w 1 x r1) (bt w 2 x r2) (bt w 3 x r3))), s19, s20, s21, s22, s23, s24] [pc] := by
  have u : fn__law_unlike [.v (tupI (sel w r0 r1 r2 r3)), .v (tupI x)] [] = .ok (.int (unl (sel w r0 r1 r2 r3) x)) [] := sp_unlike (sel w r0 r1 r2 r3) x
  have hb := bent_price w1 w2 t0 t1 t2 t3 tx
  have e := ((bt_told (w := w) (i := 0) tx t0).e4 (bt_told (w := w) (i := 1) tx t1) (bt_told (w := w) (i := 2) tx t2) (bt_told (w := w) (i := 3) tx t3))
  have h2 := pr_02 e
  rw [(bt_told (w := w) (i := 0) tx t0).len] at h2
  exact st_8 fn__law_unlike t12_law rfl rfl rfl rfl rfl rfl rfl (ix_sel w w1 w2 r0 r1 r2 r3) u (by split <;> omega) h2.1 h2.2 (mulc (by omega) _)
theorem s_9 (g : Dim m k) (t0 : Told m k r0) (t1 : Told m k r1) (t2 : Told m k r2) : t12_law [s0, .cell 0, s2, .v (.lst [tupI r0, tupI r1, tupI r2, tupI r3]), .v (tupI x), .v (.lst [tupI (bt w 0 x r0), tupI (bt w 1 x r1), tupI (bt w 2 x r2), tupI (bt w 3 x r3)]), s6, s7, s8, s9, s10, .v (.int m), .v (.int k), .v (.int w), .v (tupI o), .v (.lst [rowD m r0, rowD m r1, rowD m r2, rowD m r3]), .v (.lst [rowD m (bt w 0 x r0), rowD m (bt w 1 x r1), rowD m (bt w 2 x r2), rowD m (bt w 3 x r3)]), .v (.int (pr r0 r1 r2 r3)), .v (.int (pr (bt w 0 x r0) (bt w 1 x r1) (bt w 2 x r2) (bt w 3 x r3))), s19, s20, s21, s22, s23, s24] [pc] = t13_law [s0, .cell 0, s2, .v (.lst [tupI r0, tupI r1, tupI r2, tupI r3]), .v (tupI x), .v (.lst [tupI (bt w 0 x r0), tupI (bt w 1 x r1), tupI (bt w 2 x r2), tupI (bt w 3 x r3)]), .v (nearD (nm r0 r1 r2) ((nc r0 r1 r2).map tupI)), s7, s8, s9, s10, .v (.int m), .v (.int k), .v (.int w), .v (tupI o), .v (.lst [rowD m r0, rowD m r1, rowD m r2, rowD m r3]), .v (.lst [rowD m (bt w 0 x r0), rowD m (bt w 1 x r1), rowD m (bt w 2 x r2), rowD m (bt w 3 x r3)]), .v (.int (pr r0 r1 r2 r3)), .v (.int (pr (bt w 0 x r0) (bt w 1 x r1) (bt w 2 x r2) (bt w 3 x r3))), s19, s20, s21, s22, s23, s24] [pc] :=
  st_9 fn_nearest t13_law rfl rfl (sp_nearest m r0 r1 r2 (by rw [t0.len]; exact Nat.le_trans g.k2 (by decide)) (by rw [t0.len, t1.len]) (by rw [t0.len, t2.len]))
theorem run10 (q : Int × List Int) : (gTp (gCn (gV 24) (gCn (gV 21) gNl))).run (.tup [.int q.1, tupI q.2]) [s0, .cell 0, s2, .v (.lst [tupI r0, tupI r1, tupI r2, tupI r3]), .v (tupI x), .v (.lst [tupI (bt w 0 x r0), tupI (bt w 1 x r1), tupI (bt w 2 x r2), tupI (bt w 3 x r3)]), .v (nearD (nm r0 r1 r2) ((nc r0 r1 r2).map tupI)), s7, s8, s9, s10, .v (.int m), .v (.int k), .v (.int w), .v (tupI o), .v (.lst [rowD m r0, rowD m r1, rowD m r2, rowD m r3]), .v (.lst [rowD m (bt w 0 x r0), rowD m (bt w 1 x r1), rowD m (bt w 2 x r2), rowD m (bt w 3 x r3)]), .v (.int (pr r0 r1 r2 r3)), .v (.int (pr (bt w 0 x r0) (bt w 1 x r1) (bt w 2 x r2) (bt w 3 x r3))), s19, s20, .un, s22, s23, .un] = some [s0, .cell 0, s2, .v (.lst [tupI r0, tupI r1, tupI r2, tupI r3]), .v (tupI x), .v (.lst [tupI (bt w 0 x r0), tupI (bt w 1 x r1), tupI (bt w 2 x r2), tupI (bt w 3 x r3)]), .v (nearD (nm r0 r1 r2) ((nc r0 r1 r2).map tupI)), s7, s8, s9, s10, .v (.int m), .v (.int k), .v (.int w), .v (tupI o), .v (.lst [rowD m r0, rowD m r1, rowD m r2, rowD m r3]), .v (.lst [rowD m (bt w 0 x r0), rowD m (bt w 1 x r1), rowD m (bt w 2 x r2), rowD m (bt w 3 x r3)]), .v (.int (pr r0 r1 r2 r3)), .v (.int (pr (bt w 0 x r0) (bt w 1 x r1) (bt w 2 x r2) (bt w 3 x r3))), s19, s20, .v (tupI q.2), s22, s23, .v (.int q.1)] := rfl
theorem cnd10 {ρ : List Sl} {p : List Cell} {z : Int} {l : List Int} (h1 : ρ[24]? = some (.v (.int z))) (h2 : ρ[21]? = some (.v (tupI l))) : c5_law ρ p = .ok (decide (z ∉ l)) p := by
  have n := notin z l
  generalize tupI l = y at *
  simp [-getElem?_pos, c5_law, h1, h2, n]
theorem s_10 : t13_law [s0, .cell 0, s2, .v (.lst [tupI r0, tupI r1, tupI r2, tupI r3]), .v (tupI x), .v (.lst [tupI (bt w 0 x r0), tupI (bt w 1 x r1), tupI (bt w 2 x r2), tupI (bt w 3 x r3)]), .v (nearD (nm r0 r1 r2) ((nc r0 r1 r2).map tupI)), s7, s8, s9, s10, .v (.int m), .v (.int k), .v (.int w), .v (tupI o), .v (.lst [rowD m r0, rowD m r1, rowD m r2, rowD m r3]), .v (.lst [rowD m (bt w 0 x r0), rowD m (bt w 1 x r1), rowD m (bt w 2 x r2), rowD m (bt w 3 x r3)]), .v (.int (pr r0 r1 r2 r3)), .v (.int (pr (bt w 0 x r0) (bt w 1 x r1) (bt w 2 x r2) (bt w 3 x r3))), s19, s20, s21, s22, s23, s24] [pc] = t14_law [s0, .cell 0, s2, .v (.lst [tupI r0, tupI r1, tupI r2, tupI r3]), .v (tupI x), .v (.lst [tupI (bt w 0 x r0), tupI (bt w 1 x r1), tupI (bt w 2 x r2), tupI (bt w 3 x r3)]), .v (nearD (nm r0 r1 r2) ((nc r0 r1 r2).map tupI)), .v (.int (far r3 (nc r0 r1 r2))), s8, s9, s10, .v (.int m), .v (.int k), .v (.int w), .v (tupI o), .v (.lst [rowD m r0, rowD m r1, rowD m r2, rowD m r3]), .v (.lst [rowD m (bt w 0 x r0), rowD m (bt w 1 x r1), rowD m (bt w 2 x r2), rowD m (bt w 3 x r3)]), .v (.int (pr r0 r1 r2 r3)), .v (.int (pr (bt w 0 x r0) (bt w 1 x r1) (bt w 2 x r2) (bt w 3 x r3))), s19, s20, s21, s22, s23, s24] [pc] := by
  have z : zipN [tupI r3, .tup ((nc r0 r1 r2).map tupI)] = some ((t2 r3 (nc r0 r1 r2)).map fun q : Int × List Int => D.tup [.int q.1, tupI q.2]) := zipN_2 D.int tupI _ _ rfl rfl
  have c := compGo_onIf (g := gTp (gCn (gV 24) (gCn (gV 21) gNl))) (c := c5_law) (elt := e4_law) (ρ := [s0, .cell 0, s2, .v (.lst [tupI r0, tupI r1, tupI r2, tupI r3]), .v (tupI x), .v (.lst [tupI (bt w 0 x r0), tupI (bt w 1 x r1), tupI (bt w 2 x r2), tupI (bt w 3 x r3)]), .v (nearD (nm r0 r1 r2) ((nc r0 r1 r2).map tupI)), s7, s8, s9, s10, .v (.int m), .v (.int k), .v (.int w), .v (tupI o), .v (.lst [rowD m r0, rowD m r1, rowD m r2, rowD m r3]), .v (.lst [rowD m (bt w 0 x r0), rowD m (bt w 1 x r1), rowD m (bt w 2 x r2), rowD m (bt w 3 x r3)]), .v (.int (pr r0 r1 r2 r3)), .v (.int (pr (bt w 0 x r0) (bt w 1 x r1) (bt w 2 x r2) (bt w 3 x r3))), s19, s20, .un, s22, s23, .un]) (p := [pc]) (fun q : Int × List Int => D.tup [.int q.1, tupI q.2]) (fun q => decide (q.1 ∉ q.2)) (fun _ => .int 1) (ks := t2 r3 (nc r0 r1 r2)) fun q hq =>
    ⟨_, run10 q, cnd10 rfl rfl, fun _ => rfl⟩
  have e : (((t2 r3 (nc r0 r1 r2)).filter fun q => decide (q.1 ∉ q.2)).map fun _ => D.int 1).length = far r3 (nc r0 r1 r2) := List.length_map ..
  have := st_10 e4_law c5_law (fFld cv "choices") t14_law (ρ := [s0, .cell 0, s2, .v (.lst [tupI r0, tupI r1, tupI r2, tupI r3]), .v (tupI x), .v (.lst [tupI (bt w 0 x r0), tupI (bt w 1 x r1), tupI (bt w 2 x r2), tupI (bt w 3 x r3)]), .v (nearD (nm r0 r1 r2) ((nc r0 r1 r2).map tupI)), s7, s8, s9, s10, .v (.int m), .v (.int k), .v (.int w), .v (tupI o), .v (.lst [rowD m r0, rowD m r1, rowD m r2, rowD m r3]), .v (.lst [rowD m (bt w 0 x r0), rowD m (bt w 1 x r1), rowD m (bt w 2 x r2), rowD m (bt w 3 x r3)]), .v (.int (pr r0 r1 r2 r3)), .v (.int (pr (bt w 0 x r0) (bt w 1 x r1) (bt w 2 x r2) (bt w 3 x r3))), s19, s20, s21, s22, s23, s24]) rfl rfl rfl (ix4_3 _ _ _ _) (fld_choices _ _) z c
  rw [e] at this
  exact this
theorem s_11 (t0 : Told m k r0) (t1 : Told m k r1) (t2 : Told m k r2) (t3 : Told m k r3) : t14_law [s0, .cell 0, s2, .v (.lst [tupI r0, tupI r1, tupI r2, tupI r3]), .v (tupI x), .v (.lst [tupI (bt w 0 x r0), tupI (bt w 1 x r1), tupI (bt w 2 x r2), tupI (bt w 3 x r3)]), .v (nearD (nm r0 r1 r2) ((nc r0 r1 r2).map tupI)), .v (.int (far r3 (nc r0 r1 r2))), s8, s9, s10, .v (.int m), .v (.int k), .v (.int w), .v (tupI o), .v (.lst [rowD m r0, rowD m r1, rowD m r2, rowD m r3]), .v (.lst [rowD m (bt w 0 x r0), rowD m (bt w 1 x r1), rowD m (bt w 2 x r2), rowD m (bt w 3 x r3)]), .v (.int (pr r0 r1 r2 r3)), .v (.int (pr (bt w 0 x r0) (bt w 1 x r1) (bt w 2 x r2) (bt w 3 x r3))), s19, s20, s21, s22, s23, s24] [pc] = t16_law [s0, .cell 0, s2, .v (.lst [tupI r0, tupI r1, tupI r2, tupI r3]), .v (tupI x), .v (.lst [tupI (bt w 0 x r0), tupI (bt w 1 x r1), tupI (bt w 2 x r2), tupI (bt w 3 x r3)]), .v (nearD (nm r0 r1 r2) ((nc r0 r1 r2).map tupI)), .v (.int (far r3 (nc r0 r1 r2))), s8, s9, s10, .v (.int m), .v (.int k), .v (.int w), .v (tupI o), .v (.lst [rowD m r0, rowD m r1, rowD m r2, rowD m r3]), .v (.lst [rowD m (bt w 0 x r0), rowD m (bt w 1 x r1), rowD m (bt w 2 x r2), rowD m (bt w 3 x r3)]), .v (.int (pr r0 r1 r2 r3)), .v (.int (pr (bt w 0 x r0) (bt w 1 x r1) (bt w 2 x r2) (bt w 3 x r3))), s19, s20, s21, s22, s23, s24] [pc] :=
  st_11 (fFld cv "price") t16_law rfl rfl rfl rfl (fld_price _ _) (pr_near (t0.e4 t1 t2 t3))
variable {e f n : List Int}
theorem pick12 (hT : T ≤ 1000000) (h : Pen T pc) {l : List Int} (h0 : l.map D.int ≠ []) (hl : l.length ≤ 2) : ∃ y c', e6_law [s0, .cell 0, s2, .v (.lst [tupI r0, tupI r1, tupI r2, tupI r3]), .v (tupI x), .v (.lst [tupI (bt w 0 x r0), tupI (bt w 1 x r1), tupI (bt w 2 x r2), tupI (bt w 3 x r3)]), .v (nearD (nm r0 r1 r2) ((nc r0 r1 r2).map tupI)), .v (.int (far r3 (nc r0 r1 r2))), s8, s9, s10, .v (.int m), .v (.int k), .v (.int w), .v (tupI o), .v (.lst [rowD m r0, rowD m r1, rowD m r2, rowD m r3]), .v (.lst [rowD m (bt w 0 x r0), rowD m (bt w 1 x r1), rowD m (bt w 2 x r2), rowD m (bt w 3 x r3)]), .v (.int (pr r0 r1 r2 r3)), .v (.int (pr (bt w 0 x r0) (bt w 1 x r1) (bt w 2 x r2) (bt w 3 x r3))), s19, s20, .v (tupI l), s22, s23, s24] [pc] = .ok (.int y) [c'] ∧ y ∈ l ∧ Pen (T + 1) c' := by
  obtain ⟨v, c', q, hv, hp'⟩ := call_pk kd T hT (i := 1) (j := 0) (ρ := [s0, .cell 0, s2, .v (.lst [tupI r0, tupI r1, tupI r2, tupI r3]), .v (tupI x), .v (.lst [tupI (bt w 0 x r0), tupI (bt w 1 x r1), tupI (bt w 2 x r2), tupI (bt w 3 x r3)]), .v (nearD (nm r0 r1 r2) ((nc r0 r1 r2).map tupI)), .v (.int (far r3 (nc r0 r1 r2))), s8, s9, s10, .v (.int m), .v (.int k), .v (.int w), .v (tupI o), .v (.lst [rowD m r0, rowD m r1, rowD m r2, rowD m r3]), .v (.lst [rowD m (bt w 0 x r0), rowD m (bt w 1 x r1), rowD m (bt w 2 x r2), rowD m (bt w 3 x r3)]), .v (.int (pr r0 r1 r2 r3)), .v (.int (pr (bt w 0 x r0) (bt w 1 x r1) (bt w 2 x r2) (bt w 3 x r3))), s19, s20, .v (tupI l), s22, s23, s24]) (p := [pc]) (p1 := [pc]) (pc := pc) (e := eFnL fListOf (eCons (eVar 21) eNil)) (l := l.map .int) rfl rfl rfl h h0 (by rw [List.length_map]; omega)
  rw [← pick_eq] at q
  obtain ⟨y, hy, rfl⟩ := List.mem_map.mp hv
  exact ⟨y, c', q, hy, hp'⟩
theorem s_12 (g : Dim m k) (hT : T + 40 ≤ 1000000) (h : Pen T pc) (t0 : Told m k r0) (t1 : Told m k r1) (t2 : Told m k r2) : ∃ (e : List Int) (pc' : Cell), t16_law [s0, .cell 0, s2, .v (.lst [tupI r0, tupI r1, tupI r2, tupI r3]), .v (tupI x), .v (.lst [tupI (bt w 0 x r0), tupI (bt w 1 x r1), tupI (bt w 2 x r2), tupI (bt w 3 x r3)]), .v (nearD (nm r0 r1 r2) ((nc r0 r1 r2).map tupI)), .v (.int (far r3 (nc r0 r1 r2))), s8, s9, s10, .v (.int m), .v (.int k), .v (.int w), .v (tupI o), .v (.lst [rowD m r0, rowD m r1, rowD m r2, rowD m r3]), .v (.lst [rowD m (bt w 0 x r0), rowD m (bt w 1 x r1), rowD m (bt w 2 x r2), rowD m (bt w 3 x r3)]), .v (.int (pr r0 r1 r2 r3)), .v (.int (pr (bt w 0 x r0) (bt w 1 x r1) (bt w 2 x r2) (bt w 3 x r3))), s19, s20, s21, s22, s23, s24] [pc] = t17_law [s0, .cell 0, s2, .v (.lst [tupI r0, tupI r1, tupI r2, tupI r3]), .v (tupI x), .v (.lst [tupI (bt w 0 x r0), tupI (bt w 1 x r1), tupI (bt w 2 x r2), tupI (bt w 3 x r3)]), .v (nearD (nm r0 r1 r2) ((nc r0 r1 r2).map tupI)), .v (.int (far r3 (nc r0 r1 r2))), .v (rowD m e), s9, s10, .v (.int m), .v (.int k), .v (.int w), .v (tupI o), .v (.lst [rowD m r0, rowD m r1, rowD m r2, rowD m r3]), .v (.lst [rowD m (bt w 0 x r0), rowD m (bt w 1 x r1), rowD m (bt w 2 x r2), rowD m (bt w 3 x r3)]), .v (.int (pr r0 r1 r2 r3)), .v (.int (pr (bt w 0 x r0) (bt w 1 x r1) (bt w 2 x r2) (bt w 3 x r3))), s19, s20, s21, s22, s23, s24] [pc'] ∧ Pen (T + 6) pc' ∧ Told m k e ∧ From e (nc r0 r1 r2) := by
  have nl : (nc r0 r1 r2).length = k := by rw [nc_len (by rw [t0.len, t1.len]) (by rw [t0.len, t2.len]), t0.len]
  have k2 := g.k2
  obtain ⟨e, pc', c, p, xl, hx⟩ := penI (g := gV 21) (elt := e6_law) (ρ := [s0, .cell 0, s2, .v (.lst [tupI r0, tupI r1, tupI r2, tupI r3]), .v (tupI x), .v (.lst [tupI (bt w 0 x r0), tupI (bt w 1 x r1), tupI (bt w 2 x r2), tupI (bt w 3 x r3)]), .v (nearD (nm r0 r1 r2) ((nc r0 r1 r2).map tupI)), .v (.int (far r3 (nc r0 r1 r2))), s8, s9, s10, .v (.int m), .v (.int k), .v (.int w), .v (tupI o), .v (.lst [rowD m r0, rowD m r1, rowD m r2, rowD m r3]), .v (.lst [rowD m (bt w 0 x r0), rowD m (bt w 1 x r1), rowD m (bt w 2 x r2), rowD m (bt w 3 x r3)]), .v (.int (pr r0 r1 r2 r3)), .v (.int (pr (bt w 0 x r0) (bt w 1 x r1) (bt w 2 x r2) (bt w 3 x r3))), s19, s20, .un, s22, s23, s24]) 1 (fun d i => ∃ l, d = tupI l ∧ i ∈ l) (ds := ((nc r0 r1 r2).map tupI)) h (by rw [List.length_map, nl]; omega) fun d hd T pc hT hp => by
    obtain ⟨l, hl, rfl⟩ := List.mem_map.mp hd
    obtain ⟨a, b, c, rfl⟩ := nc_ch hl
    obtain ⟨y, c', e, hy, hp'⟩ := pick12 (T := T) (by omega) hp (ch_ne a b c) (ch_len a b c)
    exact ⟨_, y, c', rfl, e, hp', _, rfl, hy⟩
  rw [List.length_map, nl] at p xl
  have F : From e (nc r0 r1 r2) := from_of (by rw [xl, nl]) fun i l y h1 h2 => by
    obtain ⟨l', e1, hy⟩ := hx i (tupI l) y (by rw [List.getElem?_map, h1]; rfl) h2
    have : l = l' := by
      unfold tupI at e1
      injection e1 with e1
      exact List.map_inj_right (fun a b h => by injection h) |>.mp e1
    rwa [this]
  have te : Told m k e := ⟨xl, F.range t1.all t2.all fun l hl => hl⟩
  exact ⟨e, pc', st_12 fn_Row_init e6_law (fFld cv "choices") t17_law rfl rfl rfl (fld_choices _ _) c (sp_Row (g.row te) (.inr rfl)), p.mono (by omega), te, F⟩
theorem s_13 (g : Dim m k) (t0 : Told m k r0) (t1 : Told m k r1) (t2 : Told m k r2) (te : Told m k e) (F : From e (nc r0 r1 r2)) : t17_law [s0, .cell 0, s2, .v (.lst [tupI r0, tupI r1, tupI r2, tupI r3]), .v (tupI x), .v (.lst [tupI (bt w 0 x r0), tupI (bt w 1 x r1), tupI (bt w 2 x r2), tupI (bt w 3 x r3)]), .v (nearD (nm r0 r1 r2) ((nc r0 r1 r2).map tupI)), .v (.int (far r3 (nc r0 r1 r2))), .v (rowD m e), s9, s10, .v (.int m), .v (.int k), .v (.int w), .v (tupI o), .v (.lst [rowD m r0, rowD m r1, rowD m r2, rowD m r3]), .v (.lst [rowD m (bt w 0 x r0), rowD m (bt w 1 x r1), rowD m (bt w 2 x r2), rowD m (bt w 3 x r3)]), .v (.int (pr r0 r1 r2 r3)), .v (.int (pr (bt w 0 x r0) (bt w 1 x r1) (bt w 2 x r2) (bt w 3 x r3))), s19, s20, s21, s22, s23, s24] [pc] = t19_law [s0, .cell 0, s2, .v (.lst [tupI r0, tupI r1, tupI r2, tupI r3]), .v (tupI x), .v (.lst [tupI (bt w 0 x r0), tupI (bt w 1 x r1), tupI (bt w 2 x r2), tupI (bt w 3 x r3)]), .v (nearD (nm r0 r1 r2) ((nc r0 r1 r2).map tupI)), .v (.int (far r3 (nc r0 r1 r2))), .v (rowD m e), s9, s10, .v (.int m), .v (.int k), .v (.int w), .v (tupI o), .v (.lst [rowD m r0, rowD m r1, rowD m r2, rowD m r3]), .v (.lst [rowD m (bt w 0 x r0), rowD m (bt w 1 x r1), rowD m (bt w 2 x r2), rowD m (bt w 3 x r3)]), .v (.int (pr r0 r1 r2 r3)), .v (.int (pr (bt w 0 x r0) (bt w 1 x r1) (bt w 2 x r2) (bt w 3 x r3))), s19, s20, s21, s22, s23, s24] [pc] := by
  have p := t0.prc g t1 t2 te
  have pn := pr_near (t0.e4 t1 t2 te)
  have ff := F.far
  rw [ff] at pn
  have pn' : pr r0 r1 r2 e = nm r0 r1 r2 := by omega
  rw [pn'] at p
  have l := nm_le (a := r0) (b := r1) (c := r2) (by rw [t0.len, t1.len]) (by rw [t0.len, t2.len])
  rw [t0.len] at l
  obtain ⟨d, q, fb⟩ := sp_fourth_of (g.row t0) (g.row t1) (g.row t2) (by rw [t0.len, t1.len]) (by rw [t0.len, t2.len])
  have dd : decide ((nm r0 r1 r2 : Int) = 0) = decide (nm r0 r1 r2 = 0) := by simp
  exact st_13 fn_fourth_of fn_price (fFld cv "price") (fBoolO fb_bool) t19_law rfl rfl rfl rfl rfl p (fld_price _ _) (by omega) q fb (by rw [dd]; exact ne_bb _)
theorem row14 (g : Dim m k) (hT : T + k ≤ 1000000) (h : Pen T pc) (d : D) : ∃ l c', e7_law [s0, .cell 0, s2, .v (.lst [tupI r0, tupI r1, tupI r2, tupI r3]), .v (tupI x), .v (.lst [tupI (bt w 0 x r0), tupI (bt w 1 x r1), tupI (bt w 2 x r2), tupI (bt w 3 x r3)]), .v (nearD (nm r0 r1 r2) ((nc r0 r1 r2).map tupI)), .v (.int (far r3 (nc r0 r1 r2))), .v (rowD m e), s9, s10, .v (.int m), .v (.int k), .v (.int w), .v (tupI o), .v (.lst [rowD m r0, rowD m r1, rowD m r2, rowD m r3]), .v (.lst [rowD m (bt w 0 x r0), rowD m (bt w 1 x r1), rowD m (bt w 2 x r2), rowD m (bt w 3 x r3)]), .v (.int (pr r0 r1 r2 r3)), .v (.int (pr (bt w 0 x r0) (bt w 1 x r1) (bt w 2 x r2) (bt w 3 x r3))), .v d, s20, s21, s22, s23, s24] [pc] = .ok (rowD m l) [c'] ∧ Told m k l ∧ Pen (T + k) c' := by
  obtain ⟨o, c2, q2, p2, ol, oa⟩ := sp_marks (T := T) (k := k) hT h m (by have := g.m1; omega) (by have := g.m2; omega) (by have := g.k2; omega)
  have t : Told m k o := ⟨ol, oa⟩
  exact ⟨o, c2, mk_row2 fn_Row_init _ rfl (call2 (a := eVar 11) (b := eVar 12) rfl rfl rfl h p2 q2) (sp_Row (g.row t) (.inl rfl)), t, p2⟩
theorem s_14 (g : Dim m k) (hT : T + 40 ≤ 1000000) (h : Pen T pc) : ∃ (f n : List Int) (pc' : Cell), t19_law [s0, .cell 0, s2, .v (.lst [tupI r0, tupI r1, tupI r2, tupI r3]), .v (tupI x), .v (.lst [tupI (bt w 0 x r0), tupI (bt w 1 x r1), tupI (bt w 2 x r2), tupI (bt w 3 x r3)]), .v (nearD (nm r0 r1 r2) ((nc r0 r1 r2).map tupI)), .v (.int (far r3 (nc r0 r1 r2))), .v (rowD m e), s9, s10, .v (.int m), .v (.int k), .v (.int w), .v (tupI o), .v (.lst [rowD m r0, rowD m r1, rowD m r2, rowD m r3]), .v (.lst [rowD m (bt w 0 x r0), rowD m (bt w 1 x r1), rowD m (bt w 2 x r2), rowD m (bt w 3 x r3)]), .v (.int (pr r0 r1 r2 r3)), .v (.int (pr (bt w 0 x r0) (bt w 1 x r1) (bt w 2 x r2) (bt w 3 x r3))), s19, s20, s21, s22, s23, s24] [pc] = t20_law [s0, .cell 0, s2, .v (.lst [tupI r0, tupI r1, tupI r2, tupI r3]), .v (tupI x), .v (.lst [tupI (bt w 0 x r0), tupI (bt w 1 x r1), tupI (bt w 2 x r2), tupI (bt w 3 x r3)]), .v (nearD (nm r0 r1 r2) ((nc r0 r1 r2).map tupI)), .v (.int (far r3 (nc r0 r1 r2))), .v (rowD m e), .v (.lst [rowD m f, rowD m n]), s10, .v (.int m), .v (.int k), .v (.int w), .v (tupI o), .v (.lst [rowD m r0, rowD m r1, rowD m r2, rowD m r3]), .v (.lst [rowD m (bt w 0 x r0), rowD m (bt w 1 x r1), rowD m (bt w 2 x r2), rowD m (bt w 3 x r3)]), .v (.int (pr r0 r1 r2 r3)), .v (.int (pr (bt w 0 x r0) (bt w 1 x r1) (bt w 2 x r2) (bt w 3 x r3))), s19, s20, s21, s22, s23, s24] [pc'] ∧ Pen (T + 12) pc' ∧ Told m k f ∧ Told m k n := by
  have k2 := g.k2
  obtain ⟨vs, pc', c, p, hl, hv⟩ := compGo_pen (g := gV 19) (elt := e7_law) (ρ := [s0, .cell 0, s2, .v (.lst [tupI r0, tupI r1, tupI r2, tupI r3]), .v (tupI x), .v (.lst [tupI (bt w 0 x r0), tupI (bt w 1 x r1), tupI (bt w 2 x r2), tupI (bt w 3 x r3)]), .v (nearD (nm r0 r1 r2) ((nc r0 r1 r2).map tupI)), .v (.int (far r3 (nc r0 r1 r2))), .v (rowD m e), s9, s10, .v (.int m), .v (.int k), .v (.int w), .v (tupI o), .v (.lst [rowD m r0, rowD m r1, rowD m r2, rowD m r3]), .v (.lst [rowD m (bt w 0 x r0), rowD m (bt w 1 x r1), rowD m (bt w 2 x r2), rowD m (bt w 3 x r3)]), .v (.int (pr r0 r1 r2 r3)), .v (.int (pr (bt w 0 x r0) (bt w 1 x r1) (bt w 2 x r2) (bt w 3 x r3))), .un, s20, s21, s22, s23, s24]) k (fun _ v => ∃ l, v = rowD m l ∧ Told m k l) (ds := rangeD 0 2) h (by rw [rangeD_len]; omega) fun d hd T pc hT hp => by
    obtain ⟨l, c', e, t, hp'⟩ := row14 g (T := T) hT hp d
    exact ⟨_, rowD m l, c', rfl, e, hp', l, rfl, t⟩
  rw [rangeD_len] at p hl
  match vs, hl, c, hv with
  | [a, b], _, c, hv =>
    obtain ⟨f, rfl, tf⟩ := hv 0 _ a rfl rfl
    obtain ⟨n, rfl, tn⟩ := hv 1 _ b rfl rfl
    exact ⟨f, n, pc', st_14 e7_law t20_law rfl (rfl : rng1 [.int 2] = some (rangeD 0 2)) c, p.mono (by omega), tf, tn⟩
theorem s_15 (g : Dim m k) (t0 : Told m k r0) (t1 : Told m k r1) (t2 : Told m k r2) (t3 : Told m k r3) (tf : Told m k f) (tn : Told m k n) : t20_law [s0, .cell 0, s2, .v (.lst [tupI r0, tupI r1, tupI r2, tupI r3]), .v (tupI x), .v (.lst [tupI (bt w 0 x r0), tupI (bt w 1 x r1), tupI (bt w 2 x r2), tupI (bt w 3 x r3)]), .v (nearD (nm r0 r1 r2) ((nc r0 r1 r2).map tupI)), .v (.int (far r3 (nc r0 r1 r2))), .v (rowD m e), .v (.lst [rowD m f, rowD m n]), s10, .v (.int m), .v (.int k), .v (.int w), .v (tupI o), .v (.lst [rowD m r0, rowD m r1, rowD m r2, rowD m r3]), .v (.lst [rowD m (bt w 0 x r0), rowD m (bt w 1 x r1), rowD m (bt w 2 x r2), rowD m (bt w 3 x r3)]), .v (.int (pr r0 r1 r2 r3)), .v (.int (pr (bt w 0 x r0) (bt w 1 x r1) (bt w 2 x r2) (bt w 3 x r3))), s19, s20, s21, s22, s23, s24] [pc] = t21_law [s0, .cell 0, s2, .v (.lst [tupI r0, tupI r1, tupI r2, tupI r3]), .v (tupI x), .v (.lst [tupI (bt w 0 x r0), tupI (bt w 1 x r1), tupI (bt w 2 x r2), tupI (bt w 3 x r3)]), .v (nearD (nm r0 r1 r2) ((nc r0 r1 r2).map tupI)), .v (.int (far r3 (nc r0 r1 r2))), .v (rowD m e), .v (.lst [rowD m f, rowD m n]), .v (.lst [.int (pr r0 r1 r2 r3), .int (pr r2 r3 f n), .int (pr r0 r1 f n)]), .v (.int m), .v (.int k), .v (.int w), .v (tupI o), .v (.lst [rowD m r0, rowD m r1, rowD m r2, rowD m r3]), .v (.lst [rowD m (bt w 0 x r0), rowD m (bt w 1 x r1), rowD m (bt w 2 x r2), rowD m (bt w 3 x r3)]), .v (.int (pr r0 r1 r2 r3)), .v (.int (pr (bt w 0 x r0) (bt w 1 x r1) (bt w 2 x r2) (bt w 3 x r3))), s19, s20, s21, s22, s23, s24] [pc] :=
  st_15 fn_price t21_law rfl rfl rfl (t0.prc g t1 t2 t3) (t2.prc g t3 tf tn) (t0.prc g t1 tf tn)
theorem s_16 (t0 : Told m k r0) (t1 : Told m k r1) (t2 : Told m k r2) (t3 : Told m k r3) (tf : Told m k f) (tn : Told m k n) : t21_law [s0, .cell 0, s2, .v (.lst [tupI r0, tupI r1, tupI r2, tupI r3]), .v (tupI x), .v (.lst [tupI (bt w 0 x r0), tupI (bt w 1 x r1), tupI (bt w 2 x r2), tupI (bt w 3 x r3)]), .v (nearD (nm r0 r1 r2) ((nc r0 r1 r2).map tupI)), .v (.int (far r3 (nc r0 r1 r2))), .v (rowD m e), .v (.lst [rowD m f, rowD m n]), .v (.lst [.int (pr r0 r1 r2 r3), .int (pr r2 r3 f n), .int (pr r0 r1 f n)]), .v (.int m), .v (.int k), .v (.int w), .v (tupI o), .v (.lst [rowD m r0, rowD m r1, rowD m r2, rowD m r3]), .v (.lst [rowD m (bt w 0 x r0), rowD m (bt w 1 x r1), rowD m (bt w 2 x r2), rowD m (bt w 3 x r3)]), .v (.int (pr r0 r1 r2 r3)), .v (.int (pr (bt w 0 x r0) (bt w 1 x r1) (bt w 2 x r2) (bt w 3 x r3))), s19, s20, s21, s22, s23, s24] [pc] = t23_law [s0, .cell 0, s2, .v (.lst [tupI r0, tupI r1, tupI r2, tupI r3]), .v (tupI x), .v (.lst [tupI (bt w 0 x r0), tupI (bt w 1 x r1), tupI (bt w 2 x r2), tupI (bt w 3 x r3)]), .v (nearD (nm r0 r1 r2) ((nc r0 r1 r2).map tupI)), .v (.int (far r3 (nc r0 r1 r2))), .v (rowD m e), .v (.lst [rowD m f, rowD m n]), .v (.lst [.int (pr r0 r1 r2 r3), .int (pr r2 r3 f n), .int (pr r0 r1 f n)]), .v (.int m), .v (.int k), .v (.int w), .v (tupI o), .v (.lst [rowD m r0, rowD m r1, rowD m r2, rowD m r3]), .v (.lst [rowD m (bt w 0 x r0), rowD m (bt w 1 x r1), rowD m (bt w 2 x r2), rowD m (bt w 3 x r3)]), .v (.int (pr r0 r1 r2 r3)), .v (.int (pr (bt w 0 x r0) (bt w 1 x r1) (bt w 2 x r2) (bt w 3 x r3))), s19, s20, s21, s22, s23, s24] [pc] := by
  have q := pr_tri (t0.e4 t1 t2 t3) (s := f) (t := n) (by rw [t0.len, tf.len]) (by rw [t0.len, tn.len])
  exact st_16 t23_law rfl rfl (by omega) (by omega) (by omega)
theorem s_17 (g : Dim m k) (t0 : Told m k r0) (t1 : Told m k r1) (tf : Told m k f) : t23_law [s0, .cell 0, s2, .v (.lst [tupI r0, tupI r1, tupI r2, tupI r3]), .v (tupI x), .v (.lst [tupI (bt w 0 x r0), tupI (bt w 1 x r1), tupI (bt w 2 x r2), tupI (bt w 3 x r3)]), .v (nearD (nm r0 r1 r2) ((nc r0 r1 r2).map tupI)), .v (.int (far r3 (nc r0 r1 r2))), .v (rowD m e), .v (.lst [rowD m f, rowD m n]), .v (.lst [.int (pr r0 r1 r2 r3), .int (pr r2 r3 f n), .int (pr r0 r1 f n)]), .v (.int m), .v (.int k), .v (.int w), .v (tupI o), .v (.lst [rowD m r0, rowD m r1, rowD m r2, rowD m r3]), .v (.lst [rowD m (bt w 0 x r0), rowD m (bt w 1 x r1), rowD m (bt w 2 x r2), rowD m (bt w 3 x r3)]), .v (.int (pr r0 r1 r2 r3)), .v (.int (pr (bt w 0 x r0) (bt w 1 x r1) (bt w 2 x r2) (bt w 3 x r3))), s19, s20, s21, s22, s23, s24] [pc] = .ok .nx [s0, .cell 0, s2, .v (.lst [tupI r0, tupI r1, tupI r2, tupI r3]), .v (tupI x), .v (.lst [tupI (bt w 0 x r0), tupI (bt w 1 x r1), tupI (bt w 2 x r2), tupI (bt w 3 x r3)]), .v (nearD (nm r0 r1 r2) ((nc r0 r1 r2).map tupI)), .v (.int (far r3 (nc r0 r1 r2))), .v (rowD m e), .v (.lst [rowD m f, rowD m n]), .v (.lst [.int (pr r0 r1 r2 r3), .int (pr r2 r3 f n), .int (pr r0 r1 f n)]), .v (.int m), .v (.int k), .v (.int w), .v (tupI o), .v (.lst [rowD m r0, rowD m r1, rowD m r2, rowD m r3]), .v (.lst [rowD m (bt w 0 x r0), rowD m (bt w 1 x r1), rowD m (bt w 2 x r2), rowD m (bt w 3 x r3)]), .v (.int (pr r0 r1 r2 r3)), .v (.int (pr (bt w 0 x r0) (bt w 1 x r1) (bt w 2 x r2) (bt w 3 x r3))), s19, s20, s21, s22, s23, s24] [pc] := by
  have p1 := t0.prc g t1 t0 t1
  have p2 := t0.prc g t0 tf tf
  rw [pr_same (by rw [t0.len, t1.len])] at p1
  rw [pr_pairs (by rw [t0.len, tf.len])] at p2
  exact st_17 fn_price rfl rfl rfl p1 p2
theorem lap (hT : T + 100 ≤ 1000000) (h : Pen T pc) : ∃ (a : List Sl) (pc' : Cell), l8_law [s0, .cell 0, s2, s3, s4, s5, s6, s7, s8, s9, s10, s11, s12, s13, s14, s15, s16, s17, s18, s19, s20, s21, s22, s23, s24] [pc] = .ok .nx (s0 :: .cell 0 :: a) [pc'] ∧ a.length = 23 ∧ Pen (T + 100) pc' := by
  obtain ⟨m, k, c1, e1, p1, g⟩ := s_1 (by omega) h
  obtain ⟨r0, r1, r2, r3, c2, e2, p2, t0, t1, t2, t3⟩ := s_2 (T := T + 2) g (by omega) p1
  obtain ⟨w, o, c3, e3, p3, w1, w2, to⟩ := s_3 (T := T + 2 + 32) g (by omega) p2
  obtain ⟨x, c4, e4, p4, tx⟩ := s_4 (T := T + 2 + 32 + 7) g (by omega) p3 w1 w2 (sel_told (w := w) t0 t1 t2 t3) to
  obtain ⟨e, c5, e5, p5, te, F⟩ := s_12 (T := T + 2 + 32 + 7 + 6) g (by omega) p4 t0 t1 t2
  obtain ⟨f, n, c6, e6, p6, tf, tn⟩ := s_14 (T := T + 2 + 32 + 7 + 6 + 6) g (by omega) p5
  exact ⟨_, c6, e1.trans (e2.trans (e3.trans (e4.trans ((s_5 w1 w2).trans ((s_6 g t0 t1 t2 t3 tx).trans ((s_7 g t0 t1 t2 t3 tx).trans ((s_8 g w1 w2 t0 t1 t2 t3 tx).trans ((s_9 g t0 t1 t2).trans (s_10.trans ((s_11 t0 t1 t2 t3).trans (e5.trans ((s_13 g t0 t1 t2 te F).trans (e6.trans ((s_15 g t0 t1 t2 t3 tf tn).trans ((s_16 t0 t1 t2 t3 tf tn).trans (s_17 g t0 t1 tf)))))))))))))))), rfl, p6.mono (by omega)⟩
end
theorem spread1 {n : Nat} {l : List Sl} (h : l.length = n + 1) : ∃ a t, l = a :: t ∧ t.length = n := by
  match l, h with
  | a :: t, h => exact ⟨a, t, rfl, by simpa using h⟩
theorem turn {ρ : List Sl} {pc : Cell} {T : Nat} (F : Fr ρ) (hT : T + 100 ≤ 1000000) (h : Pen T pc) : ∃ ρ' pc', l8_law ρ [pc] = .ok .nx ρ' [pc'] ∧ Fr ρ' ∧ Pen (T + 100) pc' := by
  obtain ⟨len, pen⟩ := F
  obtain ⟨s0, l0, rfl, g0⟩ := spread1 len
  obtain ⟨s1, l1, rfl, g1⟩ := spread1 g0
  obtain ⟨s2, l2, rfl, g2⟩ := spread1 g1
  obtain ⟨s3, l3, rfl, g3⟩ := spread1 g2
  obtain ⟨s4, l4, rfl, g4⟩ := spread1 g3
  obtain ⟨s5, l5, rfl, g5⟩ := spread1 g4
  obtain ⟨s6, l6, rfl, g6⟩ := spread1 g5
  obtain ⟨s7, l7, rfl, g7⟩ := spread1 g6
  obtain ⟨s8, l8, rfl, g8⟩ := spread1 g7
  obtain ⟨s9, l9, rfl, g9⟩ := spread1 g8
  obtain ⟨s10, l10, rfl, g10⟩ := spread1 g9
  obtain ⟨s11, l11, rfl, g11⟩ := spread1 g10
  obtain ⟨s12, l12, rfl, g12⟩ := spread1 g11
  obtain ⟨s13, l13, rfl, g13⟩ := spread1 g12
  obtain ⟨s14, l14, rfl, g14⟩ := spread1 g13
  obtain ⟨s15, l15, rfl, g15⟩ := spread1 g14
  obtain ⟨s16, l16, rfl, g16⟩ := spread1 g15
  obtain ⟨s17, l17, rfl, g17⟩ := spread1 g16
  obtain ⟨s18, l18, rfl, g18⟩ := spread1 g17
  obtain ⟨s19, l19, rfl, g19⟩ := spread1 g18
  obtain ⟨s20, l20, rfl, g20⟩ := spread1 g19
  obtain ⟨s21, l21, rfl, g21⟩ := spread1 g20
  obtain ⟨s22, l22, rfl, g22⟩ := spread1 g21
  obtain ⟨s23, l23, rfl, g23⟩ := spread1 g22
  obtain ⟨s24, l24, rfl, g24⟩ := spread1 g23
  have l24' : l24 = [] := List.length_eq_zero_iff.mp g24
  subst l24'
  have : s1 = .cell 0 := by injection pen
  subst this
  obtain ⟨a, pc', e, hl, hp⟩ := lap hT h
  exact ⟨_, pc', e, ⟨by simp [hl], rfl⟩, hp⟩
theorem fin_law (F__law_pen : List Sl → List Cell → R D) (L8 : S) {s0 : Sl} {d pd : D} {ρ' : List Sl} {p' : List Cell} {X : List D} (e0 : F__law_pen [.v d] [] = .ok pd []) (r1 : rng1 [.int 8] = some X)
    (e : forGo (gV 2) L8 X [.v d, .cell 0, .un, .un, .un, .un, .un, .un, .un, .un, .un, .un, .un, .un, .un, .un, .un, .un, .un, .un, .un, .un, .un, .un, .un] [some pd] = .ok .nx ρ' p') :
    ∃ p, fnB 1 25 0 1 (xSeq (xNew 1 0 (eCall F__law_pen (eCons (eVar 0) eNil))) (xSeq (xFor (iFn rng1 (eCons (eC (.int 8)) eNil)) (gV 2) L8) (xRet (eC (.bl true))))) [.v d] [] = .ok (.bl true) p := by
  refine ⟨[], ?_⟩
  simp only [fnB_at]
  simp [e0, r1, e]
theorem pure (ns : List Int) (h : ns.length ≤ 63) : ∃ p, fn_law [.v (.scr ns)] [] = .ok (.bl true) p := by
  have e0 := sp_pen ns h
  rw [← pen_eq] at e0
  have hp : Pen 0 (some (penD ns 0 0)) := ⟨ns, 0, 0, rfl, by omega, by omega, by omega, h⟩
  obtain ⟨ρ', p', e, F, pc, rfl, _, _⟩ := forGo_inv (g := gV 2) (s := l8_law)
    (fun i ρ p => Fr ρ ∧ ∃ pc, p = [pc] ∧ Pen (100 * i) pc ∧ i ≤ 8)
    (ds := rangeD 0 8) (ρ := [.v (.scr ns), .cell 0, .un, .un, .un, .un, .un, .un, .un, .un, .un, .un, .un, .un, .un, .un, .un, .un, .un, .un, .un, .un, .un, .un, .un]) (p := [some (penD ns 0 0)]) (i := 0)
    ⟨⟨rfl, rfl⟩, _, rfl, hp, by omega⟩ (by
      rintro i dd ρ p hd ⟨F, pc, rfl, hpc, _⟩
      rw [Nat.zero_add] at hpc
      have hi : i < 8 := by have := (List.getElem?_eq_some_iff.mp hd).1; rwa [rangeD_len] at this
      have F1 := F.set (i := 2) (by decide) (.v dd)
      obtain ⟨ρ2, pc', ht, F2, hp'⟩ := turn F1 (T := 100 * i) (by omega) hpc
      refine ⟨_, by simp [F.len], _, _, .inl ht, F2, pc', rfl, ?_, by omega⟩
      rw [show 100 * (0 + i + 1) = 100 * i + 100 by omega]; exact hp')
  exact fin_law (s0 := .un) fn__law_pen l8_law e0 (rfl : rng1 [.int 8] = some (rangeD 0 8)) e
end K04
namespace K04
open PySem PySem.Spec PyProof.Rows L2 PL
/-! ### the head -/
def fn : List He.DefD := [⟨("Paper", some "__bool__"), "__bool__", "Paper.__bool__", defArgs (inC (top 3) 1), defBody (inC (top 3) 1), defScope (inC (top 3) 1), [], []⟩,
  ⟨("Denial", some "__bool__"), "__bool__", "Denial.__bool__", defArgs (inC (top 4) 0), defBody (inC (top 4) 0), defScope (inC (top 4) 0), [], []⟩,
  ⟨("is_integer", none), "is_integer", "is_integer", defArgs (top 7), defBody (top 7), defScope (top 7), [], []⟩,
  ⟨("is_row", none), "is_row", "is_row", defArgs (top 9), defBody (top 9), defScope (top 9), [], []⟩,
  ⟨("is_within", none), "is_within", "is_within", defArgs (top 8), defBody (top 8), defScope (top 8), [], []⟩,
  ⟨("Row", some "__init__"), "__init__", "Row.__init__", defArgs (inC (top 24) 0), defBody (inC (top 24) 0), defScope (inC (top 24) 0), [], []⟩,
  ⟨("_law_draw", none), "_law_draw", "_law_draw", defArgs (top 43), defBody (top 43), defScope (top 43), [], []⟩,
  ⟨("_law_place", none), "_law_place", "_law_place", defArgs (top 46), defBody (top 46), defScope (top 46), [], []⟩,
  ⟨("_law_four", none), "_law_four", "_law_four", defArgs (top 47), defBody (top 47), defScope (top 47), [], []⟩,
  ⟨("_law_marks", none), "_law_marks", "_law_marks", defArgs (top 45), defBody (top 45), defScope (top 45), [], []⟩,
  ⟨("_law_pen", none), "_law_pen", "_law_pen", defArgs (top 42), defBody (top 42), defScope (top 42), [], []⟩,
  ⟨("_law_pick", none), "_law_pick", "_law_pick", defArgs (top 44), defBody (top 44), defScope (top 44), [], []⟩,
  ⟨("_law_unlike", none), "_law_unlike", "_law_unlike", defArgs (top 48), defBody (top 48), defScope (top 48), [], []⟩,
  ⟨("fixed", none), "fixed", "fixed", defArgs (top 2), defBody (top 2), defScope (top 2), [], []⟩,
  ⟨("Paper", some "__init__"), "__init__", "Paper.__init__", defArgs (inC (top 3) 0), defBody (inC (top 3) 0), defScope (inC (top 3) 0), [], []⟩,
  ⟨("fourth_mark", none), "fourth_mark", "fourth_mark", defArgs (top 35), defBody (top 35), defScope (top 35), [], []⟩,
  ⟨("Row", some "__len__"), "__len__", "Row.__len__", defArgs (inC (top 24) 1), defBody (inC (top 24) 1), defScope (inC (top 24) 1), [], []⟩,
  ⟨("need_alike", none), "need_alike", "need_alike", defArgs (top 27), defBody (top 27), defScope (top 27), [], []⟩,
  ⟨("need_row", none), "need_row", "need_row", defArgs (top 26), defBody (top 26), defScope (top 26), [], []⟩,
  ⟨("need_three", none), "need_three", "need_three", defArgs (top 32), defBody (top 32), defScope (top 32), [], []⟩,
  ⟨("fourth_of", none), "fourth_of", "fourth_of", defArgs (top 36), defBody (top 36), defScope (top 36), [], []⟩,
  ⟨("choices_at", none), "choices_at", "choices_at", defArgs (top 39), defBody (top 39), defScope (top 39), [], []⟩,
  ⟨("nearest", none), "nearest", "nearest", defArgs (top 40), defBody (top 40), defScope (top 40), [], []⟩,
  ⟨("need_four", none), "need_four", "need_four", defArgs (top 33), defBody (top 33), defScope (top 33), [], []⟩,
  ⟨("kind_of", none), "kind_of", "kind_of", defArgs (top 34), defBody (top 34), defScope (top 34), [], []⟩,
  ⟨("price_at", none), "price_at", "price_at", defArgs (top 37), defBody (top 37), defScope (top 37), [], []⟩,
  ⟨("price", none), "price", "price", defArgs (top 38), defBody (top 38), defScope (top 38), [], []⟩,
  ⟨("law", none), "law", "law", defArgs (top 49), defBody (top 49), defScope (top 49), [], []⟩]
def fS : List DefS := [⟨("Fourth", some "__init__"), "__init__", "Fourth.__init__", defArgs (inC (top 29) 0), defBody (inC (top 29) 0), defScope (inC (top 29) 0), "Fourth", PySem.Challenge.pw_fourthlike_k04_how_far_prices_go.main.file⟩,
  ⟨("NoFourth", some "__init__"), "__init__", "NoFourth.__init__", defArgs (inC (top 30) 0), defBody (inC (top 30) 0), defScope (inC (top 30) 0), "NoFourth", PySem.Challenge.pw_fourthlike_k04_how_far_prices_go.main.file⟩,
  ⟨("Nearest", some "__init__"), "__init__", "Nearest.__init__", defArgs (inC (top 31) 0), defBody (inC (top 31) 0), defScope (inC (top 31) 0), "Nearest", PySem.Challenge.pw_fourthlike_k04_how_far_prices_go.main.file⟩]
def fa : List He.Fa := [.glo "is_integer", .glo "is_row", .glo "is_within", .glo "_law_draw", .glo "_law_place", .glo "_law_four", .glo "_law_marks", .glo "_law_pen", .glo "_law_pick", .glo "_law_unlike", .glo "fixed", .glo "fourth_mark", .glo "need_alike", .glo "need_row", .glo "need_three", .glo "fourth_of", .glo "choices_at", .glo "nearest", .glo "need_four", .glo "kind_of", .glo "price_at", .glo "price", .glo "law", .free "abs", .free "all", .free "any", .free "bool", .free "int", .free "isinstance", .free "len", .free "list", .free "range", .free "sorted", .free "sum", .free "super", .free "tuple", .free "zip", .glo "Fourth", .glo "Nearest", .glo "NoFourth", .glo "Row", .int "FEWEST_MARKS" 2, .int "MOST_MARKS" 4, .int "MOST_PLACES" 6]
def fc : List Fc := [.fldT cv "choices", .fldT cv "marks", .fldT cv "parts", .fldT cv "place", .fldT cv "places", .fldT cv "price", .fldT cv "row", .fldT cv "word", .tabT clsT, .mk "Row" "Row", .mk "Fourth" "Fourth", .mk "NoFourth" "NoFourth", .mk "Nearest" "Nearest", .ownT l_bool "__bool__", .ownT l_len "__len__", .supT ["Fourth"] "Fourth" "Paper" "__init__", .supT ["NoFourth"] "NoFourth" "Paper" "__init__", .supT ["Nearest"] "Nearest" "Paper" "__init__"]
def loose : List PySem.Str := (["_wall", "fixed", "Paper", "Denial", "DIGITS", "is_integer", "is_within", "is_row", "LikeError", "BadRow", "BadNumber", "Misfit", "BadText", "MOST_DIGITS", "number_in", "Scan", "FEWEST_MARKS", "MOST_MARKS", "MOST_PLACES", "Row", "row_in", "need_row", "need_alike", "Fourth", "NoFourth", "Nearest", "need_three", "need_four", "kind_of", "fourth_mark"] : List PySem.Str) ++ (["fourth_of", "price_at", "price", "choices_at", "nearest", "_law_pen", "_law_draw", "_law_pick", "_law_marks", "_law_place", "_law_four", "_law_unlike"] : List PySem.Str)
abbrev R : PySem.W.OpenRow := PySem.W.OpenLaw.row PySem.Challenge.rw_fourthlike_k04_how_far_prices_go
abbrev hk : PySem.W.Hook := hookP 5 fa fn fS fc
def ob (s : PySem.W.SharedT) : AlP := obsPG 5 fa fn fS fc (HandSHeadRun.getT s)
theorem ob_eq (s : PySem.W.SharedT) : ob s = hk.obs s.abs := obsPG_eq (HandSHeadRun.getT_eq s)
theorem run (w : World) : HandSHeadRun.RunEq R (PySem.W.view R.prog [49]) hk ob 40000 loose w := by
  intro os
  kernel_rfl
theorem facts {P : Program} {w : World} {K : PySem.W.Frag} {h : Heap} {mg : Str → Option Value} {f : Addr} (hP : P = R.prog) (X : K.In h) (G : h.Ns mainGlobals mg) (hfa : mg ("law" : Str) = some (.ref f)) (c0 : SaysP fa fn fS fc K) :
    ∃ fd : FuncData, (∀ (s : Shared) (v : Value), BindsTo s fd ⟨[v], []⟩ [("script", v)]) ∧ ∀ base : Heap, K.In base → base.Ns mainGlobals mg → FnOk P w K mg base CX0 9 f fd ["script"] (spF K [1] fn_law) := by
  have c := c0.d
  have g : Gf K mg := ⟨He.free_ok X G (c.fact 23 rfl), He.free_ok X G (c.fact 24 rfl), He.free_ok X G (c.fact 25 rfl), He.free_ok X G (c.fact 26 rfl), He.free_ok X G (c.fact 27 rfl), He.free_ok X G (c.fact 28 rfl), He.free_ok X G (c.fact 29 rfl), He.free_ok X G (c.fact 30 rfl), He.free_ok X G (c.fact 31 rfl), He.free_ok X G (c.fact 32 rfl), He.free_ok X G (c.fact 33 rfl), He.free_ok X G (c.fact 34 rfl), He.free_ok X G (c.fact 35 rfl), He.free_ok X G (c.fact 36 rfl), He.glo_ok X G (c.fact 37 rfl), He.glo_ok X G (c.fact 38 rfl), He.glo_ok X G (c.fact 39 rfl), He.glo_ok X G (c.fact 40 rfl), He.int_ok X G (c.fact 41 rfl), He.int_ok X G (c.fact 42 rfl), He.int_ok X G (c.fact 43 rfl), fldT_ok (c0.fct 0 rfl), fldT_ok (c0.fct 1 rfl), fldT_ok (c0.fct 2 rfl), fldT_ok (c0.fct 3 rfl), fldT_ok (c0.fct 4 rfl), fldT_ok (c0.fct 5 rfl), fldT_ok (c0.fct 6 rfl), fldT_ok (c0.fct 7 rfl), tabT_ok (c0.fct 8 rfl)⟩
  obtain ⟨fd_Paper_bool, F_Paper_bool⟩ := c.def_ 0 rfl
  obtain ⟨fd_Denial_bool, F_Denial_bool⟩ := c.def_ 1 rfl
  obtain ⟨fd_is_integer, F_is_integer⟩ := c.def_ 2 rfl
  have G_is_integer := He.glo_ok X G (c.fact 0 (f := .glo "is_integer") rfl)
  obtain ⟨fd_is_row, F_is_row⟩ := c.def_ 3 rfl
  have G_is_row := He.glo_ok X G (c.fact 1 (f := .glo "is_row") rfl)
  obtain ⟨fd_is_within, F_is_within⟩ := c.def_ 4 rfl
  have G_is_within := He.glo_ok X G (c.fact 2 (f := .glo "is_within") rfl)
  obtain ⟨fd_Row_init, F_Row_init⟩ := c.def_ 5 rfl
  obtain ⟨fd__law_draw, F__law_draw⟩ := c.def_ 6 rfl
  have G__law_draw := He.glo_ok X G (c.fact 3 (f := .glo "_law_draw") rfl)
  obtain ⟨fd__law_place, F__law_place⟩ := c.def_ 7 rfl
  have G__law_place := He.glo_ok X G (c.fact 4 (f := .glo "_law_place") rfl)
  obtain ⟨fd__law_four, F__law_four⟩ := c.def_ 8 rfl
  have G__law_four := He.glo_ok X G (c.fact 5 (f := .glo "_law_four") rfl)
  obtain ⟨fd__law_marks, F__law_marks⟩ := c.def_ 9 rfl
  have G__law_marks := He.glo_ok X G (c.fact 6 (f := .glo "_law_marks") rfl)
  obtain ⟨fd__law_pen, F__law_pen⟩ := c.def_ 10 rfl
  have G__law_pen := He.glo_ok X G (c.fact 7 (f := .glo "_law_pen") rfl)
  obtain ⟨fd__law_pick, F__law_pick⟩ := c.def_ 11 rfl
  have G__law_pick := He.glo_ok X G (c.fact 8 (f := .glo "_law_pick") rfl)
  obtain ⟨fd__law_unlike, F__law_unlike⟩ := c.def_ 12 rfl
  have G__law_unlike := He.glo_ok X G (c.fact 9 (f := .glo "_law_unlike") rfl)
  obtain ⟨fd_fixed, F_fixed⟩ := c.def_ 13 rfl
  have G_fixed := He.glo_ok X G (c.fact 10 (f := .glo "fixed") rfl)
  obtain ⟨fd_Paper_init, F_Paper_init⟩ := c.def_ 14 rfl
  obtain ⟨fd_fourth_mark, F_fourth_mark⟩ := c.def_ 15 rfl
  have G_fourth_mark := He.glo_ok X G (c.fact 11 (f := .glo "fourth_mark") rfl)
  obtain ⟨fd_Row_len, F_Row_len⟩ := c.def_ 16 rfl
  obtain ⟨fd_need_alike, F_need_alike⟩ := c.def_ 17 rfl
  have G_need_alike := He.glo_ok X G (c.fact 12 (f := .glo "need_alike") rfl)
  obtain ⟨fd_need_row, F_need_row⟩ := c.def_ 18 rfl
  have G_need_row := He.glo_ok X G (c.fact 13 (f := .glo "need_row") rfl)
  obtain ⟨fd_need_three, F_need_three⟩ := c.def_ 19 rfl
  have G_need_three := He.glo_ok X G (c.fact 14 (f := .glo "need_three") rfl)
  obtain ⟨fd_fourth_of, F_fourth_of⟩ := c.def_ 20 rfl
  have G_fourth_of := He.glo_ok X G (c.fact 15 (f := .glo "fourth_of") rfl)
  obtain ⟨fd_choices_at, F_choices_at⟩ := c.def_ 21 rfl
  have G_choices_at := He.glo_ok X G (c.fact 16 (f := .glo "choices_at") rfl)
  obtain ⟨fd_nearest, F_nearest⟩ := c.def_ 22 rfl
  have G_nearest := He.glo_ok X G (c.fact 17 (f := .glo "nearest") rfl)
  obtain ⟨fd_need_four, F_need_four⟩ := c.def_ 23 rfl
  have G_need_four := He.glo_ok X G (c.fact 18 (f := .glo "need_four") rfl)
  obtain ⟨fd_kind_of, F_kind_of⟩ := c.def_ 24 rfl
  have G_kind_of := He.glo_ok X G (c.fact 19 (f := .glo "kind_of") rfl)
  obtain ⟨fd_price_at, F_price_at⟩ := c.def_ 25 rfl
  have G_price_at := He.glo_ok X G (c.fact 20 (f := .glo "price_at") rfl)
  obtain ⟨fd_price, F_price⟩ := c.def_ 26 rfl
  have G_price := He.glo_ok X G (c.fact 21 (f := .glo "price") rfl)
  obtain ⟨fd_law, F_law⟩ := c.def_ 27 rfl
  have G_law := He.glo_ok X G (c.fact 22 (f := .glo "law") rfl)
  obtain ⟨fd_Fourth_init, F_Fourth_init⟩ := c0.defS 0 rfl
  obtain ⟨fd_NoFourth_init, F_NoFourth_init⟩ := c0.defS 1 rfl
  obtain ⟨fd_Nearest_init, F_Nearest_init⟩ := c0.defS 2 rfl
  have e := hfa.symm.trans G_law
  cases e
  have hfile : P.main.file = PySem.Challenge.pw_fourthlike_k04_how_far_prices_go.main.file := by rw [hP] <;> rfl
  have htop : (P.main.scope.names.lookup ("super" : Str)).isSome = false := by rw [hP] <;> decide +kernel
  refine ⟨fd_law, fun s v => FunD.bindsA (ps := ["script"]) F_law (fun _ _ _ _ _ _ us hl => match us, hl with | [_], _ => rfl) s [v] rfl, fun base _ _ => ?_⟩
  have m_Paper_bool : FnP P w K mg base 1 (He.ma K (He.ga K "Paper") "__bool__") [] fn_Paper_bool := ok_Paper_bool (P := P) (w := w) (base := base) g  F_Paper_bool
  have m_Denial_bool : FnP P w K mg base 1 (He.ma K (He.ga K "Denial") "__bool__") [] fn_Denial_bool := ok_Denial_bool (P := P) (w := w) (base := base) g  F_Denial_bool
  have t_bool := ok_bool (P := P) (w := w) (base := base) (c0.fct 13 rfl) m_Paper_bool m_Denial_bool
  have c_is_integer := ok_is_integer (P := P) (w := w) (base := base) g  F_is_integer G_is_integer
  have c_is_row := ok_is_row (P := P) (w := w) (base := base) g c_is_integer F_is_row G_is_row
  have c_is_within := ok_is_within (P := P) (w := w) (base := base) g c_is_integer F_is_within G_is_within
  have m_Row_init : FnP P w K mg base 3 (He.ma K (He.ga K "Row") "__init__") [0] fn_Row_init := ok_Row_init (P := P) (w := w) (base := base) g c_is_row c_is_within F_Row_init
  have c__law_draw := ok__law_draw (P := P) (w := w) (base := base) g  F__law_draw G__law_draw
  have c__law_place := ok__law_place (P := P) (w := w) (base := base) g c__law_draw F__law_place G__law_place
  have c__law_four := ok__law_four (P := P) (w := w) (base := base) g c__law_draw c__law_place F__law_four G__law_four
  have c__law_marks := ok__law_marks (P := P) (w := w) (base := base) g c__law_draw F__law_marks G__law_marks
  have c__law_pen := ok__law_pen (P := P) (w := w) (base := base) g  F__law_pen G__law_pen
  have c__law_pick := ok__law_pick (P := P) (w := w) (base := base) g c__law_draw F__law_pick G__law_pick
  have c__law_unlike := ok__law_unlike (P := P) (w := w) (base := base) g  F__law_unlike G__law_unlike
  have c_fixed := ok_fixed (P := P) (w := w) (base := base) g  F_fixed G_fixed 4
  have m_Paper_init : FnP P w K mg base 5 (He.ma K (He.ga K "Paper") "__init__") [0] fn_Paper_init := ok_Paper_init (P := P) (w := w) (base := base) g c_fixed F_Paper_init
  have m_Fourth_init := ok_Fourth_init (P := P) (w := w) (base := base) g  m_Paper_init hfile htop (c0.fct 15 rfl) F_Fourth_init
  have m_NoFourth_init := ok_NoFourth_init (P := P) (w := w) (base := base) g  m_Paper_init hfile htop (c0.fct 16 rfl) F_NoFourth_init
  have c_fourth_mark := ok_fourth_mark (P := P) (w := w) (base := base) g  F_fourth_mark G_fourth_mark
  have m_Row_len : FnP P w K mg base 1 (He.ma K (He.ga K "Row") "__len__") [] fn_Row_len := ok_Row_len (P := P) (w := w) (base := base) g  F_Row_len
  have t_len := ok_len (P := P) (w := w) (base := base) (c0.fct 14 rfl) m_Row_len
  have c_need_alike := ok_need_alike (P := P) (w := w) (base := base) g t_len F_need_alike G_need_alike
  have c_need_row := ok_need_row (P := P) (w := w) (base := base) g  F_need_row G_need_row
  have c_need_three := ok_need_three (P := P) (w := w) (base := base) g c_need_alike c_need_row F_need_three G_need_three
  have k_Fourth : Mkp P w K mg base 6 "Fourth" [] fn_Fourth_init := ⟨_, mk_ok (c0.fct 10 rfl), m_Fourth_init, g.c_Fourth⟩
  have k_NoFourth : Mkp P w K mg base 6 "NoFourth" [] fn_NoFourth_init := ⟨_, mk_ok (c0.fct 11 rfl), m_NoFourth_init, g.c_NoFourth⟩
  have k_Row : Mkp P w K mg base 3 "Row" [] fn_Row_init := ⟨_, mk_ok (c0.fct 9 rfl), m_Row_init, g.c_Row⟩
  have c_fourth_of := ok_fourth_of (P := P) (w := w) (base := base) g c_fourth_mark c_need_three k_Fourth k_NoFourth k_Row F_fourth_of G_fourth_of
  have m_Nearest_init := ok_Nearest_init (P := P) (w := w) (base := base) g  m_Paper_init hfile htop (c0.fct 17 rfl) F_Nearest_init
  have c_choices_at := ok_choices_at (P := P) (w := w) (base := base) g c_fourth_mark F_choices_at G_choices_at
  have k_Nearest : Mkp P w K mg base 6 "Nearest" [] fn_Nearest_init := ⟨_, mk_ok (c0.fct 12 rfl), m_Nearest_init, g.c_Nearest⟩
  have c_nearest := ok_nearest (P := P) (w := w) (base := base) g c_choices_at c_fourth_mark c_need_three k_Nearest F_nearest G_nearest
  have c_need_four := ok_need_four (P := P) (w := w) (base := base) g c_need_alike c_need_row F_need_four G_need_four
  have c_kind_of := ok_kind_of (P := P) (w := w) (base := base) g  F_kind_of G_kind_of
  have c_price_at := ok_price_at (P := P) (w := w) (base := base) g c_kind_of F_price_at G_price_at
  have c_price := ok_price (P := P) (w := w) (base := base) g c_need_four c_price_at F_price G_price
  exact fn_ok (nc := 1) F_law sc_law (fun cdv A outer s H E hr => w_law g c__law_draw c__law_four c__law_marks c__law_pen c__law_pick c__law_unlike c_fourth_of c_nearest c_price t_bool k_Row _ cdv A outer s H E hr)
end K04
open PySem PySem.W PySem.Calls PyProof.Rows
theorem PySem.Challenge.cw_fourthlike_k04_how_far_prices_go_holds : PySem.Challenge.rw_fourthlike_k04_how_far_prices_go.Holds := by
  w_on; o_law
  refine HandSHeadRun.head_any (r := OpenLaw.row PySem.Challenge.rw_fourthlike_k04_how_far_prices_go) (q := view (OpenLaw.row PySem.Challenge.rw_fourthlike_k04_how_far_prices_go).prog [49]) (H := K04.hk) (ob := K04.ob) (M := 40000) (loose := K04.loose) (d := HandSHeadRun.topDef (OpenLaw.row PySem.Challenge.rw_fourthlike_k04_how_far_prices_go).prog 49) (kwd := []) K04.ob_eq
    (by kernel_rfl) (fun s => by kernel_rfl) K04.run (by kernel_rfl) (by kernel_rfl) (by kernel_rfl) (by rfl) (by first | assumption | decide +kernel) (by decide +kernel) ⟨rfl, rfl, rfl, rfl, rfl, by decide +kernel⟩ ?hw ?hc
  case hw => w_witness2
  case hc =>
    refine L2.walk_ofE (l := PySem.Challenge.rw_fourthlike_k04_how_far_prices_go) (n := 63) (k := 9) (x := "script") (CX := L2.CX0) rfl (by decide) (by kernel_rfl) ⟨rfl, by decide, by decide⟩ ?F (fun _ _ _ _ z => z)
    intro w mg fa h Y G hmg0
    obtain ⟨K, KX, c⟩ := Y
    have hmg : mg ("law" : PySem.Str) = some (.ref fa) := by
      have e : (HandSHeadRun.topDef (OpenLaw.row PySem.Challenge.rw_fourthlike_k04_how_far_prices_go).prog 49).name = ("law" : PySem.Str) := by kernel_rfl
      rw [← e]
      exact hmg0
    obtain ⟨fd, hb, hF⟩ := K04.facts (P := (PySem.Challenge.rw_fourthlike_k04_how_far_prices_go).prog) (w := w) rfl KX G hmg c
    exact ⟨K, fd, _, KX, hb, fun H a ns hl _ hS => PL.law_end hS (K04.pure ns hl), hF⟩
