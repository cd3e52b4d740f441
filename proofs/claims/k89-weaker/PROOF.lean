import PyProof.Rows.All
import Wide.All
import OpenK.AllK
import Wide.FinOn
import HandS.ForMost
import HandS.ForExc
import HandS.More
import HandS.Words
import HandS.WordsExc
import HandS.Defaults
import HandS.CallSlots
import HandS.Flow
import HandS.Style
import HandS.TupAny
import HandS.TupLe
import HandS.Zip
import HandS.Conv
import HandS.Deep
import HandS.DictComp
import HandS.IsInst
import HandS.Head0
import HandS.Head1
import HandS.Head2
import HandS.HeadEnd
import HandS.HeadHook1
import HandS.HeadHook2
import KE.SortData
import KE.SortKeyHeap
import KE.LtData
import KE.GoesEnum
import HandS.Lambda
import HandS.HeadHook3
import HandS.HeadHook4
import HandS.HeadWalk
import HandS.EndTab
import PyProof.ListStr
import HandS.TupLen
import HandS.RaiseMore
import PyProof.StrBlock2
import HandS.TupMul
import HandS.Set
import HandS.SetFor
import HandS.TupSets
import PySem.Challenge.RW_freesets_k89_whole_weaker_systems
-- part FsCore
set_option Elab.async false
set_option linter.all false
set_option maxRecDepth 100000
set_option maxHeartbeats 4000000
/-! An evaluator of the texts' pure part over plain data, and its ground: what values stand for data, how the abstract heap may grow. -/
namespace FS
open PySem PySem.Spec PyProof.Rows L2

abbrev D := PyData
/-- the two numbers that all draws turn -/
abbrev Cup := Int × Int
structure Exc where
  cls : Str
  arg : Option Int
inductive R (α : Type) where
  | ok (a : α) (c : Cup)
  | exc (x : Exc) (c : Cup)
  | err
def M (α : Type) : Type := Cup → R α
namespace M
def ret {α : Type} (a : α) : M α := fun c => .ok a c
def bnd {α β : Type} (m : M α) (f : α → M β) : M β := fun c => match m c with
  | .ok a c' => f a c'
  | .exc x c' => .exc x c'
  | .err => .err
def err {α : Type} : M α := fun _ => .err
def raise {α : Type} (x : Exc) : M α := fun c => .exc x c
def opt {α : Type} : Option α → M α
  | some a => ret a
  | none => err
/-- no exception comes out -/
def nox {α : Type} (m : M α) : M α := fun c => match m c with
  | .ok a c' => .ok a c'
  | _ => .err
end M
instance : Monad M where
  pure := M.ret
  bind := M.bnd

/-- the value of the cup's name, of a def's name -/
def cupD : D := .dict [(.none, .none)]
def fnD (i : Nat) : D := .dict [(.none, .int i)]

/-! ### what stands for a datum -/
def strG (x : Str) : Bool := PySem.PyData.strOk x && decide (x.length ≤ sizeLine)
/-- a dict's key as a datum -/
def keyD : Key → D
  | .inl i => .int i
  | .inr x => .str x
def keyG : Key → Bool
  | .inl _ => true
  | .inr x => strG x
mutual
inductive Rp (ca : Addr) (fa : Nat → Addr) (F : Hp) : V → D → Prop
  | non : Rp ca fa F .non .none
  | bl (b : Bool) : Rp ca fa F (.bl b) (.bool b)
  | int (i : Int) : Rp ca fa F (.int i) (.int i)
  | str (x : Str) : strG x = true → Rp ca fa F (.str x) (.str x)
  | lst {a : Addr} {vs : List V} {ds : List D} : F a = some (.lst vs) → vs.length ≤ sizeLine → RpAll ca fa F vs ds → Rp ca fa F (.ref a) (.list ds)
  | tup {a : Addr} {vs : List V} {ds : List D} : F a = some (.tup vs) → vs.length ≤ sizeLine → RpAll ca fa F vs ds → Rp ca fa F (.ref a) (.tuple ds)
  | cup : Rp ca fa F (.ref ca) cupD
  | fn (i : Nat) : Rp ca fa F (.ref (fa i)) (fnD i)
  | dK {a : Addr} {kvs : List (Key × V)} {ds : List (D × D)} : F a = some (.dK kvs) → RpK ca fa F kvs ds → Rp ca fa F (.ref a) (.dict ((.none, .bool false) :: ds))
  | dT {a : Addr} {kvs : List (List Key × V)} {ds : List (D × D)} : F a = some (.dT kvs) → RpT ca fa F kvs ds → Rp ca fa F (.ref a) (.dict ((.none, .bool true) :: ds))
inductive RpAll (ca : Addr) (fa : Nat → Addr) (F : Hp) : List V → List D → Prop
  | nil : RpAll ca fa F [] []
  | cons {v : V} {vs : List V} {d : D} {ds : List D} : Rp ca fa F v d → RpAll ca fa F vs ds → RpAll ca fa F (v :: vs) (d :: ds)
inductive RpK (ca : Addr) (fa : Nat → Addr) (F : Hp) : List (Key × V) → List (D × D) → Prop
  | nil : RpK ca fa F [] []
  | cons {k : Key} {v : V} {vs : List (Key × V)} {d : D} {ds : List (D × D)} : keyG k = true → Rp ca fa F v d → RpK ca fa F vs ds → RpK ca fa F ((k, v) :: vs) ((keyD k, d) :: ds)
inductive RpT (ca : Addr) (fa : Nat → Addr) (F : Hp) : List (List Key × V) → List (D × D) → Prop
  | nil : RpT ca fa F [] []
  | cons {k : List Key} {v : V} {vs : List (List Key × V)} {d : D} {ds : List (D × D)} : k.all keyG = true → Rp ca fa F v d → RpT ca fa F vs ds → RpT ca fa F ((k, v) :: vs) ((.tuple (k.map keyD), d) :: ds)
end

/-- one abstract heap within another -/
def Sub (F H : Hp) : Prop := ∀ a o, F a = some o → H a = some o
theorem Sub.refl (F : Hp) : Sub F F := fun _ _ e => e
theorem Sub.trans {F G H : Hp} (a : Sub F G) (b : Sub G H) : Sub F H := fun x o e => b x o (a x o e)
theorem Sub.upd {F : Hp} {p : Addr} {o : HO} (h : F p = none) : Sub F (upd F p o) := fun b u e => by
  rw [upd_ne (ne_of_none e h)]; exact e
theorem Sub.upd2 {F H : Hp} {p : Addr} {o : HO} (h : Sub F H) : Sub (L2.upd F p o) (L2.upd H p o) := fun b u e => by
  by_cases hb : b = p
  · subst hb; rw [upd_same] at e ⊢; exact e
  · rw [upd_ne hb] at e ⊢; exact h b u e

section
variable {ca : Addr} {fa : Nat → Addr} {F F' H : Hp}
mutual
theorem Rp.mono (h : Sub F F') : ∀ {v : V} {d : D}, Rp ca fa F v d → Rp ca fa F' v d
  | _, _, .non => .non
  | _, _, .bl b => .bl b
  | _, _, .int i => .int i
  | _, _, .str x g => .str x g
  | _, _, .lst e l r => .lst (h _ _ e) l (RpAll.mono h r)
  | _, _, .tup e l r => .tup (h _ _ e) l (RpAll.mono h r)
  | _, _, .cup => .cup
  | _, _, .fn i => .fn i
  | _, _, .dK e r => .dK (h _ _ e) (RpK.mono h r)
  | _, _, .dT e r => .dT (h _ _ e) (RpT.mono h r)
theorem RpAll.mono (h : Sub F F') : ∀ {vs : List V} {ds : List D}, RpAll ca fa F vs ds → RpAll ca fa F' vs ds
  | _, _, .nil => .nil
  | _, _, .cons r t => .cons (Rp.mono h r) (RpAll.mono h t)
theorem RpK.mono (h : Sub F F') : ∀ {vs : List (Key × V)} {ds : List (D × D)}, RpK ca fa F vs ds → RpK ca fa F' vs ds
  | _, _, .nil => .nil
  | _, _, .cons k r t => .cons k (Rp.mono h r) (RpK.mono h t)
theorem RpT.mono (h : Sub F F') : ∀ {vs : List (List Key × V)} {ds : List (D × D)}, RpT ca fa F vs ds → RpT ca fa F' vs ds
  | _, _, .nil => .nil
  | _, _, .cons k r t => .cons k (Rp.mono h r) (RpT.mono h t)
end
theorem RpAll.length : ∀ {vs : List V} {ds : List D}, RpAll ca fa F vs ds → vs.length = ds.length
  | _, _, .nil => rfl
  | _, _, .cons _ t => by rw [List.length_cons, List.length_cons, t.length]
theorem RpAll.append : ∀ {vs ws : List V} {ds es : List D}, RpAll ca fa F vs ds → RpAll ca fa F ws es → RpAll ca fa F (vs ++ ws) (ds ++ es)
  | _, _, _, _, .nil, s => s
  | _, _, _, _, .cons r t, s => .cons r (RpAll.append t s)
theorem RpAll.take : ∀ {vs : List V} {ds : List D} (n : Nat), RpAll ca fa F vs ds → RpAll ca fa F (vs.take n) (ds.take n)
  | _, _, 0, _ => .nil
  | _, _, _ + 1, .nil => .nil
  | _, _, n + 1, .cons r t => .cons r (RpAll.take n t)
theorem RpAll.drop : ∀ {vs : List V} {ds : List D} (n : Nat), RpAll ca fa F vs ds → RpAll ca fa F (vs.drop n) (ds.drop n)
  | _, _, 0, r => r
  | _, _, _ + 1, .nil => .nil
  | _, _, n + 1, .cons _ t => RpAll.drop n t
theorem RpAll.get : ∀ {vs : List V} {ds : List D} {i : Nat} {d : D}, RpAll ca fa F vs ds → ds[i]? = some d → ∃ v, vs[i]? = some v ∧ Rp ca fa F v d
  | _, _, _, _, .nil, e => by simp at e
  | _, _, 0, _, .cons r _, e => by simp at e; subst e; exact ⟨_, rfl, r⟩
  | _, _, i + 1, d, .cons _ t, e => by
    obtain ⟨v, h1, h2⟩ := RpAll.get (i := i) (d := d) t (by simpa using e)
    exact ⟨v, by simpa using h1, h2⟩
theorem RpAll.get' : ∀ {vs : List V} {ds : List D} {i : Nat} {v : V}, RpAll ca fa F vs ds → vs[i]? = some v → ∃ d, ds[i]? = some d ∧ Rp ca fa F v d
  | _, _, _, _, .nil, e => by simp at e
  | _, _, 0, _, .cons r _, e => by simp at e; subst e; exact ⟨_, rfl, r⟩
  | _, _, i + 1, d, .cons _ t, e => by
    obtain ⟨v, h1, h2⟩ := RpAll.get' (i := i) (v := d) t (by simpa using e)
    exact ⟨v, by simpa using h1, h2⟩
theorem RpAll.set {v : V} {d : D} (r : Rp ca fa F v d) : ∀ {vs : List V} {ds : List D} (i : Nat), RpAll ca fa F vs ds → RpAll ca fa F (vs.set i v) (ds.set i d)
  | _, _, _, .nil => .nil
  | _, _, 0, .cons _ t => .cons r t
  | _, _, i + 1, .cons q t => .cons q (RpAll.set r i t)
theorem RpAll.snoc {v : V} {d : D} {vs : List V} {ds : List D} (t : RpAll ca fa F vs ds) (r : Rp ca fa F v d) : RpAll ca fa F (vs ++ [v]) (ds ++ [d]) := t.append (.cons r .nil)
theorem RpAll.isEmpty {vs : List V} {ds : List D} (t : RpAll ca fa F vs ds) : vs.isEmpty = ds.isEmpty := by cases t <;> rfl

mutual
/-- of plain data: the hand layer's reading -/
theorem Rp.dp {K : PySem.W.Frag} (h : Sub F H) : ∀ {v : V} {d : D}, Rp ca fa F v d → d.canLay0 = true → Dp K H v d
  | _, _, .non, _ => .non
  | _, _, .bl b, _ => .bl b
  | _, _, .int i, _ => .int i
  | _, _, .str x g, _ => .str x
  | _, _, .lst e l r, c => .lst (SqL.of (h _ _ e)) (RpAll.dp h r (by simpa [PyData.canLay0] using c))
  | _, _, .tup e l r, c => .tup (SqT.of (h _ _ e)) (RpAll.dp h r (by simpa [PyData.canLay0] using c))
  | _, _, .cup, c => by simp [cupD, PyData.canLay0] at c
  | _, _, .fn i, c => by simp [fnD, PyData.canLay0] at c
  | _, _, .dK e r, c => by simp [PyData.canLay0] at c
  | _, _, .dT e r, c => by simp [PyData.canLay0] at c
theorem RpAll.dp {K : PySem.W.Frag} (h : Sub F H) : ∀ {vs : List V} {ds : List D}, RpAll ca fa F vs ds → PyData.canLayAll0 ds = true → DpAll K H vs ds
  | _, _, .nil, _ => .nil
  | _, _, .cons r t, c => by
    have c2 := Bool.and_eq_true_iff.mp (by simpa [PyData.canLayAll0] using c)
    exact .cons (Rp.dp h r c2.1) (RpAll.dp h t c2.2)
end
end

/-! ### how the heap grows -/
/-- an operation's growth: all that was tracked stays; what is newly known stood nowhere -/
structure Grow (F H F' H' : Hp) : Prop where
  ext : Sub H H'
  ff : Sub F F'
  fh : Sub F' H'
  new : ∀ a o, F' a = some o → F a = some o ∨ H a = none
theorem Grow.refl {F H : Hp} (h : Sub F H) : Grow F H F H := ⟨.refl _, .refl _, h, fun _ _ e => .inl e⟩
theorem Sub.none {F H : Hp} (h : Sub F H) {p : Addr} (e : H p = Option.none) : F p = Option.none := by
  cases q : F p with
  | none => rfl
  | some o => rw [h p o q] at e; cases e
theorem Grow.one {F H : Hp} (h : Sub F H) {p : Addr} {o : HO} (e : H p = none) : Grow F H (upd F p o) (upd H p o) :=
  ⟨Sub.upd e, Sub.upd (h.none e), Sub.upd2 h, fun a u q => by
    by_cases hb : a = p
    · subst hb; exact .inr e
    · rw [upd_ne hb] at q; exact .inl q⟩
/-- the heap alone grows -/
theorem Grow.heap {F H H' : Hp} (h : Sub F H) (e : Sub H H') : Grow F H F H' := ⟨e, .refl _, h.trans e, fun _ _ e => .inl e⟩
theorem Grow.trans {F H F1 H1 F2 H2 : Hp} (a : Grow F H F1 H1) (b : Grow F1 H1 F2 H2) : Grow F H F2 H2 :=
  ⟨a.ext.trans b.ext, a.ff.trans b.ff, b.fh, fun x o e => by
    rcases b.new x o e with q | q
    · exact a.new x o q
    · exact .inr (a.ext.none q)⟩

/-- what an expression may do: all that was tracked stays, but the cup and the tables of code objects -/
structure Step (ca : Addr) (T : List (Addr × Str)) (F H : Hp) (c : Cup) (F' H' : Hp) : Prop where
  ext : ∀ a o, a ≠ ca → (∀ ps, o ≠ .tbl ps) → H a = some o → H' a = some o
  tb : ∀ a ps, a ≠ ca → H a = some (.tbl ps) → ∃ ps', H' a = some (.tbl ps')
  ff : Sub F F'
  fh : Sub F' H'
  new : ∀ a o, F' a = some o → F a = some o ∨ H a = none
  cup : H' ca = some (.lst [.int c.1, .int c.2])
  tabs : LamX.Tabs T H'
section
variable {ca : Addr} {T : List (Addr × Str)}
theorem Step.there {F H F' H' : Hp} {c : Cup} (s : Step ca T F H c F' H') {a : Addr} {o : HO} (e : H a = some o) : ∃ u, H' a = some u := by
  by_cases h : a = ca
  · subst h; exact ⟨_, s.cup⟩
  · by_cases ht : ∃ ps, o = .tbl ps
    · obtain ⟨ps, rfl⟩ := ht
      obtain ⟨ps', q⟩ := s.tb a ps h e
      exact ⟨_, q⟩
    · exact ⟨o, s.ext a o h (fun ps q => ht ⟨ps, q⟩) e⟩
theorem Step.trans {F H F1 H1 F2 H2 : Hp} {c c' : Cup} (a : Step ca T F H c F1 H1) (b : Step ca T F1 H1 c' F2 H2) : Step ca T F H c' F2 H2 where
  ext := fun x o n t e => b.ext x o n t (a.ext x o n t e)
  tb := fun x ps n e => by
    obtain ⟨q, e1⟩ := a.tb x ps n e
    exact b.tb x q n e1
  ff := a.ff.trans b.ff
  fh := b.fh
  new := fun x o e => by
    rcases b.new x o e with q | q
    · exact a.new x o q
    · refine .inr ?_
      cases r : H x with
      | none => rfl
      | some u =>
        obtain ⟨u', e'⟩ := a.there r
        rw [e'] at q; cases q
  cup := b.cup
  tabs := b.tabs
theorem Grow.step {F H F' H' : Hp} {c : Cup} (g : Grow F H F' H') (e : H ca = some (.lst [.int c.1, .int c.2])) (t : LamX.Tabs T H) : Step ca T F H c F' H' where
  ext := fun x o _ _ q => g.ext x o q
  tb := fun x ps _ q => ⟨ps, g.ext _ _ q⟩
  ff := g.ff
  fh := g.fh
  new := g.new
  cup := g.ext _ _ e
  tabs := t.ext g.ext
theorem Step.grow {F H F1 H1 F2 H2 : Hp} {c : Cup} (a : Step ca T F H c F1 H1) (g : Grow F1 H1 F2 H2) : Step ca T F H c F2 H2 := a.trans (g.step a.cup a.tabs)
end

/-! ### the names' values -/
/-- a slot: forgotten; a datum; a list or dict of this def's own, that may yet change -/
inductive Sl where
  | no
  | da (d : D)
  | ow (d : D)
abbrev En := List Sl
abbrev SV := List (Option V)

/-- a def's ground: the cup, the defs' addresses, what was known and what stood at its entry -/
structure Gd where
  ca : Addr
  fa : Nat → Addr
  T : List (Addr × Str)
  Fe : Hp
  He : Hp
inductive OwAt (ca : Addr) (fa : Nat → Addr) (F H : Hp) (a : Addr) : D → Prop
  | lst {vs : List V} {ds : List D} : H a = some (.lst vs) → vs.length ≤ sizeLine → RpAll ca fa F vs ds → OwAt ca fa F H a (.list ds)
  | dK {kvs : List (Key × V)} {ds : List (D × D)} : H a = some (.dK kvs) → RpK ca fa F kvs ds → OwAt ca fa F H a (.dict ((.none, .bool false) :: ds))
  | dT {kvs : List (List Key × V)} {ds : List (D × D)} : H a = some (.dT kvs) → RpT ca fa F kvs ds → OwAt ca fa F H a (.dict ((.none, .bool true) :: ds))
theorem OwAt.keep {ca : Addr} {fa : Nat → Addr} {F F' H H' : Hp} {a : Addr} {d : D} (o : OwAt ca fa F H a d) (h : Sub F F') (e : ∀ u, H a = some u → H' a = some u) : OwAt ca fa F' H' a d := by
  cases o with
  | lst q l r => exact .lst (e _ q) l (r.mono h)
  | dK q r => exact .dK (e _ q) (r.mono h)
  | dT q r => exact .dT (e _ q) (r.mono h)
theorem OwAt.notbl {ca : Addr} {fa : Nat → Addr} {F H : Hp} {a : Addr} {d : D} (o : OwAt ca fa F H a d) {u : HO} (e : H a = some u) : ∀ ps, u ≠ .tbl ps := fun ps z => by
  subst z
  cases o with
  | lst q l r => rw [q] at e; cases e
  | dK q r => rw [q] at e; cases e
  | dT q r => rw [q] at e; cases e
theorem OwAt.there {ca : Addr} {fa : Nat → Addr} {F H : Hp} {a : Addr} {d : D} (o : OwAt ca fa F H a d) : ∃ u, H a = some u := by
  cases o with
  | lst q l r => exact ⟨_, q⟩
  | dK q r => exact ⟨_, q⟩
  | dT q r => exact ⟨_, q⟩
/-- frozen, it is a datum -/
theorem OwAt.rp {ca : Addr} {fa : Nat → Addr} {F H : Hp} {a : Addr} {d : D} (o : OwAt ca fa F H a d) (n : F a = none) : ∃ u, H a = some u ∧ Rp ca fa (upd F a u) (.ref a) d := by
  cases o with
  | lst q l r => exact ⟨_, q, .lst upd_same l (r.mono (Sub.upd n))⟩
  | dK q r => exact ⟨_, q, .dK upd_same (r.mono (Sub.upd n))⟩
  | dT q r => exact ⟨_, q, .dT upd_same (r.mono (Sub.upd n))⟩

/-- what stands for a datum, or is the def's own list or dict, read but not kept -/
inductive Lp (ca : Addr) (fa : Nat → Addr) (F H : Hp) : V → D → Prop
  | rp {v : V} {d : D} : Rp ca fa F v d → Lp ca fa F H v d
  | ow {a : Addr} {d : D} : a ≠ ca → OwAt ca fa F H a d → Lp ca fa F H (.ref a) d
inductive LpAll (ca : Addr) (fa : Nat → Addr) (F H : Hp) : List V → List D → Prop
  | nil : LpAll ca fa F H [] []
  | cons {v : V} {vs : List V} {d : D} {ds : List D} : Lp ca fa F H v d → LpAll ca fa F H vs ds → LpAll ca fa F H (v :: vs) (d :: ds)
section
variable {ca : Addr} {fa : Nat → Addr} {F H F' H' : Hp}
theorem Lp.step {T : List (Addr × Str)} {c : Cup} {v : V} {d : D} (l : Lp ca fa F H v d) (s : Step ca T F H c F' H') : Lp ca fa F' H' v d := by
  cases l with
  | rp r => exact .rp (r.mono s.ff)
  | ow n o => exact .ow n (o.keep s.ff fun u q => s.ext _ u n (o.notbl q) q)
theorem LpAll.step {T : List (Addr × Str)} {c : Cup} : ∀ {vs : List V} {ds : List D}, LpAll ca fa F H vs ds → Step ca T F H c F' H' → LpAll ca fa F' H' vs ds
  | _, _, .nil, _ => .nil
  | _, _, .cons l t, s => .cons (l.step s) (t.step s)
theorem RpAll.lp : ∀ {vs : List V} {ds : List D}, RpAll ca fa F vs ds → LpAll ca fa F H vs ds
  | _, _, .nil => .nil
  | _, _, .cons r t => .cons (.rp r) t.lp
theorem lp_non {v : V} (l : Lp ca fa F H v .none) : v = .non := by
  cases l with
  | rp r => cases r; rfl
  | ow n o => cases o
theorem lp_bl {v : V} {b : Bool} (l : Lp ca fa F H v (.bool b)) : v = .bl b := by
  cases l with
  | rp r => cases r; rfl
  | ow n o => cases o
theorem lp_int {v : V} {i : Int} (l : Lp ca fa F H v (.int i)) : v = .int i := by
  cases l with
  | rp r => cases r; rfl
  | ow n o => cases o
theorem lp_str {v : V} {x : Str} (l : Lp ca fa F H v (.str x)) : v = .str x ∧ strG x = true := by
  cases l with
  | rp r => cases r with
    | str _ g => exact ⟨rfl, g⟩
  | ow n o => cases o
theorem lp_tup {v : V} {ds : List D} (l : Lp ca fa F H v (.tuple ds)) : ∃ a vs, v = .ref a ∧ F a = some (.tup vs) ∧ vs.length ≤ sizeLine ∧ RpAll ca fa F vs ds := by
  cases l with
  | rp r => cases r with
    | tup e l q => exact ⟨_, _, rfl, e, l, q⟩
  | ow n o => cases o
theorem lp_lst {v : V} {ds : List D} (h : Sub F H) (l : Lp ca fa F H v (.list ds)) : ∃ a vs, v = .ref a ∧ H a = some (.lst vs) ∧ vs.length ≤ sizeLine ∧ RpAll ca fa F vs ds := by
  cases l with
  | rp r => cases r with
    | lst e l q => exact ⟨_, _, rfl, h _ _ e, l, q⟩
  | ow n o => cases o with
    | lst e l q => exact ⟨_, _, rfl, e, l, q⟩
theorem lp_dK {v : V} {ds : List (D × D)} (h : Sub F H) (l : Lp ca fa F H v (.dict ((.none, .bool false) :: ds))) : ∃ a kvs, v = .ref a ∧ H a = some (.dK kvs) ∧ RpK ca fa F kvs ds := by
  cases l with
  | rp r => cases r with
    | dK e q => exact ⟨_, _, rfl, h _ _ e, q⟩
  | ow n o => cases o with
    | dK e q => exact ⟨_, _, rfl, e, q⟩
theorem lp_dT {v : V} {ds : List (D × D)} (h : Sub F H) (l : Lp ca fa F H v (.dict ((.none, .bool true) :: ds))) : ∃ a kvs, v = .ref a ∧ H a = some (.dT kvs) ∧ RpT ca fa F kvs ds := by
  cases l with
  | rp r => cases r with
    | dT e q => exact ⟨_, _, rfl, h _ _ e, q⟩
  | ow n o => cases o with
    | dT e q => exact ⟨_, _, rfl, e, q⟩
theorem Lp.dp {K : PySem.W.Frag} {v : V} {d : D} (h : Sub F H) (l : Lp ca fa F H v d) (c : d.canLay0 = true) : Dp K H v d := by
  cases l with
  | rp r => exact r.dp h c
  | ow n o => cases o with
    | lst e l q => exact .lst (SqL.of e) (q.dp h (by simpa [PyData.canLay0] using c))
    | dK e q => simp [PyData.canLay0] at c
    | dT e q => simp [PyData.canLay0] at c
theorem lp_all1 {vs : List V} {d : D} (r : LpAll ca fa F H vs [d]) : ∃ v, vs = [v] ∧ Lp ca fa F H v d := by
  cases r with
  | cons r1 r2 => cases r2; exact ⟨_, rfl, r1⟩
theorem lp_all2 {vs : List V} {d e : D} (r : LpAll ca fa F H vs [d, e]) : ∃ v w, vs = [v, w] ∧ Lp ca fa F H v d ∧ Lp ca fa F H w e := by
  cases r with
  | cons r1 r2 =>
    obtain ⟨w, rfl, r3⟩ := lp_all1 r2
    exact ⟨_, _, rfl, r1, r3⟩
end

def SlOk (g : Gd) (F H : Hp) (s : Sl) (o : Option V) : Prop := match s with
  | .no => True
  | .da d => ∃ v, o = some v ∧ Rp g.ca g.fa F v d
  | .ow d => ∃ a, o = some (.ref a) ∧ F a = none ∧ a ≠ g.ca ∧ g.He a = none ∧ OwAt g.ca g.fa F H a d
/-- neither the cup nor a table of code objects is tracked -/
def Fca (ca : Addr) (T : List (Addr × Str)) (F : Hp) : Prop := F ca = none ∧ ∀ p ∈ T, F p.1 = none
structure GS (g : Gd) (F : Hp) (ρ : En) (c : Cup) (σ : SV) (H : Hp) : Prop where
  st : Step g.ca g.T g.Fe g.He c F H
  fca : Fca g.ca g.T F
  sl : ∀ (i : Nat) s, ρ[i]? = some s → ∃ o, σ[i]? = some o ∧ SlOk g F H s o
  dis : ∀ (i j : Nat) d e a, i ≠ j → ρ[i]? = some (.ow d) → ρ[j]? = some (.ow e) → σ[i]? = some (some (.ref a)) → σ[j]? = some (some (.ref a)) → False
theorem GS.step {g : Gd} {F H F' H' : Hp} {ρ : En} {c c' : Cup} {σ : SV} (x : GS g F ρ c σ H) (s : Step g.ca g.T F H c' F' H') : GS g F' ρ c' σ H' where
  st := x.st.trans s
  fca := by
    refine ⟨?_, fun p hp => ?_⟩
    · cases q : F' g.ca with
      | none => rfl
      | some o =>
        rcases s.new _ _ q with e | e
        · rw [x.fca.1] at e; cases e
        · rw [x.st.cup] at e; cases e
    · cases q : F' p.1 with
      | none => rfl
      | some o =>
        rcases s.new _ _ q with e | e
        · rw [x.fca.2 p hp] at e; cases e
        · obtain ⟨ps, h, _⟩ := x.st.tabs p hp
          rw [h] at e; cases e
  sl := fun i sl e => by
    obtain ⟨o, h1, h2⟩ := x.sl i sl e
    refine ⟨o, h1, ?_⟩
    cases sl with
    | no => trivial
    | da d =>
      obtain ⟨v, h3, h4⟩ := h2
      exact ⟨v, h3, h4.mono s.ff⟩
    | ow d =>
      obtain ⟨a, h3, h4, h5, h6, h7⟩ := h2
      refine ⟨a, h3, ?_, h5, h6, h7.keep s.ff fun u q => s.ext a u h5 (h7.notbl q) q⟩
      cases q : F' a with
      | none => rfl
      | some o =>
        obtain ⟨u, hu⟩ := h7.there
        rcases s.new _ _ q with e | e
        · rw [h4] at e; cases e
        · rw [hu] at e; cases e
  dis := x.dis
theorem GS.fh {g : Gd} {F H : Hp} {ρ : En} {c : Cup} {σ : SV} (x : GS g F ρ c σ H) : Sub F H := x.st.fh

/-- how a raised exception of the text lies -/
def XRep (K : PySem.W.Frag) (x : Exc) (cls : Value) (d : Option Addr) (H : Hp) : Prop :=
  cls = .ref (He.ga K x.cls) ∧ match x.arg with
    | none => d = none
    | some i => ∃ a f, d = some a ∧ H a = some (.xd [(f, .int i)])

/-! ### readings by the evaluator -/
section
variable (g : Gd) (K : PySem.W.Frag) (W : WX)
/-- what is wanted behind an answer -/
def Res {α : Type} (F : Hp) (σ : SV) (H : Hp) (r : R α) (Q : α → Cup → Prop) : Prop := match r with
  | .ok a c => Q a c
  | .exc x c => ∀ cls dx F' H', Step g.ca g.T F H c F' H' → XRep K x cls dx H' → W cls dx σ H'
  | .err => False
def tE (f : En → M D) : TE := fun σ H Q => ∃ F ρ c, GS g F ρ c σ H ∧ Res g K W F σ H (f ρ c) fun d c' => ∀ v F' H', Step g.ca g.T F H c' F' H' → Rp g.ca g.fa F' v d → Q v H'
def tT (f : En → M Bool) : TT := fun σ H Q => ∃ F ρ c, GS g F ρ c σ H ∧ Res g K W F σ H (f ρ c) fun b c' => ∀ F' H', Step g.ca g.T F H c' F' H' → Q b H'
def tA (f : En → M (List D)) : TA := fun σ H Q => ∃ F ρ c, GS g F ρ c σ H ∧ Res g K W F σ H (f ρ c) fun ds c' => ∀ vs F' H', Step g.ca g.T F H c' F' H' → RpAll g.ca g.fa F' vs ds → Q vs H'
end
theorem _root_.L2.PE.imp {X : Cx} {e : Expr} {t t' : TE} (h : PE X e t) (i : ∀ σ H Q, t' σ H Q → t σ H Q) : PE X e t' := ⟨fun pins s σ H Q I q => h.run pins s σ H Q I (i σ H Q q)⟩
theorem _root_.L2.PT.imp {X : Cx} {e : Expr} {t t' : TT} (h : PT X e t) (i : ∀ σ H Q, t' σ H Q → t σ H Q) : PT X e t' := ⟨fun pins s σ H Q I q => h.run pins s σ H Q I (i σ H Q q)⟩
theorem _root_.L2.PW.imp {X : Cx} {e : Expr} {t t' : TT} (h : PW X e t) (i : ∀ σ H Q, t' σ H Q → t σ H Q) : PW X e t' := ⟨fun w pins s σ H Q I q => h.run w pins s σ H Q I (i σ H Q q)⟩
theorem _root_.L2.PA.imp {X : Cx} {e : List Expr} {t t' : TA} (h : PA X e t) (i : ∀ σ H Q, t' σ H Q → t σ H Q) : PA X e t' := ⟨fun p pins s σ H Q I q => h.run p pins s σ H Q I (i σ H Q q)⟩
theorem _root_.L2.PS.imp {X : Cx} {e : Stmt} {t t' : TS} (h : PS X e t) (i : ∀ D σ H, t' D σ H → t D σ H) : PS X e t' := ⟨fun pins s σ H D I q => h.run pins s σ H D I (i D σ H q)⟩
theorem _root_.L2.PSs.imp {X : Cx} {e : List Stmt} {t t' : TS} (h : PSs X e t) (i : ∀ D σ H, t' D σ H → t D σ H) : PSs X e t' := ⟨fun pins s σ H D I q => h.run pins s σ H D I (i D σ H q)⟩
section
variable {g : Gd} {K : PySem.W.Frag} {W : WX}
theorem Res.imp {α : Type} {F : Hp} {σ : SV} {H : Hp} {r : R α} {Q Q' : α → Cup → Prop} (h : Res g K W F σ H r Q) (i : ∀ a c, Q a c → Q' a c) : Res g K W F σ H r Q' := by
  cases r with
  | ok a c => exact i a c h
  | exc x c => exact h
  | err => exact h
theorem Res.back {α : Type} {F : Hp} {σ : SV} {H F' H' : Hp} {r : R α} {c : Cup} {Q Q' : α → Cup → Prop} (h : Res g K W F σ H r Q) (s : Step g.ca g.T F H c F' H') (i : ∀ a c, Q a c → Q' a c) : Res g K W F' σ H' r Q' := by
  cases r with
  | ok a c => exact i a c h
  | exc x c => exact fun cls dx F2 H2 s2 q => h cls dx F2 H2 (s.trans s2) q
  | err => exact h
/-- first m, then k -/
theorem Res.bind {α β : Type} {F : Hp} {σ : SV} {H : Hp} {m : M α} {k : α → M β} {c : Cup} {Q : β → Cup → Prop} (h : Res g K W F σ H ((m >>= k) c) Q) : Res g K W F σ H (m c) fun a c' => Res g K W F σ H (k a c') Q := by
  have h : Res g K W F σ H (M.bnd m k c) Q := h
  unfold M.bnd at h
  cases e : m c with
  | ok a c' => rw [e] at h; exact h
  | exc x c' => rw [e] at h; exact h
  | err => rw [e] at h; exact h
theorem Res.bindI {α β : Type} {F : Hp} {σ : SV} {H : Hp} {m : M α} {k : α → M β} {c : Cup} {Q : β → Cup → Prop} (h : Res g K W F σ H (m c) fun a c' => Res g K W F σ H (k a c') Q) : Res g K W F σ H (M.bnd m k c) Q := by
  unfold M.bnd
  cases e : m c with
  | ok a c' => rw [e] at h; exact h
  | exc x c' => rw [e] at h; exact h
  | err => rw [e] at h; exact h
theorem Res.opt {α : Type} {F : Hp} {σ : SV} {H : Hp} {o : Option α} {c : Cup} {Q : α → Cup → Prop} (h : Res g K W F σ H (M.opt o c) Q) : ∃ a, o = some a ∧ Q a c := by
  cases o with
  | none => exact h.elim
  | some a => exact ⟨a, rfl, h⟩
end
end FS

-- part FsOps
set_option Elab.async false
set_option linter.all false
set_option maxRecDepth 100000
set_option maxHeartbeats 4000000
/-! The operations on data, and that the machine's operations on values that stand for data give them. -/
namespace FS
open PySem PySem.Spec PyProof.Rows L2

/-! ### the operations -/
def mulOk (i j : Int) : Bool := decide ((-(2 ^ 64) < i ∧ i < 2 ^ 64) ∨ (-(2 ^ 64) < j ∧ j < 2 ^ 64))
def addD : D → D → Option D
  | .int i, .int j => some (.int (i + j))
  | .str x, .str y => if x.length + y.length ≤ sizeLine then some (.str (x ++ y)) else none
  | .tuple xs, .tuple ys => if xs.length + ys.length ≤ sizeLine then some (.tuple (xs ++ ys)) else none
  | .list xs, .list ys => if xs.length + ys.length ≤ sizeLine then some (.list (xs ++ ys)) else none
  | _, _ => none
def subD : D → D → Option D
  | .int i, .int j => some (.int (i - j))
  | _, _ => none
def mulD : D → D → Option D
  | .int i, .int j => if mulOk i j then some (.int (i * j)) else none
  | .str x, .int k => if 0 ≤ k ∧ k ≤ 1000000 ∧ x.length ≤ 1 then some (.str ⟨(List.replicate k.toNat x.cps.toList).flatten.toArray⟩) else none
  | .list xs, .int k => if -(2 ^ 63) ≤ k ∧ k < 2 ^ 63 ∧ xs.length * k.toNat ≤ sizeLine then some (.list (List.replicate k.toNat xs).flatten) else none
  | .tuple xs, .int k => if k = 1 then some (.tuple xs) else if xs ≠ [] ∧ 2 ≤ k ∧ k ≤ 1000 ∧ xs.length ≤ 1000 then some (.tuple (List.replicate k.toNat xs).flatten) else none
  | _, _ => none
def fdivD : D → D → Option D
  | .int i, .int j => if 0 < j ∧ j < 1073741824 then some (.int (i / j)) else none
  | _, _ => none
def modD : D → D → Option D
  | .int i, .int j => if 0 < j then some (.int (i % j)) else none
  | _, _ => none
def powD : D → D → Option D
  | .int i, .int j => if 0 ≤ j ∧ j ≤ 1000000 ∧ i.natAbs < 2 ^ 64 then some (.int (i ^ j.toNat)) else none
  | _, _ => none
def eqD (x y : D) : Option D := if SeqAt.shaped x && SeqAt.shaped y then some (.bool (PyData.eqv x y)) else none
def neD (x y : D) : Option D := if SeqAt.shaped x && SeqAt.shaped y then some (.bool (!PyData.eqv x y)) else none
def ltD : D → D → Option D
  | .int i, .int j => some (.bool (decide (i < j)))
  | .none, _ => none
  | x, y => if SeqAt.shaped x && SeqAt.shaped y && W.alike x y then some (.bool (W.dataLt x y)) else none
def leD : D → D → Option D
  | .int i, .int j => some (.bool (decide (i ≤ j)))
  | .str i, .str j => some (.bool (!decide (j.cps.toList < i.cps.toList)))
  | _, _ => none
def gtD : D → D → Option D
  | .int i, .int j => some (.bool (decide (j < i)))
  | .str i, .str j => some (.bool (decide (j.cps.toList < i.cps.toList)))
  | _, _ => none
def geD : D → D → Option D
  | .int i, .int j => some (.bool (decide (j ≤ i)))
  | .str i, .str j => some (.bool (!decide (i.cps.toList < j.cps.toList)))
  | _, _ => none
/-- whether a datum is met in a sequence -/
def memD (x : D) (xs : List D) : Bool := xs.any fun z => PyData.eqv z x
/-- a dict's value -/
def lookD (k : D) : List (D × D) → Option D
  | [] => none
  | (a, v) :: r => if PyData.eqv a k then some v else lookD k r
/-- a datum as a dict's key -/
def keyOf : D → Option Key
  | .int i => some (.inl i)
  | .str x => some (.inr x)
  | _ => none
def keysOf : List D → Option (List Key)
  | [] => some []
  | d :: ds => match keyOf d, keysOf ds with
    | some k, some ks => some (k :: ks)
    | _, _ => none
def inB (x : D) : D → Option Bool
  | .list ds => if SeqAt.shaped x && SeqAt.shaped (.list ds) then some (memD x ds) else none
  | .tuple ds => if SeqAt.shaped x && SeqAt.shaped (.tuple ds) then some (memD x ds) else none
  | .str z => match x with
    | .str y => if y.length = 1 then some (decide (y.cps.getD 0 0 ∈ z.cps.toList)) else none
    | _ => none
  | _ => none
/-! ### the rules -/
section
variable (ca : Addr) (fa : Nat → Addr)
/-- what an operation's value must do -/
def VQ (F H : Hp) (d : D) (Q : VK) : Prop := ∀ v F' H', Grow F H F' H' → Rp ca fa F' v d → Q v H'
def rV (op : D → D → Option D) : R2 := fun x y H Q => ∃ F dx dy d, Sub F H ∧ Lp ca fa F H x dx ∧ Lp ca fa F H y dy ∧ op dx dy = some d ∧ VQ ca fa F H d Q
end
section
variable {X : Cx} {ca : Addr} {fa : Nat → Addr}
theorem VQ.here {F H : Hp} {d : D} {Q : VK} {v : V} (k : VQ ca fa F H d Q) (h : Sub F H) (r : Rp ca fa F v d) : Q v H := k v F H (Grow.refl h) r
theorem VQ.new {F H : Hp} {d : D} {Q : VK} {p : Addr} {o : HO} (k : VQ ca fa F H d Q) (h : Sub F H) (e : H p = none) (r : Rp ca fa (upd F p o) (.ref p) d) : Q (.ref p) (upd H p o) := k _ _ _ (Grow.one h e) r
theorem VQ.lst {F H : Hp} {ds : List D} {vs : List V} {Q : VK} {p : Addr} (k : VQ ca fa F H (.list ds) Q) (h : Sub F H) (e : H p = none) (l : vs.length ≤ sizeLine) (r : RpAll ca fa F vs ds) : Q (.ref p) (upd H p (.lst vs)) :=
  k.new h e (.lst upd_same l (r.mono (Sub.upd (h.none e))))
theorem VQ.tup {F H : Hp} {ds : List D} {vs : List V} {Q : VK} {p : Addr} (k : VQ ca fa F H (.tuple ds) Q) (h : Sub F H) (e : H p = none) (l : vs.length ≤ sizeLine) (r : RpAll ca fa F vs ds) : Q (.ref p) (upd H p (.tup vs)) :=
  k.new h e (.tup upd_same l (r.mono (Sub.upd (h.none e))))

theorem strG_app {x y : Str} (hx : strG x = true) (hy : strG y = true) (l : x.length + y.length ≤ sizeLine) : strG (x ++ y) = true := by
  unfold strG at hx hy ⊢
  rw [Bool.and_eq_true] at hx hy ⊢
  refine ⟨?_, decide_eq_true ?_⟩
  · have h1 := hx.1; have h2 := hy.1
    unfold PySem.PyData.strOk at h1 h2 ⊢
    show Array.all (x.cps ++ y.cps) _ = true
    rw [Array.all_append, h1, h2]; rfl
  · show (x.cps ++ y.cps).size ≤ sizeLine
    rw [Array.size_append]; exact l
theorem r_add : OpR X (binaryOp .Add) (rV ca fa addD) := by
  intro pins s σ H x y v u Q I rx ry h
  obtain ⟨F, dx, dy, d, fh, r1, r2, e, k⟩ := h
  unfold addD at e
  split at e
  · cases e; cases lp_int r1; cases lp_int r2
    exact op_add pins s σ H _ _ v u Q I rx ry ⟨_, _, rfl, rfl, k.here fh (.int _)⟩
  · split at e
    · rename_i hl
      cases e
      obtain ⟨rfl, g1⟩ := lp_str r1
      obtain ⟨rfl, g2⟩ := lp_str r2
      exact op_add_str pins s σ H _ _ v u Q I rx ry ⟨_, _, rfl, rfl, hl, k.here fh (.str _ (strG_app g1 g2 hl))⟩
    · cases e
  · split at e
    · rename_i hl
      cases e
      obtain ⟨a, vs, rfl, e1, l1, q1⟩ := lp_tup r1
      obtain ⟨b, ws, rfl, e2, l2, q2⟩ := lp_tup r2
      have a1 := q1.length
      have a2 := q2.length
      refine op_catA pins s σ H _ _ v u Q I rx ry ⟨_, _, _, _, rfl, rfl, SqT.of (fh _ _ e1), SqT.of (fh _ _ e2), by omega, fun z => ?_, fun _ z => ?_, fun _ _ p hp => ?_⟩
      · subst z; cases q1; exact k.here fh (.tup e2 l2 q2)
      · subst z; cases q2; exact k.here fh (.tup e1 l1 (by rw [List.append_nil]; exact q1))
      · exact k.tup fh hp (by rw [List.length_append]; omega) (q1.append q2)
    · cases e
  · split at e
    · rename_i hl
      cases e
      obtain ⟨a, vs, rfl, e1, l1, q1⟩ := lp_lst fh r1
      obtain ⟨b, ws, rfl, e2, l2, q2⟩ := lp_lst fh r2
      have a1 := q1.length
      have a2 := q2.length
      exact op_cat pins s σ H _ _ v u Q I rx ry ⟨_, _, _, _, rfl, rfl, e1, e2, by omega, fun p hp => k.lst fh hp (by rw [List.length_append]; omega) (q1.append q2)⟩
    · cases e
  · cases e
theorem r_sub : OpR X (binaryOp .Sub) (rV ca fa subD) := by
  intro pins s σ H x y v u Q I rx ry h
  obtain ⟨F, dx, dy, d, fh, r1, r2, e, k⟩ := h
  unfold subD at e
  split at e
  · cases e; cases lp_int r1; cases lp_int r2
    exact op_sub pins s σ H _ _ v u Q I rx ry ⟨_, _, rfl, rfl, k.here fh (.int _)⟩
  · cases e
theorem r_fdiv : OpR X (binaryOp .FloorDiv) (rV ca fa fdivD) := by
  intro pins s σ H x y v u Q I rx ry h
  obtain ⟨F, dx, dy, d, fh, r1, r2, e, k⟩ := h
  unfold fdivD at e
  split at e
  · split at e
    · rename_i hc
      cases e; cases lp_int r1; cases lp_int r2
      exact op_fdiv pins s σ H _ _ v u Q I rx ry ⟨_, _, rfl, rfl, hc, k.here fh (.int _)⟩
    · cases e
  · cases e
theorem r_mod : OpR X (binaryOp .Mod) (rV ca fa modD) := by
  intro pins s σ H x y v u Q I rx ry h
  obtain ⟨F, dx, dy, d, fh, r1, r2, e, k⟩ := h
  unfold modD at e
  split at e
  · split at e
    · rename_i hc
      cases e; cases lp_int r1; cases lp_int r2
      exact op_mod pins s σ H _ _ v u Q I rx ry ⟨_, _, rfl, rfl, hc, k.here fh (.int _)⟩
    · cases e
  · cases e
theorem r_pow : OpR X (binaryOp .Pow) (rV ca fa powD) := by
  intro pins s σ H x y v u Q I rx ry h
  obtain ⟨F, dx, dy, d, fh, r1, r2, e, k⟩ := h
  unfold powD at e
  split at e
  · split at e
    · rename_i hc
      cases e; cases lp_int r1; cases lp_int r2
      exact op_pow pins s σ H _ _ v u Q I rx ry ⟨_, _, rfl, rfl, hc, k.here fh (.int _)⟩
    · cases e
  · cases e
theorem and3 {a b : Bool} (h : (a && b) = true) : a = true ∧ b = true := Bool.and_eq_true_iff.mp h
theorem r_eq (hu : X.A.units + 64 < cLine) : OpR X (compareOp .Eq) (rV ca fa eqD) := by
  intro pins s σ H x y v u Q I rx ry h
  obtain ⟨F, dx, dy, d, fh, r1, r2, e, k⟩ := h
  unfold eqD at e
  split at e
  · rename_i hs
    obtain ⟨s1, s2⟩ := and3 hs
    cases e
    exact op_eqD hu pins s σ H _ _ v u Q I rx ry ⟨_, _, r1.dp fh (SeqAt.canLay_of_shaped s1), r2.dp fh (SeqAt.canLay_of_shaped s2), s1, s2, k.here fh (.bl _)⟩
  · cases e
theorem r_ne (hu : X.A.units + 64 < cLine) : OpR X (compareOp .NotEq) (rV ca fa neD) := by
  intro pins s σ H x y v u Q I rx ry h
  obtain ⟨F, dx, dy, d, fh, r1, r2, e, k⟩ := h
  unfold neD at e
  split at e
  · rename_i hs
    obtain ⟨s1, s2⟩ := and3 hs
    cases e
    exact op_neD hu pins s σ H _ _ v u Q I rx ry ⟨_, _, r1.dp fh (SeqAt.canLay_of_shaped s1), r2.dp fh (SeqAt.canLay_of_shaped s2), s1, s2, k.here fh (.bl _)⟩
  · cases e
theorem r_lt (hu : X.A.units + 64 < cLine) : OpR X (compareOp .Lt) (rV ca fa ltD) := by
  intro pins s σ H x y v u Q I rx ry h
  obtain ⟨F, dx, dy, d, fh, r1, r2, e, k⟩ := h
  unfold ltD at e
  split at e
  · cases e; cases lp_int r1; cases lp_int r2
    exact op_lt pins s σ H _ _ v u Q I rx ry ⟨_, _, rfl, rfl, k.here fh (.bl _)⟩
  · cases e
  · rename_i hn hi
    split at e
    · rename_i hs
      obtain ⟨hs, ha⟩ := and3 hs
      obtain ⟨s1, s2⟩ := and3 hs
      cases e
      obtain ⟨as, q1⟩ := Dp.reads I dx x v (r1.dp (K := X.K) fh (SeqAt.canLay_of_shaped s1)) rx
      obtain ⟨bs, q2⟩ := Dp.reads I dy y u (r2.dp (K := X.K) fh (SeqAt.canLay_of_shaped s2)) ry
      exact W.rcLt_alike dx dy X.A s v u as bs q1 q2 ha hn (SeqAt.room_of_shaped s1 hu) X.prog X.w X.xe _ ⟨.bl _, H, I, rfl, k.here fh (.bl _)⟩
    · cases e
theorem r_le : OpR X (compareOp .LtE) (rV ca fa leD) := by
  intro pins s σ H x y v u Q I rx ry h
  obtain ⟨F, dx, dy, d, fh, r1, r2, e, k⟩ := h
  unfold leD at e
  split at e
  · cases e
    cases lp_int r1; cases lp_int r2
    exact op_le pins s σ H _ _ v u Q I rx ry ⟨_, _, rfl, rfl, k.here fh (.bl _)⟩
  · cases e
    obtain ⟨rfl, g1⟩ := lp_str r1
    obtain ⟨rfl, g2⟩ := lp_str r2
    exact op_le_str pins s σ H _ _ v u Q I rx ry ⟨_, _, rfl, rfl, k.here fh (.bl _)⟩
  · cases e
theorem r_gt : OpR X (compareOp .Gt) (rV ca fa gtD) := by
  intro pins s σ H x y v u Q I rx ry h
  obtain ⟨F, dx, dy, d, fh, r1, r2, e, k⟩ := h
  unfold gtD at e
  split at e
  · cases e
    cases lp_int r1; cases lp_int r2
    exact op_gt pins s σ H _ _ v u Q I rx ry ⟨_, _, rfl, rfl, k.here fh (.bl _)⟩
  · cases e
    obtain ⟨rfl, g1⟩ := lp_str r1
    obtain ⟨rfl, g2⟩ := lp_str r2
    exact op_gt_str pins s σ H _ _ v u Q I rx ry ⟨_, _, rfl, rfl, k.here fh (.bl _)⟩
  · cases e
theorem r_ge : OpR X (compareOp .GtE) (rV ca fa geD) := by
  intro pins s σ H x y v u Q I rx ry h
  obtain ⟨F, dx, dy, d, fh, r1, r2, e, k⟩ := h
  unfold geD at e
  split at e
  · cases e
    cases lp_int r1; cases lp_int r2
    exact op_ge pins s σ H _ _ v u Q I rx ry ⟨_, _, rfl, rfl, k.here fh (.bl _)⟩
  · cases e
    obtain ⟨rfl, g1⟩ := lp_str r1
    obtain ⟨rfl, g2⟩ := lp_str r2
    exact op_ge_str pins s σ H _ _ v u Q I rx ry ⟨_, _, rfl, rfl, k.here fh (.bl _)⟩
  · cases e
theorem one_sign {y : Str} (h : y.length = 1) : y = ⟨#[y.cps.getD 0 0]⟩ := by
  obtain ⟨c⟩ := y
  have h : c.size = 1 := h
  congr 1
  apply Array.ext
  · rw [h]; rfl
  · intro i h1 h2
    have : i = 0 := by omega
    subst this
    simp [Array.getD, h]
theorem room_in {d : D} {ds : List D} (h : SeqAt.shaped d = true) (hu : X.A.units + 65 < cLine) : X.A.units + 1 + min (PyData.depthAll ds) d.depth < cLine := by
  have h1 := SeqAt.depth_of_shaped h
  have h2 : min (PyData.depthAll ds) d.depth ≤ d.depth := Nat.min_le_right _ _
  omega

/-! dicts by keys -/
theorem eqv_key (a b : Key) : PyData.eqv (keyD a) (keyD b) = decide (a = b) := by
  cases a with
  | inl i => cases b with
    | inl j =>
      show (i == j) = _
      by_cases h : i = j
      · subst h; simp
      · rw [beq_eq_false_iff_ne.mpr h, decide_eq_false (fun q => h (Sum.inl.inj q))]
    | inr y => rw [decide_eq_false (fun q => nomatch q)]; rfl
  | inr x => cases b with
    | inl j => rw [decide_eq_false (fun q => nomatch q)]; rfl
    | inr y =>
      show (x == y) = _
      by_cases h : x = y
      · subst h; simp
      · rw [beq_eq_false_iff_ne.mpr h, decide_eq_false (fun q => h (Sum.inr.inj q))]
theorem eqvAll_keys : ∀ as bs : List Key, PyData.eqvAll (as.map keyD) (bs.map keyD) = decide (as = bs)
  | [], [] => by simp [PyData.eqvAll]
  | [], b :: bs => by simp [PyData.eqvAll]
  | a :: as, [] => by simp [PyData.eqvAll]
  | a :: as, b :: bs => by
    rw [List.map_cons, List.map_cons, PyData.eqvAll, eqv_key, eqvAll_keys as bs]
    by_cases h : a = b
    · subst h; simp
    · simp [h]
theorem eqv_keys (as bs : List Key) : PyData.eqv (.tuple (as.map keyD)) (.tuple (bs.map keyD)) = decide (as = bs) := by
  rw [PyData.eqv]; exact eqvAll_keys as bs
theorem keyOf_ok {d : D} {k : Key} (h : keyOf d = some k) : d = keyD k := by
  unfold keyOf at h
  split at h <;> cases h <;> rfl
theorem keysOf_ok : ∀ {ds : List D} {ks : List Key}, keysOf ds = some ks → ds = ks.map keyD
  | [], ks, h => by simp [keysOf] at h; subst h; rfl
  | d :: ds, ks, h => by
    unfold keysOf at h
    split at h
    · rename_i k ks' h1 h2
      cases h
      rw [keyOf_ok h1, keysOf_ok h2, List.map_cons]
    · cases h
theorem rp_key {F : Hp} {v : V} {k : Key} (r : Rp ca fa F v (keyD k)) : v = kV k := by
  cases k <;> cases r <;> rfl
theorem lp_key {F H : Hp} {v : V} {k : Key} (r : Lp ca fa F H v (keyD k)) : v = kV k := by
  cases k with
  | inl i => exact lp_int r
  | inr x => exact (lp_str r).1
theorem rp_keys {F : Hp} : ∀ {vs : List V} {ks : List Key}, RpAll ca fa F vs (ks.map keyD) → vs = ks.map kV
  | _, [], r => by cases r; rfl
  | _, k :: ks, r => by
    rw [List.map_cons] at r
    cases r with
    | cons r1 r2 => rw [rp_key r1, rp_keys r2, List.map_cons]
theorem rp_tup {F : Hp} {v : V} {ds : List D} (r : Rp ca fa F v (.tuple ds)) : ∃ a vs, v = .ref a ∧ F a = some (.tup vs) ∧ vs.length ≤ sizeLine ∧ RpAll ca fa F vs ds := by
  cases r with
  | tup e l q => exact ⟨_, _, rfl, e, l, q⟩
theorem rp_lst {F : Hp} {v : V} {ds : List D} (r : Rp ca fa F v (.list ds)) : ∃ a vs, v = .ref a ∧ F a = some (.lst vs) ∧ vs.length ≤ sizeLine ∧ RpAll ca fa F vs ds := by
  cases r with
  | lst e l q => exact ⟨_, _, rfl, e, l, q⟩
end
def RpO (ca : Addr) (fa : Nat → Addr) (F : Hp) : Option V → Option D → Prop
  | some v, some d => Rp ca fa F v d
  | none, none => True
  | _, _ => False
section
variable {ca : Addr} {fa : Nat → Addr} {F H : Hp}
theorem RpO.isSome {w : Option V} {o : Option D} (r : RpO ca fa F w o) : w.isSome = o.isSome := by
  cases w <;> cases o <;> first | rfl | exact r.elim
theorem RpO.some_of {w : Option V} {d : D} (r : RpO ca fa F w (some d)) : ∃ v, w = some v ∧ Rp ca fa F v d := by
  cases w with
  | none => exact r.elim
  | some v => exact ⟨v, rfl, r⟩
theorem RpO.none_of {w : Option V} (r : RpO ca fa F w none) : w = none := by
  cases w with
  | none => rfl
  | some v => exact r.elim
theorem RpO.getD {w : Option V} {o : Option D} {v : V} {d : D} (r : RpO ca fa F w o) (q : Rp ca fa F v d) : Rp ca fa F (w.getD v) (o.getD d) := by
  cases w <;> cases o <;> first | exact q | exact r | exact r.elim
theorem look_K (k : Key) : ∀ {kvs : List (Key × V)} {ds : List (D × D)}, RpK ca fa F kvs ds → RpO ca fa F (valV kvs k) (lookD (keyD k) ds)
  | _, _, .nil => trivial
  | _, _, @RpK.cons _ _ _ k' v vs d ds g r t => by
    unfold lookD
    rw [eqv_key]
    by_cases h : k' = k
    · rw [decide_eq_true h, if_pos rfl, valV_pos (p := (k', v)) h]
      exact r
    · rw [decide_eq_false h, if_neg Bool.false_ne_true, valV_neg (p := (k', v)) h]
      exact look_K k t
theorem look_T (k : List Key) : ∀ {kvs : List (List Key × V)} {ds : List (D × D)}, RpT ca fa F kvs ds → RpO ca fa F (valV kvs k) (lookD (.tuple (k.map keyD)) ds)
  | _, _, .nil => trivial
  | _, _, @RpT.cons _ _ _ k' v vs d ds g r t => by
    unfold lookD
    rw [eqv_keys]
    by_cases h : k' = k
    · rw [decide_eq_true h, if_pos rfl, valV_pos (p := (k', v)) h]
      exact r
    · rw [decide_eq_false h, if_neg Bool.false_ne_true, valV_neg (p := (k', v)) h]
      exact look_T k t
end
/-- a dict's kind (whether its keys are tuples), its pairs -/
def kindD : D → Option (Bool × List (D × D))
  | .dict ((.none, .bool t) :: kvs) => some (t, kvs)
  | _ => none
theorem kindD_ok {d : D} {t : Bool} {kvs : List (D × D)} (h : kindD d = some (t, kvs)) : d = .dict ((.none, .bool t) :: kvs) := by
  unfold kindD at h
  split at h <;> cases h
  rfl
/-- whether a datum may be a key of such a dict -/
def keyFor (t : Bool) (k : D) : Bool := if t then (match k with
  | .tuple ds => (keysOf ds).isSome
  | _ => false) else (keyOf k).isSome
theorem keyFor_K {k : D} (h : keyFor false k = true) : ∃ kk, k = keyD kk := by
  have h : (keyOf k).isSome = true := h
  obtain ⟨kk, e⟩ := Option.isSome_iff_exists.mp h
  exact ⟨kk, keyOf_ok e⟩
theorem keyFor_T {k : D} (h : keyFor true k = true) : ∃ ks : List Key, k = .tuple (ks.map keyD) := by
  unfold keyFor at h
  rw [if_pos rfl] at h
  split at h
  · obtain ⟨ks, e⟩ := Option.isSome_iff_exists.mp h
    exact ⟨ks, by rw [keysOf_ok e]⟩
  · cases h
/-- a dict's answer at a key; outer none: no such key can be asked -/
def dgetD (dd k : D) : Option (Option D) := match kindD dd with
  | some (t, kvs) => if keyFor t k then some (lookD k kvs) else none
  | none => none
section
variable {X : Cx} {ca : Addr} {fa : Nat → Addr}
theorem dget_ok {F H : Hp} {x y : V} {dd k : D} {o : Option D} (h : Sub F H) (r : Lp ca fa F H x dd) (rk : Lp ca fa F H y k) (e : dgetD dd k = some o) :
    ∃ a w, x = .ref a ∧ DGet H a y w ∧ RpO ca fa F w o := by
  unfold dgetD at e
  cases q : kindD dd with
  | none => rw [q] at e; cases e
  | some p =>
    obtain ⟨t, kvs⟩ := p
    rw [q] at e
    obtain rfl := kindD_ok q
    have e : (if keyFor t k = true then some (lookD k kvs) else none) = some o := e
    cases z : keyFor t k with
    | false => rw [z] at e; cases e
    | true =>
      rw [z] at e
      cases e
      cases t with
      | false =>
        obtain ⟨kk, rfl⟩ := keyFor_K z
        obtain rfl := lp_key rk
        obtain ⟨a, kvs', rfl, e1, r1⟩ := lp_dK h r
        exact ⟨_, _, rfl, DGet.k e1, look_K kk r1⟩
      | true =>
        obtain ⟨ks, rfl⟩ := keyFor_T z
        obtain ⟨b, vs, rfl, hb, _, rv⟩ := lp_tup rk
        obtain rfl := rp_keys rv
        obtain ⟨a, kvs', rfl, e1, r1⟩ := lp_dT h r
        exact ⟨_, _, rfl, DGet.t e1 (h _ _ hb), look_T ks r1⟩
end

/-- in and not in -/
def inC (x y : D) : Option Bool := match y with
  | .dict _ => (dgetD y x).map Option.isSome
  | _ => inB x y
def inD (x y : D) : Option D := (inC x y).map .bool
def ninD (x y : D) : Option D := (inC x y).map fun b => .bool (!b)
section
variable {X : Cx} {ca : Addr} {fa : Nat → Addr}
theorem r_in (hu : X.A.units + 65 < cLine) : OpR X (compareOp .In) (rV ca fa inD) := by
  intro pins s σ H x y v u Q I rx ry h
  obtain ⟨F, dx, dy, d, fh, r1, r2, e, k⟩ := h
  unfold inD inC at e
  split at e
  · rename_i kvs
    cases q : dgetD (.dict kvs) dx with
    | none => rw [q] at e; cases e
    | some o =>
      rw [q] at e
      cases e
      obtain ⟨a, w, rfl, g, hw⟩ := dget_ok fh r2 r1 q
      cases ry
      have ew : w.isSome = o.isSome := hw.isSome
      refine d_in (by omega) I g rx fun s' I' => ⟨.bl w.isSome, H, I', rfl, ?_⟩
      rw [ew]
      exact k.here fh (.bl _)
  · unfold inB at e
    split at e
    · rename_i ds
      split at e
      · rename_i hs
        obtain ⟨s1, s2⟩ := and3 hs
        cases e
        obtain ⟨as, q1⟩ := Dp.reads I dx x v (r1.dp (K := X.K) fh (SeqAt.canLay_of_shaped s1)) rx
        obtain ⟨bs, q2⟩ := Dp.reads I _ y u (r2.dp (K := X.K) fh (SeqAt.canLay_of_shaped s2)) ry
        exact SeqAt.in_list_reads q2 q1 (SeqAt.canLay_of_shaped s2) (SeqAt.canLay_of_shaped s1) (room_in s1 hu) ⟨.bl _, H, I, rfl, k.here fh (.bl _)⟩
      · cases e
    · rename_i ds
      split at e
      · rename_i hs
        obtain ⟨s1, s2⟩ := and3 hs
        cases e
        obtain ⟨as, q1⟩ := Dp.reads I dx x v (r1.dp (K := X.K) fh (SeqAt.canLay_of_shaped s1)) rx
        obtain ⟨bs, q2⟩ := Dp.reads I _ y u (r2.dp (K := X.K) fh (SeqAt.canLay_of_shaped s2)) ry
        exact SeqAt.in_tuple_reads q2 q1 (SeqAt.canLay_of_shaped s2) (SeqAt.canLay_of_shaped s1) (room_in s1 hu) ⟨.bl _, H, I, rfl, k.here fh (.bl _)⟩
      · cases e
    · split at e
      · split at e
        · rename_i hl
          cases e
          obtain ⟨rfl, g1⟩ := lp_str r1
          obtain ⟨rfl, g2⟩ := lp_str r2
          have hy := one_sign hl
          rw [hy] at rx
          exact op_in_sign pins s σ H _ _ v u Q I rx ry ⟨_, _, rfl, rfl, k.here fh (.bl _)⟩
        · cases e
      · cases e
    · cases e
theorem r_nin (hu : X.A.units + 65 < cLine) : OpR X (compareOp .NotIn) (rV ca fa ninD) := by
  intro pins s σ H x y v u Q I rx ry h
  obtain ⟨F, dx, dy, d, fh, r1, r2, e, k⟩ := h
  unfold ninD inC at e
  split at e
  · rename_i kvs
    cases q : dgetD (.dict kvs) dx with
    | none => rw [q] at e; cases e
    | some o =>
      rw [q] at e
      cases e
      obtain ⟨a, w, rfl, g, hw⟩ := dget_ok fh r2 r1 q
      cases ry
      have ew : w.isSome = o.isSome := hw.isSome
      refine d_notIn (by omega) I g rx fun s' I' => ⟨.bl (!w.isSome), H, I', rfl, ?_⟩
      rw [ew]
      exact k.here fh (.bl _)
  · unfold inB at e
    split at e
    · rename_i ds
      split at e
      · rename_i hs
        obtain ⟨s1, s2⟩ := and3 hs
        cases e
        obtain ⟨as, q1⟩ := Dp.reads I dx x v (r1.dp (K := X.K) fh (SeqAt.canLay_of_shaped s1)) rx
        obtain ⟨bs, q2⟩ := Dp.reads I _ y u (r2.dp (K := X.K) fh (SeqAt.canLay_of_shaped s2)) ry
        exact SeqAt.notIn_list_reads q2 q1 (SeqAt.canLay_of_shaped s2) (SeqAt.canLay_of_shaped s1) (room_in s1 hu) ⟨.bl _, H, I, rfl, k.here fh (.bl _)⟩
      · cases e
    · rename_i ds
      split at e
      · rename_i hs
        obtain ⟨s1, s2⟩ := and3 hs
        cases e
        obtain ⟨as, q1⟩ := Dp.reads I dx x v (r1.dp (K := X.K) fh (SeqAt.canLay_of_shaped s1)) rx
        obtain ⟨bs, q2⟩ := Dp.reads I _ y u (r2.dp (K := X.K) fh (SeqAt.canLay_of_shaped s2)) ry
        exact SeqAt.notIn_tuple_reads q2 q1 (SeqAt.canLay_of_shaped s2) (SeqAt.canLay_of_shaped s1) (room_in s1 hu) ⟨.bl _, H, I, rfl, k.here fh (.bl _)⟩
      · cases e
    · split at e
      · split at e
        · rename_i hl
          cases e
          obtain ⟨rfl, g1⟩ := lp_str r1
          obtain ⟨rfl, g2⟩ := lp_str r2
          have hy := one_sign hl
          rw [hy] at rx
          exact op_notIn_sign pins s σ H _ _ v u Q I rx ry ⟨_, _, rfl, rfl, k.here fh (.bl _)⟩
        · cases e
      · cases e
    · cases e
end
end FS

-- part FsOps2
set_option Elab.async false
set_option linter.all false
set_option maxRecDepth 100000
set_option maxHeartbeats 4000000
/-! More operations: is, truth, subscripts, slices, calls of builtins. -/
namespace FS
open PySem PySem.Spec PyProof.Rows L2

def isNoneD : D → Bool
  | .none => true
  | _ => false
def isB : D → D → Option Bool
  | x, .none => some (isNoneD x)
  | .bool a, .bool b => some (decide (a = b))
  | _, _ => none
def isD (x y : D) : Option D := (isB x y).map .bool
def isnD (x y : D) : Option D := (isB x y).map fun b => .bool (!b)
/-- truth -/
def truD : D → Option Bool
  | .none => some false
  | .bool b => some b
  | .int i => some (i != 0)
  | .str x => some ((x.length : Int) != 0)
  | .list xs => some (!xs.isEmpty)
  | .tuple xs => some (!xs.isEmpty)
  | .dict ((.none, .bool false) :: kvs) => some (!kvs.isEmpty)
  | .dict _ => none
def idxD : D → D → Option D
  | .list xs, .int i => atI xs i
  | .tuple xs, .int i => atI xs i
  | .str z, .int i => (atI z.cps.toList i).map fun c => .str ⟨#[c]⟩
  | .dict kvs, k => (dgetD (.dict kvs) k).bind id
  | _, _ => none
def cutD {α : Type} (xs : List α) (lo hi : Option Int) : List α := (xs.drop (HT.sIx xs.length 0 lo)).take (HT.sIx xs.length xs.length hi - HT.sIx xs.length 0 lo)
def slcD (x : D) (lo hi : Option Int) : Option D := match x with
  | .list xs => some (.list (cutD xs lo hi))
  | .tuple xs => some (.tuple (cutD xs lo hi))
  | .str z => some (.str ⟨(cutD z.cps.toList lo hi).toArray⟩)
  | _ => none
section
variable (ca : Addr) (fa : Nat → Addr)
def rVs (op : List D → Option D) : List V → Hp → VK → Prop := fun xs H Q => ∃ F ds d, Sub F H ∧ LpAll ca fa F H xs ds ∧ op ds = some d ∧ VQ ca fa F H d Q
end
section
variable {X : Cx} {ca : Addr} {fa : Nat → Addr}
theorem rp_non {F H : Hp} {v : V} {d : D} (r : Lp ca fa F H v d) : decide (v = .non) = isNoneD d := by
  cases r with
  | rp r => cases r <;> rfl
  | ow n o => cases o <;> rfl
theorem r_is : OpR X (compareOp .Is) (rV ca fa isD) := by
  intro pins s σ H x y v u Q I rx ry h
  obtain ⟨F, dx, dy, d, fh, r1, r2, e, k⟩ := h
  unfold isD isB at e
  split at e
  · cases e; cases lp_non r2
    refine op_isN pins s σ H _ _ v u Q I rx ry ⟨rfl, ?_⟩
    rw [rp_non r1]
    exact k.here fh (.bl _)
  · cases e; cases lp_bl r1; cases lp_bl r2
    exact op_is_bl pins s σ H _ _ v u Q I rx ry ⟨_, _, rfl, rfl, k.here fh (.bl _)⟩
  · cases e
theorem r_isn : OpR X (compareOp .IsNot) (rV ca fa isnD) := by
  intro pins s σ H x y v u Q I rx ry h
  obtain ⟨F, dx, dy, d, fh, r1, r2, e, k⟩ := h
  unfold isnD isB at e
  split at e
  · cases e; cases lp_non r2
    refine op_notN pins s σ H _ _ v u Q I rx ry ⟨rfl, ?_⟩
    rw [rp_non r1]
    exact k.here fh (.bl _)
  · cases e; cases lp_bl r1; cases lp_bl r2
    exact op_isnot_bl pins s σ H _ _ v u Q I rx ry ⟨_, _, rfl, rfl, k.here fh (.bl _)⟩
  · cases e
theorem strG_len {x : Str} (h : strG x = true) : x.length ≤ sizeLine := of_decide_eq_true (and3 h).2
theorem tru_V {F H : Hp} {K : PySem.W.Frag} {v : V} {d : D} {b : Bool} (h : Sub F H) (r : Lp ca fa F H v d) (e : truD d = some b) : TruV K v H b := by
  unfold truD at e
  split at e
  · cases e; cases lp_non r; rfl
  · cases e; cases lp_bl r; rfl
  · cases e; cases lp_int r; rfl
  · cases e
    obtain ⟨rfl, g⟩ := lp_str r
    exact ⟨strG_len g, rfl⟩
  · cases e
    obtain ⟨a, vs, rfl, q, _, t⟩ := lp_lst h r
    exact .inl ⟨_, SqL.of q, by rw [t.isEmpty]⟩
  · cases e
    obtain ⟨a, vs, rfl, q, _, t⟩ := lp_tup r
    exact .inr (.inl ⟨_, SqT.of (h _ _ q), by rw [t.isEmpty]⟩)
  · cases e
    obtain ⟨a, vs, rfl, q, t⟩ := lp_dK h r
    exact .inr (.inr ⟨_, q, by cases t <;> rfl⟩)
  · cases e

theorem atI_rel {F : Hp} {vs : List V} {ds : List D} {i : Int} {d : D} (r : RpAll ca fa F vs ds) (e : atI ds i = some d) : ∃ v, atI vs i = some v ∧ Rp ca fa F v d := by
  unfold atI at e ⊢
  rw [r.length]
  cases q : ixN ds.length i with
  | none => rw [q] at e; cases e
  | some j =>
    rw [q] at e
    exact r.get (show ds[j]? = some d from e)
theorem one_strG {z : Str} {c : Nat} (g : strG z = true) (h : c ∈ z.cps.toList) : strG ⟨#[c]⟩ = true := by
  unfold strG at g ⊢
  rw [Bool.and_eq_true] at g ⊢
  refine ⟨?_, decide_eq_true (show 1 ≤ sizeLine by decide)⟩
  have g1 := g.1
  unfold PySem.PyData.strOk at g1 ⊢
  rw [Array.all_eq_true'] at g1
  have := g1 c (by simpa using h)
  simpa using this
theorem atI_mem {α : Type} {xs : List α} {i : Int} {a : α} (e : atI xs i = some a) : a ∈ xs := by
  unfold atI at e
  cases q : ixN xs.length i with
  | none => rw [q] at e; cases e
  | some j => rw [q] at e; exact List.mem_of_getElem? (show xs[j]? = some a from e)
/-- a[i], whatever a is -/
theorem pe_idx {a b : Expr} {ta tb : TE} {pos : Pos} (hu : X.A.units + 1 < cLine) (ha : PE X a ta) (hb : PE X b tb) (hs : PlainIx b) : PE X (.Subscript a b pos) (tOp (rV ca fa idxD) ta tb) := by
  refine ⟨fun pins s σ H Q I h => Subscript_ (binT ha hb I h fun v u s2 x y H2 I2 rx ry q => ?_)⟩
  obtain ⟨F, dx, dy, d, fh, r1, r2, e, k⟩ := q
  unfold idxD at e
  split at e
  · cases lp_int r2
    obtain ⟨c, vs, rfl, e1, l1, q1⟩ := lp_lst fh r1
    obtain ⟨w, h1, h2⟩ := atI_rel q1 e
    exact ix_list a b pins s2 σ H2 _ _ v u Q I2 rx ry ⟨_, _, _, _, rfl, rfl, SqL.of e1, h1, k.here fh h2⟩ (hs _ _)
  · cases lp_int r2
    obtain ⟨c, vs, rfl, e1, l1, q1⟩ := lp_tup r1
    obtain ⟨w, h1, h2⟩ := atI_rel q1 e
    exact ix_tup a b pins s2 σ H2 _ _ v u Q I2 rx ry ⟨_, _, _, _, rfl, rfl, SqT.of (fh _ _ e1), h1, k.here fh h2⟩ (hs _ _)
  · rename_i z i
    cases lp_int r2
    obtain ⟨rfl, g⟩ := lp_str r1
    cases q : atI z.cps.toList i with
    | none => rw [q] at e; cases e
    | some c =>
      rw [q] at e; cases e
      exact ix_str a b pins s2 σ H2 _ _ v u Q I2 rx ry ⟨_, _, c, rfl, rfl, strG_len g, q, k.here fh (.str _ (one_strG g (atI_mem q)))⟩ (hs _ _)
  · rename_i kvs
    cases q : dgetD (.dict kvs) dy with
    | none => rw [q] at e; cases e
    | some o =>
      rw [q] at e
      cases o with
      | none => cases e
      | some d' =>
        cases e
        obtain ⟨a', w, rfl, g, hw⟩ := dget_ok fh r1 r2 q
        obtain ⟨z, rfl, rz⟩ := hw.some_of
        cases rx
        have T := dict_typeIs I2 g
        unfold subscriptTail
        refine wpAny_bind ?_
        rw [getitemInPython_of_ne T.not_modules]
        refine wpAny_bind (wpAny_specialOf T PySem.F.slot_dict_getitem.lookup ?_)
        have fin : wpAny (model X.prog X.w) X.A (subscripted b false (Value.ref a') u) (fun r s₃ => wpAny (model X.prog X.w) X.A (letTemporaryGo a (Value.ref a') r >>= fun _ => pure r) (EP X pins σ Q) X.xe s₃) X.xe s2 := by
          rw [hs (Value.ref a') u]
          exact wpAny_operating (d_getItem hu I2 g ry fun w' s3 I3 rw' => wpAny_bind (wpAny_letTemporaryGo (wpAny_pure ⟨z, H2, I3, rw', k.here fh rz⟩)))
        first
          | exact wpAny_pure (wpAny_bind fin)
          | exact wpAny_bind (wpAny_pure (wpAny_bind fin))
          | exact wpAny_bind fin
  · cases e

theorem cutD_length {α : Type} (xs : List α) (lo hi : Option Int) : (cutD xs lo hi).length ≤ xs.length := by
  unfold cutD
  simp only [List.length_take, List.length_drop]
  omega
theorem cut_rel {F : Hp} {vs : List V} {ds : List D} (lo hi : Option Int) (r : RpAll ca fa F vs ds) : RpAll ca fa F (cutV vs lo hi) (cutD ds lo hi) := by
  unfold cutV cutD
  rw [r.length]
  exact (r.drop _).take _
theorem cut_whole {α : Type} {xs : List α} {lo hi : Option Int} (h : HT.sIx xs.length 0 lo = 0 ∧ HT.sIx xs.length xs.length hi = xs.length) : cutD xs lo hi = xs := by
  unfold cutD
  rw [h.1, h.2]
  simp
def rSl (ca : Addr) (fa : Nat → Addr) : V → Option Int → Option Int → Hp → VK → Prop := fun x lo hi H Q => ∃ F dx d, Sub F H ∧ Lp ca fa F H x dx ∧ slcD dx lo hi = some d ∧ VQ ca fa F H d Q
theorem strG_cut {z : Str} (lo hi : Option Int) (g : strG z = true) : strG ⟨(cutD z.cps.toList lo hi).toArray⟩ = true := by
  unfold strG at g ⊢
  rw [Bool.and_eq_true] at g ⊢
  have g2 : z.cps.size ≤ sizeLine := of_decide_eq_true g.2
  have hc := cutD_length z.cps.toList lo hi
  refine ⟨?_, decide_eq_true ?_⟩
  · have g1 := g.1
    unfold PySem.PyData.strOk at g1 ⊢
    rw [Array.all_eq_true'] at g1 ⊢
    intro c hcm
    refine g1 c ?_
    have h1 : c ∈ cutD z.cps.toList lo hi := by simpa using hcm
    unfold cutD at h1
    have := List.mem_of_mem_drop (List.mem_of_mem_take h1)
    simpa using this
  · show (cutD z.cps.toList lo hi).toArray.size ≤ sizeLine
    rw [List.size_toArray]
    exact Nat.le_trans hc (by rw [Array.length_toList]; exact g2)
theorem sl_any : SlR X (rSl ca fa) := by
  intro pins s σ H x v vl vu lo hi sl Q I rx hs pl pu h
  obtain ⟨F, dx, d, fh, r1, e, k⟩ := h
  unfold slcD at e
  split at e
  · cases e
    obtain ⟨c, vs, rfl, e1, l1, q1⟩ := lp_lst fh r1
    exact sl_list pins s σ H _ v vl vu lo hi sl Q I rx hs pl pu ⟨_, _, rfl, SqL.of e1, fun p hp => k.lst fh hp (Nat.le_trans (cutV_length _ _ _) l1) (cut_rel lo hi q1)⟩
  · cases e
    obtain ⟨c, vs, rfl, e1, l1, q1⟩ := lp_tup r1
    refine sl_tupA pins s σ H _ v vl vu lo hi sl Q I rx hs pl pu ⟨_, _, rfl, SqT.of (fh _ _ e1), fun hw => ?_, fun _ p hp => k.tup fh hp (Nat.le_trans (cutV_length _ _ _) l1) (cut_rel lo hi q1)⟩
    rw [q1.length] at hw
    rw [cut_whole hw] at k
    exact k.here fh (.tup e1 l1 q1)
  · cases e
    obtain ⟨rfl, g⟩ := lp_str r1
    refine sl_str pins s σ H _ v vl vu lo hi sl Q I rx hs pl pu ⟨_, rfl, strG_len g, ?_⟩
    exact k.here fh (.str _ (strG_cut lo hi g))
  · cases e
end
end FS

-- part FsOps3
set_option Elab.async false
set_option linter.all false
set_option maxRecDepth 100000
set_option maxHeartbeats 4000000
/-! Calls of built-ins on data. -/
namespace FS
open PySem PySem.Spec PyProof.Rows L2

def intsOf : List D → Option (List Int)
  | [] => some []
  | .int i :: r => (intsOf r).map (i :: ·)
  | _ => none
def boolsOf : List D → Option (List Bool)
  | [] => some []
  | .bool b :: r => (boolsOf r).map (b :: ·)
  | _ => none
def strsOf : List D → Option (List Str)
  | [] => some []
  | .str x :: r => (strsOf r).map (x :: ·)
  | _ => none
/-- the items of a list or a tuple -/
def seqOf : D → Option (List D)
  | .list xs => some xs
  | .tuple xs => some xs
  | _ => none
def maxI : List Int → Option Int
  | [] => none
  | a :: r => match maxI r with
    | none => some a
    | some m => some (if m ≤ a then a else m)
def minI : List Int → Option Int
  | [] => none
  | a :: r => match minI r with
    | none => some a
    | some m => some (if a ≤ m then a else m)
theorem maxI_spec : ∀ {l : List Int} {m : Int}, m ∈ l → (∀ y, y ∈ l → y ≤ m) → maxI l = some m
  | a :: r, m, h1, h2 => by
    unfold maxI
    cases q : maxI r with
    | none =>
      cases r with
      | nil => simp at h1; rw [h1]
      | cons b r => unfold maxI at q; split at q <;> cases q
    | some k =>
      have hk : k ∈ r ∧ ∀ y, y ∈ r → y ≤ k := by
        have : ∀ {l : List Int} {k : Int}, maxI l = some k → k ∈ l ∧ ∀ y, y ∈ l → y ≤ k := by
          intro l
          induction l with
          | nil => intro k e; cases e
          | cons b l ih =>
            intro k e
            unfold maxI at e
            cases z : maxI l with
            | none =>
              rw [z] at e
              cases e
              cases l with
              | nil => simp
              | cons c l => unfold maxI at z; split at z <;> cases z
            | some t =>
              rw [z] at e
              obtain ⟨i1, i2⟩ := ih z
              have e : some (if t ≤ b then b else t) = some k := e
              cases e
              by_cases hb : t ≤ b
              · rw [if_pos hb]
                refine ⟨List.mem_cons_self, fun y hy => ?_⟩
                rcases List.mem_cons.mp hy with rfl | hy
                · exact Int.le_refl _
                · have := i2 y hy; omega
              · rw [if_neg hb]
                refine ⟨List.mem_cons_of_mem _ i1, fun y hy => ?_⟩
                rcases List.mem_cons.mp hy with rfl | hy
                · omega
                · exact i2 y hy
        exact this q
      have ha := h2 a List.mem_cons_self
      have hkm := h2 k (List.mem_cons_of_mem _ hk.1)
      show some (if k ≤ a then a else k) = some m
      rcases List.mem_cons.mp h1 with rfl | h1
      · rw [if_pos hkm]
      · have := hk.2 m h1
        have e : k = m := by omega
        by_cases hc : k ≤ a
        · rw [if_pos hc]; congr 1; omega
        · rw [if_neg hc, e]
theorem maxI_of : ∀ {l : List Int} {k : Int}, maxI l = some k → k ∈ l ∧ ∀ y, y ∈ l → y ≤ k
  | [], k, e => by cases e
  | b :: l, k, e => by
    unfold maxI at e
    cases z : maxI l with
    | none =>
      rw [z] at e
      cases e
      cases l with
      | nil => simp
      | cons c l => unfold maxI at z; split at z <;> cases z
    | some t =>
      rw [z] at e
      obtain ⟨i1, i2⟩ := maxI_of z
      have e : some (if t ≤ b then b else t) = some k := e
      cases e
      by_cases hb : t ≤ b
      · rw [if_pos hb]
        refine ⟨List.mem_cons_self, fun y hy => ?_⟩
        rcases List.mem_cons.mp hy with rfl | hy
        · exact Int.le_refl _
        · have := i2 y hy; omega
      · rw [if_neg hb]
        refine ⟨List.mem_cons_of_mem _ i1, fun y hy => ?_⟩
        rcases List.mem_cons.mp hy with rfl | hy
        · omega
        · exact i2 y hy
theorem minI_of : ∀ {l : List Int} {k : Int}, minI l = some k → k ∈ l ∧ ∀ y, y ∈ l → k ≤ y
  | [], k, e => by cases e
  | b :: l, k, e => by
    unfold minI at e
    cases z : minI l with
    | none =>
      rw [z] at e
      cases e
      cases l with
      | nil => simp
      | cons c l => unfold minI at z; split at z <;> cases z
    | some t =>
      rw [z] at e
      obtain ⟨i1, i2⟩ := minI_of z
      have e : some (if b ≤ t then b else t) = some k := e
      cases e
      by_cases hb : b ≤ t
      · rw [if_pos hb]
        refine ⟨List.mem_cons_self, fun y hy => ?_⟩
        rcases List.mem_cons.mp hy with rfl | hy
        · exact Int.le_refl _
        · have := i2 y hy; omega
      · rw [if_neg hb]
        refine ⟨List.mem_cons_of_mem _ i1, fun y hy => ?_⟩
        rcases List.mem_cons.mp hy with rfl | hy
        · omega
        · exact i2 y hy
theorem minI_none {l : List Int} (h : minI l = none) : l = [] := by
  cases l with
  | nil => rfl
  | cons a r => unfold minI at h; split at h <;> cases h
theorem maxI_none {l : List Int} (h : maxI l = none) : l = [] := by
  cases l with
  | nil => rfl
  | cons a r => unfold maxI at h; split at h <;> cases h
theorem minI_spec {l : List Int} {m : Int} (h1 : m ∈ l) (h2 : ∀ y, y ∈ l → m ≤ y) : minI l = some m := by
  cases q : minI l with
  | none => rw [minI_none q] at h1; cases h1
  | some k =>
    obtain ⟨i1, i2⟩ := minI_of q
    have a := i2 m h1
    have b := h2 k i1
    congr 1; omega

def lenD : List D → Option D
  | [.list xs] => some (.int xs.length)
  | [.tuple xs] => some (.int xs.length)
  | [.str x] => some (.int x.length)
  | [.dict kvs] => (kindD (.dict kvs)).map fun p => .int p.2.length
  | _ => none
def listD : List D → Option D
  | [.list xs] => some (.list xs)
  | [.tuple xs] => some (.list xs)
  | [.str x] => some (.list (x.cps.toList.map fun c => .str ⟨#[c]⟩))
  | _ => none
def tupleD : List D → Option D
  | [.list xs] => some (.tuple xs)
  | [.tuple xs] => some (.tuple xs)
  | _ => none
def sumD : List D → Option D
  | [x] => (seqOf x).bind fun xs => (intsOf xs).map fun ns => .int ns.sum
  | _ => none
def maxD : List D → Option D
  | [x] => (seqOf x).bind fun xs => (intsOf xs).bind fun ns => (maxI ns).map .int
  | [.int i, .int j] => some (.int (if j > i then j else i))
  | _ => none
def minD : List D → Option D
  | [x] => (seqOf x).bind fun xs => (intsOf xs).bind fun ns => (minI ns).map .int
  | [.int i, .int j] => some (.int (if j < i then j else i))
  | _ => none
def anyD : List D → Option D
  | [.list xs] => (boolsOf xs).map fun bs => .bool (bs.any id)
  | _ => none
def allD : List D → Option D
  | [.list xs] => (boolsOf xs).map fun bs => .bool (bs.all id)
  | _ => none
def absD : List D → Option D
  | [.int i] => some (.int (if i < 0 then -i else i))
  | _ => none
def intD : List D → Option D
  | [.int i] => some (.int i)
  | [.bool b] => some (.int (if b then 1 else 0))
  | _ => none
def strD : List D → Option D
  | [.int i] => if i.natAbs < 1000000000 ∧ strG (Str.ofString (toString i)) = true then some (.str (Str.ofString (toString i))) else none
  | [.str x] => some (.str x)
  | _ => none
def tyN : D → String
  | .none => "NoneType"
  | .bool _ => "bool"
  | .int _ => "int"
  | .str _ => "str"
  | .list _ => "list"
  | .tuple _ => "tuple"
  | .dict _ => "dict"
def isiB (x : D) (T : String) : Bool := tyN x == T || (tyN x == "bool" && T == "int")

section
variable {X : Cx} {ca : Addr} {fa : Nat → Addr} {F : Hp}
theorem rp_ints : ∀ {vs : List V} {ds : List D} {ns : List Int}, RpAll ca fa F vs ds → intsOf ds = some ns → vs = ns.map V.int
  | _, [], ns, r, e => by cases r; cases e; rfl
  | _, d :: ds, ns, r, e => by
    cases r with
    | cons r1 r2 =>
      unfold intsOf at e
      split at e
      · rename_i h; exact absurd h (by simp)
      · rename_i i r h
        cases h
        cases q : intsOf ds with
        | none => rw [q] at e; cases e
        | some ms => rw [q] at e; cases e; cases r1; rw [rp_ints r2 q]; rfl
      · cases e
theorem rp_bools : ∀ {vs : List V} {ds : List D} {ns : List Bool}, RpAll ca fa F vs ds → boolsOf ds = some ns → vs = ns.map V.bl
  | _, [], ns, r, e => by cases r; cases e; rfl
  | _, d :: ds, ns, r, e => by
    cases r with
    | cons r1 r2 =>
      unfold boolsOf at e
      split at e
      · rename_i h; exact absurd h (by simp)
      · rename_i i r h
        cases h
        cases q : boolsOf ds with
        | none => rw [q] at e; cases e
        | some ms => rw [q] at e; cases e; cases r1; rw [rp_bools r2 q]; rfl
      · cases e
theorem rp_strs : ∀ {vs : List V} {ds : List D} {ns : List Str}, RpAll ca fa F vs ds → strsOf ds = some ns → vs = ns.map V.str ∧ ∀ x ∈ ns, strG x = true
  | _, [], ns, r, e => by cases r; cases e; exact ⟨rfl, by simp⟩
  | _, d :: ds, ns, r, e => by
    cases r with
    | cons r1 r2 =>
      unfold strsOf at e
      split at e
      · rename_i h; exact absurd h (by simp)
      · rename_i i r h
        cases h
        cases q : strsOf ds with
        | none => rw [q] at e; cases e
        | some ms =>
          rw [q] at e; cases e; cases r1
          rename_i g
          obtain ⟨h1, h2⟩ := rp_strs r2 q
          refine ⟨by rw [h1]; rfl, fun x hx => ?_⟩
          rcases List.mem_cons.mp hx with rfl | hx
          · exact g
          · exact h2 x hx
      · cases e
theorem c_len : CallR X (.builtin "len") (rVs ca fa lenD) := by
  intro pins s σ H xs us Q I r h
  obtain ⟨F, ds, d, fh, rs, e, k⟩ := h
  unfold lenD at e
  split at e
  · cases e
    obtain ⟨v, rfl, r1⟩ := lp_all1 rs
    obtain ⟨a, vs, rfl, e1, l1, q1⟩ := lp_lst fh r1
    refine call_len pins s σ H _ us Q I r ⟨_, vs.length, rfl, .inl ⟨vs, SqL.of e1, rfl⟩, ?_⟩
    rw [q1.length]
    exact k.here fh (.int _)
  · cases e
    obtain ⟨v, rfl, r1⟩ := lp_all1 rs
    obtain ⟨a, vs, rfl, e1, l1, q1⟩ := lp_tup r1
    refine call_len pins s σ H _ us Q I r ⟨_, vs.length, rfl, .inr ⟨vs, SqT.of (fh _ _ e1), rfl⟩, ?_⟩
    rw [q1.length]
    exact k.here fh (.int _)
  · cases e
    obtain ⟨v, rfl, r1⟩ := lp_all1 rs
    obtain ⟨rfl, g⟩ := lp_str r1
    exact call_len pins s σ H _ us Q I r ⟨_, _, rfl, ⟨strG_len g, rfl⟩, k.here fh (.int _)⟩
  · rename_i kvs
    obtain ⟨v, rfl, r1⟩ := lp_all1 rs
    cases q : kindD (.dict kvs) with
    | none => rw [q] at e; cases e
    | some p =>
      obtain ⟨t, kk⟩ := p
      rw [q] at e
      cases e
      rw [kindD_ok q] at r1
      cases t with
      | false =>
        obtain ⟨a, kvs', rfl, e1, q1⟩ := lp_dK fh r1
        have hl : ∀ {ws : List (Key × V)} {es : List (D × D)}, RpK ca fa F ws es → ws.length = es.length := by
          intro ws
          induction ws with
          | nil => intro es z; cases z; rfl
          | cons a w ih => intro es z; cases z with
            | cons _ _ t => rw [List.length_cons, List.length_cons, ih t]
        cases r with
        | cons rx rr =>
          cases rr
          cases rx
          refine d_len I (.inl e1) fun t s' I' => ⟨.int _, H, I', ⟨t, rfl⟩, ?_⟩
          rw [hl q1]
          exact k.here fh (.int _)
      | true =>
        obtain ⟨a, kvs', rfl, e1, q1⟩ := lp_dT fh r1
        have hl : ∀ {ws : List (List Key × V)} {es : List (D × D)}, RpT ca fa F ws es → ws.length = es.length := by
          intro ws
          induction ws with
          | nil => intro es z; cases z; rfl
          | cons a w ih => intro es z; cases z with
            | cons _ _ t => rw [List.length_cons, List.length_cons, ih t]
        refine call_len_dT pins s σ H _ us Q I r ⟨_, _, rfl, e1, ?_⟩
        rw [hl q1]
        exact k.here fh (.int _)
  · cases e
theorem strs_rp : ∀ (cs : List Nat), (∀ c ∈ cs, c < 0x110000) → RpAll ca fa F (cs.map fun c => V.str ⟨#[c]⟩) (cs.map fun c => PyData.str ⟨#[c]⟩)
  | [], _ => .nil
  | c :: cs, h => .cons (.str _ (by
      unfold strG
      rw [Bool.and_eq_true]
      refine ⟨?_, decide_eq_true (show 1 ≤ sizeLine by decide)⟩
      unfold PySem.PyData.strOk
      have := h c List.mem_cons_self
      simpa using this)) (strs_rp cs fun x hx => h x (List.mem_cons_of_mem _ hx))
theorem strG_cps {x : Str} (g : strG x = true) : ∀ c ∈ x.cps.toList, c < 0x110000 := fun c hc => by
  have g1 := (and3 g).1
  unfold PySem.PyData.strOk at g1
  rw [Array.all_eq_true'] at g1
  have := g1 c (by simpa using hc)
  simpa using this
theorem c_list (hc : X.calm = true) : CallR X (.type "list") (rVs ca fa listD) := by
  intro pins s σ H xs us Q I r h
  obtain ⟨F, ds, d, fh, rs, e, k⟩ := h
  unfold listD at e
  split at e
  · cases e
    obtain ⟨v, rfl, r1⟩ := lp_all1 rs
    obtain ⟨a, vs, rfl, e1, l1, q1⟩ := lp_lst fh r1
    exact call_list_of pins s σ H _ us Q I r ⟨_, _, rfl, .inl (SqL.of e1), fun p hp => k.lst fh hp l1 q1⟩
  · cases e
    obtain ⟨v, rfl, r1⟩ := lp_all1 rs
    obtain ⟨a, vs, rfl, e1, l1, q1⟩ := lp_tup r1
    exact call_list_of pins s σ H _ us Q I r ⟨_, _, rfl, .inr (SqT.of (fh _ _ e1)), fun p hp => k.lst fh hp l1 q1⟩
  · cases e
    obtain ⟨v, rfl, r1⟩ := lp_all1 rs
    obtain ⟨rfl, g⟩ := lp_str r1
    rename_i x
    obtain ⟨u, rfl, rx⟩ := vals1 r
    obtain ⟨t, rfl⟩ := rx
    have hz : x.cps.size ≤ sizeLine := strG_len g
    refine call_list_str (hn := hz) (I.ok.hd hc) x t fun h' tk acc' c' hk hS hacc => ?_
    have hn : H s.heap.objs.size = none := I.hok.fresh (Nat.le_refl _)
    have hv : Vals (x.cps.toList.map fun c => V.str ⟨#[c]⟩) acc'.toList := by
      refine vals_of_at ?_ fun j y u hy hu => ?_
      · rw [List.length_map, Array.length_toList, Array.length_toList, hacc.1]
      · rw [List.getElem?_map, Array.getElem?_toList] at hy
        rw [Array.getElem?_toList] at hu
        obtain ⟨c, t', h1, rfl⟩ := hacc.2 j u hu
        rw [h1] at hy
        cases hy
        exact ⟨t', rfl⟩
    have hl : (x.cps.toList.map fun c => V.str ⟨#[c]⟩).length ≤ sizeLine := by rw [List.length_map, Array.length_toList]; exact hz
    refine ⟨.ref s.heap.objs.size, _, I.laid (o := .lst (x.cps.toList.map fun c => V.str ⟨#[c]⟩)) hk (Nat.le_refl _) ⟨hl, acc'.toList, c', hv, ?_⟩, rfl, k.lst fh hn hl (strs_rp _ (strG_cps g))⟩
    rw [hS, Array.toArray_toList]
  · cases e
theorem c_tuple : CallR X (.type "tuple") (rVs ca fa tupleD) := by
  intro pins s σ H xs us Q I r h
  obtain ⟨F, ds, d, fh, rs, e, k⟩ := h
  unfold tupleD at e
  split at e
  · cases e
    obtain ⟨v, rfl, r1⟩ := lp_all1 rs
    obtain ⟨a, vs, rfl, e1, l1, q1⟩ := lp_lst fh r1
    exact call_tuple_of pins s σ H _ us Q I r ⟨_, _, rfl, .inl ⟨SqL.of e1, fun p hp => k.tup fh hp l1 q1⟩⟩
  · cases e
    obtain ⟨v, rfl, r1⟩ := lp_all1 rs
    obtain ⟨a, vs, rfl, e1, l1, q1⟩ := lp_tup r1
    exact call_tuple_of pins s σ H _ us Q I r ⟨_, _, rfl, .inr ⟨SqT.of (fh _ _ e1), k.here fh (.tup e1 l1 q1)⟩⟩
  · cases e

/-! sums, greatest and least ones of tuples -/
section
variable {prog : Program} {w : World} {A : Around} {E : Value → Shared → Prop} {s : Shared} {l : Addr} {its : List Value} {ns : List Int} {Q : Value → Shared → Prop}
theorem ints_at (hi : IntsAre its ns) : ∀ (i : Nat) v, its.toArray[i]? = some v → ∃ t, v = .int (ns.getD i 0) t := by
  intro i v hv
  have hv : its[i]? = some v := by simpa using hv
  induction hi generalizing i with
  | nil => simp at hv
  | @cons n t vs ns h ih =>
    cases i with
    | zero => simp at hv; subst hv; exact ⟨_, rfl⟩
    | succ i => simp at hv; simpa using ih i (by simpa using hv) hv
theorem iter_tup (hl : s.heap.IsTuple l its.toArray)
    (h : ∀ s₂ : Shared, s₂ = { s with heap := s.heap.push { cls := .type "tuple_iterator", data := .fields #[.ref l, .int 0 0] } } →
      (s₂.heap.IsTupleIter s.heap.objs.size l 0 ∧ s₂.heap.IsTuple l its.toArray) → (∀ b ∈ [s.heap.objs.size, l], b < s₂.heap.objs.size) → l ≠ s.heap.objs.size → Q (.ref s.heap.objs.size) s₂) :
    wpAny (model prog w) A (pyIter (.ref l)) Q E s := by
  have hlt : l < s.heap.objs.size := by obtain ⟨o, q, _⟩ := id hl; exact Heap.lt_size q
  refine wpAny_pyIter_tuple hl (h _ rfl ⟨⟨_, Heap.get?_push_size _ rfl, rfl, rfl⟩, ?_⟩ (fun b hb => ?_) (Nat.ne_of_lt hlt))
  · obtain ⟨o, q, z⟩ := hl
    exact ⟨o, Heap.get?_push_of_some _ q, z⟩
  · have hb : b = s.heap.objs.size ∨ b = l := by simpa using hb
    show b < (s.heap.push _).objs.size
    rw [Heap.size_push]
    rcases hb with rfl | rfl
    · exact Nat.lt_succ_self _
    · exact Nat.lt_succ_of_lt hlt
theorem kept_old {h h' : Heap} {a : Addr} {o : Obj} (ha : a = h.objs.size) (hk : ∀ b u, b ∉ [a] → (h.push o).get? b = some u → h'.get? b = some u) : ∀ b u, h.get? b = some u → h'.get? b = some u := fun b u q =>
  hk b u (by simp only [List.mem_singleton]; rw [ha]; exact Nat.ne_of_lt (Heap.lt_size q)) (Heap.get?_push_of_some _ q)
theorem preSum_getD : ∀ (ns : List Int), PySem.preSum (fun i => ns.getD i 0) ns.length = ns.sum := by
  have gen : ∀ (ns : List Int) (k : Nat), k ≤ ns.length → PySem.preSum (fun i => ns.getD i 0) k = (ns.take k).sum := by
    intro ns k
    induction k with
    | zero => intro _; simp [PySem.preSum]
    | succ k ih =>
      intro hk
      have hlt : k < ns.length := hk
      rw [PySem.preSum, ih (Nat.le_of_lt hk), List.take_succ, List.sum_append]
      simp [List.getD_eq_getElem?_getD, List.getElem?_eq_getElem hlt]
  intro ns
  rw [gen ns ns.length (Nat.le_refl _), List.take_length]
theorem sum_tup (hh : A.handled = none) (hl : s.heap.IsTuple l its.toArray) (hi : IntsAre its ns)
    (h : ∀ h' tk t', (∀ b o, s.heap.get? b = some o → h'.get? b = some o) → Q (.int ns.sum t') { s with heap := h', toks := tk }) : wpAny (model prog w) A (call (.builtin "sum") [.ref l]) Q E s := by
  refine PySem.call_sum_walkG (iter_tup hl fun s₂ e st hfp hlI => ?_)
  subst e
  refine ⟨_, _, _, _, _, _, fun i => ns.getD i 0, rfl, Walks.tuple (A := A.in1) hh _ l hlI its.toArray, st, hfp, ints_at hi, fun h' tk t' hk => ?_⟩
  have hz : its.toArray.size = ns.length := by rw [List.size_toArray]; exact hi.length
  rw [hz, preSum_getD]
  exact h h' tk t' (kept_old rfl hk)
theorem max_tup (hh : A.handled = none) (hl : s.heap.IsTuple l its.toArray) (hi : IntsAre its ns) (hne : 0 < ns.length)
    (h : ∀ h' tk M t', (∀ b o, s.heap.get? b = some o → h'.get? b = some o) → M ∈ ns → (∀ a, a ∈ ns → a ≤ M) → Q (.int M t') { s with heap := h', toks := tk }) : wpAny (model prog w) A (call (.builtin "max") [.ref l]) Q E s := by
  have hz : its.toArray.size = ns.length := by rw [List.size_toArray]; exact hi.length
  refine PySem.call_max_walk (iter_tup hl fun s₂ e st hfp hlI => ?_)
  subst e
  refine ⟨_, _, _, _, _, _, _, rfl, Walks.tuple (A := A.in1) hh _ l hlI its.toArray, st, hfp, by rw [hz]; exact hne, PySem.CmpOf.ints_gt (fun i => ns.getD i 0) (ints_at hi), fun v h' tk hP hk => ?_⟩
  obtain ⟨t, rfl⟩ := ints_at hi _ _ hP
  obtain ⟨h1, h2⟩ := argBest_gt (fun i => ns.getD i 0) (its.toArray.size - 1)
  rw [hz] at h1 h2 ⊢
  refine h h' tk _ t (kept_old rfl hk) ?_ fun a ha => ?_
  · exact PySem.getD_mem (by omega)
  · obtain ⟨j, hj, rfl⟩ := mem_getD ha
    exact h2 j (by omega)
theorem min_tup (hh : A.handled = none) (hl : s.heap.IsTuple l its.toArray) (hi : IntsAre its ns) (hne : 0 < ns.length)
    (h : ∀ h' tk M t', (∀ b o, s.heap.get? b = some o → h'.get? b = some o) → M ∈ ns → (∀ a, a ∈ ns → M ≤ a) → Q (.int M t') { s with heap := h', toks := tk }) : wpAny (model prog w) A (call (.builtin "min") [.ref l]) Q E s := by
  have hz : its.toArray.size = ns.length := by rw [List.size_toArray]; exact hi.length
  refine PySem.call_min_walk (iter_tup hl fun s₂ e st hfp hlI => ?_)
  subst e
  refine ⟨_, _, _, _, _, _, _, rfl, Walks.tuple (A := A.in1) hh _ l hlI its.toArray, st, hfp, by rw [hz]; exact hne, PySem.CmpOf.ints_lt (fun i => ns.getD i 0) (ints_at hi), fun v h' tk hP hk => ?_⟩
  obtain ⟨t, rfl⟩ := ints_at hi _ _ hP
  obtain ⟨h1, h2⟩ := argBest_lt (fun i => ns.getD i 0) (its.toArray.size - 1)
  rw [hz] at h1 h2 ⊢
  refine h h' tk _ t (kept_old rfl hk) ?_ fun a ha => ?_
  · exact PySem.getD_mem (by omega)
  · obtain ⟨j, hj, rfl⟩ := mem_getD ha
    exact h2 j (by omega)
end
theorem seq_rp {H : Hp} {v : V} {d : D} {xs : List D} (h : Sub F H) (r : Lp ca fa F H v d) (e : seqOf d = some xs) : ∃ a vs, v = .ref a ∧ (H a = some (.lst vs) ∨ H a = some (.tup vs)) ∧ vs.length ≤ sizeLine ∧ RpAll ca fa F vs xs := by
  unfold seqOf at e
  split at e
  · cases e
    obtain ⟨a, vs, h1, h2, h3, h4⟩ := lp_lst h r
    exact ⟨a, vs, h1, .inl h2, h3, h4⟩
  · cases e
    obtain ⟨a, vs, h1, h2, h3, h4⟩ := lp_tup r
    exact ⟨a, vs, h1, .inr (h _ _ h2), h3, h4⟩
  · cases e
theorem c_sum (hc : X.calm = true) : CallR X (.builtin "sum") (rVs ca fa sumD) := by
  intro pins s σ H xs us Q I r h
  obtain ⟨F, ds, d, fh, rs, e, k⟩ := h
  unfold sumD at e
  split at e
  · rename_i x
    cases q : seqOf x with
    | none => rw [q] at e; cases e
    | some ys =>
      rw [q] at e
      have e : (intsOf ys).map (fun ns => PyData.int ns.sum) = some d := e
      cases q2 : intsOf ys with
      | none => rw [q2] at e; cases e
      | some ns =>
        rw [q2] at e
        cases e
        obtain ⟨v, rfl, r1⟩ := lp_all1 rs
        obtain ⟨a, vs, rfl, e1, l1, q1⟩ := seq_rp fh r1 q
        obtain rfl := rp_ints q1 q2
        rcases e1 with e1 | e1
        · exact cr_sum hc pins s σ H _ us Q I r ⟨_, _, rfl, SqL.of e1, k.here fh (.int _)⟩
        · obtain ⟨its, rv, ht, _⟩ := I.tuple (SqT.of e1)
          cases r with
          | cons rx rr =>
            cases rr
            cases rx
            exact sum_tup (I.ok.hd hc) ht (intsAre_of rv) fun h' tk t' hk => ⟨.int _, H, I.kept hk, ⟨_, rfl⟩, k.here fh (.int _)⟩
  · cases e
theorem ints_ne {ns : List Int} {m : Int} (h : m ∈ ns) : 0 < ns.length := List.length_pos_of_mem h
theorem c_max (hc : X.calm = true) : CallR X (.builtin "max") (rVs ca fa maxD) := by
  intro pins s σ H xs us Q I r h
  obtain ⟨F, ds, d, fh, rs, e, k⟩ := h
  unfold maxD at e
  split at e
  · rename_i x
    cases q : seqOf x with
    | none => rw [q] at e; cases e
    | some ys =>
      rw [q] at e
      have e : ((intsOf ys).bind fun ns => (maxI ns).map PyData.int) = some d := e
      cases q2 : intsOf ys with
      | none => rw [q2] at e; cases e
      | some ns =>
        rw [q2] at e
        have e : (maxI ns).map PyData.int = some d := e
        cases q3 : maxI ns with
        | none => rw [q3] at e; cases e
        | some m =>
          rw [q3] at e
          cases e
          obtain ⟨m1, m2⟩ := maxI_of q3
          obtain ⟨v, rfl, r1⟩ := lp_all1 rs
          obtain ⟨a, vs, rfl, e1, l1, q1⟩ := seq_rp fh r1 q
          obtain rfl := rp_ints q1 q2
          have same : ∀ m', m' ∈ ns → (∀ y, y ∈ ns → y ≤ m') → m' = m := fun m' h1 h2 => by
            have := maxI_spec h1 h2
            rw [q3] at this
            exact (Option.some.inj this).symm
          rcases e1 with e1 | e1
          · exact cr_max hc pins s σ H _ us Q I r ⟨_, _, rfl, SqL.of e1, ints_ne m1, fun m' h1 h2 => by rw [same m' h1 h2]; exact k.here fh (.int _)⟩
          · obtain ⟨its, rv, ht, _⟩ := I.tuple (SqT.of e1)
            cases r with
            | cons rx rr =>
              cases rr
              cases rx
              exact max_tup (I.ok.hd hc) ht (intsAre_of rv) (ints_ne m1) fun h' tk M t' hk h1 h2 => ⟨.int _, H, I.kept hk, ⟨_, rfl⟩, by rw [same M h1 h2]; exact k.here fh (.int _)⟩
  · cases e
    obtain ⟨v, w, rfl, r1, r2⟩ := lp_all2 rs
    cases lp_int r1; cases lp_int r2
    exact call_max2 hc pins s σ H _ us Q I r ⟨_, _, rfl, k.here fh (.int _)⟩
  · cases e
theorem c_min (hc : X.calm = true) : CallR X (.builtin "min") (rVs ca fa minD) := by
  intro pins s σ H xs us Q I r h
  obtain ⟨F, ds, d, fh, rs, e, k⟩ := h
  unfold minD at e
  split at e
  · rename_i x
    cases q : seqOf x with
    | none => rw [q] at e; cases e
    | some ys =>
      rw [q] at e
      have e : ((intsOf ys).bind fun ns => (minI ns).map PyData.int) = some d := e
      cases q2 : intsOf ys with
      | none => rw [q2] at e; cases e
      | some ns =>
        rw [q2] at e
        have e : (minI ns).map PyData.int = some d := e
        cases q3 : minI ns with
        | none => rw [q3] at e; cases e
        | some m =>
          rw [q3] at e
          cases e
          obtain ⟨m1, m2⟩ := minI_of q3
          obtain ⟨v, rfl, r1⟩ := lp_all1 rs
          obtain ⟨a, vs, rfl, e1, l1, q1⟩ := seq_rp fh r1 q
          obtain rfl := rp_ints q1 q2
          have same : ∀ m', m' ∈ ns → (∀ y, y ∈ ns → m' ≤ y) → m' = m := fun m' h1 h2 => by
            have := minI_spec h1 h2
            rw [q3] at this
            exact (Option.some.inj this).symm
          rcases e1 with e1 | e1
          · exact cr_min hc pins s σ H _ us Q I r ⟨_, _, rfl, SqL.of e1, ints_ne m1, fun m' h1 h2 => by rw [same m' h1 h2]; exact k.here fh (.int _)⟩
          · obtain ⟨its, rv, ht, _⟩ := I.tuple (SqT.of e1)
            cases r with
            | cons rx rr =>
              cases rr
              cases rx
              exact min_tup (I.ok.hd hc) ht (intsAre_of rv) (ints_ne m1) fun h' tk M t' hk h1 h2 => ⟨.int _, H, I.kept hk, ⟨_, rfl⟩, by rw [same M h1 h2]; exact k.here fh (.int _)⟩
  · cases e
    obtain ⟨v, w, rfl, r1, r2⟩ := lp_all2 rs
    cases lp_int r1; cases lp_int r2
    exact call_min2 hc pins s σ H _ us Q I r ⟨_, _, rfl, k.here fh (.int _)⟩
  · cases e
theorem c_any (hc : X.calm = true) : CallR X (.builtin "any") (rVs ca fa anyD) := by
  intro pins s σ H xs us Q I r h
  obtain ⟨F, ds, d, fh, rs, e, k⟩ := h
  unfold anyD at e
  split at e
  · rename_i ys
    cases q : boolsOf ys with
    | none => rw [q] at e; cases e
    | some bs =>
      rw [q] at e
      cases e
      obtain ⟨v, rfl, r1⟩ := lp_all1 rs
      obtain ⟨a, vs, rfl, e1, l1, q1⟩ := lp_lst fh r1
      obtain rfl := rp_bools q1 q
      exact cr_any hc pins s σ H _ us Q I r ⟨_, _, rfl, SqL.of e1, k.here fh (.bl _)⟩
  · cases e
theorem c_all (hc : X.calm = true) : CallR X (.builtin "all") (rVs ca fa allD) := by
  intro pins s σ H xs us Q I r h
  obtain ⟨F, ds, d, fh, rs, e, k⟩ := h
  unfold allD at e
  split at e
  · rename_i ys
    cases q : boolsOf ys with
    | none => rw [q] at e; cases e
    | some bs =>
      rw [q] at e
      cases e
      obtain ⟨v, rfl, r1⟩ := lp_all1 rs
      obtain ⟨a, vs, rfl, e1, l1, q1⟩ := lp_lst fh r1
      obtain rfl := rp_bools q1 q
      exact cr_all hc pins s σ H _ us Q I r ⟨_, _, rfl, SqL.of e1, k.here fh (.bl _)⟩
  · cases e
theorem c_abs : CallR X (.builtin "abs") (rVs ca fa absD) := by
  intro pins s σ H xs us Q I r h
  obtain ⟨F, ds, d, fh, rs, e, k⟩ := h
  unfold absD at e
  split at e
  · cases e
    obtain ⟨v, rfl, r1⟩ := lp_all1 rs
    cases lp_int r1
    exact call_abs pins s σ H _ us Q I r ⟨_, rfl, k.here fh (.int _)⟩
  · cases e
theorem c_int : CallR X (.type "int") (rVs ca fa intD) := by
  intro pins s σ H xs us Q I r h
  obtain ⟨F, ds, d, fh, rs, e, k⟩ := h
  unfold intD at e
  split at e
  · cases e
    obtain ⟨v, rfl, r1⟩ := lp_all1 rs
    cases lp_int r1
    exact call_int1 pins s σ H _ us Q I r (.inl ⟨_, rfl, k.here fh (.int _)⟩)
  · cases e
    obtain ⟨v, rfl, r1⟩ := lp_all1 rs
    cases lp_bl r1
    exact call_int1 pins s σ H _ us Q I r (.inr ⟨_, rfl, k.here fh (.int _)⟩)
  · cases e
end
end FS

-- part FsOps4
set_option Elab.async false
set_option linter.all false
set_option maxRecDepth 100000
set_option maxHeartbeats 4000000
/-! Repeats; isinstance; str. -/
namespace FS
open PySem PySem.Spec PyProof.Rows L2

def mulStr (x : Str) (k : Int) : Option D := if 1 ≤ k ∧ k ≤ 1000000 ∧ x.length * k.toNat ≤ sizeLine ∧ strG (PySem.Txt.mul x k) = true then some (.str (PySem.Txt.mul x k)) else none
def mulB : D → D → Option D
  | .int i, .int j => if mulOk i j then some (.int (i * j)) else none
  | .str x, .int k => mulStr x k
  | .list xs, .int k => if -(2 ^ 63) ≤ k ∧ k < 2 ^ 63 ∧ xs.length * k.toNat ≤ sizeLine then some (.list (List.replicate k.toNat xs).flatten) else none
  | .tuple xs, .int k => if k = 1 then some (.tuple xs) else if xs ≠ [] ∧ 2 ≤ k ∧ k ≤ 1000 ∧ xs.length ≤ 1000 then some (.tuple (List.replicate k.toNat xs).flatten) else none
  | _, _ => none
theorem tuple_mul1 (l : Addr) (items : Array Value) (n : Nat) (dd : Option Addr) (sl : Array (Option Value)) (u : Tok) :
    Meets (Builtin.«tuple.__mul__» ⟨[.ref l, .int 1 u], []⟩) (fun _ R s => s.heap.get? l = some { cls := .type "tuple", dict := dd, data := .seq items n, slots := sl } ∧ R (.ok (.ret (Value.ref l))) s) :=
  .of_wp fun prog w A R s h => by
    obtain ⟨hp, g, d, tk, os⟩ := s
    obtain ⟨hl, h⟩ := h
    have f1 := AutoSeq1.idx_int
    have c1 : (items.isEmpty || (1 : Int) == 1) = true := by simp
    wp_walk using wpAny_loadPart' hl
    repeat (first
      | (refine wpAny_ite_true (decide_eq_true (by rw [c1])) ?_; wp_walk using wpAny_loadPart' hl)
      | (refine wpAny_ite_false (by decide) ?_; wp_walk using wpAny_loadPart' hl))
    exact ⟨_, rfl, h⟩
section
variable {X : Cx} {ca : Addr} {fa : Nat → Addr}
theorem rp_flat {F : Hp} {vs : List V} {ds : List D} (r : RpAll ca fa F vs ds) : ∀ k : Nat, RpAll ca fa F (List.replicate k vs).flatten (List.replicate k ds).flatten
  | 0 => .nil
  | k + 1 => by
    rw [List.replicate_succ, List.replicate_succ, List.flatten_cons, List.flatten_cons]
    exact r.append (rp_flat r k)
theorem r_mul : OpR X (binaryOp .Mult) (rV ca fa mulB) := by
  intro pins s σ H x y v u Q I rx ry h
  obtain ⟨F, dx, dy, d, fh, r1, r2, e, k⟩ := h
  unfold mulB at e
  split at e
  · split at e
    · rename_i hc
      cases e; cases lp_int r1; cases lp_int r2
      unfold mulOk at hc
      exact op_mul pins s σ H _ _ v u Q I rx ry ⟨_, _, rfl, rfl, (of_decide_eq_true hc : _ ∨ _), k.here fh (.int _)⟩
    · cases e
  · unfold mulStr at e
    split at e
    · rename_i hc
      obtain ⟨h1, h2, h3, h4⟩ := hc
      cases e; cases lp_int r2
      obtain ⟨rfl, g⟩ := lp_str r1
      obtain ⟨t, rfl⟩ := rx
      obtain ⟨t', rfl⟩ := ry
      rename_i _ n
      have hz := sizeLine_eq
      refine PySem.SB.mul ⟨?_, fun _ _ => ?_, fun _ _ => ?_⟩ fun t2 k2 => ⟨.str _, H, I.tok _, ⟨t2, rfl⟩, k.here fh (.str _ h4)⟩
      · rw [decide_eq_false (by omega), decide_eq_false (by omega)]; rfl
      · have g2 := strG_len g
        have a1 : (2 ^ 63 - 1) / (1000000 : Int) ≤ (2 ^ 63 - 1) / n := by
          refine (Int.le_ediv_iff_mul_le (by omega)).mpr ?_
          have : (2 ^ 63 - 1) / (1000000 : Int) * n ≤ (2 ^ 63 - 1) / (1000000 : Int) * 1000000 := Int.mul_le_mul_of_nonneg_left h2 (by decide)
          have : (2 ^ 63 - 1) / (1000000 : Int) * 1000000 ≤ 2 ^ 63 - 1 := by decide
          omega
        have a2 : (2 ^ 63 - 1) / (1000000 : Int) = 9223372036854 := by decide
        omega
      · show decide (_ > sizeLine) = false
        exact decide_eq_false (by omega)
    · cases e
  · split at e
    · rename_i hc
      obtain ⟨h1, h2, h3⟩ := hc
      cases e; cases lp_int r2
      obtain ⟨a, vs, rfl, e1, l1, q1⟩ := lp_lst fh r1
      have a1 := q1.length
      refine op_rep pins s σ H _ _ v u Q I rx ry ⟨_, _, _, rfl, rfl, e1, h1, h2, by rw [a1]; exact h3, fun p hp => k.lst fh hp ?_ (rp_flat q1 _)⟩
      rw [PyProof.Rows.lm_len_rep_flat, a1, Nat.mul_comm]
      exact h3
    · cases e
  · split at e
    · rename_i hk
      subst hk
      cases e; cases lp_int r2
      obtain ⟨a, vs, rfl, e1, l1, q1⟩ := lp_tup r1
      cases rx
      obtain ⟨t, rfl⟩ := ry
      obtain ⟨its, rv, ⟨⟨cls, dd, data, sl⟩, ho, hc, n, hd⟩, hs⟩ := I.tuple (SqT.of (fh _ _ e1))
      simp only at hc hd
      subst hc hd
      refine wpAny_binaryOp_repeat_ref (T := "tuple") (U := "int") (by decide) ⟨_, ho, rfl⟩ (fun s' => typeIs_int s' 1 t) noFill_tuple_mul PySem.F.fills_int_mul PySem.F.slot_int_rmul repeat_tuple PySem.F.slot_int_index.lookup
        (call_meets PySem.F.slot_int_rmul (typeIs_int s 1 t) PySem.F.entry_int_rmul (PySem.F.args_int_rmul_2 _ _) (int_rmul_tuple 1 t _ its.toArray n dd sl)
          ⟨ho, rfl, ⟨_, ho, rfl⟩, call_meets PySem.F.slot_tuple_mul ⟨_, ho, rfl⟩ PySem.F.entry_tuple_mul (PySem.F.args_tuple_mul_2 _ _) (tuple_mul1 _ its.toArray n dd sl t) ⟨ho, ?_⟩⟩)
      exact ⟨.ref _, H, I, rfl, k.here fh (.tup e1 l1 q1)⟩
    · split at e
      · rename_i hc
        obtain ⟨h1, h2, h3, h4⟩ := hc
        rename_i n hn
        cases e; cases lp_int r2
        obtain ⟨a, vs, rfl, e1, l1, q1⟩ := lp_tup r1
        have a1 := q1.length
        refine op_repT pins s σ H _ _ v u Q I rx ry ⟨_, _, _, rfl, rfl, SqT.of (fh _ _ e1), ?_, h2, h3, by rw [a1]; exact h4, fun p hp => k.tup fh hp ?_ (rp_flat q1 _)⟩
        · intro z; subst z; cases q1; exact h1 rfl
        · rw [PyProof.Rows.lm_len_rep_flat, a1, sizeLine_eq]
          have : n.toNat * _ ≤ 1000 * 1000 := Nat.mul_le_mul (by omega) h4
          omega
      · cases e
  · cases e
theorem ty_of {F H : Hp} {K : PySem.W.Frag} {v : V} {d : D} (h : Sub F H) (r : Lp ca fa F H v d) (ok : d.canLay0 = true ∨ (kindD d).isSome = true) : TyX K H v (.type (tyN d)) := by
  cases d with
  | none => cases lp_non r; exact .base .non
  | bool b => cases lp_bl r; exact .base (.bl b)
  | int i => cases lp_int r; exact .base (.int i)
  | str x => obtain ⟨rfl, _⟩ := lp_str r; exact .base (.str x)
  | list xs =>
    obtain ⟨a, vs, rfl, e, _, _⟩ := lp_lst h r
    exact .base (.lst e)
  | tuple xs =>
    obtain ⟨a, vs, rfl, e, _, _⟩ := lp_tup r
    exact .base (.tup (h _ _ e))
  | dict kvs =>
    rcases ok with z | z
    · simp [PyData.canLay0] at z
    · obtain ⟨⟨t, kk⟩, e⟩ := Option.isSome_iff_exists.mp z
      rw [kindD_ok e] at r
      cases t with
      | false =>
        obtain ⟨a, vs, rfl, e1, _⟩ := lp_dK h r
        exact .base (.dK e1)
      | true =>
        obtain ⟨a, vs, rfl, e1, _⟩ := lp_dT h r
        exact .base (.dT e1)
/-- the classes that the texts ask for -/
def isiTs : List String := ["int", "bool", "str", "list", "tuple"]
theorem kit_is {d : D} {T : String} (hT : T ∈ isiTs) : kitB (tyN d) T = some (isiB d T) := by
  have : T = "int" ∨ T = "bool" ∨ T = "str" ∨ T = "list" ∨ T = "tuple" := by simpa [isiTs] using hT
  rcases this with rfl | rfl | rfl | rfl | rfl <;> cases d <;> (simp only [tyN, isiB]; decide +kernel)
def isiD (T : String) (d : D) : Option D := if d.canLay0 || (kindD d).isSome then some (.bool (isiB d T)) else none
def rIsiD (ca : Addr) (fa : Nat → Addr) (T : String) : V → Hp → VK → Prop := fun x H Q => ∃ F dx d, Sub F H ∧ Lp ca fa F H x dx ∧ isiD T dx = some d ∧ VQ ca fa F H d Q
theorem c_isi {T : String} (hT : T ∈ isiTs) : CallR X (.builtin "isinstance") (fun xs H Q => ∃ x, xs = [x, .ty T] ∧ rIsiD ca fa T x H Q) := by
  intro pins s σ H xs us Q I r h
  obtain ⟨x, rfl, F, dx, d, fh, r1, e, k⟩ := h
  unfold isiD at e
  split at e
  · rename_i hk
    cases e
    refine call_isi pins s σ H _ us Q I r ⟨x, .ty T, _, .type T, _, rfl, ?_, ty_of fh r1 (Bool.or_eq_true_iff.mp hk), kit_ty (kit_is hT), k.here fh (.bl _)⟩
    exact .ty T
  · cases e
theorem c_str : CallR X (.type "str") (rVs ca fa strD) := by
  intro pins s σ H xs us Q I r h
  obtain ⟨F, ds, d, fh, rs, e, k⟩ := h
  unfold strD at e
  split at e
  · split at e
    · rename_i hc
      cases e
      obtain ⟨v, rfl, r1⟩ := lp_all1 rs
      cases lp_int r1
      rename_i i
      refine call_str_int pins s σ H _ us Q I r ⟨_, rfl, ?_, k.here fh (.str _ hc.2)⟩
      have h1 := hc.1
      by_cases hz : i.natAbs = 0
      · rw [hz]; decide
      · have : i.natAbs.log2 < 30 := (Nat.log2_lt hz).mpr (by omega)
        omega
    · cases e
  · cases e
    obtain ⟨v, rfl, r1⟩ := lp_all1 rs
    obtain ⟨rfl, g⟩ := lp_str r1
    exact SkE.call_str_str pins s σ H _ us Q I r ⟨_, rfl, k.here fh (.str _ g)⟩
  · cases e
end
end FS

-- part FsSyn
set_option Elab.async false
set_option linter.all false
set_option maxRecDepth 100000
set_option maxHeartbeats 4000000
/-! The evaluator's syntax, its meaning, and when it stands for a text of the model. -/
namespace FS
open PySem PySem.Spec PyProof.Rows L2

inductive BO where
  | add | sub | mul | fdiv | mod | pow
inductive CO where
  | eq | ne | lt | le | gt | ge | isin | nin | is | isn
inductive BI where
  | len | list | tuple | sum | max | min | any | all | abs | int | str
inductive Tg where
  | one (i : Nat)
  | tup (is : List Nat)
mutual
inductive E where
  | var (i : Nat)
  | int (i : Int) | str (s : Str) | bl (b : Bool) | non
  | gc (x : Str) (d : D)
  | fnv (i : Nat)
  | bop (o : BO) (a b : E)
  | neg (a : E) | not (a : E)
  | and (es : Es) | or (es : Es)
  | cmp (o : CO) (a b : E)
  | chn (o p : CO) (a b c : E)
  | ite (c a b : E)
  | tup (es : Es) | lst (es : Es) | dct (t : Bool)
  | idx (a i : E)
  | slc (a : E) (lo hi : Es)
  | rev (a : E)
  | cupi (i : Nat) (k : Bool)
  | call (i : Nat) (es : Es)
  | bi (b : BI) (es : Es)
  | isi (T : String) (a : E)
  | get2 (a k d : E)
  | comp (vs : List (Str × Nat)) (tg : Tg) (it : It) (cs : Es) (el : E)
  | comp2 (vs : List (Str × Nat)) (tg : Tg) (it : It) (cs : Es) (v1 : List Nat) (tg1 : Tg) (it1 : It) (cs1 : Es) (el : E)
  | dcomp (t : Bool) (vs : List (Str × Nat)) (tg : Tg) (it : It) (cs : Es) (k v : E)
  | srt (a : E) | srtset (a : E) | lenset (a : E)
  | listrng (es : Es) | tuprng (es : Es)
inductive Es where
  | nil
  | cons (e : E) (es : Es)
inductive It where
  | val (e : E)
  | rng (es : Es)
  | enum (e : E)
  | zip (a b : E)
end
mutual
inductive S where
  | expr (e : E)
  | set (i : Nat) (e : E)
  | own (i : Nat) (e : E)
  | par (is : List Nat) (es : Es) (os : List Bool)
  | unp (tg : Tg) (e : E)
  | aug (i : Nat) (o : BO) (e : E)
  | app (i : Nat) (e : E)
  | put (i : Nat) (k e : E)
  | cups (i : Nat) (k : Bool) (e : E)
  | ite (c : E) (a b : Ss)
  | for (tg : Tg) (it : It) (body : Ss)
  | whl (c : E) (body : Ss)
  | ret (e : E) | retN
  | retlen (a : E)
  | pass | brk | cont
  | never
  | frz (i : Nat)
inductive Ss where
  | nil
  | cons (s : S) (ss : Ss)
end

/-! ### meaning -/
def boD : BO → D → D → Option D
  | .add => addD | .sub => subD | .mul => mulB | .fdiv => fdivD | .mod => modD | .pow => powD
def coD : CO → D → D → Option D
  | .eq => eqD | .ne => neD | .lt => ltD | .le => leD | .gt => gtD | .ge => geD | .isin => inD | .nin => ninD | .is => isD | .isn => isnD
def biD : BI → List D → Option D
  | .len => lenD | .list => listD | .tuple => tupleD | .sum => sumD | .max => maxD | .min => minD | .any => anyD | .all => allD | .abs => absD | .int => intD | .str => strD
def look (ρ : En) (i : Nat) : Option Sl := ρ[i]?
def setAll : List Nat → List D → En → En
  | i :: is, x :: xs, ρ => setAll is xs (ρ.set i (.da x))
  | _, _, ρ => ρ
def setAllO : List Nat → List Bool → List D → En → En
  | i :: is, o :: os, x :: xs, ρ => setAllO is os xs (ρ.set i (if o then .ow x else .da x))
  | _, _, _, ρ => ρ
def augI : BO → Int → D → Option Int
  | .add, x, .int y => some (x + y)
  | .sub, x, .int y => some (x - y)
  | _, _, _ => none
def augL : BO → List D → D → Option (List D)
  | .add, xs, .list ys => if xs.length + ys.length ≤ sizeLine then some (xs ++ ys) else none
  | _, _, _ => none
def isOwn : D → Bool
  | .list _ => true
  | .dict ((.none, .bool _) :: _) => true
  | _ => false
def setTg : Tg → D → En → Option En
  | .one i, x, ρ => some (ρ.set i (.da x))
  | .tup is, .tuple xs, ρ => if xs.length = is.length then some (setAll is xs ρ) else none
  | _, _, _ => none
def wipeE (ρ : En) : List Nat → En
  | [] => ρ
  | v :: vs => (wipeE ρ vs).set v .no
/-- the items that a walk goes through -/
def itemsD : D → Option (List D)
  | .list xs => some xs
  | .tuple xs => some xs
  | .str x => some (x.cps.toList.map fun c => .str ⟨#[c]⟩)
  | _ => none
def rngD : List D → Option (List D)
  | [.int n] => if -(2 ^ 62) ≤ n ∧ n ≤ 16777216 then some ((List.range n.toNat).map fun i => .int (0 + (i : Nat))) else none
  | [.int a, .int b] => if -(2 ^ 62) ≤ a ∧ a < 2 ^ 62 ∧ -(2 ^ 62) ≤ b ∧ b < 2 ^ 62 ∧ (b - a).toNat ≤ 2 ^ 24 then some ((List.range (b - a).toNat).map fun i => .int (a + (i : Nat))) else none
  | _ => none
def intOf : D → Option Int
  | .int i => some i
  | _ => none
def putD (k v : D) (kvs : List (D × D)) : List (D × D) := if (kvs.any fun p => PyData.eqv p.1 k) = true then kvs.map (fun p => if PyData.eqv p.1 k = true then (p.1, v) else p) else kvs ++ [(k, v)]
def putP (acc : List (D × D)) : D → List (D × D)
  | .tuple [y, z] => putD y z acc
  | _ => acc
/-- a list's or a dict's item stored -/
def storeD (d k v : D) : Option D := match d, k with
  | .list xs, .int i => (ixN xs.length i).map fun j => .list (xs.set j v)
  | .dict kvs, k => (kindD (.dict kvs)).bind fun p => if keyFor p.1 k = true ∧ p.2.length < sizeLine then some (.dict ((.none, .bool p.1) :: putD k v p.2)) else none
  | _, _ => none
/-- a list's comprehension over items -/
def compL (f : D → M (Option D)) : List D → M (List D)
  | [] => M.ret []
  | x :: xs => M.bnd (f x) fun o => M.bnd (compL f xs) fun r => M.ret (match o with
    | some y => y :: r
    | none => r)
def compLL (f : D → M (List D)) : List D → M (List D)
  | [] => M.ret []
  | x :: xs => M.bnd (f x) fun o => M.bnd (compLL f xs) fun r => M.ret (o ++ r)
/-- the sorted list of data -/
def srtD (xs : List D) : Option (List D) := if (xs.all fun a => xs.all fun b => W.alike a b) && (xs.all fun a => SeqAt.shaped a && !isNoneD a) then some (xs.mergeSort (W.dataLe false id)) else none
/-- the first of equal items -/
def dedup : List D → List D
  | [] => []
  | x :: xs => if (dedup xs).any (fun y => PyData.eqv y x) then dedup xs else x :: dedup xs
def setItems : D → Option (List D)
  | .list xs => some xs
  | .tuple xs => some xs
  | _ => none
def isIntTup : D → Bool
  | .tuple ds => ds.all fun d => (intOf d).isSome
  | _ => false
/-- the key (how long, the items) of a tuple -/
def kLen (x : D) : D := match x with
  | .tuple xs => .tuple [.int xs.length, x]
  | _ => .none
/-- sorted by how long, then by the items -/
def lenSort (x : D) : Option D := match x with
  | .list xs => if xs.all isIntTup then some (.list (xs.mergeSort (W.dataLe false kLen))) else none
  | _ => none
/-- whether a set can be made of these (and then sorted) -/
def setOk (xs : List D) : Bool := (xs.all fun a => xs.all fun b => W.alike a b) && (xs.all fun a => SeqAt.shaped a && !isNoneD a) && (((keysOf xs).isSome && decide (xs.length < 4000)) || ((xs.all isIntTup) && decide (xs.length < 64)))
/-- what a statement hands on -/
inductive Fl where
  | nx (ρ : En) | rt (d : D) | bk (ρ : En) | ct (ρ : En)

def isCup : Option Sl → Bool
  | some (.da (.dict [(.none, .none)])) => true
  | _ => false
theorem isCup_of {o : Option Sl} (h : isCup o = true) : o = some (.da cupD) := by
  unfold isCup at h
  split at h
  · rfl
  · cases h
def getCup (k : Bool) : M D := fun c => .ok (.int (if k then c.2 else c.1)) c
def setCup (k : Bool) (n : Int) : M Unit := fun c => .ok () (if k then (c.1, n) else (n, c.2))
def M.tru (m : M D) : M Bool := M.bnd m fun d => M.opt (truD d)
/-- read at once: an own list may be read so -/
def lon (e : E) (ρ : En) (m : M D) : M D := match e with
  | .var i => match ρ[i]? with
    | some (.da d) => M.ret d
    | some (.ow d) => M.ret d
    | _ => M.err
  | _ => m
section
variable (call : Nat → List D → M D)
mutual
def evE : E → En → M D
  | .var i, ρ => match ρ[i]? with
    | some (.da d) => M.ret d
    | _ => M.err
  | .int i, _ => M.ret (.int i)
  | .str s, _ => M.ret (.str s)
  | .bl b, _ => M.ret (.bool b)
  | .non, _ => M.ret .none
  | .gc _ d, _ => M.ret d
  | .fnv i, _ => M.ret (fnD i)
  | .bop o a b, ρ => M.bnd (lon a ρ (evE a ρ)) fun x => M.bnd (lon b ρ (evE b ρ)) fun y => M.opt (boD o x y)
  | .neg a, ρ => M.bnd (evE a ρ) fun x => M.opt ((intOf x).map fun i => .int (-i))
  | .not a, ρ => M.bnd (M.tru (lon a ρ (evE a ρ))) fun b => M.ret (.bool (!b))
  | .and es, ρ => evAnd es ρ
  | .or es, ρ => evOr es ρ
  | .cmp o a b, ρ => M.bnd (lon a ρ (evE a ρ)) fun x => M.bnd (lon b ρ (evE b ρ)) fun y => M.opt (coD o x y)
  | .chn o p a b c, ρ => M.bnd (lon a ρ (evE a ρ)) fun x => M.bnd (lon b ρ (evE b ρ)) fun y => M.bnd (M.opt ((coD o x y).bind fun z => match z with
      | .bool k => some k
      | _ => none)) fun k => if k then M.bnd (lon c ρ (evE c ρ)) fun z => M.opt (coD p y z) else M.ret (.bool false)
  | .ite c a b, ρ => M.bnd (M.tru (lon c ρ (evE c ρ))) fun k => if k then evE a ρ else evE b ρ
  | .tup es, ρ => M.bnd (evEs es ρ) fun ds => if ds.length ≤ sizeLine then M.ret (.tuple ds) else M.err
  | .lst es, ρ => M.bnd (evEs es ρ) fun ds => if ds.length ≤ sizeLine then M.ret (.list ds) else M.err
  | .dct t, _ => M.ret (.dict [(.none, .bool t)])
  | .idx a i, ρ => M.bnd (lon a ρ (evE a ρ)) fun x => M.bnd (lon i ρ (evE i ρ)) fun y => M.opt (idxD x y)
  | .slc a lo hi, ρ => M.bnd (lon a ρ (evE a ρ)) fun x => M.bnd (evO lo ρ) fun l => M.bnd (evO hi ρ) fun h => M.opt (slcD x l h)
  | .rev a, ρ => M.bnd (lon a ρ (evE a ρ)) fun x => match x with
    | .list xs => M.ret (.list xs.reverse)
    | _ => M.err
  | .cupi i k, ρ => if isCup ρ[i]? then getCup k else M.err
  | .call i es, ρ => M.bnd (evEs es ρ) fun ds => call i ds
  | .bi b es, ρ => M.bnd (evLs es ρ) fun ds => M.opt (biD b ds)
  | .isi T a, ρ => M.bnd (lon a ρ (evE a ρ)) fun x => M.opt (isiD T x)
  | .get2 a k d, ρ => M.bnd (lon a ρ (evE a ρ)) fun x => M.bnd (M.opt (kindD x)) fun _ => M.bnd (lon k ρ (evE k ρ)) fun y => M.bnd (evE d ρ) fun z => M.opt ((dgetD x y).map fun o => o.getD z)
  | .comp vs tg it cs el, ρ => M.bnd (evIt true it ρ) fun xs => M.bnd (M.nox (compL (fun x => match setTg tg x (wipeE ρ (vs.map (·.2))) with
      | none => M.err
      | some ρ' => M.bnd (evTs cs ρ') fun b => if b then M.bnd (evE el ρ') fun y => M.ret (some y) else M.ret none) xs)) fun ds => M.ret (.list ds)
  | .comp2 vs tg it cs v1 tg1 it1 cs1 el, ρ => M.bnd (evIt true it ρ) fun xs => M.bnd (M.nox (compLL (fun x => match setTg tg x (wipeE ρ (vs.map (·.2))) with
      | none => M.err
      | some ρ' => M.bnd (evTs cs ρ') fun b => if b then M.bnd (evIt false it1 ρ') fun zs => compL (fun z => match setTg tg1 z (wipeE ρ' v1) with
          | none => M.err
          | some ρ2 => M.bnd (evTs cs1 ρ2) fun b => if b then M.bnd (evE el ρ2) fun y => M.ret (some y) else M.ret none) zs else M.ret []) xs)) fun ds => if ds.length ≤ sizeLine then M.ret (.list ds) else M.err
  | .dcomp t vs tg it cs k v, ρ => M.bnd (evIt true it ρ) fun xs => M.bnd (M.nox (compL (fun x => match setTg tg x (wipeE ρ (vs.map (·.2))) with
      | none => M.err
      | some ρ' => M.bnd (evTs cs ρ') fun b => if b then M.bnd (evE k ρ') fun y => M.bnd (evE v ρ') fun z => if keyFor t y then M.ret (some (.tuple [y, z])) else M.err else M.ret none) xs)) fun ds =>
      M.ret (.dict ((.none, .bool t) :: ds.foldl putP []))
  | .srt a, ρ => M.bnd (lon a ρ (evE a ρ)) fun x => match x with
    | .list xs => M.bnd (M.opt (srtD xs)) fun ys => M.ret (.list ys)
    | _ => M.err
  | .srtset a, ρ => M.bnd (lon a ρ (evE a ρ)) fun x => M.bnd (M.opt (setItems x)) fun xs => if setOk xs then M.ret (.list ((dedup xs).mergeSort (W.dataLe false id))) else M.err
  | .lenset a, ρ => M.bnd (lon a ρ (evE a ρ)) fun x => M.bnd (M.opt (setItems x)) fun xs => if setOk xs then M.ret (.int (dedup xs).length) else M.err
  | .listrng es, ρ => M.bnd (evLs es ρ) fun ds => M.bnd (M.opt (rngD ds)) fun xs => M.ret (.list xs)
  | .tuprng es, ρ => M.bnd (evLs es ρ) fun ds => M.bnd (M.opt (rngD ds)) fun xs => M.ret (.tuple xs)
def evAnd : Es → En → M D
  | .nil, _ => M.err
  | .cons e .nil, ρ => evE e ρ
  | .cons e es, ρ => M.bnd (evE e ρ) fun x => M.bnd (M.opt (truD x)) fun b => if b then evAnd es ρ else M.ret x
def evOr : Es → En → M D
  | .nil, _ => M.err
  | .cons e .nil, ρ => evE e ρ
  | .cons e es, ρ => M.bnd (evE e ρ) fun x => M.bnd (M.opt (truD x)) fun b => if b then M.ret x else evOr es ρ
def evTs : Es → En → M Bool
  | .nil, _ => M.ret true
  | .cons e .nil, ρ => M.tru (lon e ρ (evE e ρ))
  | _, _ => M.err
def evEs : Es → En → M (List D)
  | .nil, _ => M.ret []
  | .cons e es, ρ => M.bnd (evE e ρ) fun x => M.bnd (evEs es ρ) fun xs => M.ret (x :: xs)
def evLs : Es → En → M (List D)
  | .nil, _ => M.ret []
  | .cons e es, ρ => M.bnd (lon e ρ (evE e ρ)) fun x => M.bnd (evLs es ρ) fun xs => M.ret (x :: xs)
def evO : Es → En → M (Option Int)
  | .cons e .nil, ρ => M.bnd (evE e ρ) fun x => M.opt ((intOf x).map some)
  | .nil, _ => M.ret none
  | _, _ => M.err
def evIt (loan : Bool) : It → En → M (List D)
  | .val e, ρ => M.bnd (if loan then lon e ρ (evE e ρ) else evE e ρ) fun x => M.opt (itemsD x)
  | .rng es, ρ => M.bnd (evLs es ρ) fun ds => M.opt (rngD ds)
  | .enum e, ρ => M.bnd (if loan then lon e ρ (evE e ρ) else evE e ρ) fun x => match x with
    | .list xs => M.ret ((List.range xs.length).zip xs |>.map fun p => .tuple [.int (p.1 : Nat), p.2])
    | _ => M.err
  | .zip a b, ρ => M.bnd (if loan then lon a ρ (evE a ρ) else evE a ρ) fun x => M.bnd (if loan then lon b ρ (evE b ρ) else evE b ρ) fun y => match x, y with
    | .list xs, .list ys => M.ret ((xs.zip ys).map fun p => .tuple [p.1, p.2])
    | .tuple xs, .tuple ys => M.ret ((xs.zip ys).map fun p => .tuple [p.1, p.2])
    | _, _ => M.err
end
def evL (e : E) (ρ : En) : M D := lon e ρ (evE call e ρ)
def evT (e : E) (ρ : En) : M Bool := M.tru (evL call e ρ)
/-- an own list or dict -/
def fO (e : E) (ρ : En) : M D := M.bnd (evE call e ρ) fun d => if isOwn d then M.ret d else M.err
def evFs : Es → List Bool → En → M (List D)
  | .cons e es, o :: os, ρ => M.bnd (if o then fO call e ρ else evE call e ρ) fun x => M.bnd (evFs es os ρ) fun xs => M.ret (x :: xs)
  | .nil, [], _ => M.ret []
  | _, _, _ => M.err
/-- a for loop over items -/
def forL (body : En → M Fl) (tg : Tg) : List D → En → M Fl
  | [], ρ => M.ret (.nx ρ)
  | x :: xs, ρ => match setTg tg x ρ with
    | none => M.err
    | some ρ' => M.bnd (body ρ') fun f => match f with
      | .nx ρ2 => forL body tg xs ρ2
      | .ct ρ2 => forL body tg xs ρ2
      | .bk ρ2 => M.ret (.nx ρ2)
      | .rt d => M.ret (.rt d)
def whlL (c : En → M Bool) (body : En → M Fl) : Nat → En → M Fl
  | 0, _ => M.err
  | n + 1, ρ => M.bnd (c ρ) fun b => if b then M.bnd (body ρ) fun f => match f with
      | .nx ρ2 => whlL c body n ρ2
      | .ct ρ2 => whlL c body n ρ2
      | .bk ρ2 => M.ret (.nx ρ2)
      | .rt d => M.ret (.rt d)
    else M.ret (.nx ρ)
/-- as many turns as a while may take -/
def whlMax : Nat := 1000000
mutual
def evS : S → En → M Fl
  | .expr e, ρ => M.bnd (evE call e ρ) fun _ => M.ret (.nx ρ)
  | .set i e, ρ => M.bnd (evE call e ρ) fun d => M.ret (.nx (ρ.set i (.da d)))
  | .own i e, ρ => M.bnd (fO call e ρ) fun d => M.ret (.nx (ρ.set i (.ow d)))
  | .par is es os, ρ => M.bnd (evFs call es os ρ) fun ds => M.ret (.nx (setAllO is os ds ρ))
  | .unp tg e, ρ => M.bnd (evE call e ρ) fun d => match setTg tg d ρ with
    | some ρ' => M.ret (.nx ρ')
    | none => M.err
  | .aug i o e, ρ => match ρ[i]? with
    | some (.da (.int x)) => M.bnd (evL call e ρ) fun y => M.bnd (M.opt (augI o x y)) fun z => M.ret (.nx (ρ.set i (.da (.int z))))
    | some (.ow (.list xs)) => M.bnd (evL call e ρ) fun y => M.bnd (M.opt (augL o xs y)) fun zs => M.ret (.nx (ρ.set i (.ow (.list zs))))
    | _ => M.err
  | .app i e, ρ => match ρ[i]? with
    | some (.ow (.list xs)) => M.bnd (evE call e ρ) fun x => if xs.length < sizeLine then M.ret (.nx (ρ.set i (.ow (.list (xs ++ [x]))))) else M.err
    | _ => M.err
  | .put i k e, ρ => match ρ[i]? with
    | some (.ow d) => M.bnd (evE call e ρ) fun x => M.bnd (evE call k ρ) fun y => M.bnd (M.opt (storeD d y x)) fun d' => M.ret (.nx (ρ.set i (.ow d')))
    | _ => M.err
  | .cups i k e, ρ => if isCup ρ[i]? then M.bnd (evE call e ρ) fun x => M.bnd (M.opt (intOf x)) fun n => M.bnd (setCup k n) fun _ => M.ret (.nx ρ) else M.err
  | .ite c a b, ρ => M.bnd (evT call c ρ) fun k => if k then evSs a ρ else evSs b ρ
  | .for tg it body, ρ => M.bnd (evIt call false it ρ) fun xs => forL (evSs body) tg xs ρ
  | .whl c body, ρ => whlL (evT call c) (evSs body) whlMax ρ
  | .ret e, ρ => match e with
    | .var i => match ρ[i]? with
      | some (.da d) => M.ret (.rt d)
      | some (.ow d) => M.ret (.rt d)
      | _ => M.err
    | _ => M.bnd (evE call e ρ) fun d => M.ret (.rt d)
  | .retN, _ => M.ret (.rt .none)
  | .retlen a, ρ => M.bnd (evL call a ρ) fun x => M.bnd (M.opt (lenSort x)) fun d => M.ret (.rt d)
  | .pass, ρ => M.ret (.nx ρ)
  | .brk, ρ => M.ret (.bk ρ)
  | .cont, ρ => M.ret (.ct ρ)
  | .never, _ => M.err
  | .frz i, ρ => match ρ[i]? with
    | some (.ow d) => M.ret (.nx (ρ.set i (.da d)))
    | _ => M.ret (.nx ρ)
def evSs : Ss → En → M Fl
  | .nil, ρ => M.ret (.nx ρ)
  | .cons s ss, ρ => M.bnd (evS s ρ) fun f => match f with
    | .nx ρ' => evSs ss ρ'
    | f => M.ret f
end
end
end FS

-- part FsTr
set_option Elab.async false
set_option linter.all false
set_option maxRecDepth 100000
set_option maxHeartbeats 4000000
/-! When a piece of the evaluator's syntax stands for a piece of the model's. -/
namespace FS
open PySem PySem.Spec PyProof.Rows L2

/-- what is known of the module's names: the defs by number, the constants -/
structure Tx where
  fn : List Str
  gl : List (Str × D)
  lam : Bool
def visB (sc : Scope) (x : Str) : Bool := match sc.names.lookup x with
  | some .local => true
  | some .cell => true
  | some .free => true
  | _ => false
def glB (sc : Scope) (x : Str) : Bool := decide (sc.names.lookup x = some .globalImplicit)
def plN (x : Str) : Bool := !(x == ("__debug__" : Str)) && !(x == ("__classdict__" : Str)) && !decide (x = ("__name__" : Str)) && !decide (x = ("super" : Str))
def nmB (N : List Str) (sc : Scope) (i : Nat) (x : Str) : Bool := decide (N[i]? = some x) && visB sc x && plN x
/-- a name that may be stored -/
def stB (N : List Str) (sc : Scope) (i : Nat) (x : Str) : Bool := decide (N[i]? = some x) && plN x && (decide (sc.names.lookup x = some .local) || decide (sc.names.lookup x = some .cell))
def notSlice : Expr → Bool
  | .Slice .. => false
  | _ => true
def notSet : Expr → Bool
  | .Set .. => false
  | _ => true
def notCall0 : Expr → Bool
  | .Call (.Name ..) [] [] _ => false
  | _ => true
def boOk : BO → Operator → Bool
  | .add, .Add => true
  | .sub, .Sub => true
  | .mul, .Mult => true
  | .fdiv, .FloorDiv => true
  | .mod, .Mod => true
  | .pow, .Pow => true
  | _, _ => false
def coOk : CO → CmpOp → Bool
  | .eq, .Eq => true
  | .ne, .NotEq => true
  | .lt, .Lt => true
  | .le, .LtE => true
  | .gt, .Gt => true
  | .ge, .GtE => true
  | .isin, .In => true
  | .nin, .NotIn => true
  | .is, .Is => true
  | .isn, .IsNot => true
  | _, _ => false
def biN : BI → Str
  | .len => "len" | .list => "list" | .tuple => "tuple" | .sum => "sum" | .max => "max" | .min => "min" | .any => "any" | .all => "all" | .abs => "abs" | .int => "int" | .str => "str"
def constB : D → Bool
  | .int _ => true
  | .str x => strG x
  | _ => false
/-- a comprehension's own names, its block -/
def ownOk (N : List Str) (sc scope : Scope) (own : List (Str × Nat)) : Bool := blkC N sc scope own
def tgB (N : List Str) (sc : Scope) : Tg → Expr → Bool
  | .one i, .Name x _ => stB N sc i x
  | .tup [i, j], .Tuple [.Name x _, .Name y _] _ _ => stB N sc i x && stB N sc j y && decide (i ≠ j)
  | .tup [i, j, k], .Tuple [.Name x _, .Name y _, .Name z _] _ _ => stB N sc i x && stB N sc j y && stB N sc k z && decide (i ≠ j) && decide (i ≠ k) && decide (j ≠ k)
  | _, _ => false
def tgIn (own : List (Str × Nat)) : Tg → Bool
  | .one i => (own.map (·.2)).contains i
  | .tup is => is.all fun i => (own.map (·.2)).contains i
mutual
/-- a test whose truth the rules ask part by part -/
def teB : E → Bool
  | .ite .. => false
  | .not a => teB a
  | .and es => teBs es
  | .or es => teBs es
  | _ => true
def teBs : Es → Bool
  | .nil => true
  | .cons e es => teB e && teBs es
end
def few : Es → Bool
  | .nil => true
  | .cons _ .nil => true
  | .cons _ (.cons _ .nil) => true
  | _ => false
def itOk : FS.It → Expr → Bool
  | .enum _, .Tuple .. => true
  | .zip _ _, .Tuple .. => true
  | .val _, _ => true
  | .rng _, _ => true
  | _, _ => false
def sameC : D → D → Bool
  | .int i, .int j => decide (i = j)
  | .str a, .str b => decide (a = b)
  | _, _ => false
def isOne : Expr → Bool
  | .Constant (.int j) _ _ => decide (j = 1)
  | _ => false
def isRev : Expr → Bool
  | .Slice none none (some (.UnaryOp .USub x _)) _ => isOne x
  | _ => false
section
variable (C : Tx) (N : List Str)
mutual
def trE : Scope → E → Expr → Bool
  | sc, .var i, x0 => match x0 with
    | .Name x _ => nmB N sc i x
    | _ => false
  | _, .int i, x0 => match x0 with
    | .Constant (.int j) _ _ => decide (i = j)
    | _ => false
  | _, .str s, x0 => match x0 with
    | .Constant (.str t) _ _ => decide (s = t) && strG s
    | _ => false
  | _, .bl b, x0 => match x0 with
    | .Constant (.bool c) _ _ => decide (b = c)
    | _ => false
  | _, .non, x0 => match x0 with
    | .Constant .none _ _ => true
    | _ => false
  | sc, .gc x d, x0 => match x0 with
    | .Name y _ => decide (x = y) && glB sc x && plN x && constB d && C.gl.any fun p => decide (p.1 = x) && sameC p.2 d
    | _ => false
  | sc, .fnv i, x0 => match x0 with
    | .Name y _ => decide (C.fn[i]? = some y) && glB sc y && plN y
    | _ => false
  | sc, .bop o a b, x0 => match x0 with
    | .BinOp l p r _ => boOk o p && trE sc a l && trE sc b r
    | _ => false
  | sc, .neg a, x0 => match x0 with
    | .UnaryOp .USub x _ => trE sc a x
    | _ => false
  | sc, .not a, x0 => match x0 with
    | .UnaryOp .Not x _ => trE sc a x
    | _ => false
  | sc, .and es, x0 => match x0 with
    | .BoolOp .And xs _ => trEs sc es xs
    | _ => false
  | sc, .or es, x0 => match x0 with
    | .BoolOp .Or xs _ => trEs sc es xs
    | _ => false
  | sc, .cmp o a b, x0 => match x0 with
    | .Compare l [p] [r] _ => coOk o p && trE sc a l && trE sc b r && notSet r
    | _ => false
  | sc, .chn o p a b c, x0 => match x0 with
    | .Compare l [q, t] [r, u] _ => coOk o q && coOk p t && trE sc a l && trE sc b r && trE sc c u && notSet u
    | _ => false
  | sc, .ite c a b, x0 => match x0 with
    | .IfExp t l r _ => teB c && trE sc c t && trE sc a l && trE sc b r
    | _ => false
  | sc, .tup es, x0 => match x0 with
    | .Tuple xs _ _ => trEs sc es xs
    | _ => false
  | sc, .lst es, x0 => match x0 with
    | .List xs _ => trEs sc es xs
    | _ => false
  | _, .dct _, x0 => match x0 with
    | .Dict [] [] _ => true
    | _ => false
  | sc, .idx a i, x0 => match x0 with
    | .Subscript l r _ => trE sc a l && trE sc i r && notSlice r
    | _ => false
  | sc, .slc a lo hi, x0 => match x0 with
    | .Subscript l (.Slice x y none _) _ => trE sc a l && trO sc lo x && trO sc hi y
    | _ => false
  | sc, .rev a, x0 => match x0 with
    | .Subscript l r _ => isRev r && trE sc a l
    | _ => false
  | sc, .cupi i k, x0 => match x0 with
    | .Subscript (.Name x _) (.Constant (.int j) _ _) _ => nmB N sc i x && decide (j = if k then 1 else 0)
    | _ => false
  | sc, .call i es, x0 => match x0 with
    | .Call (.Name x _) xs [] _ => decide (C.fn[i]? = some x) && glB sc x && plN x && trEs sc es xs
    | _ => false
  | sc, .bi b es, x0 => match x0 with
    | .Call (.Name x _) (y :: xs) [] _ => decide (x = biN b) && glB sc x && trEs sc es (y :: xs)
    | _ => false
  | sc, .isi T a, x0 => match x0 with
    | .Call (.Name x _) [l, .Name t _] [] _ => decide (x = "isinstance") && glB sc x && glB sc t && decide (T ∈ isiTs) && decide (t = Str.ofString T) && trE sc a l
    | _ => false
  | sc, .get2 a k d, x0 => match x0 with
    | .Call (.Attribute o m ap) [x, y] [] cp => decide (m = "get") && trE sc a o && trE sc k x && trE sc d y && notCall0 o && (ap.endLine == cp.line)
    | _ => false
  | sc, .comp vs tg it cs el, x0 => match x0 with
    | .ListComp elt [⟨t, iter, ifs, 0⟩] scope _ => ownOk N sc scope vs && tgB N scope tg t && tgIn vs tg && itOk it t && teBs cs && trIt sc it iter && trEs (relS scope sc) cs ifs && trE (relS scope sc) el elt
    | _ => false
  | sc, .comp2 vs tg it cs v1 tg1 it1 cs1 el, x0 => match x0 with
    | .ListComp elt [⟨t, iter, ifs, 0⟩, ⟨t1, iter1, ifs1, 0⟩] scope _ => ownOk N sc scope vs && tgB N scope tg t && tgIn vs tg && itOk it t && teBs cs && trIt sc it iter && trEs (relS scope sc) cs ifs
      && (v1.all fun i => (vs.map (·.2)).contains i) && tgB N scope tg1 t1 && tgIn (vs.filter fun p => v1.contains p.2) tg1 && itOk it1 t1 && teBs cs1 && trIt (relS scope sc) it1 iter1 && trEs (relS scope sc) cs1 ifs1 && trE (relS scope sc) el elt
    | _ => false
  | sc, .dcomp _ vs tg it cs k v, x0 => match x0 with
    | .DictComp kx vx [⟨t, iter, ifs, 0⟩] scope _ => ownOk N sc scope vs && tgB N scope tg t && tgIn vs tg && itOk it t && teBs cs && trIt sc it iter && trEs (relS scope sc) cs ifs && trE (relS scope sc) k kx && trE (relS scope sc) v vx
    | _ => false
  | sc, .srt a, x0 => match x0 with
    | .Call (.Name x _) [l] [] _ => decide (x = "sorted") && glB sc x && trE sc a l
    | _ => false
  | sc, .srtset a, x0 => match x0 with
    | .Call (.Name x _) [.Call (.Name y _) [l] [] _] [] _ => decide (x = "sorted") && glB sc x && decide (y = "set") && glB sc y && trE sc a l
    | _ => false
  | sc, .lenset a, x0 => match x0 with
    | .Call (.Name x _) [.Call (.Name y _) [l] [] _] [] _ => decide (x = "len") && glB sc x && decide (y = "set") && glB sc y && trE sc a l
    | _ => false
  | sc, .listrng es, x0 => match x0 with
    | .Call (.Name x _) [.Call (.Name y _) xs [] _] [] _ => few es && decide (x = "list") && glB sc x && decide (y = "range") && glB sc y && trEs sc es xs
    | _ => false
  | sc, .tuprng es, x0 => match x0 with
    | .Call (.Name x _) [.Call (.Name y _) xs [] _] [] _ => few es && decide (x = "tuple") && glB sc x && decide (y = "range") && glB sc y && trEs sc es xs
    | _ => false
def trEs : Scope → Es → List Expr → Bool
  | _, .nil, [] => true
  | sc, .cons e es, x :: xs => trE sc e x && trEs sc es xs
  | _, _, _ => false
def trO : Scope → Es → Option Expr → Bool
  | _, .nil, none => true
  | sc, .cons e .nil, some x => trE sc e x
  | _, _, _ => false
def trIt : Scope → It → Expr → Bool
  | sc, .val e, x0 => match x0 with
    | x => trE sc e x && notSet x
  | sc, .rng es, x0 => match x0 with
    | .Call (.Name x _) xs [] _ => few es && decide (x = "range") && glB sc x && trEs sc es xs
    | _ => false
  | sc, .enum e, x0 => match x0 with
    | .Call (.Name x _) [l] [] _ => decide (x = "enumerate") && glB sc x && trE sc e l
    | _ => false
  | sc, .zip a b, x0 => match x0 with
    | .Call (.Name x _) [l, r] [] _ => decide (x = "zip") && glB sc x && trE sc a l && trE sc b r
    | _ => false
end
/-- whether a comprehension given to a name is stored from within -/
def swB (sc : Scope) (x : Str) (px : Pos) : Expr → Bool
  | .ListComp _ _ s p => decide (sc.names.lookup x = some .local) && (px.line == p.line) && !(s.names.any fun (n, k) => n == x && (k == .local || k == .cell))
  | .DictComp _ _ _ s p => decide (sc.names.lookup x = some .local) && (px.line == p.line) && !(s.names.any fun (n, k) => n == x && (k == .local || k == .cell))
  | _ => false
def isFresh : E → Bool
  | .lst _ => true
  | .dct _ => true
  | .comp .. => true
  | .comp2 .. => true
  | .dcomp .. => true
  | .bop .add _ _ => true
  | _ => false
/-- own or not, item by item -/
def frs : Es → List Bool → Bool
  | .nil, [] => true
  | .cons e es, o :: os => (!o || isFresh e) && frs es os
  | _, _ => false
def augOk : BO → Bool
  | .add => true
  | .sub => true
  | _ => false
def notComp : Expr → Bool
  | .ListComp .. => false
  | .DictComp .. => false
  | .SetComp .. => false
  | _ => true
def notTup : Expr → Bool
  | .Tuple .. => false
  | _ => true
def nonLoc (sc : Scope) : Expr → Bool
  | .Name x _ => decide (sc.names.lookup x ≠ some .local)
  | _ => false
def unpOk (sc : Scope) (ts : List Expr) (v : Expr) : Bool := notTup v || ts.any (nonLoc sc)
def allLoc (sc : Scope) (ts : List Expr) : Bool := ts.all fun t => match t with
  | .Name x _ => decide (sc.names.lookup x = some .local)
  | _ => false
/-- lambda p: (len(p), p) -/
def lamLen : Expr → Bool
  | .Lambda { posonlyargs := [], args := [{ arg := p, annotation := none, pos := _ }], vararg := none, kwonlyargs := [], kw_defaults := [], kwarg := none, defaults := [] } (.Tuple [.Call (.Name ln _) [.Name p1 _] [] _, .Name p2 _] _ _) lsc _ => decide (ln = "len") && decide (p1 = p) && decide (p2 = p) && plN p && decide (p ≠ "len")
      && decide (lsc.kind = .function) && !lsc.isCoroutine && !lsc.isGenerator && decide (lsc.names.lookup p = some .local) && decide (lsc.names.lookup ("len" : Str) = some .globalImplicit) && lsc.names.all fun y => decide (y.2 = .local) || decide (y.2 = .globalImplicit)
  | _ => false
mutual
def trS : Scope → S → Stmt → Bool
  | sc, .expr e, x0 => match x0 with
    | .Expr x _ => trE C N sc e x && notComp x
    | _ => false
  | sc, .set i e, x0 => match x0 with
    | .Assign [.Name x _] v _ => stB N sc i x && trE C N sc e v
    | _ => false
  | sc, .own i e, x0 => match x0 with
    | .Assign [.Name x _] v _ => stB N sc i x && isFresh e && trE C N sc e v
    | _ => false
  | sc, .par [i, j] es os, x0 => match x0 with
    | .Assign [.Tuple [.Name x px, .Name y py] _ _] (.Tuple vs _ _) _ => stB N sc i x && stB N sc j y && decide (i ≠ j) && frs es os && trEs C N sc es vs && decide (sc.names.lookup x = some .local) && decide (sc.names.lookup y = some .local)
      && (px.line == py.line) && decide (vs.length = 2) && !(vs.all (constantsAlone 8)) && !(vs.all (foldedForSure 8))
    | _ => false
  | sc, .par [i, j, k] es os, x0 => match x0 with
    | .Assign [.Tuple [.Name x px, .Name y py, .Name z pz] _ _] (.Tuple vs _ _) _ => stB N sc i x && stB N sc j y && stB N sc k z && decide (i ≠ j) && decide (i ≠ k) && decide (j ≠ k) && frs es os && trEs C N sc es vs && decide (sc.names.lookup x = some .local)
      && decide (sc.names.lookup y = some .local) && decide (sc.names.lookup z = some .local) && (px.line == py.line) && (px.line == pz.line) && decide (vs.length = 3) && !(vs.all (constantsAlone 8)) && !(vs.all (foldedForSure 8))
    | _ => false
  | sc, .unp tg e, x0 => match x0 with
    | .Assign [.Tuple ts k p] v _ => tgB N sc tg (.Tuple ts k p) && trE C N sc e v && unpOk sc ts v
    | _ => false
  | sc, .aug i o e, x0 => match x0 with
    | .AugAssign (.Name x _) p v _ => stB N sc i x && augOk o && boOk o p && trE C N sc e v
    | _ => false
  | sc, .app i e, x0 => match x0 with
    | .Expr (.Call (.Attribute (.Name x _) m ap) [v] [] cp) _ => nmB N sc i x && decide (m = "append") && trE C N sc e v && (ap.endLine == cp.line)
    | _ => false
  | sc, .put i k e, x0 => match x0 with
    | .Assign [.Subscript (.Name x _) ix _] v _ => nmB N sc i x && trE C N sc k ix && notSlice ix && trE C N sc e v
    | _ => false
  | sc, .cups i k e, x0 => match x0 with
    | .Assign [.Subscript (.Name x _) (.Constant (.int j) _ _) _] v _ => nmB N sc i x && decide (j = if k then 1 else 0) && trE C N sc e v
    | _ => false
  | sc, .ite c a b, x0 => match x0 with
    | .If t p q _ => teB c && trE C N sc c t && trSs sc a p && trSs sc b q
    | _ => false
  | sc, .for tg it body, x0 => match x0 with
    | .For t iter p [] _ => tgB N sc tg t && itOk it t && trIt C N sc it iter && trSs sc body p
    | _ => false
  | sc, .whl c body, x0 => match x0 with
    | .While t p [] _ => teB c && trE C N sc c t && trSs sc body p
    | _ => false
  | sc, .ret e, x0 => match x0 with
    | .Return (some x) _ => trE C N sc e x
    | _ => false
  | _, .retN, x0 => match x0 with
    | .Return none _ => true
    | _ => false
  | sc, .retlen a, x0 => match x0 with
    | .Return (some (.Call (.Name x _) [l] [⟨some key, lam, _⟩] _)) _ => decide (x = "sorted") && glB sc x && decide (key = "key") && trE C N sc a l && lamLen lam && C.lam
    | _ => false
  | _, .pass, x0 => match x0 with
    | .Pass _ => true
    | _ => false
  | _, .brk, x0 => match x0 with
    | .Break _ => true
    | _ => false
  | _, .cont, x0 => match x0 with
    | .Continue _ => true
    | _ => false
  | _, .never, _ => true
  | _, _, _ => false
def trSs : Scope → Ss → List Stmt → Bool
  | _, .nil, [] => true
  | sc, .cons (.frz _) ss, xs => trSs sc ss xs
  | sc, .cons s ss, x :: xs => trS sc s x && trSs sc ss xs
  | _, _, _ => false
end
end
end FS

-- part FsSnd1
set_option Elab.async false
set_option linter.all false
set_option maxRecDepth 100000
set_option maxHeartbeats 4000000
/-! That the model's expressions do what the evaluator says: the small ones. -/
namespace FS
open PySem PySem.Spec PyProof.Rows L2

/-- the built-ins' names that the texts use -/
def bNames : List Str := ["len", "list", "tuple", "sum", "max", "min", "any", "all", "abs", "int", "str", "isinstance", "range", "enumerate", "zip", "sorted", "set", "bool"]
/-- what a def promises, by the evaluator's answer -/
def spF (ca : Addr) (fa : Nat → Addr) (T : List (Addr × Str)) (K : PySem.W.Frag) (call : Nat → List D → M D) (i : Nat) : Sp := fun vs H Q E => ∃ F ds c, Step ca T F H c F H ∧ Fca ca T F ∧ RpAll ca fa F vs ds ∧ match call i ds c with
  | .ok d c' => ∀ v F' H', Step ca T F H c' F' H' → Rp ca fa F' v d → Q v H'
  | .exc x c' => ∀ cls dx F' H', Step ca T F H c' F' H' → XRep K x cls dx H' → E cls dx H'
  | .err => False
def glIs (u : Value) : D → Prop
  | .int i => ∃ t, u = .int i t
  | .str x => ∃ t, u = .str x t
  | _ => False
/-- a context of a def's statements -/
structure COk (C : Tx) (g : Gd) (n : Nat) (call : Nat → List D → M D) (W : WX) (X : Cx) : Prop where
  calm : X.calm = true
  nd : X.N.Nodup
  kind : X.env.scope.kind = .function
  room : Room n X.A
  tk : Takes X W
  gl : ∀ p ∈ C.gl, ∃ u, X.mg p.1 = some u ∧ glIs u p.2
  free : ∀ x ∈ bNames, X.mg x = none
  fns : ∀ i x, C.fn[i]? = some x → ∃ fd ps, X.mg x = some (.ref (g.fa i)) ∧ PySem.W.keepIn X.K (.ref (g.fa i)) = true ∧ FnOk X.prog X.w X.K X.mg X.base (L2.CX X.prog X.w) n (g.fa i) fd ps (spF g.ca g.fa g.T X.K call i) ∧ Binds X.K fd ps []

structure SOk (C : Tx) (g : Gd) (n : Nat) (call : Nat → List D → M D) (W : WX) (X : Cx) : Prop where
  co : COk C g n call W X
  po : PassesOwn (model X.prog X.w) X.A X.env X.xe
  st : ∀ x, X.env.scope.names.lookup x = some .local ∨ X.env.scope.names.lookup x = some .cell → L2.Loc X.env.scope x ∧ (X.fn x = true ∨ X.env.scope.names.lookup x = some .local)
  lam : C.lam = true → ∃ c P, LamX.TabB X.base X.mg c P ∧ X.env.code = .ref c ∧ (P, X.env.qual ++ "<lambda>") ∈ g.T ∧ ∀ p ∈ g.T, p.1 = P → p.2 = X.env.qual ++ "<lambda>"
section
variable (g : Gd) (K : PySem.W.Frag) (W : WX)
/-- a new list or dict, that nothing knows yet -/
def tO (f : En → M D) : TE := fun σ H Q => ∃ F ρ c, GS g F ρ c σ H ∧ Res g K W F σ H (f ρ c) fun d c' => ∀ a F' H', Step g.ca g.T F H c' F' H' → H a = none → F' a = none → a ≠ g.ca → OwAt g.ca g.fa F' H' a d → Q (.ref a) H'
def tL (f : En → M D) : TE := fun σ H Q => ∃ F ρ c, GS g F ρ c σ H ∧ Res g K W F σ H (f ρ c) fun d c' => ∀ v F' H', Step g.ca g.T F H c' F' H' → Lp g.ca g.fa F' H' v d → Q v H'
def tLs (f : En → M (List D)) : TA := fun σ H Q => ∃ F ρ c, GS g F ρ c σ H ∧ Res g K W F σ H (f ρ c) fun ds c' => ∀ vs F' H', Step g.ca g.T F H c' F' H' → LpAll g.ca g.fa F' H' vs ds → Q vs H'
end
section
variable {C : Tx} {g : Gd} {n : Nat} {call : Nat → List D → M D} {W : WX} {X : Cx}
theorem GS.refl {F : Hp} {ρ : En} {c : Cup} {σ : SV} {H : Hp} (x : GS g F ρ c σ H) : Step g.ca g.T F H c F H where
  ext := fun _ _ _ _ e => e
  tb := fun _ ps _ e => ⟨ps, e⟩
  ff := .refl _
  fh := x.st.fh
  new := fun _ _ e => .inl e
  cup := x.st.cup
  tabs := x.st.tabs
theorem GS.grow {F F' H' : Hp} {ρ : En} {c : Cup} {σ : SV} {H : Hp} (x : GS g F ρ c σ H) (w : Grow F H F' H') : Step g.ca g.T F H c F' H' := w.step x.st.cup x.st.tabs
/-- a value at hand -/
theorem e_val {x : Expr} {d : D} {v : V} (h : PE X x (tC v)) (r : ∀ F, Rp g.ca g.fa F v d) : PE X x (tE g X.K W fun _ => M.ret d) := h.imp fun σ H Q q => by
  obtain ⟨F, ρ, c, gs, k⟩ := q
  exact k v F H gs.refl (r F)
theorem e_var {i : Nat} {x : Str} {pos : Pos} (hb : nmB X.N X.env.scope i x = true) : PE X (.Name x pos) (tVar i) := by
  unfold nmB at hb
  simp only [Bool.and_eq_true, decide_eq_true_eq] at hb
  obtain ⟨⟨h1, h2⟩, h3⟩ := hb
  unfold plN at h3
  simp only [Bool.and_eq_true, Bool.not_eq_true'] at h3
  refine pe_var h1 ?_ h3.1.1.1 h3.1.1.2
  unfold visB at h2
  split at h2
  · exact .inl (by assumption)
  · exact .inr (.inl (by assumption))
  · exact .inr (.inr (by assumption))
  · cases h2
theorem s_var {i : Nat} {x : Str} {pos : Pos} (hb : nmB X.N X.env.scope i x = true) : PE X (.Name x pos) (tE g X.K W (evE call (.var i))) := (e_var hb).imp fun σ H Q q => by
  obtain ⟨F, ρ, c, gs, k⟩ := q
  have k : Res g X.K W F σ H ((match ρ[i]? with
    | some (.da d) => M.ret d
    | _ => M.err) c) _ := k
  cases e : ρ[i]? with
  | none => rw [e] at k; exact k.elim
  | some s =>
    rw [e] at k
    cases s with
    | no => exact k.elim
    | ow d => exact k.elim
    | da d =>
      obtain ⟨o, h1, v, h2, h3⟩ := gs.sl i _ e
      rw [h2] at h1
      exact ⟨v, h1, k v F H gs.refl h3⟩
theorem s_varL {i : Nat} {x : Str} {pos : Pos} (hb : nmB X.N X.env.scope i x = true) : PE X (.Name x pos) (tL g X.K W (evL call (.var i))) := (e_var hb).imp fun σ H Q q => by
  obtain ⟨F, ρ, c, gs, k⟩ := q
  have k : Res g X.K W F σ H ((match ρ[i]? with
    | some (.da d) => M.ret d
    | some (.ow d) => M.ret d
    | _ => M.err) c) _ := k
  cases e : ρ[i]? with
  | none => rw [e] at k; exact k.elim
  | some s =>
    rw [e] at k
    cases s with
    | no => exact k.elim
    | ow d =>
      obtain ⟨o, h1, a, h2, h3, h4, h5, h6⟩ := gs.sl i _ e
      rw [h2] at h1
      exact ⟨_, h1, k _ F H gs.refl (.ow h4 h6)⟩
    | da d =>
      obtain ⟨o, h1, v, h2, h3⟩ := gs.sl i _ e
      rw [h2] at h1
      exact ⟨v, h1, k v F H gs.refl (.rp h3)⟩
theorem tE_tL {f : En → M D} {x : Expr} (h : PE X x (tE g X.K W f)) : PE X x (tL g X.K W f) := h.imp fun σ H Q q => by
  obtain ⟨F, ρ, c, gs, k⟩ := q
  exact ⟨F, ρ, c, gs, k.imp fun d c' k v F' H' s r => k v F' H' s (.rp r)⟩
/-- read at once -/
theorem s_lon {e : E} {x : Expr} (h : PE X x (tE g X.K W (evE call e))) (ht : trE C X.N X.env.scope e x = true) : PE X x (tL g X.K W (evL call e)) := by
  cases e with
  | var i =>
    cases x with
    | Name y p => exact s_varL ht
    | _ => exact Bool.noConfusion ht
  | _ => exact tE_tL h
/-- two parts, then an operation -/
theorem t_bin {f k : En → M D} {op : D → D → Option D} {σ : SV} {H : Hp} {Q : VK} (q : tE g X.K W (fun ρ => M.bnd (f ρ) fun x => M.bnd (k ρ) fun y => M.opt (op x y)) σ H Q) : tOp (rV g.ca g.fa op) (tL g X.K W f) (tL g X.K W k) σ H Q := by
  obtain ⟨F, ρ, c, gs, r⟩ := q
  refine ⟨F, ρ, c, gs, (Res.bind r).imp fun dx c1 r1 v F1 H1 s1 l1 => ?_⟩
  refine ⟨F1, ρ, c1, gs.step s1, (Res.bind (Res.back r1 s1 fun _ _ z => z)).imp fun dy c2 r2 w F2 H2 s2 l2 => ?_⟩
  obtain ⟨d, e, r3⟩ := Res.opt r2
  exact ⟨F2, dx, dy, d, s2.fh, l1.step s2, l2, e, fun u F3 H3 w3 rp => r3 u F3 H3 ((s1.trans s2).grow w3) rp⟩
theorem units64 (h : COk C g n call W X) : X.A.units + 64 < cLine := h.room.units
theorem units65 (h : COk C g n call W X) : X.A.units + 65 < cLine := by have := h.room.un; omega
theorem units1 (h : COk C g n call W X) : X.A.units + 1 < cLine := by have := h.room.un; omega
theorem bo_rule {o : BO} {p : Operator} (hp : boOk o p = true) : OpR X (binaryOp p) (rV g.ca g.fa (boD o)) := by
  cases o
  · cases p <;> first | exact Bool.noConfusion hp | exact r_add
  · cases p <;> first | exact Bool.noConfusion hp | exact r_sub
  · cases p <;> first | exact Bool.noConfusion hp | exact r_mul
  · cases p <;> first | exact Bool.noConfusion hp | exact r_fdiv
  · cases p <;> first | exact Bool.noConfusion hp | exact r_mod
  · cases p <;> first | exact Bool.noConfusion hp | exact r_pow
theorem co_rule {o : CO} {p : CmpOp} (h : COk C g n call W X) (hp : coOk o p = true) : OpR X (compareOp p) (rV g.ca g.fa (coD o)) := by
  have h1 := units64 h
  have h2 := units65 h
  cases o
  · cases p <;> first | exact Bool.noConfusion hp | exact r_eq h1
  · cases p <;> first | exact Bool.noConfusion hp | exact r_ne h1
  · cases p <;> first | exact Bool.noConfusion hp | exact r_lt h1
  · cases p <;> first | exact Bool.noConfusion hp | exact r_le
  · cases p <;> first | exact Bool.noConfusion hp | exact r_gt
  · cases p <;> first | exact Bool.noConfusion hp | exact r_ge
  · cases p <;> first | exact Bool.noConfusion hp | exact r_in h2
  · cases p <;> first | exact Bool.noConfusion hp | exact r_nin h2
  · cases p <;> first | exact Bool.noConfusion hp | exact r_is
  · cases p <;> first | exact Bool.noConfusion hp | exact r_isn
theorem marks {p : CmpOp} {x : Expr} (h : notSet x = true) : behindInMarks p x = false := by
  cases x <;> first | rfl | (cases h)
theorem s_bop {o : BO} {p : Operator} {ea eb : E} {a b : Expr} {pos : Pos} (hp : boOk o p = true) (ha : PE X a (tL g X.K W (evL call ea))) (hb : PE X b (tL g X.K W (evL call eb))) : PE X (.BinOp a p b pos) (tE g X.K W (evE call (.bop o ea eb))) :=
  (pe_op (bo_rule (g := g) hp) ha hb).imp fun _ _ _ q => t_bin q
theorem s_cmp {o : CO} {p : CmpOp} {ea eb : E} {a b : Expr} {pos : Pos} (h : COk C g n call W X) (hp : coOk o p = true) (hn : notSet b = true) (ha : PE X a (tL g X.K W (evL call ea))) (hb : PE X b (tL g X.K W (evL call eb))) : PE X (.Compare a [p] [b] pos) (tE g X.K W (evE call (.cmp o ea eb))) :=
  (pe_cmpR (co_rule h hp) ha hb (marks hn)).imp fun _ _ _ q => t_bin q

/-! tests -/
/-- the truth of what was read at once -/
theorem t_tru {f : En → M D} {σ : SV} {H : Hp} {Q : Bool → Hp → Prop} (q : tT g X.K W (fun ρ => M.tru (f ρ)) σ H Q) : tL g X.K W f σ H fun x H1 => ∃ k, TruV X.K x H1 k ∧ Q k H1 := by
  obtain ⟨F, ρ, c, gs, r⟩ := q
  refine ⟨F, ρ, c, gs, (Res.bind r).imp fun d c1 r1 v F1 H1 s1 l1 => ?_⟩
  obtain ⟨b, e, r2⟩ := Res.opt r1
  exact ⟨b, tru_V s1.fh l1 e, r2 F1 H1 s1⟩
/-- any expression but and, or, not, a comparison, a choice -/
def plainT : Expr → Bool
  | .BoolOp .. => false
  | .UnaryOp .Not _ _ => false
  | .Compare .. => false
  | .IfExp .. => false
  | _ => true
theorem plain_true {x : Expr} {env : PySem.Env} (h : plainT x = true) (whole : Sem Value) : isTrue x env whole = (do let v ← whole; standAt x.pos; holding [v] (truthy v)) := by
  cases x with
  | BoolOp o v p => cases h
  | Compare l o r p => cases h
  | IfExp t a b p => cases h
  | UnaryOp o a p => cases o <;> first | rfl | (cases h)
  | _ => rfl
theorem s_truth {f : En → M D} {x : Expr} (hp : plainT x = true) (h : PE X x (tL g X.K W f)) : PT X x (tT g X.K W fun ρ => M.tru (f ρ)) := by
  have key : PT X x (fun σ H Q => tL g X.K W f σ H fun x H1 => ∃ k, TruV X.K x H1 k ∧ Q k H1) := pt_truth h (plain_true hp)
  exact key.imp fun σ H Q q => t_tru q
theorem co_bool {o : CO} {x y d : D} (h : coD o x y = some d) : ∃ b, d = .bool b := by
  have mp : ∀ {z : Option Bool} {k : Bool → Bool}, z.map (fun b => PyData.bool (k b)) = some d → ∃ b, d = .bool b := fun {z k} e => by
    cases z with
    | none => cases e
    | some b => cases e; exact ⟨_, rfl⟩
  cases o with
  | eq => have h : eqD x y = some d := h; unfold eqD at h; split at h <;> cases h; exact ⟨_, rfl⟩
  | ne => have h : neD x y = some d := h; unfold neD at h; split at h <;> cases h; exact ⟨_, rfl⟩
  | lt =>
    have h : ltD x y = some d := h
    unfold ltD at h
    split at h
    · cases h; exact ⟨_, rfl⟩
    · cases h
    · split at h <;> cases h; exact ⟨_, rfl⟩
  | le => have h : leD x y = some d := h; unfold leD at h; split at h <;> cases h <;> exact ⟨_, rfl⟩
  | gt => have h : gtD x y = some d := h; unfold gtD at h; split at h <;> cases h <;> exact ⟨_, rfl⟩
  | ge => have h : geD x y = some d := h; unfold geD at h; split at h <;> cases h <;> exact ⟨_, rfl⟩
  | isin => exact mp (k := fun b => b) h
  | nin => exact mp (k := fun b => !b) h
  | is => exact mp (k := fun b => b) h
  | isn => exact mp (k := fun b => !b) h
theorem t_binT {f k : En → M D} {op : D → D → Option D} (hop : ∀ x y d, op x y = some d → ∃ b, d = .bool b) {σ : SV} {H : Hp} {Q : Bool → Hp → Prop}
    (q : tT g X.K W (fun ρ => M.tru (M.bnd (f ρ) fun x => M.bnd (k ρ) fun y => M.opt (op x y))) σ H Q) : tTest (tOp (rV g.ca g.fa op) (tL g X.K W f) (tL g X.K W k)) σ H Q := by
  obtain ⟨F, ρ, c, gs, r⟩ := q
  refine ⟨F, ρ, c, gs, (Res.bind (Res.bind r)).imp fun dx c1 r1 v F1 H1 s1 l1 => ?_⟩
  refine ⟨F1, ρ, c1, gs.step s1, (Res.bind (Res.back r1 s1 fun _ _ z => z)).imp fun dy c2 r2 w F2 H2 s2 l2 => ?_⟩
  obtain ⟨d, e, r3⟩ := Res.opt r2
  obtain ⟨b, rfl⟩ := hop _ _ _ e
  obtain ⟨b', e', r4⟩ := Res.opt r3
  cases e'
  refine ⟨F2, dx, dy, _, s2.fh, l1.step s2, l2, e, fun u F3 H3 w3 rp => ?_⟩
  cases rp
  exact ⟨_, rfl, r4 F3 H3 ((s1.trans s2).grow w3)⟩
theorem s_cmpT {o : CO} {p : CmpOp} {ea eb : E} {a b : Expr} {pos : Pos} (h : COk C g n call W X) (hp : coOk o p = true) (hn : notSet b = true) (ha : PE X a (tL g X.K W (evL call ea))) (hb : PE X b (tL g X.K W (evL call eb))) : PT X (.Compare a [p] [b] pos) (tT g X.K W (evT call (.cmp o ea eb))) :=
  (pt_cmpR (co_rule h hp) ha hb (marks hn)).imp fun _ _ _ q => t_binT (fun _ _ _ => co_bool) q

/-! chains -/
def boolOf : D → Option Bool
  | .bool k => some k
  | _ => none
theorem t_chn {o p : CO} {ea eb ec : E} {σ : SV} {H : Hp} {Q : VK} (z : tE g X.K W (evE call (.chn o p ea eb ec)) σ H Q) : tChain (rV g.ca g.fa (coD o)) (rV g.ca g.fa (coD p)) (tL g X.K W (evL call ea)) (tL g X.K W (evL call eb)) (tL g X.K W (evL call ec)) σ H Q := by
  obtain ⟨F, ρ, c, gs, r⟩ := z
  refine ⟨F, ρ, c, gs, (Res.bind r).imp fun dx c1 r1 v F1 H1 s1 l1 => ?_⟩
  refine ⟨F1, ρ, c1, gs.step s1, (Res.bind (Res.back r1 s1 fun _ _ z => z)).imp fun dy c2 r2 w F2 H2 s2 l2 => ?_⟩
  obtain ⟨k, e, r3⟩ := Res.opt (Res.bind r2)
  cases e1 : coD o dx dy with
  | none => rw [e1] at e; cases e
  | some d =>
    obtain ⟨b', rfl⟩ := co_bool e1
    rw [e1] at e
    cases e
    refine ⟨F2, dx, dy, _, s2.fh, l1.step s2, l2, e1, fun u F3 H3 w3 rp => ?_⟩
    cases rp
    refine ⟨k, rfl, ?_⟩
    have s3 := (s1.trans s2).grow w3
    cases k with
    | true =>
      refine ⟨F3, ρ, c2, gs.step s3, (Res.bind (Res.back r3 (s2.grow w3) fun _ _ z => z)).imp fun dz c3 r4 z F4 H4 s4 l4 => ?_⟩
      obtain ⟨d', e4, r5⟩ := Res.opt r4
      exact ⟨F4, dy, dz, d', s4.fh, (l2.step (w3.step s2.cup s2.tabs)).step s4, l4, e4, fun u' F5 H5 w5 rp' => r5 u' F5 H5 ((s3.trans s4).grow w5) rp'⟩
    | false => exact r3 _ F3 H3 s3 (.bl false)
theorem pe_chn {o p : CO} {q t : CmpOp} {ea eb ec : E} {a b c : Expr} {pos : Pos} (h : COk C g n call W X) (hq : coOk o q = true) (ht : coOk p t = true) (hn : notSet c = true) (ha : PE X a (tL g X.K W (evL call ea))) (hb : PE X b (tL g X.K W (evL call eb)))
    (hc : PE X c (tL g X.K W (evL call ec))) : PE X (.Compare a [q, t] [b, c] pos) (tE g X.K W (evE call (.chn o p ea eb ec))) :=
  (pe_chain (co_rule h hq) (co_rule h ht) ha hb hc (marks hn)).imp fun _ _ _ z => t_chn z
end
end FS

-- part FsSnd2
set_option Elab.async false
set_option linter.all false
set_option maxRecDepth 100000
set_option maxHeartbeats 4000000
/-! That the model's expressions do what the evaluator says: displays, calls, built-ins. -/
namespace FS
open PySem PySem.Spec PyProof.Rows L2

def notStar : Expr → Bool
  | .Starred .. => false
  | _ => true
theorem star_cons {e : Expr} {es : List Expr} {env : PySem.Env} (h : notStar e = true) : starEach (e :: es) env = (false, eval e env) :: starEach es env := by
  cases e <;> first | rfl | exact Bool.noConfusion h
theorem star_any {es : List Expr} {env : PySem.Env} {pos : Pos} (h : es.all notStar = true) : (backTo pos (starEach es env)).any (·.1) = false := by
  induction es with
  | nil => rfl
  | cons e es ih =>
    rw [List.all_cons, Bool.and_eq_true] at h
    rw [star_cons h.1]
    show (false || (backTo pos (starEach es env)).any (·.1)) = false
    rw [ih h.2]; rfl
theorem tr_star {C : Tx} {N : List Str} {sc : Scope} {e : E} {x : Expr} (h : trE C N sc e x = true) : notStar x = true := by
  cases x with
  | Starred a b => cases e <;> exact Bool.noConfusion h
  | _ => rfl
theorem trs_star {C : Tx} {N : List Str} {sc : Scope} : ∀ {es : Es} {xs : List Expr}, trEs C N sc es xs = true → xs.all notStar = true
  | .nil, [], _ => rfl
  | .nil, _ :: _, h => Bool.noConfusion h
  | .cons e es, [], h => Bool.noConfusion h
  | .cons e es, x :: xs, h => by
    have h : (trE C N sc e x && trEs C N sc es xs) = true := h
    rw [Bool.and_eq_true] at h
    rw [List.all_cons, tr_star h.1, trs_star h.2]; rfl

section
variable {C : Tx} {g : Gd} {n : Nat} {call : Nat → List D → M D} {W : WX} {X : Cx}

/-! tests from values -/
theorem tT_tE {f : En → M D} (hb : ∀ ρ c d c', f ρ c = .ok d c' → ∃ b, d = .bool b) {σ : SV} {H : Hp} {Q : Bool → Hp → Prop} (q : tT g X.K W (fun ρ => M.tru (f ρ)) σ H Q) : tE g X.K W f σ H fun x H' => ∃ k, x = .bl k ∧ Q k H' := by
  obtain ⟨F, ρ, c, gs, r⟩ := q
  have r := Res.bind r
  have hb := hb ρ c
  refine ⟨F, ρ, c, gs, ?_⟩
  cases e : f ρ c with
  | ok d c' =>
    rw [e] at r hb
    obtain ⟨b, rfl⟩ := hb d c' rfl
    exact fun v F' H' s rp => by cases rp; exact ⟨b, rfl, r F' H' s⟩
  | exc x c' => rw [e] at r; exact r
  | err => rw [e] at r; exact r
theorem bnd_ok {α β : Type} {m : M α} {f : α → M β} {c : Cup} {b : β} {c' : Cup} (h : M.bnd m f c = .ok b c') : ∃ a c1, m c = .ok a c1 ∧ f a c1 = .ok b c' := by
  unfold M.bnd at h
  cases e : m c with
  | ok a c1 => rw [e] at h; exact ⟨a, c1, rfl, h⟩
  | exc x c1 => rw [e] at h; cases h
  | err => rw [e] at h; cases h
theorem opt_ok {α : Type} {o : Option α} {c : Cup} {a : α} {c' : Cup} (h : M.opt o c = .ok a c') : o = some a ∧ c' = c := by
  cases o with
  | none => cases h
  | some b => cases h; exact ⟨rfl, rfl⟩
theorem s_chnT {o p : CO} {q t : CmpOp} {ea eb ec : E} {a b c : Expr} {pos : Pos} (h : COk C g n call W X) (hq : coOk o q = true) (ht : coOk p t = true) (hn : notSet c = true) (ha : PE X a (tL g X.K W (evL call ea))) (hb : PE X b (tL g X.K W (evL call eb)))
    (hc : PE X c (tL g X.K W (evL call ec))) : PT X (.Compare a [q, t] [b, c] pos) (tT g X.K W (evT call (.chn o p ea eb ec))) := by
  refine (pt_chain (co_rule h hq) (co_rule h ht) ha hb hc ?_).imp fun σ H Q z => ?_
  · exact marks hn
  · refine t_chn ?_
    refine tT_tE (fun ρ c0 d c' e => ?_) z
    obtain ⟨x, c1, e1, e⟩ := bnd_ok e
    obtain ⟨y, c2, e2, e⟩ := bnd_ok e
    obtain ⟨k, c3, e3, e⟩ := bnd_ok e
    cases k with
    | true =>
      obtain ⟨z, c4, e4, e⟩ := bnd_ok (show M.bnd (lon ec ρ (evE call ec ρ)) (fun z => M.opt (coD p y z)) c3 = .ok d c' from e)
      exact co_bool (opt_ok e).1
    | false => cases e; exact ⟨_, rfl⟩
theorem s_neg {e : E} {a : Expr} {pos : Pos} (ha : PE X a (tE g X.K W (evE call e))) : PE X (.UnaryOp .USub a pos) (tE g X.K W (evE call (.neg e))) := (pe_un un_neg ha).imp fun σ H Q q => by
  obtain ⟨F, ρ, c, gs, r⟩ := q
  refine ⟨F, ρ, c, gs, (Res.bind r).imp fun d c1 r1 v F1 H1 s1 l1 => ?_⟩
  obtain ⟨z, e1, r2⟩ := Res.opt r1
  cases d with
  | int i => cases e1; cases l1; exact ⟨i, rfl, r2 _ F1 H1 s1 (.int _)⟩
  | _ => cases e1
theorem s_not {e : E} {a : Expr} {pos : Pos} (ha : PE X a (tL g X.K W (evL call e))) : PE X (.UnaryOp .Not a pos) (tE g X.K W (evE call (.not e))) := (pe_notT ha).imp fun σ H Q q => by
  obtain ⟨F, ρ, c, gs, r⟩ := q
  refine ⟨F, ρ, c, gs, (Res.bind (Res.bind r)).imp fun d c1 r1 v F1 H1 s1 l1 => ?_⟩
  obtain ⟨b, e1, r2⟩ := Res.opt r1
  exact ⟨b, tru_V s1.fh l1 e1, r2 _ F1 H1 s1 (.bl _)⟩
theorem s_notT {e : E} {a : Expr} {pos : Pos} (ha : PT X a (tT g X.K W (evT call e))) : PT X (.UnaryOp .Not a pos) (tT g X.K W (evT call (.not e))) := (pt_not ha).imp fun σ H Q q => by
  obtain ⟨F, ρ, c, gs, r⟩ := q
  refine ⟨F, ρ, c, gs, (Res.bind (Res.bind r)).imp fun b c1 r1 F1 H1 s1 => ?_⟩
  have r2 : ∀ F' H', Step g.ca g.T F H c1 F' H' → Q (!b) H' := r1
  exact r2 F1 H1 s1
theorem s_and {e : E} {b : Expr} {a : Expr} {es : Es} {rest : List Expr} {pos : Pos} {e2 : E} (ha : PE X a (tE g X.K W (evE call e))) (hb : PE X (.BoolOp .And (b :: rest) pos) (tE g X.K W (evAnd call (.cons e2 es)))) :
    PE X (.BoolOp .And (a :: b :: rest) pos) (tE g X.K W (evAnd call (.cons e (.cons e2 es)))) := (pe_andT ha hb).imp fun σ H Q q => by
  obtain ⟨F, ρ, c, gs, r⟩ := q
  refine ⟨F, ρ, c, gs, (Res.bind r).imp fun d c1 r1 v F1 H1 s1 l1 => ?_⟩
  obtain ⟨k, e1, r2⟩ := Res.opt (Res.bind r1)
  refine ⟨k, tru_V s1.fh (.rp l1) e1, ?_⟩
  cases k with
  | true => exact ⟨F1, ρ, c1, gs.step s1, (Res.back r2 s1 fun _ _ z => z).imp fun d' c2 r3 w F2 H2 s2 rp => r3 w F2 H2 (s1.trans s2) rp⟩
  | false => exact r2 v F1 H1 s1 l1
theorem s_or {e : E} {b : Expr} {a : Expr} {es : Es} {rest : List Expr} {pos : Pos} {e2 : E} (ha : PE X a (tE g X.K W (evE call e))) (hb : PE X (.BoolOp .Or (b :: rest) pos) (tE g X.K W (evOr call (.cons e2 es)))) :
    PE X (.BoolOp .Or (a :: b :: rest) pos) (tE g X.K W (evOr call (.cons e (.cons e2 es)))) := (pe_orT ha hb).imp fun σ H Q q => by
  obtain ⟨F, ρ, c, gs, r⟩ := q
  refine ⟨F, ρ, c, gs, (Res.bind r).imp fun d c1 r1 v F1 H1 s1 l1 => ?_⟩
  obtain ⟨k, e1, r2⟩ := Res.opt (Res.bind r1)
  refine ⟨k, tru_V s1.fh (.rp l1) e1, ?_⟩
  cases k with
  | false => exact ⟨F1, ρ, c1, gs.step s1, (Res.back r2 s1 fun _ _ z => z).imp fun d' c2 r3 w F2 H2 s2 rp => r3 w F2 H2 (s1.trans s2) rp⟩
  | true => exact r2 v F1 H1 s1 l1
theorem s_andT {e : E} {b : Expr} {a : Expr} {es : Es} {rest : List Expr} {pos : Pos} {e2 : E} (ha : PT X a (tT g X.K W fun ρ => M.tru (evE call e ρ))) (hb : PW X (.BoolOp .And (b :: rest) pos) (tT g X.K W fun ρ => M.tru (evAnd call (.cons e2 es) ρ))) :
    PW X (.BoolOp .And (a :: b :: rest) pos) (tT g X.K W fun ρ => M.tru (evAnd call (.cons e (.cons e2 es)) ρ)) := (pw_and ha hb).imp fun σ H Q q => by
  obtain ⟨F, ρ, c, gs, r⟩ := q
  refine ⟨F, ρ, c, gs, Res.bindI ((Res.bind (Res.bind r)).imp fun d c1 r1 => ?_)⟩
  obtain ⟨k, e1, r2⟩ := Res.opt (Res.bind r1)
  rw [e1]
  intro F1 H1 s1
  cases k with
  | true => exact ⟨F1, ρ, c1, gs.step s1, Res.bindI ((Res.back r2 s1 fun _ _ z => z).imp fun d' c2 r3 => Res.back r3 s1 fun b c3 r4 F2 H2 s2 => r4 F2 H2 (s1.trans s2))⟩
  | false =>
    obtain ⟨k', e2, r3⟩ := Res.opt (o := truD d) r2
    rw [e1] at e2; cases e2
    exact r3 F1 H1 s1
theorem s_orT {e : E} {b : Expr} {a : Expr} {es : Es} {rest : List Expr} {pos : Pos} {e2 : E} (ha : PT X a (tT g X.K W fun ρ => M.tru (evE call e ρ))) (hb : PW X (.BoolOp .Or (b :: rest) pos) (tT g X.K W fun ρ => M.tru (evOr call (.cons e2 es) ρ))) :
    PW X (.BoolOp .Or (a :: b :: rest) pos) (tT g X.K W fun ρ => M.tru (evOr call (.cons e (.cons e2 es)) ρ)) := (pw_or ha hb).imp fun σ H Q q => by
  obtain ⟨F, ρ, c, gs, r⟩ := q
  refine ⟨F, ρ, c, gs, Res.bindI ((Res.bind (Res.bind r)).imp fun d c1 r1 => ?_)⟩
  obtain ⟨k, e1, r2⟩ := Res.opt (Res.bind r1)
  rw [e1]
  intro F1 H1 s1
  cases k with
  | false => exact ⟨F1, ρ, c1, gs.step s1, Res.bindI ((Res.back r2 s1 fun _ _ z => z).imp fun d' c2 r3 => Res.back r3 s1 fun b c3 r4 F2 H2 s2 => r4 F2 H2 (s1.trans s2))⟩
  | true =>
    obtain ⟨k', e2, r3⟩ := Res.opt (o := truD d) r2
    rw [e1] at e2; cases e2
    exact r3 F1 H1 s1
theorem pw_pt {x : Expr} {t : TT} (h : PW X x t) : PT X x t := ⟨fun pins s σ H Q I q => h.run _ pins s σ H Q I q⟩
theorem s_ite {ec ea eb : E} {c a b : Expr} {pos : Pos} (hc : PT X c (tT g X.K W (evT call ec))) (ha : PE X a (tE g X.K W (evE call ea))) (hb : PE X b (tE g X.K W (evE call eb))) : PE X (.IfExp c a b pos) (tE g X.K W (evE call (.ite ec ea eb))) := (pe_ifExp hc ha hb).imp fun σ H Q q => by
  obtain ⟨F, ρ, c, gs, r⟩ := q
  refine ⟨F, ρ, c, gs, (Res.bind r).imp fun k c1 r1 F1 H1 s1 => ?_⟩
  cases k with
  | true => exact ⟨F1, ρ, c1, gs.step s1, (Res.back r1 s1 fun _ _ z => z).imp fun d' c2 r3 w F2 H2 s2 rp => r3 w F2 H2 (s1.trans s2) rp⟩
  | false => exact ⟨F1, ρ, c1, gs.step s1, (Res.back r1 s1 fun _ _ z => z).imp fun d' c2 r3 w F2 H2 s2 rp => r3 w F2 H2 (s1.trans s2) rp⟩

/-! several -/
theorem s_nil : PA X [] (tA g X.K W (evEs call .nil)) := pa_nil.imp fun σ H Q q => by
  obtain ⟨F, ρ, c, gs, r⟩ := q
  exact r [] F H gs.refl .nil
theorem RpAll.step {F H F' H' : Hp} {c : Cup} {vs : List V} {ds : List D} (h : RpAll g.ca g.fa F vs ds) (s : Step g.ca g.T F H c F' H') : RpAll g.ca g.fa F' vs ds := h.mono s.ff
theorem s_cons {e : E} {es : Es} {x : Expr} {xs : List Expr} (hs : notStar x = true) (hx : PE X x (tE g X.K W (evE call e))) (hr : PA X xs (tA g X.K W (evEs call es))) : PA X (x :: xs) (tA g X.K W (evEs call (.cons e es))) := (pa_cons hx hr (star_cons hs)).imp fun σ H Q q => by
  obtain ⟨F, ρ, c, gs, r⟩ := q
  refine ⟨F, ρ, c, gs, (Res.bind r).imp fun d c1 r1 v F1 H1 s1 l1 => ?_⟩
  refine ⟨F1, ρ, c1, gs.step s1, (Res.bind (Res.back r1 s1 fun _ _ z => z)).imp fun ds c2 r2 vs F2 H2 s2 l2 => ?_⟩
  exact r2 _ F2 H2 (s1.trans s2) (.cons (l1.mono s2.ff) l2)
theorem s_lnil : PA X [] (tLs g X.K W (evLs call .nil)) := pa_nil.imp fun σ H Q q => by
  obtain ⟨F, ρ, c, gs, r⟩ := q
  exact r [] F H gs.refl .nil
theorem s_lcons {e : E} {es : Es} {x : Expr} {xs : List Expr} (hs : notStar x = true) (hx : PE X x (tL g X.K W (evL call e))) (hr : PA X xs (tLs g X.K W (evLs call es))) : PA X (x :: xs) (tLs g X.K W (evLs call (.cons e es))) := (pa_cons hx hr (star_cons hs)).imp fun σ H Q q => by
  obtain ⟨F, ρ, c, gs, r⟩ := q
  refine ⟨F, ρ, c, gs, (Res.bind r).imp fun d c1 r1 v F1 H1 s1 l1 => ?_⟩
  refine ⟨F1, ρ, c1, gs.step s1, (Res.bind (Res.back r1 s1 fun _ _ z => z)).imp fun ds c2 r2 vs F2 H2 s2 l2 => ?_⟩
  exact r2 _ F2 H2 (s1.trans s2) (.cons (l1.step s2) l2)
theorem s_tup {es : Es} {xs : List Expr} {pos : Pos} {k : Nat} (h : PA X xs (tA g X.K W (evEs call es))) : PE X (.Tuple xs k pos) (tE g X.K W (evE call (.tup es))) := (pe_tup h).imp fun σ H Q q => by
  obtain ⟨F, ρ, c, gs, r⟩ := q
  refine ⟨F, ρ, c, gs, (Res.bind r).imp fun ds c1 r1 vs F1 H1 s1 l1 => ?_⟩
  by_cases hl : ds.length ≤ sizeLine
  · rw [if_pos hl] at r1
    have hv : vs.length ≤ sizeLine := by rw [l1.length]; exact hl
    exact ⟨hv, fun p hp => r1 _ _ _ (s1.grow (.one s1.fh hp)) (.tup upd_same hv (l1.mono (Sub.upd (s1.fh.none hp))))⟩
  · rw [if_neg hl] at r1; exact r1.elim
theorem fresh_ca {F H : Hp} {ρ : En} {c : Cup} {σ : SV} (x : GS g F ρ c σ H) {p : Addr} (h : H p = none) : p ≠ g.ca := fun z => by rw [z, x.st.cup] at h; cases h
theorem s_none {F H F' H' : Hp} {c : Cup} (s : Step g.ca g.T F H c F' H') {p : Addr} (h : H' p = none) : H p = none := by
  cases q : H p with
  | none => rfl
  | some o =>
    obtain ⟨u, e⟩ := s.there q
    rw [h] at e; cases e
theorem o_lst {es : Es} {xs : List Expr} {pos : Pos} (h : PA X xs (tA g X.K W (evEs call es))) : PE X (.List xs pos) (tO g X.K W (evE call (.lst es))) := (pe_lst h).imp fun σ H Q q => by
  obtain ⟨F, ρ, c, gs, r⟩ := q
  refine ⟨F, ρ, c, gs, (Res.bind r).imp fun ds c1 r1 vs F1 H1 s1 l1 => ?_⟩
  by_cases hl : ds.length ≤ sizeLine
  · rw [if_pos hl] at r1
    have hv : vs.length ≤ sizeLine := by rw [l1.length]; exact hl
    exact ⟨hv, fun p hp => r1 p F1 _ (s1.grow (.heap s1.fh (Sub.upd hp))) (s_none s1 hp) (s1.fh.none hp) (fresh_ca (gs.step s1) hp) (.lst upd_same hv l1)⟩
  · rw [if_neg hl] at r1; exact r1.elim
theorem o_dct {t : Bool} {pos : Pos} : PE X (.Dict [] [] pos) (tO g X.K W (evE call (.dct t))) := by
  cases t with
  | true =>
    refine pe_dnewT.imp fun σ H Q q p hp => ?_
    obtain ⟨F, ρ, c, gs, r⟩ := q
    exact r p F _ (gs.grow (.heap gs.fh (Sub.upd hp))) hp (gs.fh.none hp) (fresh_ca gs hp) (.dT upd_same .nil)
  | false =>
    refine pe_dnewK.imp fun σ H Q q p hp => ?_
    obtain ⟨F, ρ, c, gs, r⟩ := q
    exact r p F _ (gs.grow (.heap gs.fh (Sub.upd hp))) hp (gs.fh.none hp) (fresh_ca gs hp) (.dK upd_same .nil)
theorem plainIx {b : Expr} (h : notSlice b = true) : PlainIx b := by
  intro o i
  cases b <;> first | rfl | exact Bool.noConfusion h
theorem s_idx {ea eb : E} {a b : Expr} {pos : Pos} (h : COk C g n call W X) (hn : notSlice b = true) (ha : PE X a (tL g X.K W (evL call ea))) (hb : PE X b (tL g X.K W (evL call eb))) : PE X (.Subscript a b pos) (tE g X.K W (evE call (.idx ea eb))) :=
  (pe_idx (units1 h) ha hb (plainIx hn)).imp fun _ _ _ q => t_bin q
theorem s_rev {ea : E} {a r : Expr} {pos : Pos} (hr : isRev r = true) (ha : PE X a (tL g X.K W (evL call ea))) : ∃ k p1 p2 p3, r = .Slice none none (some (.UnaryOp .USub (.Constant (.int 1) k p1) p2)) p3 := by
  unfold isRev at hr
  split at hr
  · rename_i x p2 p3
    unfold isOne at hr
    split at hr
    · rename_i j k p1
      have := of_decide_eq_true hr
      subst this
      exact ⟨_, _, _, _, rfl⟩
    · cases hr
  · cases hr
/-- a part of a slice -/
def tOn (g : Gd) (K : PySem.W.Frag) (W : WX) (f : En → M (Option Int)) : TO := fun σ H Q => ∃ F ρ c, GS g F ρ c σ H ∧ Res g K W F σ H (f ρ c) fun o c' => ∀ F' H', Step g.ca g.T F H c' F' H' → Q o H'
theorem s_o0 : PO X none (tOn g X.K W (evO call .nil)) := ⟨fun pins s σ H Q I q => by
  obtain ⟨F, ρ, c, gs, r⟩ := q
  exact po_none.run pins s σ H Q I (r F H gs.refl)⟩
theorem s_o1 {e : E} {x : Expr} (h : PE X x (tE g X.K W (evE call e))) : PO X (some x) (tOn g X.K W (evO call (.cons e .nil))) := ⟨fun pins s σ H Q I q => by
  refine (po_some h).run pins s σ H Q I ?_
  obtain ⟨F, ρ, c, gs, r⟩ := q
  refine ⟨F, ρ, c, gs, (Res.bind r).imp fun d c1 r1 v F1 H1 s1 l1 => ?_⟩
  obtain ⟨z, e1, r2⟩ := Res.opt r1
  cases d with
  | int i => cases e1; cases l1; exact ⟨i, rfl, r2 F1 H1 s1⟩
  | _ => cases e1⟩
theorem s_slc {ea : E} {lo hi : Es} {a : Expr} {l u : Option Expr} {pos p2 : Pos} (ha : PE X a (tL g X.K W (evL call ea))) (hl : PO X l (tOn g X.K W (evO call lo))) (hu : PO X u (tOn g X.K W (evO call hi))) :
    PE X (.Subscript a (.Slice l u none p2) pos) (tE g X.K W (evE call (.slc ea lo hi))) := (pe_slice (sl_any (ca := g.ca) (fa := g.fa)) ha hl hu).imp fun σ H Q q => by
  obtain ⟨F, ρ, c, gs, r⟩ := q
  refine ⟨F, ρ, c, gs, (Res.bind r).imp fun d c1 r1 v F1 H1 s1 l1 => ?_⟩
  refine ⟨F1, ρ, c1, gs.step s1, (Res.bind (Res.back r1 s1 fun _ _ z => z)).imp fun ol c2 r2 F2 H2 s2 => ?_⟩
  refine ⟨F2, ρ, c2, (gs.step s1).step s2, (Res.bind (Res.back r2 s2 fun _ _ z => z)).imp fun oh c3 r3 F3 H3 s3 => ?_⟩
  obtain ⟨d', e, r4⟩ := Res.opt r3
  exact ⟨F3, _, d', s3.fh, (l1.step s2).step s3, e, fun u F4 H4 w4 rp => r4 u F4 H4 (((s1.trans s2).trans s3).grow w4) rp⟩
/-- the cup's parts -/
theorem s_cupi {i : Nat} {k : Bool} {x : Str} {j : Int} {p1 p2 pos : Pos} {m : Nat} (hb : nmB X.N X.env.scope i x = true) (hj : j = if k then 1 else 0) : PE X (.Subscript (.Name x p1) (.Constant (.int j) m p2) pos) (tE g X.K W (evE call (.cupi i k))) := by
  have hp : PlainIx (.Constant (.int j) m p2) := fun _ _ => rfl
  refine (pe_ix ix_list (e_var hb) pe_int hp).imp fun σ H Q q => ?_
  obtain ⟨F, ρ, c, gs, r⟩ := q
  have r : Res g X.K W F σ H ((if isCup ρ[i]? then getCup k else M.err) c) _ := r
  by_cases hc : isCup ρ[i]? = true
  · rw [if_pos hc] at r
    obtain ⟨o, h1, v, h2, h3⟩ := gs.sl i _ (isCup_of hc)
    rw [h2] at h1
    refine ⟨v, h1, ?_⟩
    have hv : v = .ref g.ca := by cases h3; rfl
    subst hv
    refine ⟨g.ca, [.int c.1, .int c.2], j, .int (if k then c.2 else c.1), rfl, rfl, SqL.of gs.st.cup, ?_, ?_⟩
    · subst hj; cases k <;> rfl
    · exact r _ F H gs.refl (.int _)
  · rw [if_neg hc] at r; exact r.elim
end
end FS

-- part FsSnd3
set_option Elab.async false
set_option linter.all false
set_option maxRecDepth 100000
set_option maxHeartbeats 4000000
/-! That the model's expressions do what the evaluator says: calls, built-ins, methods. -/
namespace FS
open PySem PySem.Spec PyProof.Rows L2

section
variable {C : Tx} {g : Gd} {n : Nat} {call : Nat → List D → M D} {W : WX} {X : Cx}
theorem RpAll.reverse {ca : Addr} {fa : Nat → Addr} {F : Hp} : ∀ {vs : List V} {ds : List D}, RpAll ca fa F vs ds → RpAll ca fa F vs.reverse ds.reverse
  | _, _, .nil => .nil
  | _, _, .cons r t => by
    rw [List.reverse_cons, List.reverse_cons]
    exact RpAll.snoc (RpAll.reverse t) r
theorem e_rev {ea : E} {a r : Expr} {pos : Pos} (hr : isRev r = true) (ha : PE X a (tL g X.K W (evL call ea))) : PE X (.Subscript a r pos) (tE g X.K W (evE call (.rev ea))) := by
  obtain ⟨k, p1, p2, p3, rfl⟩ := s_rev hr ha (pos := pos)
  refine (pe_revL ha).imp fun σ H Q q => ?_
  obtain ⟨F, ρ, c, gs, r⟩ := q
  refine ⟨F, ρ, c, gs, (Res.bind r).imp fun d c1 r1 v F1 H1 s1 l1 => ?_⟩
  cases d with
  | list xs =>
    obtain ⟨a, vs, rfl, h1, h2, h3⟩ := lp_lst s1.fh l1
    exact ⟨a, vs, rfl, SqL.of h1, fun p hp => r1 _ _ _ (s1.grow (.one s1.fh hp)) (.lst upd_same (by rw [List.length_reverse]; exact h2) (h3.reverse.mono (Sub.upd (s1.fh.none hp))))⟩
  | _ => exact r1.elim

/-! names of the module -/
theorem gl_of {sc : Scope} {x : Str} (h : glB sc x = true) : sc.names.lookup x = some .globalImplicit := of_decide_eq_true h
theorem gl_is {x : Str} (h : glB X.env.scope x = true) : Gl X x := by
  have := gl_of h
  unfold Gl
  exact this
theorem plN_db {x : Str} (h : plN x = true) : (x == ("__debug__" : Str)) = false := by
  unfold plN at h
  simp only [Bool.and_eq_true, Bool.not_eq_true'] at h
  exact h.1.1.1
theorem s_fnv {i : Nat} {x : Str} {pos : Pos} (h : COk C g n call W X) (hi : C.fn[i]? = some x) (hg : glB X.env.scope x = true) (hp : plN x = true) : PE X (.Name x pos) (tE g X.K W (evE call (.fnv i))) := by
  obtain ⟨fd, ps, h1, h2, h3, h4⟩ := h.fns i x hi
  exact e_val (pe_glob (v := .ref (g.fa i)) (gl_is hg) h1 rfl (plN_db hp)) fun F => .fn i
theorem same_eq {a b : D} (h : sameC a b = true) : a = b := by
  unfold sameC at h
  split at h
  · rw [of_decide_eq_true h]
  · rw [of_decide_eq_true h]
  · cases h
theorem s_gc {x : Str} {d : D} {pos : Pos} (h : COk C g n call W X) (hg : glB X.env.scope x = true) (hp : plN x = true) (hc : constB d = true) (hm : (C.gl.any fun p => decide (p.1 = x) && sameC p.2 d) = true) : PE X (.Name x pos) (tE g X.K W (evE call (.gc x d))) := by
  rw [List.any_eq_true] at hm
  obtain ⟨⟨y, d'⟩, hp1, hp2⟩ := hm
  rw [Bool.and_eq_true] at hp2
  have e1 : y = x := of_decide_eq_true hp2.1
  subst e1
  have e2 : d' = d := same_eq hp2.2
  subst e2
  obtain ⟨u, h1, h2⟩ := h.gl _ hp1
  cases d' with
  | int i =>
    obtain ⟨t, rfl⟩ := h2
    exact e_val (pe_glob (v := .int i) (gl_is hg) h1 ⟨t, rfl⟩ (plN_db hp)) fun F => .int i
  | str z =>
    obtain ⟨t, rfl⟩ := h2
    exact e_val (pe_glob (v := .str z) (gl_is hg) h1 ⟨t, rfl⟩ (plN_db hp)) fun F => .str z hc
  | _ => cases hc
theorem s_int {i j : Int} {k : Nat} {pos : Pos} (h : i = j) : PE X (.Constant (.int j) k pos) (tE g X.K W (evE call (.int i))) := by subst h; exact e_val pe_int fun _ => .int _
theorem s_str {i j : Str} {k : Nat} {pos : Pos} (h : i = j) (hg : strG i = true) : PE X (.Constant (.str j) k pos) (tE g X.K W (evE call (.str i))) := by subst h; exact e_val pe_str fun _ => .str _ hg
theorem s_bl {i j : Bool} {k : Nat} {pos : Pos} (h : i = j) : PE X (.Constant (.bool j) k pos) (tE g X.K W (evE call (.bl i))) := by subst h; exact e_val pe_bl fun _ => .bl _
theorem s_non {k : Nat} {pos : Pos} : PE X (.Constant .none k pos) (tE g X.K W (evE call .non)) := e_val pe_non fun _ => .non

/-! calls -/
theorem run_call {i : Nat} {es : Es} {σ : SV} {H : Hp} {Q : VK} (q : tE g X.K W (evE call (.call i es)) σ H Q) : tCallSD (spF g.ca g.fa g.T X.K call i) [] (WE W) (tA g X.K W (evEs call es)) σ H Q := by
  obtain ⟨F, ρ, c, gs, r⟩ := q
  refine ⟨F, ρ, c, gs, (Res.bind r).imp fun ds c1 r1 vs F1 H1 s1 l1 => ?_⟩
  have gs1 := gs.step s1
  refine ⟨F1, ds, c1, gs1.refl, gs1.fca, by rw [List.append_nil]; exact l1, ?_⟩
  cases e : call i ds c1 with
  | ok d c' =>
    rw [e] at r1
    exact fun v F' H' s rp => r1 v F' H' (s1.trans s) rp
  | exc x c' =>
    rw [e] at r1
    exact fun cls dx F' H' s xr => r1 cls dx F' H' (s1.trans s) xr
  | err => rw [e] at r1; exact r1
theorem s_call {i : Nat} {es : Es} {x : Str} {p pos : Pos} {y : Expr} {xs : List Expr} (h : COk C g n call W X) (hi : C.fn[i]? = some x) (hg : glB X.env.scope x = true) (hp : plN x = true) (hs : (y :: xs).all notStar = true)
    (ha : PA X (y :: xs) (tA g X.K W (evEs call es))) : PE X (.Call (.Name x p) (y :: xs) [] pos) (tE g X.K W (evE call (.call i es))) := by
  obtain ⟨fd, ps, h1, h2, h3, h4⟩ := h.fns i x hi
  rw [List.all_cons, Bool.and_eq_true] at hs
  exact (pe_callSD h3 h.room (gl_is hg) h1 h2 h4 .nil (passAt h.tk) ha (plN_db hp) (star_cons hs.1) (star_any hs.2)).imp fun σ H Q q => run_call q
/-- f(), under a postcondition of the slots -/
theorem pe_callS0 {CX : CXT} {k : Nat} {f : Addr} {fd : FuncData} {ps : List Str} {sp : Sp} {dvs : List V} {ds : List Value} {E : L2.St → XK} {x : Str} {p pos : Pos} (Fn : FnOk X.prog X.w X.K X.mg X.base CX k f fd ps sp) (hr : Room k X.A) (hg : Gl X x)
    (hm : X.mg x = some (.ref f)) (hk : PySem.W.keepIn X.K (.ref f) = true) (hb : L2.Binds X.K fd ps ds) (hd : Vals dvs ds) (hx : ∀ σ, PassesAt CX X σ (E σ)) (hdb : (x == ("__debug__" : Str)) = false) : PE X (.Call (.Name x p) [] [] pos) (tCallSD sp dvs E tNil) :=
  ⟨fun pins s σ H Q I h => wpAny_Call_Name_kw (ld_glob I hg hm (PySem.W.callWith_K0 I.kIn hk (run_fnSD (us := []) Fn hr hb hd (hx σ) I .nil h)) hdb)⟩
theorem s_call0 {i : Nat} {x : Str} {p pos : Pos} (h : COk C g n call W X) (hi : C.fn[i]? = some x) (hg : glB X.env.scope x = true) (hp : plN x = true) : PE X (.Call (.Name x p) [] [] pos) (tE g X.K W (evE call (.call i .nil))) := by
  obtain ⟨fd, ps, h1, h2, h3, h4⟩ := h.fns i x hi
  refine (pe_callS0 h3 h.room (gl_is hg) h1 h2 h4 .nil (passAt h.tk) (plN_db hp)).imp fun σ H Q q => ?_
  obtain ⟨F, ρ, c, gs, k⟩ := run_call q
  exact k [] F H gs.refl .nil

/-! built-ins -/
theorem t_bi {b : BI} {es : Es} {σ : SV} {H : Hp} {Q : VK} (q : tE g X.K W (evE call (.bi b es)) σ H Q) : tCB (rVs g.ca g.fa (biD b)) (tLs g X.K W (evLs call es)) σ H Q := by
  obtain ⟨F, ρ, c, gs, r⟩ := q
  refine ⟨F, ρ, c, gs, (Res.bind r).imp fun ds c1 r1 vs F1 H1 s1 l1 => ?_⟩
  obtain ⟨d, e, r2⟩ := Res.opt r1
  exact ⟨F1, ds, d, s1.fh, l1, e, fun u F2 H2 w2 rp => r2 u F2 H2 (s1.grow w2) rp⟩
theorem fr {x : Str} (h : COk C g n call W X) (hx : x ∈ bNames) : X.mg x = none := h.free x hx
theorem s_bi {b : BI} {es : Es} {x : Str} {p pos : Pos} {y : Expr} {xs : List Expr} (h : COk C g n call W X) (hx : x = biN b) (hg : glB X.env.scope x = true) (hs : (y :: xs).all notStar = true)
    (ha : PA X (y :: xs) (tLs g X.K W (evLs call es))) : PE X (.Call (.Name x p) (y :: xs) [] pos) (tE g X.K W (evE call (.bi b es))) := by
  subst hx
  rw [List.all_cons, Bool.and_eq_true] at hs
  have h1 := star_cons hs.1 (es := xs) (env := X.env)
  have h2 := star_any hs.2 (env := X.env) (pos := pos)
  have hm := gl_is hg
  cases b with
  | len => exact (pe_callB (c_len (ca := g.ca) (fa := g.fa)) hm (fr h (by decide)) rfl ha (by decide) (by decide) h1 h2).imp fun _ _ _ q => t_bi q
  | sum => exact (pe_callB (c_sum (ca := g.ca) (fa := g.fa) h.calm) hm (fr h (by decide)) rfl ha (by decide) (by decide) h1 h2).imp fun _ _ _ q => t_bi q
  | max => exact (pe_callB (c_max (ca := g.ca) (fa := g.fa) h.calm) hm (fr h (by decide)) rfl ha (by decide) (by decide) h1 h2).imp fun _ _ _ q => t_bi q
  | min => exact (pe_callB (c_min (ca := g.ca) (fa := g.fa) h.calm) hm (fr h (by decide)) rfl ha (by decide) (by decide) h1 h2).imp fun _ _ _ q => t_bi q
  | any => exact (pe_callB (c_any (ca := g.ca) (fa := g.fa) h.calm) hm (fr h (by decide)) rfl ha (by decide) (by decide) h1 h2).imp fun _ _ _ q => t_bi q
  | all => exact (pe_callB (c_all (ca := g.ca) (fa := g.fa) h.calm) hm (fr h (by decide)) rfl ha (by decide) (by decide) h1 h2).imp fun _ _ _ q => t_bi q
  | abs => exact (pe_callB (c_abs (ca := g.ca) (fa := g.fa)) hm (fr h (by decide)) rfl ha (by decide) (by decide) h1 h2).imp fun _ _ _ q => t_bi q
  | list => exact (pe_callTy (c_list (ca := g.ca) (fa := g.fa) h.calm) hm (fr h (by decide)) rfl ha (by decide) (by decide) h1 h2).imp fun _ _ _ q => t_bi q
  | tuple => exact (pe_callTy (c_tuple (ca := g.ca) (fa := g.fa)) hm (fr h (by decide)) rfl ha (by decide) (by decide) h1 h2).imp fun _ _ _ q => t_bi q
  | int => exact (pe_callTy (c_int (ca := g.ca) (fa := g.fa)) hm (fr h (by decide)) rfl ha (by decide) (by decide) h1 h2).imp fun _ _ _ q => t_bi q
  | str => exact (pe_callTy (c_str (ca := g.ca) (fa := g.fa)) hm (fr h (by decide)) rfl ha (by decide) (by decide) h1 h2).imp fun _ _ _ q => t_bi q
theorem isi_ty {T : String} {pos : Pos} (h : COk C g n call W X) (hT : T ∈ isiTs) (hg : glB X.env.scope (Str.ofString T) = true) : PE X (.Name (Str.ofString T) pos) (tC (.ty T)) := by
  have hm := gl_is hg
  have : T = "int" ∨ T = "bool" ∨ T = "str" ∨ T = "list" ∨ T = "tuple" := by simpa [isiTs] using hT
  rcases this with rfl | rfl | rfl | rfl | rfl
  · exact pe_bltn hm (fr h (by decide)) rfl rfl (by decide) (by decide)
  · exact pe_bltn hm (fr h (by decide)) rfl rfl (by decide) (by decide)
  · exact pe_bltn hm (fr h (by decide)) rfl rfl (by decide) (by decide)
  · exact pe_bltn hm (fr h (by decide)) rfl rfl (by decide) (by decide)
  · exact pe_bltn hm (fr h (by decide)) rfl rfl (by decide) (by decide)
theorem s_isi {T : String} {ea : E} {a : Expr} {x t : Str} {p p2 pos : Pos} (h : COk C g n call W X) (hx : x = "isinstance") (hg : glB X.env.scope x = true) (hgt : glB X.env.scope t = true) (hT : T ∈ isiTs) (ht : t = Str.ofString T) (hs : notStar a = true)
    (ha : PE X a (tL g X.K W (evL call ea))) : PE X (.Call (.Name x p) [a, .Name t p2] [] pos) (tE g X.K W (evE call (.isi T ea))) := by
  subst hx ht
  have hall : ([a, .Name (Str.ofString T) p2] : List Expr).all notStar = true := by rw [List.all_cons, hs]; rfl
  refine (pe_callB (c_isi (ca := g.ca) (fa := g.fa) hT) (gl_is hg) (fr h (by decide)) rfl (pa_cons ha (pa_cons (isi_ty h hT hgt) pa_nil (star_cons rfl)) (star_cons hs)) (by decide) (by decide) (star_cons hs) (star_any (es := [.Name (Str.ofString T) p2]) rfl)).imp fun σ H Q q => ?_
  obtain ⟨F, ρ, c, gs, r⟩ := q
  refine ⟨F, ρ, c, gs, (Res.bind r).imp fun d c1 r1 v F1 H1 s1 l1 => ?_⟩
  obtain ⟨z, e, r2⟩ := Res.opt r1
  exact ⟨v, rfl, F1, d, z, s1.fh, l1, e, fun u F2 H2 w2 rp => r2 u F2 H2 (s1.grow w2) rp⟩
theorem attr_base {o : Expr} {m : Str} {env : PySem.Env} (h : notCall0 o = true) : attributeBase o m env (eval o env) = eval o env := by
  unfold attributeBase
  split
  · cases h
  · rfl
theorem isD_of {F H : Hp} {v : V} {d : D} {k : Bool × List (D × D)} (fh : Sub F H) (l : Lp g.ca g.fa F H v d) (h : kindD d = some k) : ∃ a, v = .ref a ∧ IsD H a := by
  obtain ⟨t, kvs⟩ := k
  obtain rfl := kindD_ok h
  cases t with
  | false =>
    obtain ⟨a, kvs', rfl, e1, r1⟩ := lp_dK fh l
    exact ⟨a, rfl, .inl ⟨_, .inl e1⟩⟩
  | true =>
    obtain ⟨a, kvs', rfl, e1, r1⟩ := lp_dT fh l
    exact ⟨a, rfl, .inr ⟨_, .inl e1⟩⟩
theorem s_get2 {ea ek ed : E} {o x y : Expr} {m : Str} {ap cp : Pos} (h : COk C g n call W X) (hm : m = "get") (h0 : notCall0 o = true) (hl : (ap.endLine == cp.line) = true) (hs1 : notStar x = true) (hs2 : notStar y = true)
    (ho : PE X o (tL g X.K W (evL call ea))) (hx : PE X x (tL g X.K W (evL call ek))) (hy : PE X y (tE g X.K W (evE call ed))) : PE X (.Call (.Attribute o m ap) [x, y] [] cp) (tE g X.K W (evE call (.get2 ea ek ed))) := by
  subst hm
  have st : backTo cp (starEach [x, y] X.env) = [(false, eval x X.env), (false, eval y X.env)] := by
    rw [star_cons hs1, star_cons hs2]; rfl
  have m2 : M2 X o "get" ap x y cp := ⟨attr_base h0, by rw [st]; rfl, hl, st⟩
  refine (pe_dget2 (units1 h) ho hx hy m2).imp fun σ H Q q => ?_
  obtain ⟨F, ρ, c, gs, r⟩ := q
  refine ⟨F, ρ, c, gs, (Res.bind r).imp fun dx c1 r1 v F1 H1 s1 l1 => ?_⟩
  obtain ⟨kd, e1, r2⟩ := Res.opt (Res.bind r1)
  obtain ⟨a, rfl, isd⟩ := isD_of s1.fh l1 e1
  refine ⟨a, rfl, isd, F1, ρ, c1, gs.step s1, (Res.bind (Res.back r2 s1 fun _ _ z => z)).imp fun dy c2 r3 w F2 H2 s2 l2 => ?_⟩
  refine ⟨F2, ρ, c2, (gs.step s1).step s2, (Res.bind (Res.back r3 s2 fun _ _ z => z)).imp fun dz c3 r4 z F3 H3 s3 l3 => ?_⟩
  obtain ⟨d', e2, r5⟩ := Res.opt r4
  cases e3 : dgetD dx dy with
  | none => rw [e3] at e2; cases e2
  | some oo =>
    rw [e3] at e2; cases e2
    obtain ⟨a', w', ea', g', hw⟩ := dget_ok s3.fh ((l1.step s2).step s3) (l2.step s3) e3
    cases ea'
    refine ⟨w', g', r5 _ F3 H3 ((s1.trans s2).trans s3) ?_⟩
    cases oo with
    | none =>
      cases w' with
      | none => exact l3
      | some _ => exact hw.elim
    | some dd =>
      obtain ⟨z', rfl, rz⟩ := hw.some_of
      exact rz

/-! ranges made lists, tuples -/
theorem rg_rel {ca : Addr} {fa : Nat → Addr} {F : Hp} (a b : Int) : RpAll ca fa F (rgV a b) ((List.range (b - a).toNat).map fun i => .int (a + (i : Nat))) := by
  unfold rgV
  induction (List.range (b - a).toNat) with
  | nil => exact .nil
  | cons i l ih => exact .cons (.int _) ih
theorem rng_ok {F H : Hp} {vs : List V} {ds xs : List D} (l : LpAll g.ca g.fa F H vs ds) (e : rngD ds = some xs) : (∃ n : Int, vs = [.int n] ∧ RgOk 0 n ∧ xs = (List.range (n - 0).toNat).map (fun i => .int (0 + (i : Nat))))
    ∨ ∃ a b : Int, vs = [.int a, .int b] ∧ RgOk a b ∧ xs = (List.range (b - a).toNat).map (fun i => .int (a + (i : Nat))) := by
  unfold rngD at e
  split at e
  · rename_i n
    split at e
    · rename_i hn
      cases e
      obtain ⟨v, rfl, l1⟩ := lp_all1 l
      cases lp_int l1
      exact .inl ⟨n, rfl, ⟨by omega, by omega, by omega, by omega, by omega⟩, by rw [Int.sub_zero]⟩
    · cases e
  · rename_i a b
    split at e
    · rename_i hn
      cases e
      obtain ⟨v, w, rfl, l1, l2⟩ := lp_all2 l
      cases lp_int l1; cases lp_int l2
      exact .inr ⟨a, b, rfl, hn, rfl⟩
    · cases e
  · cases e
end
end FS

-- part FsSnd4
set_option Elab.async false
set_option linter.all false
set_option maxRecDepth 100000
set_option maxHeartbeats 4000000
/-! What a loop or a comprehension walks. -/
namespace FS
open PySem PySem.Spec PyProof.Rows L2

/-- what may happen between two looks at what is walked -/
structure RelOk (ca : Addr) (T : List (Addr × Str)) (rel : Hp → Hp → Hp → Hp → Prop) : Prop where
  step : ∀ {F1 H1 F2 H2 F3 H3 c}, Step ca T F1 H1 c F2 H2 → rel F2 H2 F3 H3 → rel F1 H1 F3 H3
  fh : ∀ {F1 H1 F2 H2}, rel F1 H1 F2 H2 → Sub F2 H2
def relT (ca : Addr) (T : List (Addr × Str)) : Hp → Hp → Hp → Hp → Prop := fun F H F' H' => ∃ c, Step ca T F H c F' H'
def relF : Hp → Hp → Hp → Hp → Prop := fun F _ F' H' => Sub F F' ∧ Sub F' H'
theorem relT_ok (ca : Addr) (T : List (Addr × Str)) : RelOk ca T (relT ca T) := ⟨fun s ⟨c, q⟩ => ⟨c, s.trans q⟩, fun ⟨c, q⟩ => q.fh⟩
theorem relF_ok (ca : Addr) (T : List (Addr × Str)) : RelOk ca T relF := ⟨fun s ⟨q, r⟩ => ⟨s.ff.trans q, r⟩, fun q => q.2⟩
/-- an iterator goes through data, at whatever comes -/
def Wk (ca : Addr) (fa : Nat → Addr) (R : Hp → Hp → Prop) (J : L2.It) (ds : List D) : Prop := ∀ F H, R F H →
  (∀ (i : Nat) d, ds[i]? = some d → J.go i H ∧ ∀ x H2, J.yld i H x H2 → ∃ F2, Grow F H F2 H2 ∧ Rp ca fa F2 x d) ∧ J.stop ds.length H
section
variable (g : Gd) (K : PySem.W.Frag) (W : WX) (rel : Hp → Hp → Hp → Hp → Prop)
/-- a value, as it stands whenever it is looked at -/
def tV (f : En → M D) : TE := fun σ H Q => ∃ F ρ c, GS g F ρ c σ H ∧ Res g K W F σ H (f ρ c) fun d c' => ∀ v F' H', Step g.ca g.T F H c' F' H' → (∀ F2 H2, rel F' H' F2 H2 → Lp g.ca g.fa F2 H2 v d) → Lp g.ca g.fa F' H' v d → Q v H'
def tI (f : En → M (List D)) : TI := fun σ H R => ∃ F ρ c, GS g F ρ c σ H ∧ Res g K W F σ H (f ρ c) fun ds c' => ∀ J F' H', Step g.ca g.T F H c' F' H' → Wk g.ca g.fa (rel F' H') J ds → ds.length ≤ sizeLine → R J H'
end
section
variable {C : Tx} {g : Gd} {n : Nat} {call : Nat → List D → M D} {W : WX} {X : Cx} {rel : Hp → Hp → Hp → Hp → Prop}
theorem tL_tV {f : En → M D} {x : Expr} (h : PE X x (tL g X.K W f)) : PE X x (tV g X.K W (relT g.ca g.T) f) := h.imp fun σ H Q q => by
  obtain ⟨F, ρ, c, gs, r⟩ := q
  exact ⟨F, ρ, c, gs, r.imp fun d c1 k v F1 H1 s1 l1 => k v F1 H1 s1 (fun F2 H2 ⟨c2, s2⟩ => l1.step s2) l1⟩
theorem tE_tV {f : En → M D} {x : Expr} (h : PE X x (tE g X.K W f)) : PE X x (tV g X.K W relF f) := h.imp fun σ H Q q => by
  obtain ⟨F, ρ, c, gs, r⟩ := q
  exact ⟨F, ρ, c, gs, r.imp fun d c1 k v F1 H1 s1 l1 => k v F1 H1 s1 (fun F2 H2 s2 => .rp (l1.mono s2.1)) (.rp l1)⟩
theorem PI_or {tg x : Expr} {w1 w2 : TI} (a : PI X tg x w1) (b : PI X tg x w2) : PI X tg x (fun σ H R => w1 σ H R ∨ w2 σ H R) := ⟨fun pins s σ H R I h => by
  rcases h with h | h
  · exact a.run pins s σ H R I h
  · exact b.run pins s σ H R I h⟩
theorem PI_imp {tg x : Expr} {w w' : TI} (a : PI X tg x w) (i : ∀ σ H R, w' σ H R → w σ H R) : PI X tg x w' := ⟨fun pins s σ H R I h => a.run pins s σ H R I (i σ H R h)⟩
theorem get_lt {α : Type} {xs : List α} {i : Nat} {a : α} (h : xs[i]? = some a) : i < xs.length := (List.getElem?_eq_some_iff.mp h).1

/-- the walks -/
theorem wk_list {ca : Addr} {fa : Nat → Addr} {K : PySem.W.Frag} {R : Hp → Hp → Prop} {v : V} {xs : List D} {a : Addr} (hR : ∀ F H, R F H → Sub F H) (h : ∀ F H, R F H → Lp ca fa F H (.ref a) (.list xs)) : Wk ca fa R (Itl K a) xs := by
  intro F H r
  obtain ⟨a', vs, ea, h1, h2, h3⟩ := lp_lst (hR F H r) (h F H r)
  cases ea
  refine ⟨fun i d e => ?_, ⟨vs, SqL.of h1, Nat.le_of_eq h3.length⟩⟩
  obtain ⟨v, e1, e2⟩ := h3.get e
  refine ⟨⟨vs, v, SqL.of h1, e1⟩, fun x H2 hy => ?_⟩
  obtain ⟨rfl, hy⟩ := hy
  have := hy vs (SqL.of h1)
  rw [e1] at this; cases this
  exact ⟨F, Grow.refl (hR F _ r), e2⟩
theorem wk_tup {ca : Addr} {fa : Nat → Addr} {K : PySem.W.Frag} {R : Hp → Hp → Prop} {v : V} {xs : List D} {a : Addr} (hR : ∀ F H, R F H → Sub F H) (h : ∀ F H, R F H → Lp ca fa F H (.ref a) (.tuple xs)) : Wk ca fa R (Itt K a) xs := by
  intro F H r
  obtain ⟨a', vs, ea, h1, h2, h3⟩ := lp_tup (h F H r)
  cases ea
  have h1' := hR F H r _ _ h1
  refine ⟨fun i d e => ?_, ⟨vs, SqT.of h1', Nat.le_of_eq h3.length⟩⟩
  obtain ⟨v, e1, e2⟩ := h3.get e
  refine ⟨⟨vs, v, SqT.of h1', e1⟩, fun x H2 hy => ?_⟩
  obtain ⟨rfl, hy⟩ := hy
  have := hy vs (SqT.of h1')
  rw [e1] at this; cases this
  exact ⟨F, Grow.refl (hR F _ r), e2⟩
theorem wk_str {ca : Addr} {fa : Nat → Addr} {R : Hp → Hp → Prop} {x : Str} (hR : ∀ F H, R F H → Sub F H) (hg : strG x = true) : Wk ca fa R (Its x) (x.cps.toList.map fun c => .str ⟨#[c]⟩) := by
  intro F H r
  refine ⟨fun i d e => ?_, ?_⟩
  · rw [List.getElem?_map] at e
    cases e1 : x.cps.toList[i]? with
    | none => rw [e1] at e; cases e
    | some c =>
      rw [e1] at e; cases e
      have hl := get_lt e1
      rw [Array.length_toList] at hl
      refine ⟨hl, fun y H2 hy => ?_⟩
      obtain ⟨rfl, c', h1, rfl⟩ := hy
      have : x.cps.toList[i]? = some c' := by rw [Array.getElem?_toList]; exact h1
      rw [e1] at this; cases this
      exact ⟨F, Grow.refl (hR F _ r), .str _ (one_strG hg (List.mem_of_getElem? e1))⟩
  · show x.cps.size ≤ (x.cps.toList.map _).length
    rw [List.length_map, Array.length_toList]
    exact Nat.le_refl _
theorem wk_rng {ca : Addr} {fa : Nat → Addr} {R : Hp → Hp → Prop} {a : Int} {m : Nat} (hR : ∀ F H, R F H → Sub F H) : Wk ca fa R (Itr a m) ((List.range m).map fun i => .int (a + (i : Nat))) := by
  intro F H r
  refine ⟨fun i d e => ?_, ?_⟩
  · rw [List.getElem?_map] at e
    by_cases hi : i < m
    · rw [List.getElem?_range hi] at e
      cases e
      refine ⟨hi, fun y H2 hy => ?_⟩
      obtain ⟨rfl, rfl⟩ := hy
      exact ⟨F, Grow.refl (hR F _ r), .int _⟩
    · rw [List.getElem?_eq_none (by rw [List.length_range]; omega)] at e
      cases e
  · show m ≤ ((List.range m).map _).length
    rw [List.length_map, List.length_range]
    exact Nat.le_refl _
theorem zip_get {α β : Type} {xs : List α} {ys : List β} {i : Nat} {p : α × β} (h : (xs.zip ys)[i]? = some p) : xs[i]? = some p.1 ∧ ys[i]? = some p.2 := by
  rw [List.getElem?_zip_eq_some] at h
  exact h
theorem wk_enum {ca : Addr} {fa : Nat → Addr} {K : PySem.W.Frag} {R : Hp → Hp → Prop} {xs : List D} {a : Addr} (hR : ∀ F H, R F H → Sub F H) (h : ∀ F H, R F H → Lp ca fa F H (.ref a) (.list xs)) :
    Wk ca fa R (Ite K a) ((List.range xs.length).zip xs |>.map fun p => .tuple [.int (p.1 : Nat), p.2]) := by
  intro F H r
  obtain ⟨a', vs, ea, h1, h2, h3⟩ := lp_lst (hR F H r) (h F H r)
  cases ea
  refine ⟨fun i d e => ?_, ⟨vs, SqL.of h1, ?_⟩⟩
  · rw [List.getElem?_map] at e
    cases e1 : ((List.range xs.length).zip xs)[i]? with
    | none => rw [e1] at e; cases e
    | some p =>
      rw [e1] at e; cases e
      obtain ⟨p1, p2⟩ := zip_get e1
      have hi := get_lt p2
      rw [List.getElem?_range hi] at p1
      cases p1
      obtain ⟨v, q1, q2⟩ := h3.get p2
      refine ⟨⟨vs, v, SqL.of h1, q1⟩, fun x H2 hy => ?_⟩
      obtain ⟨T, x', rfl, hT, rfl, hy⟩ := hy
      have := hy vs (SqL.of h1)
      rw [q1] at this; cases this
      have fh := hR F _ r
      refine ⟨_, Grow.one fh hT, .tup upd_same (show 2 ≤ sizeLine by decide) (.cons (.int _) (.cons (q2.mono (Sub.upd (fh.none hT))) .nil))⟩
  · rw [List.length_map, List.length_zip, List.length_range, Nat.min_self, h3.length]
    exact Nat.le_refl _
theorem wk_zipL {ca : Addr} {fa : Nat → Addr} {K : PySem.W.Frag} {R : Hp → Hp → Prop} {xs ys : List D} {a b : Addr} (hR : ∀ F H, R F H → Sub F H) (h : ∀ F H, R F H → Lp ca fa F H (.ref a) (.list xs)) (h' : ∀ F H, R F H → Lp ca fa F H (.ref b) (.list ys)) :
    Wk ca fa R (Itz K a b) ((xs.zip ys).map fun p => .tuple [p.1, p.2]) := by
  intro F H r
  obtain ⟨a', vs, ea, h1, h2, h3⟩ := lp_lst (hR F H r) (h F H r)
  cases ea
  obtain ⟨b', ws, eb, k1, k2, k3⟩ := lp_lst (hR F H r) (h' F H r)
  cases eb
  refine ⟨fun i d e => ?_, ⟨vs, ws, SqL.of h1, SqL.of k1, ?_⟩⟩
  · rw [List.getElem?_map] at e
    cases e1 : (xs.zip ys)[i]? with
    | none => rw [e1] at e; cases e
    | some p =>
      rw [e1] at e; cases e
      obtain ⟨p1, p2⟩ := zip_get e1
      obtain ⟨v, q1, q2⟩ := h3.get p1
      obtain ⟨w, t1, t2⟩ := k3.get p2
      refine ⟨⟨vs, ws, v, w, SqL.of h1, SqL.of k1, q1, t1⟩, fun x H2 hy => ?_⟩
      obtain ⟨T, x', y', rfl, hT, rfl, hy, hz⟩ := hy
      have := hy vs (SqL.of h1)
      rw [q1] at this; cases this
      have := hz ws (SqL.of k1)
      rw [t1] at this; cases this
      have fh := hR F _ r
      refine ⟨_, Grow.one fh hT, .tup upd_same (show 2 ≤ sizeLine by decide) (.cons (q2.mono (Sub.upd (fh.none hT))) (.cons (t2.mono (Sub.upd (fh.none hT))) .nil))⟩
  · rw [List.length_map, List.length_zip, h3.length, k3.length]
    omega
theorem wk_zipT {ca : Addr} {fa : Nat → Addr} {K : PySem.W.Frag} {R : Hp → Hp → Prop} {xs ys : List D} {a b : Addr} (hR : ∀ F H, R F H → Sub F H) (h : ∀ F H, R F H → Lp ca fa F H (.ref a) (.tuple xs)) (h' : ∀ F H, R F H → Lp ca fa F H (.ref b) (.tuple ys)) :
    Wk ca fa R (RZ.ItzT K a b) ((xs.zip ys).map fun p => .tuple [p.1, p.2]) := by
  intro F H r
  obtain ⟨a', vs, ea, h1, h2, h3⟩ := lp_tup (h F H r)
  cases ea
  obtain ⟨b', ws, eb, k1, k2, k3⟩ := lp_tup (h' F H r)
  cases eb
  have fh := hR F _ r
  have h1' := fh _ _ h1
  have k1' := fh _ _ k1
  refine ⟨fun i d e => ?_, ⟨vs, ws, SqT.of h1', SqT.of k1', ?_⟩⟩
  · rw [List.getElem?_map] at e
    cases e1 : (xs.zip ys)[i]? with
    | none => rw [e1] at e; cases e
    | some p =>
      rw [e1] at e; cases e
      obtain ⟨p1, p2⟩ := zip_get e1
      obtain ⟨v, q1, q2⟩ := h3.get p1
      obtain ⟨w, t1, t2⟩ := k3.get p2
      refine ⟨⟨vs, ws, v, w, SqT.of h1', SqT.of k1', q1, t1⟩, fun x H2 hy => ?_⟩
      obtain ⟨T, x', y', rfl, hT, rfl, hy, hz⟩ := hy
      have := hy vs (SqT.of h1')
      rw [q1] at this; cases this
      have := hz ws (SqT.of k1')
      rw [t1] at this; cases this
      refine ⟨_, Grow.one fh hT, .tup upd_same (show 2 ≤ sizeLine by decide) (.cons (q2.mono (Sub.upd (fh.none hT))) (.cons (t2.mono (Sub.upd (fh.none hT))) .nil))⟩
  · rw [List.length_map, List.length_zip, h3.length, k3.length]
    omega
theorem lp_len {F H : Hp} {ca : Addr} {fa : Nat → Addr} {v : V} {xs : List D} (l : Lp ca fa F H v (.list xs)) : xs.length ≤ sizeLine := by
  cases l with
  | rp r => cases r with
    | lst e l q => rw [← q.length]; exact l
  | ow n o => cases o with
    | lst e l q => rw [← q.length]; exact l
theorem lp_lenT {F H : Hp} {ca : Addr} {fa : Nat → Addr} {v : V} {xs : List D} (l : Lp ca fa F H v (.tuple xs)) : xs.length ≤ sizeLine := by
  cases l with
  | rp r => cases r with
    | tup e l q => rw [← q.length]; exact l
  | ow n o => cases o
theorem LpAll.length {ca : Addr} {fa : Nat → Addr} {F H : Hp} : ∀ {vs : List V} {ds : List D}, LpAll ca fa F H vs ds → vs.length = ds.length
  | _, _, .nil => rfl
  | _, _, .cons _ t => by rw [List.length_cons, List.length_cons, LpAll.length t]
theorem lp_refL {F H : Hp} {ca : Addr} {fa : Nat → Addr} {v : V} {xs : List D} (l : Lp ca fa F H v (.list xs)) : ∃ a, v = .ref a := by
  cases l with
  | rp r => cases r with
    | lst e l q => exact ⟨_, rfl⟩
  | ow n o => exact ⟨_, rfl⟩

/-- a value walked -/
theorem s_itV {f : En → M D} {x tg : Expr} (ok : RelOk g.ca g.T rel) (h : PE X x (tV g X.K W rel f)) : PI X tg x (tI g X.K W rel fun ρ => M.bnd (f ρ) fun d => M.opt (itemsD d)) := by
  refine PI_imp (PI_or (pi_list h) (PI_or (pi_tup h) (pi_str h))) fun σ H R q => ?_
  obtain ⟨F, ρ, c, gs, r⟩ := q
  have r := Res.bind r
  cases e : f ρ c with
  | err => rw [e] at r; exact r.elim
  | exc z c1 => rw [e] at r; exact .inl ⟨F, ρ, c, gs, by rw [e]; exact r⟩
  | ok d c1 =>
    rw [e] at r
    obtain ⟨ds, e1, r1⟩ := Res.opt r
    cases d with
    | list xs =>
      cases e1
      refine .inl ⟨F, ρ, c, gs, ?_⟩
      rw [e]
      intro v F1 H1 s1 l1 l0
      obtain ⟨a, vs, rfl, h1, h2, h3⟩ := lp_lst s1.fh l0
      exact ⟨a, rfl, ⟨vs, SqL.of h1⟩, r1 _ F1 H1 s1 (wk_list (v := .non) (fun F2 H2 q => ok.fh q) l1) (lp_len l0)⟩
    | tuple xs =>
      cases e1
      refine .inr (.inl ⟨F, ρ, c, gs, ?_⟩)
      rw [e]
      intro v F1 H1 s1 l1 l0
      obtain ⟨a, vs, rfl, h1, h2, h3⟩ := lp_tup l0
      exact ⟨a, rfl, ⟨vs, SqT.of (s1.fh _ _ h1)⟩, r1 _ F1 H1 s1 (wk_tup (v := .non) (fun F2 H2 q => ok.fh q) l1) (lp_lenT l0)⟩
    | str z =>
      cases e1
      refine .inr (.inr ⟨F, ρ, c, gs, ?_⟩)
      rw [e]
      intro v F1 H1 s1 l1 l0
      obtain ⟨rfl, hg⟩ := lp_str l0
      refine ⟨z, rfl, r1 _ F1 H1 s1 (wk_str (fun F2 H2 q => ok.fh q) hg) ?_⟩
      rw [List.length_map, Array.length_toList]
      exact strG_len hg
    | _ => cases e1
theorem s_enum {f : En → M D} {x : Expr} {y : Str} {ts : List Expr} {k : Nat} {tp p pos : Pos} (ok : RelOk g.ca g.T rel) (hc : COk C g n call W X) (hy : y = "enumerate") (hg : glB X.env.scope y = true) (hs : notStar x = true) (h : PE X x (tV g X.K W rel f)) :
    PI X (.Tuple ts k tp) (.Call (.Name y p) [x] [] pos) (tI g X.K W rel fun ρ => M.bnd (f ρ) fun d => match d with
      | .list xs => M.ret ((List.range xs.length).zip xs |>.map fun p => .tuple [.int (p.1 : Nat), p.2])
      | _ => M.err) := by
  subst hy
  refine PI_imp (pi_enum (gl_is hg) (fr hc (by decide)) (pa_cons h pa_nil (star_cons hs)) (star_cons hs)) fun σ H R q => ?_
  obtain ⟨F, ρ, c, gs, r⟩ := q
  refine ⟨F, ρ, c, gs, (Res.bind r).imp fun d c1 r1 v F1 H1 s1 l1 l0 => ?_⟩
  cases d with
  | list xs =>
    obtain ⟨a, vs, rfl, h1, h2, h3⟩ := lp_lst s1.fh l0
    refine ⟨a, vs, rfl, SqL.of h1, r1 _ F1 H1 s1 (wk_enum (fun F2 H2 q => ok.fh q) l1) ?_⟩
    rw [List.length_map, List.length_zip, List.length_range, Nat.min_self]
    exact lp_len l0
  | _ => exact r1.elim
theorem s_zip {f f2 : En → M D} {x x2 : Expr} {y : Str} {ts : List Expr} {k : Nat} {tp p pos : Pos} (ok : RelOk g.ca g.T rel) (hc : COk C g n call W X) (hy : y = "zip") (hg : glB X.env.scope y = true) (hs : notStar x = true) (hs2 : notStar x2 = true) (h : PE X x (tV g X.K W rel f)) (h2 : PE X x2 (tV g X.K W rel f2)) :
    PI X (.Tuple ts k tp) (.Call (.Name y p) [x, x2] [] pos) (tI g X.K W rel fun ρ => M.bnd (f ρ) fun d => M.bnd (f2 ρ) fun d2 => match d, d2 with
      | .list xs, .list ys => M.ret ((xs.zip ys).map fun p => .tuple [p.1, p.2])
      | .tuple xs, .tuple ys => M.ret ((xs.zip ys).map fun p => .tuple [p.1, p.2])
      | _, _ => M.err) := by
  subst hy
  refine PI_imp (RZ.pi_zipA (gl_is hg) (fr hc (by decide)) (pa_cons h (pa_cons h2 pa_nil (star_cons hs2)) (star_cons hs)) (star_cons hs) (star_any (es := [x2]) (by rw [List.all_cons, hs2]; rfl))) fun σ H R q => ?_
  obtain ⟨F, ρ, c, gs, r⟩ := q
  refine ⟨F, ρ, c, gs, (Res.bind r).imp fun d c1 r1 v F1 H1 s1 l1 l0 => ?_⟩
  refine ⟨F1, ρ, c1, gs.step s1, (Res.bind (Res.back r1 s1 fun _ _ z => z)).imp fun d2 c2 r2 w F2 H2 s2 m1 m0 => ?_⟩
  have l2 := fun F3 H3 (q : rel F2 H2 F3 H3) => l1 F3 H3 (ok.step s2 q)
  have l3 := l0.step s2
  cases d with
  | list xs =>
    cases d2 with
    | list ys =>
      obtain ⟨a, vs, rfl, h1, -, -⟩ := lp_lst s2.fh l3
      obtain ⟨b, ws, rfl, k1, -, -⟩ := lp_lst s2.fh m0
      refine ⟨a, b, vs, ws, rfl, .inl ⟨SqL.of h1, SqL.of k1, r2 _ F2 H2 (s1.trans s2) (wk_zipL (fun F3 H3 q => ok.fh q) l2 m1) ?_⟩⟩
      rw [List.length_map, List.length_zip]
      exact Nat.le_trans (Nat.min_le_left _ _) (lp_len l3)
    | _ => exact r2.elim
  | tuple xs =>
    cases d2 with
    | tuple ys =>
      obtain ⟨a, vs, rfl, h1, -, -⟩ := lp_tup l3
      obtain ⟨b, ws, rfl, k1, -, -⟩ := lp_tup m0
      refine ⟨a, b, vs, ws, rfl, .inr ⟨SqT.of (s2.fh _ _ h1), SqT.of (s2.fh _ _ k1), r2 _ F2 H2 (s1.trans s2) (wk_zipT (fun F3 H3 q => ok.fh q) l2 m1) ?_⟩⟩
      rw [List.length_map, List.length_zip]
      exact Nat.le_trans (Nat.min_le_left _ _) (lp_lenT l3)
    | _ => exact r2.elim
  | _ => exact r2.elim
theorem Res.with {α : Type} {F : Hp} {σ : SV} {H : Hp} {r : R α} {Q : α → Cup → Prop} (h : Res g X.K W F σ H r Q) : Res g X.K W F σ H r fun a c => r = .ok a c ∧ Q a c := by
  cases r with
  | ok a c => exact ⟨rfl, h⟩
  | exc x c => exact h
  | err => exact h
def lenEs : Es → Nat
  | .nil => 0
  | .cons _ es => lenEs es + 1
theorem evLs_len : ∀ {es : Es} {ρ : En} {c : Cup} {ds : List D} {c' : Cup}, evLs call es ρ c = .ok ds c' → ds.length = lenEs es
  | .nil, ρ, c, ds, c', h => by cases h; rfl
  | .cons e es, ρ, c, ds, c', h => by
    obtain ⟨x, c1, e1, h⟩ := bnd_ok h
    obtain ⟨xs, c2, e2, h⟩ := bnd_ok h
    cases h
    show xs.length + 1 = lenEs es + 1
    rw [evLs_len e2]
/-- a range walked -/
theorem s_rng1 {e : E} {x tg : Expr} {y : Str} {p pos : Pos} (ok : RelOk g.ca g.T rel) (hc : COk C g n call W X) (hy : y = "range") (hg : glB X.env.scope y = true) (hs : notStar x = true) (h : PA X [x] (tLs g X.K W (evLs call (.cons e .nil)))) :
    PI X tg (.Call (.Name y p) [x] [] pos) (tI g X.K W rel fun ρ => M.bnd (evLs call (.cons e .nil) ρ) fun ds => M.opt (rngD ds)) := by
  subst hy
  refine PI_imp (pi_range1 (gl_is hg) (fr hc (by decide)) h (star_cons hs)) fun σ H R q => ?_
  obtain ⟨F, ρ, c, gs, r⟩ := q
  refine ⟨F, ρ, c, gs, (Res.with (Res.bind r)).imp fun ds c1 r1 vs F1 H1 s1 l1 => ?_⟩
  obtain ⟨e0, r1⟩ := r1
  have e0 := evLs_len e0
  obtain ⟨xs, e1, r2⟩ := Res.opt r1
  have el : vs.length = 1 := by rw [LpAll.length l1]; exact e0
  rcases rng_ok l1 e1 with ⟨m, rfl, hm, rfl⟩ | ⟨a, b, rfl, hm, rfl⟩
  · obtain ⟨-, -, h1, h2, h3⟩ := hm
    rw [Int.sub_zero] at h3 r2
    refine ⟨m, rfl, h1, h2, r2 _ F1 H1 s1 (wk_rng fun F2 H2 q => ok.fh q) ?_⟩
    rw [List.length_map, List.length_range]; exact h3
  · cases el
theorem s_rng2 {e e2 : E} {x x2 tg : Expr} {y : Str} {p pos : Pos} (ok : RelOk g.ca g.T rel) (hc : COk C g n call W X) (hy : y = "range") (hg : glB X.env.scope y = true) (hs : notStar x = true) (hs2 : notStar x2 = true) (h : PA X [x, x2] (tLs g X.K W (evLs call (.cons e (.cons e2 .nil))))) :
    PI X tg (.Call (.Name y p) [x, x2] [] pos) (tI g X.K W rel fun ρ => M.bnd (evLs call (.cons e (.cons e2 .nil)) ρ) fun ds => M.opt (rngD ds)) := by
  subst hy
  refine PI_imp (pi_range2 (gl_is hg) (fr hc (by decide)) h (by rw [star_cons hs, star_cons hs2]; rfl) (star_cons hs2)) fun σ H R q => ?_
  obtain ⟨F, ρ, c, gs, r⟩ := q
  refine ⟨F, ρ, c, gs, (Res.with (Res.bind r)).imp fun ds c1 r1 vs F1 H1 s1 l1 => ?_⟩
  obtain ⟨e0, r1⟩ := r1
  have e0 := evLs_len e0
  obtain ⟨xs, e1, r2⟩ := Res.opt r1
  have el : vs.length = 2 := by rw [LpAll.length l1]; exact e0
  rcases rng_ok l1 e1 with ⟨m, rfl, hm, rfl⟩ | ⟨a, b, rfl, hm, rfl⟩
  · cases el
  · obtain ⟨h0, h1, h2, h3, h4⟩ := hm
    refine ⟨a, b, rfl, ⟨h0, h1, h2, h3⟩, r2 _ F1 H1 s1 (wk_rng fun F2 H2 q => ok.fh q) ?_⟩
    rw [List.length_map, List.length_range]; exact h4

/-! targets -/
def setV : List Nat → List V → SV → SV
  | i :: is, v :: vs, σ => setV is vs (σ.set i (some v))
  | _, _, σ => σ
def tG (K : PySem.W.Frag) : Tg → TG
  | .one i => gName i
  | .tup is => fun v σ H Q => ∃ a xs, v = .ref a ∧ SqT K H a xs ∧ xs.length = is.length ∧ Q (setV is xs σ) H
theorem PG_imp {x : Expr} {t t' : TG} (h : PG X x t) (i : ∀ v σ H Q, t' v σ H Q → t v σ H Q) : PG X x t' := ⟨fun pins s σ H v u Q I r q => h.run pins s σ H v u Q I r (i v σ H Q q)⟩
theorem stB_of {N : List Str} {sc : Scope} {i : Nat} {x : Str} (h : stB N sc i x = true) : N[i]? = some x ∧ (sc.names.lookup x = some .local ∨ sc.names.lookup x = some .cell) := by
  unfold stB at h
  simp only [Bool.and_eq_true, Bool.or_eq_true, decide_eq_true_eq] at h
  exact ⟨h.1.1, h.2⟩
def StOk (X : Cx) (sc : Scope) : Prop := ∀ x, sc.names.lookup x = some .local ∨ sc.names.lookup x = some .cell → L2.Loc X.env.scope x ∧ (X.fn x = true ∨ X.env.scope.names.lookup x = some .local)
theorem s_nm {sc : Scope} {i : Nat} {x : Str} {pos : Pos} (hN : X.N.Nodup) (hf : StOk X sc) (h : stB X.N sc i x = true) : PG X (.Name x pos) (gName i) := by
  obtain ⟨h1, h2⟩ := stB_of h
  obtain ⟨h3, h4⟩ := hf x h2
  exact pg_name hN h1 h3 h4
theorem s_tg {sc : Scope} {tg : Tg} {x : Expr} (hc : X.calm = true) (hN : X.N.Nodup) (hf : StOk X sc) (h : tgB X.N sc tg x = true) : PG X x (tG X.K tg) := by
  unfold tgB at h
  split at h
  · exact s_nm hN hf h
  · rename_i i j a p1 b p2 k pos
    simp only [Bool.and_eq_true] at h
    refine PG_imp (pg_tup hc (n := 2) (pgs_cons (s_nm hN hf h.1.1) (pgs_cons (s_nm hN hf h.1.2) pgs_nil))) fun v σ H Q q => ?_
    obtain ⟨a, xs, rfl, h1, h2, q⟩ := q
    match xs, h2, q with
    | [v1, v2], _, q => exact ⟨a, [v1, v2], rfl, h1, rfl, v1, [v2], rfl, v2, [], rfl, rfl, q⟩
  · rename_i i j l a p1 b p2 d p3 k pos
    simp only [Bool.and_eq_true] at h
    refine PG_imp (pg_tup hc (n := 3) (pgs_cons (s_nm hN hf h.1.1.1.1.1) (pgs_cons (s_nm hN hf h.1.1.1.1.2) (pgs_cons (s_nm hN hf h.1.1.1.2) pgs_nil)))) fun v σ H Q q => ?_
    obtain ⟨a, xs, rfl, h1, h2, q⟩ := q
    match xs, h2, q with
    | [v1, v2, v3], _, q => exact ⟨a, [v1, v2, v3], rfl, h1, rfl, v1, [v2, v3], rfl, v2, [v3], rfl, v3, [], rfl, rfl, q⟩
  · cases h
end

/-! the slots change -/
section
variable {g : Gd} {F H : Hp} {ρ : En} {c : Cup} {σ : SV}
theorem set_get {α : Type} {xs : List α} {i j : Nat} {a b : α} (h : (xs.set i a)[j]? = some b) : (i = j ∧ b = a ∧ i < xs.length) ∨ (i ≠ j ∧ xs[j]? = some b) := by
  by_cases e : i = j
  · subst e
    rw [List.getElem?_set_self'] at h
    cases q : xs[i]? with
    | none => rw [q] at h; cases h
    | some y => rw [q] at h; cases h; exact .inl ⟨rfl, rfl, get_lt q⟩
  · rw [List.getElem?_set_ne e] at h; exact .inr ⟨e, h⟩
theorem GS.set1 (x : GS g F ρ c σ H) (i : Nat) {s : Sl} {o : Option V} (ho : SlOk g F H s o) (hs : ∀ d, s ≠ .ow d) : GS g F (ρ.set i s) c (σ.set i o) H where
  st := x.st
  fca := x.fca
  sl := fun j s' e => by
    rcases set_get e with ⟨rfl, rfl, hl⟩ | ⟨hne, e⟩
    · obtain ⟨o', h1, h2⟩ := x.sl i _ (List.getElem?_eq_getElem hl)
      exact ⟨o, by rw [List.getElem?_set_self (get_lt h1)], ho⟩
    · obtain ⟨o', h1, h2⟩ := x.sl j s' e
      exact ⟨o', by rw [List.getElem?_set_ne hne]; exact h1, h2⟩
  dis := fun j k d e a hjk h1 h2 h3 h4 => by
    rcases set_get h1 with ⟨rfl, q, hl⟩ | ⟨n1, h1⟩
    · exact hs d q.symm
    · rcases set_get h2 with ⟨rfl, q, hl⟩ | ⟨n2, h2⟩
      · exact hs e q.symm
      · rw [List.getElem?_set_ne n1] at h3
        rw [List.getElem?_set_ne n2] at h4
        exact x.dis j k d e a hjk h1 h2 h3 h4
theorem GS.wipe (x : GS g F ρ c σ H) : ∀ vs : List Nat, GS g F (wipeE ρ vs) c (wipe σ vs) H
  | [] => x
  | v :: vs => (GS.wipe x vs).set1 v (s := .no) (o := none) trivial fun d h => Sl.noConfusion h
theorem GS.da (x : GS g F ρ c σ H) (i : Nat) {v : V} {d : D} (r : Rp g.ca g.fa F v d) : GS g F (ρ.set i (.da d)) c (σ.set i (some v)) H := x.set1 i ⟨v, rfl, r⟩ fun d h => Sl.noConfusion h
theorem GS.setAll {g : Gd} {F H : Hp} {c : Cup} : ∀ {is : List Nat} {vs : List V} {ds : List D} {ρ : En} {σ : SV}, GS g F ρ c σ H → RpAll g.ca g.fa F vs ds → GS g F (FS.setAll is ds ρ) c (setV is vs σ) H
  | [], _, _, _, _, x, _ => by
    unfold FS.setAll setV; exact x
  | _ :: _, _, _, _, _, x, .nil => x
  | i :: is, _, _, _, _, x, .cons r t => GS.setAll (is := is) (x.da i r) t
end
theorem wipe_set {σ : SV} {i : Nat} {o : Option V} : ∀ vs : List Nat, wipe (σ.set i o) vs = if i ∈ vs then wipe σ vs else (wipe σ vs).set i o
  | [] => by simp [wipe]
  | v :: vs => by
    show (wipe (σ.set i o) vs).set v none = if i ∈ v :: vs then (wipe σ vs).set v none else ((wipe σ vs).set v none).set i o
    rw [wipe_set vs]
    by_cases h : i ∈ vs
    · rw [if_pos h, if_pos (List.mem_cons_of_mem _ h)]
    · rw [if_neg h]
      by_cases e : i = v
      · subst e
        rw [if_pos List.mem_cons_self, List.set_set]
      · rw [if_neg (by simp [e, h]), List.set_comm _ _ e]
theorem wipe_setV {vs : List Nat} : ∀ {is : List Nat} {ws : List V} {σ : SV}, (∀ i ∈ is, i ∈ vs) → wipe (setV is ws σ) vs = wipe σ vs
  | [], _, _, _ => by unfold setV; rfl
  | _ :: _, [], _, _ => rfl
  | i :: is, w :: ws, σ, h => by
    show wipe (setV is ws (σ.set i (some w))) vs = _
    rw [wipe_setV fun j hj => h j (List.mem_cons_of_mem _ hj), wipe_set, if_pos (h i List.mem_cons_self)]
def tgOf : Tg → List Nat
  | .one i => [i]
  | .tup is => is
/-- a target set -/
theorem tgSet {g : Gd} {K : PySem.W.Frag} {F H : Hp} {ρ ρ' : En} {c : Cup} {σ : SV} {tg : Tg} {v : V} {d : D} {Q : SV → Hp → Prop} (x : GS g F ρ c σ H) (r : Rp g.ca g.fa F v d) (e : setTg tg d ρ = some ρ')
    (k : ∀ σ', (∀ F' c' H', Sub F F' → GS g F' ρ c' σ H' → GS g F' ρ' c' σ' H') → (∀ vs : List Nat, (∀ i ∈ tgOf tg, i ∈ vs) → wipe σ' vs = wipe σ vs) → Q σ' H) : tG K tg v σ H Q := by
  cases tg with
  | one i =>
    cases e
    exact k _ (fun F' c' H' f y => y.da i (r.mono f)) fun vs h => by rw [wipe_set, if_pos (h i (by simp [tgOf]))]
  | tup is =>
    cases d with
    | tuple xs =>
      have e : (if xs.length = is.length then some (setAll is xs ρ) else none) = some ρ' := e
      by_cases hl : xs.length = is.length
      · rw [if_pos hl] at e; cases e
        obtain ⟨a, vs, rfl, h1, h2, h3⟩ := lp_tup (H := H) (.rp r)
        exact ⟨a, vs, rfl, SqT.of (x.fh _ _ h1), by rw [h3.length, hl], k _ (fun F' c' H' f y => y.setAll (h3.mono f)) fun vs h => wipe_setV h⟩
      · rw [if_neg hl] at e; cases e
    | _ => cases e
theorem tgIn_of {own : List (Str × Nat)} {tg : Tg} (h : tgIn own tg = true) : ∀ i ∈ tgOf tg, i ∈ own.map (·.2) := by
  intro i hi
  cases tg with
  | one j =>
    have : i = j := by simpa [tgOf] using hi
    subst this
    simpa [tgIn] using h
  | tup is =>
    have h : (is.all fun i => (own.map (·.2)).contains i) = true := h
    rw [List.all_eq_true] at h
    simpa using h i hi

/-! a new list or dict, that is being built -/
def Pl (u : HO) : Prop := (∀ ps, u ≠ .tbl ps) ∧ ∀ c q, u ≠ LamX.CodeO c q
theorem pl_lst {xs : List V} : Pl (.lst xs) := ⟨fun _ h => HO.noConfusion h, fun _ _ h => HO.noConfusion h⟩
theorem pl_dK {xs : List (Key × V)} : Pl (.dK xs) := ⟨fun _ h => HO.noConfusion h, fun _ _ h => HO.noConfusion h⟩
theorem pl_dT {xs : List (List Key × V)} : Pl (.dT xs) := ⟨fun _ h => HO.noConfusion h, fun _ _ h => HO.noConfusion h⟩
theorem tabs_upd {T : List (Addr × Str)} {H : Hp} {p : Addr} {u o : HO} (t : LamX.Tabs T H) (e : H p = some u) (hu : Pl u) : LamX.Tabs T (upd H p o) := fun q hq => by
  obtain ⟨ps, h1, h2, h3⟩ := t q hq
  refine ⟨ps, ?_, h2, fun pos cv hc => ?_⟩
  · rw [upd_ne ?_]; exact h1
    intro z; rw [z, e] at h1; exact hu.1 ps (Option.some.inj h1)
  · obtain ⟨c, e1, e2⟩ := h3 pos cv hc
    refine ⟨c, e1, ?_⟩
    rw [upd_ne ?_]; exact e2
    intro z; rw [z, e] at e2; exact hu.2 _ _ (Option.some.inj e2)
section
variable {ca : Addr} {T : List (Addr × Str)} {F H F' H' : Hp} {c : Cup}
/-- what is new may change -/
theorem Step.turn (s : Step ca T F H c F' H') {p : Addr} {u o : HO} (hn : H p = none) (hp : p ≠ ca) (hf : F' p = none) (e : H' p = some u) (hu : Pl u) : Step ca T F H c F' (upd H' p o) where
  ext := fun a q n t e' => by
    rw [upd_ne (by intro z; rw [z, hn] at e'; cases e')]; exact s.ext a q n t e'
  tb := fun a ps n e' => by
    rw [upd_ne (by intro z; rw [z, hn] at e'; cases e')]; exact s.tb a ps n e'
  ff := s.ff
  fh := fun a q e' => by
    rw [upd_ne (by intro z; rw [z, hf] at e'; cases e')]; exact s.fh a q e'
  new := s.new
  cup := by rw [upd_ne hp.symm]; exact s.cup
  tabs := tabs_upd s.tabs e hu
/-- what is new is kept as it is from now on -/
theorem Step.frz (s : Step ca T F H c F' H') {p : Addr} {u : HO} (hn : H p = none) (hf : F' p = none) (e : H' p = some u) : Step ca T F H c (upd F' p u) H' where
  ext := s.ext
  tb := s.tb
  ff := s.ff.trans (Sub.upd hf)
  fh := fun a q e' => by
    by_cases z : a = p
    · subst z; rw [upd_same] at e'; rw [e]; exact e'
    · rw [upd_ne z] at e'; exact s.fh a q e'
  new := fun a q e' => by
    by_cases z : a = p
    · subst z; exact .inr hn
    · rw [upd_ne z] at e'; exact s.new a q e'
  cup := s.cup
  tabs := s.tabs
theorem Step.stays (s : Step ca T F H c F' H') {p : Addr} {u : HO} (hp : p ≠ ca) (e : H p = some u) (hu : Pl u) (hf : F p = none) : H' p = some u ∧ F' p = none := by
  refine ⟨s.ext p u hp hu.1 e, ?_⟩
  cases q : F' p with
  | none => rfl
  | some o =>
    rcases s.new p o q with z | z
    · rw [hf] at z; cases z
    · rw [e] at z; cases z
theorem Step.none (s : Step ca T F H c F' H') {p : Addr} (h : H' p = none) : H p = none := by
  cases q : H p with
  | none => rfl
  | some o =>
    obtain ⟨u, e⟩ := s.there q
    rw [h] at e; cases e
end
section
variable {g : Gd} {X : Cx} {W : WX}
theorem tE_tO {f : En → M D} {σ : SV} {H : Hp} {Q : VK} (q : tE g X.K W f σ H Q) : tO g X.K W f σ H Q := by
  obtain ⟨F, ρ, c, gs, r⟩ := q
  refine ⟨F, ρ, c, gs, r.imp fun d c1 k a F1 H1 s1 hn hf hc o => ?_⟩
  obtain ⟨u, hu, rp⟩ := o.rp hf
  exact k _ _ _ (s1.frz hn hf hu) rp
theorem pe_tO {f : En → M D} {x : Expr} (h : PE X x (tO g X.K W f)) : PE X x (tE g X.K W f) := h.imp fun σ H Q q => tE_tO q
end
end FS

-- part FsSnd5
set_option Elab.async false
set_option linter.all false
set_option maxRecDepth 100000
set_option maxHeartbeats 4000000
/-! Comprehensions. -/
namespace FS
open PySem PySem.Spec PyProof.Rows L2

theorem wipe_wipe {σ : SV} {vs : List Nat} : ∀ {ws : List Nat}, (∀ i ∈ ws, i ∈ vs) → wipe (wipe σ ws) vs = wipe σ vs
  | [], _ => rfl
  | w :: ws, h => by
    show wipe ((wipe σ ws).set w none) vs = _
    rw [wipe_set, if_pos (h w List.mem_cons_self), wipe_wipe fun i hi => h i (List.mem_cons_of_mem _ hi)]
def W0 : WX := fun _ _ _ _ => False
theorem lookup_relS {scope sc : Scope} {x : Str} {k : NameKind} (hk : k ≠ .free) (h : scope.names.lookup x = some k) : (relS scope sc).names.lookup x = some k := by
  unfold relS
  show List.lookup x (scope.names.map _) = some k
  revert h
  induction scope.names with
  | nil => intro h; cases h
  | cons p l ih =>
    obtain ⟨y, k'⟩ := p
    intro h
    rw [List.map_cons]
    by_cases e : x == y
    · rw [List.lookup_cons, e] at h
      simp only [Option.some.injEq] at h
      subst h
      have hne : (k' == NameKind.free) = false := by cases k' <;> first | rfl | exact absurd rfl hk
      dsimp only
      rw [hne, Bool.false_and, Bool.false_and, if_neg (by decide), List.lookup_cons, e]
    · have e' : (x == y) = false := by simpa using e
      rw [List.lookup_cons, e'] at h
      dsimp only
      split
      · rw [List.lookup_cons, e']; exact ih h
      · rw [List.lookup_cons, e']; exact ih h
section
variable {C : Tx} {g : Gd} {n : Nat} {call : Nat → List D → M D} {W : WX} {X : Cx}
theorem blk_kind {N : List Str} {sc scope : Scope} {own : List (Str × Nat)} (h : blkC N sc scope own = true) : scope.kind = .function := (blkOk_by h).kind
theorem COk.blk (h : COk C g n call W X) {scope : Scope} {own : List (Str × Nat)} (hb : blkC X.N X.env.scope scope own = true) (s : Shared) (H : Hp) (Ca : Addr) (cl : List (Str × Addr)) (fp : List Addr) : COk C g n call W0 (X.blk s H scope (compEnvC scope cl Ca X.env) fp) where
  calm := h.calm
  nd := h.nd
  kind := show scope.kind = .function from blk_kind hb
  room := h.room
  tk := fun u s' ⟨a, B, sI, pins, σ, H, cls, d, e, I, nb, up, sky, na, os, ag, w⟩ => w
  gl := h.gl
  free := h.free
  fns := h.fns
theorem blk_st {scope : Scope} {s : Shared} {H : Hp} {Ca : Addr} {cl : List (Str × Addr)} {fp : List Addr} : StOk (X.blk s H scope (compEnvC scope cl Ca X.env) fp) scope := fun x hx => by
  rcases hx with hx | hx
  · have := lookup_relS (sc := X.env.scope) (fun q => NameKind.noConfusion q) hx
    exact ⟨.inl this, .inr this⟩
  · have := lookup_relS (sc := X.env.scope) (fun q => NameKind.noConfusion q) hx
    refine ⟨.inr this, .inl ?_⟩
    show (scope.names.lookup x == some .cell) = true
    rw [hx]; rfl
theorem folded {iter : Expr} {env : PySem.Env} (h : notSet iter = true) (x : Value) : foldedSetIterable iter env x = pure x := by
  cases iter <;> first | rfl | exact Bool.noConfusion h
theorem Res.nox {α β : Type} {F : Hp} {σ : SV} {H : Hp} {m : M α} {k : α → M β} {c : Cup} {Q : β → Cup → Prop} (h : Res g X.K W F σ H (M.bnd (M.nox m) k c) Q) : ∃ a c', m c = .ok a c' ∧ Res g X.K W F σ H (k a c') Q := by
  have h : Res g X.K W F σ H (match M.nox m c with
    | .ok a c' => k a c'
    | .exc x c' => .exc x c'
    | .err => .err) Q := h
  unfold M.nox at h
  cases e : m c with
  | ok a c' => rw [e] at h; exact ⟨a, c', rfl, h⟩
  | exc x c' => rw [e] at h; exact h.elim
  | err => rw [e] at h; exact h.elim
/-- one turn of a list's comprehension -/
def stepC (call : Nat → List D → M D) (ρ : En) (vs : List Nat) (tg : Tg) (cs : Es) (el : E) : D → M (Option D) := fun x => match setTg tg x (wipeE ρ vs) with
  | none => M.err
  | some ρ' => M.bnd (evTs call cs ρ') fun b => if b then M.bnd (evE call el ρ') fun y => M.ret (some y) else M.ret none
theorem ev_comp (vs : List (Str × Nat)) (tg : Tg) (it : It) (cs : Es) (el : E) (ρ : En) : evE call (.comp vs tg it cs el) ρ = M.bnd (evIt call true it ρ) fun xs => M.bnd (M.nox (compL (stepC call ρ (vs.map (·.2)) tg cs el) xs)) fun ds => M.ret (.list ds) := rfl
theorem stepC_ok {ρ : En} {vs : List Nat} {tg : Tg} {cs : Es} {el : E} {x : D} {c c' : Cup} {o : Option D} (h : stepC call ρ vs tg cs el x c = .ok o c') : ∃ ρ' b c1, setTg tg x (wipeE ρ vs) = some ρ' ∧ evTs call cs ρ' c = .ok b c1 ∧
    ((b = false ∧ o = none ∧ c1 = c') ∨ (b = true ∧ ∃ y, o = some y ∧ evE call el ρ' c1 = .ok y c')) := by
  unfold stepC at h
  cases e : setTg tg x (wipeE ρ vs) with
  | none => rw [e] at h; cases h
  | some ρ' =>
    rw [e] at h
    obtain ⟨b, c1, e1, h⟩ := bnd_ok h
    cases b with
    | false => cases h; exact ⟨ρ', false, _, rfl, e1, .inl ⟨rfl, rfl, rfl⟩⟩
    | true =>
      obtain ⟨y, c2, e2, h⟩ := bnd_ok (show M.bnd (evE call el ρ') (fun y => M.ret (some y)) c1 = .ok o c' from h)
      cases h
      exact ⟨ρ', true, _, rfl, e1, .inr ⟨rfl, y, rfl, e2⟩⟩
theorem compL_cons {f : D → M (Option D)} {x : D} {xs : List D} {c c' : Cup} {r : List D} (h : compL f (x :: xs) c = .ok r c') : ∃ o c1 r', f x c = .ok o c1 ∧ compL f xs c1 = .ok r' c' ∧ r = o.toList ++ r' := by
  obtain ⟨o, c1, e1, h⟩ := bnd_ok (show M.bnd (f x) (fun o => M.bnd (compL f xs) fun r => M.ret (match o with
    | some y => y :: r
    | none => r)) c = .ok r c' from h)
  obtain ⟨r', c2, e2, h⟩ := bnd_ok h
  cases h
  refine ⟨o, c1, r', e1, e2, ?_⟩
  cases o <;> rfl
theorem drop_cons {α : Type} {xs : List α} {i : Nat} (h : i < xs.length) : xs.drop i = xs[i] :: xs.drop (i + 1) := List.drop_eq_getElem_cons h
theorem res_ok {α : Type} {F : Hp} {σ : SV} {H : Hp} {r : R α} {a : α} {c : Cup} {Q : α → Cup → Prop} {W : WX} (e : r = .ok a c) (q : Q a c) : Res g X.K W F σ H r Q := by subst e; exact q
/-- where a list's comprehension stands, ahead of turn i -/
def AtC (g : Gd) (F1 H1 : Hp) (p : Addr) (f : D → M (Option D)) (xs ys : List D) (c2 : Cup) (i m : Nat) (H : Hp) : Prop :=
  i ≤ xs.length ∧ m = xs.length - i ∧ ∃ F c acc dn rest, Step g.ca g.T F1 H1 c F H ∧ F p = none ∧ H p = some (.lst acc) ∧ RpAll g.ca g.fa F acc dn ∧ acc.length ≤ i ∧ compL f (xs.drop i) c = .ok rest c2 ∧ ys = dn ++ rest
theorem t_comp {vs : List (Str × Nat)} {tg : Tg} {it : It} {cs : Es} {el : E} {σ : SV} {H : Hp} {Q : VK} (hi : tgIn vs tg = true) (q : tO g X.K W (evE call (.comp vs tg it cs el)) σ H Q) :
    tLc (tI g X.K W (relT g.ca g.T) (evIt call true it)) (tG X.K tg) (tT g X.K W0 (evTs call cs)) (tE g X.K W0 (evE call el)) (vs.map (·.2)) σ H Q := by
  obtain ⟨F, ρ, c, gs, r⟩ := q
  rw [ev_comp] at r
  refine ⟨F, ρ, c, gs, (Res.bind r).imp fun xs c1 r1 J F1 H1 s1 wk hz p hp => ?_⟩
  obtain ⟨ys, c2, e0, r2⟩ := Res.nox r1
  have gs1 := gs.step s1
  have hne : p ≠ g.ca := fun z => by rw [z, s1.cup] at hp; cases hp
  refine ⟨AtC g F1 H1 p (stepC call ρ (vs.map (·.2)) tg cs el) xs ys c2, ⟨xs.length, Nat.zero_le _, rfl, F1, c1, [], [], ys, gs1.grow (.heap s1.fh (Sub.upd hp)), s1.fh.none hp, upd_same, .nil, Nat.le_refl _, e0, rfl⟩, ?_⟩
  rintro i m H2 ⟨hi1, rfl, F2, c3, acc, dn, rest, s2, f2, a2, ra, la, e2, ey⟩
  have fr := fun (H' : Hp) (F' : Hp) (q : Step g.ca g.T F2 H2 c3 F' H') => q
  obtain ⟨wk1, wk2⟩ := wk F2 H2 ⟨c3, s2⟩
  by_cases hlt : i < xs.length
  · right
    obtain ⟨go, yl⟩ := wk1 i _ (List.getElem?_eq_getElem hlt)
    rw [drop_cons hlt] at e2
    obtain ⟨o, c4, rest', e3, e4, rfl⟩ := compL_cons e2
    obtain ⟨ρ', b, c5, e5, e6, e7⟩ := stepC_ok e3
    refine ⟨go, AtC g F1 H1 p (stepC call ρ (vs.map (·.2)) tg cs el) xs ys c2 (i + 1) (xs.length - (i + 1)), fun H' hn => ⟨_, by omega, hn⟩, fun x H' hy => ?_⟩
    obtain ⟨F3, w3, r3⟩ := yl x H' hy
    have s3 := s2.grow w3
    have gs3 := ((gs1.step s2).step (w3.step s2.cup s2.tabs)).wipe (vs.map (·.2))
    have st3 := (w3.step s2.cup s2.tabs).stays hne a2 pl_lst f2
    refine tgSet gs3 r3 e5 fun σ2 hg4 hw => ?_
    have gs4 := hg4 F3 c3 H' (.refl _) gs3
    refine ⟨?_, F3, ρ', c3, gs4, res_ok e6 ?_⟩
    · rw [hw _ (tgIn_of hi), wipe_wipe fun _ h => h]
    · intro F4 H4 s4
      have st4 := s4.stays hne st3.1 pl_lst st3.2
      rcases e7 with ⟨rfl, rfl, rfl⟩ | ⟨rfl, y, rfl, e8⟩
      · exact ⟨hlt, rfl, F4, c5, acc, dn, rest', (s3.trans s4), st4.2, st4.1, (ra.mono w3.ff).mono s4.ff, Nat.le_succ_of_le la, e4, ey⟩
      · refine ⟨F4, ρ', c5, gs4.step s4, res_ok e8 fun v F5 H5 s5 rv => ?_⟩
        have st5 := s5.stays hne st4.1 pl_lst st4.2
        have s6 := (s3.trans s4).trans s5
        refine ⟨acc, st5.1, by omega, hlt, rfl, F5, c4, acc ++ [v], dn ++ [y], rest', s6.turn hp hne st5.2 st5.1 pl_lst, st5.2, upd_same, (((ra.mono w3.ff).mono s4.ff).mono s5.ff).snoc rv, ?_, e4, ?_⟩
        · rw [List.length_append]; show acc.length + 1 ≤ i + 1; omega
        · rw [ey]; simp
  · left
    have he : i = xs.length := by omega
    subst he
    refine ⟨wk2, ?_⟩
    rw [List.drop_length] at e2
    cases e2
    rw [List.append_nil] at ey
    subst ey
    have s3 := s1.trans s2
    exact r2 _ _ _ s3 (s1.none hp) f2 hne (.lst a2 (Nat.le_trans la hz) ra)
theorem s_comp {vs : List (Str × Nat)} {tg : Tg} {it : It} {cs : Es} {el : E} {elt t iter : Expr} {ifs : List Expr} {scope : Scope} {pos : Pos} (h : COk C g n call W X) (hb : blkC X.N X.env.scope scope vs = true) (ht : tgB X.N scope tg t = true) (hi : tgIn vs tg = true) (hset : notSet iter = true)
    (hit : PI X t iter (tI g X.K W (relT g.ca g.T) (evIt call true it))) (hcs : ∀ (s : Shared) (H : Hp) (Ca : Addr) (cl : List (Str × Addr)) (fp : List Addr), PTs (X.blk s H scope (compEnvC scope cl Ca X.env) fp) ifs (tT g X.K W0 (evTs call cs)))
    (hel : ∀ (s : Shared) (H : Hp) (Ca : Addr) (cl : List (Str × Addr)) (fp : List Addr), PE (X.blk s H scope (compEnvC scope cl Ca X.env) fp) elt (tE g X.K W0 (evE call el))) : PE X (.ListComp elt [⟨t, iter, ifs, 0⟩] scope pos) (tO g X.K W (evE call (.comp vs tg it cs el))) :=
  (pe_lc h.calm h.nd hit (blkOk_by hb) (fun s H Ca cl fp => s_tg (X := X.blk s H scope (compEnvC scope cl Ca X.env) fp) h.calm h.nd blk_st ht) hcs hel (folded hset)).imp fun σ H Q q => t_comp hi q

/-! for .. for .. -/
def step2 (call : Nat → List D → M D) (ρ : En) (vs : List Nat) (tg : Tg) (cs : Es) (v1 : List Nat) (tg1 : Tg) (it1 : It) (cs1 : Es) (el : E) : D → M (List D) := fun x => match setTg tg x (wipeE ρ vs) with
  | none => M.err
  | some ρ' => M.bnd (evTs call cs ρ') fun b => if b then M.bnd (evIt call false it1 ρ') fun zs => compL (stepC call ρ' v1 tg1 cs1 el) zs else M.ret []
theorem ev_comp2 (vs : List (Str × Nat)) (tg : Tg) (it : It) (cs : Es) (v1 : List Nat) (tg1 : Tg) (it1 : It) (cs1 : Es) (el : E) (ρ : En) : evE call (.comp2 vs tg it cs v1 tg1 it1 cs1 el) ρ =
    M.bnd (evIt call true it ρ) fun xs => M.bnd (M.nox (compLL (step2 call ρ (vs.map (·.2)) tg cs v1 tg1 it1 cs1 el) xs)) fun ds => if ds.length ≤ sizeLine then M.ret (.list ds) else M.err := rfl
theorem step2_ok {ρ : En} {vs : List Nat} {tg : Tg} {cs : Es} {v1 : List Nat} {tg1 : Tg} {it1 : It} {cs1 : Es} {el : E} {x : D} {c c' : Cup} {o : List D} (h : step2 call ρ vs tg cs v1 tg1 it1 cs1 el x c = .ok o c') : ∃ ρ' b c1, setTg tg x (wipeE ρ vs) = some ρ' ∧ evTs call cs ρ' c = .ok b c1 ∧
    ((b = false ∧ o = [] ∧ c1 = c') ∨ (b = true ∧ ∃ zs c2, evIt call false it1 ρ' c1 = .ok zs c2 ∧ compL (stepC call ρ' v1 tg1 cs1 el) zs c2 = .ok o c')) := by
  unfold step2 at h
  cases e : setTg tg x (wipeE ρ vs) with
  | none => rw [e] at h; cases h
  | some ρ' =>
    rw [e] at h
    obtain ⟨b, c1, e1, h⟩ := bnd_ok h
    cases b with
    | false => cases h; exact ⟨ρ', false, _, rfl, e1, .inl ⟨rfl, rfl, rfl⟩⟩
    | true =>
      obtain ⟨zs, c2, e2, h⟩ := bnd_ok (show M.bnd (evIt call false it1 ρ') (fun zs => compL (stepC call ρ' v1 tg1 cs1 el) zs) c1 = .ok o c' from h)
      exact ⟨ρ', true, _, rfl, e1, .inr ⟨rfl, zs, c2, e2, h⟩⟩
theorem compLL_cons {f : D → M (List D)} {x : D} {xs : List D} {c c' : Cup} {r : List D} (h : compLL f (x :: xs) c = .ok r c') : ∃ o c1 r', f x c = .ok o c1 ∧ compLL f xs c1 = .ok r' c' ∧ r = o ++ r' := by
  obtain ⟨o, c1, e1, h⟩ := bnd_ok (show M.bnd (f x) (fun o => M.bnd (compLL f xs) fun r => M.ret (o ++ r)) c = .ok r c' from h)
  obtain ⟨r', c2, e2, h⟩ := bnd_ok h
  cases h
  exact ⟨o, c1, r', e1, e2, rfl⟩
def AtO (g : Gd) (F1 H1 : Hp) (p : Addr) (f : D → M (List D)) (xs ys : List D) (c2 : Cup) (i m : Nat) (H : Hp) : Prop :=
  i ≤ xs.length ∧ m = xs.length - i ∧ ∃ F c acc dn rest, Step g.ca g.T F1 H1 c F H ∧ F p = none ∧ H p = some (.lst acc) ∧ RpAll g.ca g.fa F acc dn ∧ compLL f (xs.drop i) c = .ok rest c2 ∧ ys = dn ++ rest
def AtI (g : Gd) (F1 H1 F3 : Hp) (p : Addr) (f : D → M (Option D)) (zs ys ro : List D) (c2 : Cup) (i m : Nat) (H : Hp) : Prop :=
  i ≤ zs.length ∧ m = zs.length - i ∧ ∃ F c acc dn rest, Step g.ca g.T F1 H1 c F H ∧ Sub F3 F ∧ F p = none ∧ H p = some (.lst acc) ∧ RpAll g.ca g.fa F acc dn ∧ compL f (zs.drop i) c = .ok rest c2 ∧ ys = dn ++ (rest ++ ro)
theorem t_comp2 {vs : List (Str × Nat)} {tg : Tg} {it : It} {cs : Es} {v1 : List Nat} {tg1 : Tg} {it1 : It} {cs1 : Es} {el : E} {σ : SV} {H : Hp} {Q : VK} (hi : tgIn vs tg = true) (hi1 : ∀ i ∈ tgOf tg1, i ∈ v1) (q : tO g X.K W (evE call (.comp2 vs tg it cs v1 tg1 it1 cs1 el)) σ H Q) :
    tLc2 (tI g X.K W (relT g.ca g.T) (evIt call true it)) (tG X.K tg) (tT g X.K W0 (evTs call cs)) (tI g X.K W0 relF (evIt call false it1)) (tG X.K tg1) (tT g X.K W0 (evTs call cs1)) (tE g X.K W0 (evE call el)) (vs.map (·.2)) v1 σ H Q := by
  obtain ⟨F, ρ, c, gs, r⟩ := q
  rw [ev_comp2] at r
  refine ⟨F, ρ, c, gs, (Res.bind r).imp fun xs c1 r1 J F1 H1 s1 wk hz p hp => ?_⟩
  obtain ⟨ys, c2, e0, r2⟩ := Res.nox r1
  by_cases hy : ys.length ≤ sizeLine
  case neg => rw [if_neg hy] at r2; exact r2.elim
  rw [if_pos hy] at r2
  have gs1 := gs.step s1
  have hne : p ≠ g.ca := fun z => by rw [z, s1.cup] at hp; cases hp
  refine ⟨AtO g F1 H1 p (step2 call ρ (vs.map (·.2)) tg cs v1 tg1 it1 cs1 el) xs ys c2, ⟨xs.length, Nat.zero_le _, rfl, F1, c1, [], [], ys, gs1.grow (.heap s1.fh (Sub.upd hp)), s1.fh.none hp, upd_same, .nil, e0, rfl⟩, ?_⟩
  rintro i m H2 ⟨hi1', rfl, F2, c3, acc, dn, rest, s2, f2, a2, ra, e2, ey⟩
  obtain ⟨wk1, wk2⟩ := wk F2 H2 ⟨c3, s2⟩
  by_cases hlt : i < xs.length
  · right
    obtain ⟨go, yl⟩ := wk1 i _ (List.getElem?_eq_getElem hlt)
    rw [drop_cons hlt] at e2
    obtain ⟨o, c4, rest', e3, e4, rfl⟩ := compLL_cons e2
    obtain ⟨ρ', b, c5, e5, e6, e7⟩ := step2_ok e3
    refine ⟨go, AtO g F1 H1 p (step2 call ρ (vs.map (·.2)) tg cs v1 tg1 it1 cs1 el) xs ys c2 (i + 1) (xs.length - (i + 1)), fun H' hn => ⟨_, by omega, hn⟩, fun x H' hy' => ?_⟩
    obtain ⟨F3, w3, r3⟩ := yl x H' hy'
    have s3 := s2.grow w3
    have gs3 := ((gs1.step s2).step (w3.step s2.cup s2.tabs)).wipe (vs.map (·.2))
    have st3 := (w3.step s2.cup s2.tabs).stays hne a2 pl_lst f2
    refine tgSet gs3 r3 e5 fun σ2 hg4 hw => ?_
    have gs4 := hg4 F3 c3 H' (.refl _) gs3
    refine ⟨?_, F3, ρ', c3, gs4, res_ok e6 ?_⟩
    · rw [hw _ (tgIn_of hi), wipe_wipe fun _ h => h]
    · intro F4 H4 s4
      have st4 := s4.stays hne st3.1 pl_lst st3.2
      rcases e7 with ⟨rfl, rfl, rfl⟩ | ⟨rfl, zs, c6, e8, e9⟩
      · exact ⟨hlt, rfl, F4, c5, acc, dn, rest', (s3.trans s4), st4.2, st4.1, (ra.mono w3.ff).mono s4.ff, e4, ey⟩
      · refine ⟨F4, ρ', c5, gs4.step s4, res_ok e8 fun J1 F5 H5 s5 wkI hzI => ?_⟩
        have st5 := s5.stays hne st4.1 pl_lst st4.2
        have s6 := (s3.trans s4).trans s5
        refine ⟨AtI g F1 H1 F5 p (stepC call ρ' v1 tg1 cs1 el) zs ys rest' c4, ⟨zs.length, Nat.zero_le _, rfl, F5, c6, acc, dn, o, s6, .refl _, st5.2, st5.1, ((ra.mono w3.ff).mono s4.ff).mono s5.ff, e9, ey⟩, ?_⟩
        rintro j k H6 ⟨hj, rfl, F6, c7, acc6, dn6, rest6, s7, ff6, f6, a6, ra6, e10, ey6⟩
        obtain ⟨wj1, wj2⟩ := wkI F6 H6 ⟨ff6, s7.fh⟩
        by_cases hjl : j < zs.length
        · right
          obtain ⟨goj, ylj⟩ := wj1 j _ (List.getElem?_eq_getElem hjl)
          rw [drop_cons hjl] at e10
          obtain ⟨o7, c8, rest7, e11, e12, rfl⟩ := compL_cons e10
          obtain ⟨ρ2, b7, c9, e13, e14, e15⟩ := stepC_ok e11
          refine ⟨goj, AtI g F1 H1 F5 p (stepC call ρ' v1 tg1 cs1 el) zs ys rest' c4 (j + 1) (zs.length - (j + 1)), fun H' hn => ⟨_, by omega, hn⟩, fun x7 H7 hy7 => ?_⟩
          obtain ⟨F7, w7, r7⟩ := ylj x7 H7 hy7
          have s8 := s7.grow w7
          have g7 := (hg4 F6 c7 H6 ((s4.ff.trans s5.ff).trans ff6) ((gs1.step s7).wipe _)).step (w7.step s7.cup s7.tabs)
          have st7 := (w7.step s7.cup s7.tabs).stays hne a6 pl_lst f6
          refine tgSet (g7.wipe v1) r7 e13 fun σ3 hg8 hw8 => ?_
          have g8 := hg8 F7 c7 H7 (.refl _) (g7.wipe v1)
          refine ⟨?_, F7, ρ2, c7, g8, res_ok e14 ?_⟩
          · rw [hw8 _ hi1, wipe_wipe fun _ h => h]
          · intro F8 H8 s9
            have st8 := s9.stays hne st7.1 pl_lst st7.2
            have ff8 : Sub F5 F8 := (ff6.trans w7.ff).trans s9.ff
            rcases e15 with ⟨rfl, rfl, rfl⟩ | ⟨rfl, y, rfl, e16⟩
            · exact ⟨hjl, rfl, F8, c9, acc6, dn6, rest7, s8.trans s9, ff8, st8.2, st8.1, (ra6.mono w7.ff).mono s9.ff, e12, ey6⟩
            · refine ⟨F8, ρ2, c9, g8.step s9, res_ok e16 fun v F9 H9 s10 rv => ?_⟩
              have st9 := s10.stays hne st8.1 pl_lst st8.2
              have s11 := (s8.trans s9).trans s10
              refine ⟨acc6, st9.1, ?_, hjl, rfl, F9, c8, acc6 ++ [v], dn6 ++ [y], rest7, s11.turn hp hne st9.2 st9.1 pl_lst, ff8.trans s10.ff, st9.2, upd_same, (((ra6.mono w7.ff).mono s9.ff).mono s10.ff).snoc rv, e12, ?_⟩
              · rw [ra6.length]
                rw [ey6] at hy
                simp only [List.length_append, Option.toList, List.length_cons] at hy
                omega
              · rw [ey6]; simp
        · left
          have he : j = zs.length := by omega
          subst he
          refine ⟨wj2, ?_⟩
          rw [List.drop_length] at e10
          cases e10
          exact ⟨hlt, rfl, F6, _, acc6, dn6, rest', s7, f6, a6, ra6, e4, ey6⟩
  · left
    have he : i = xs.length := by omega
    subst he
    refine ⟨wk2, ?_⟩
    rw [List.drop_length] at e2
    cases e2
    rw [List.append_nil] at ey
    subst ey
    exact r2 _ _ _ (s1.trans s2) (s1.none hp) f2 hne (.lst a2 (by rw [ra.length]; exact hy) ra)
theorem s_comp2 {vs : List (Str × Nat)} {tg : Tg} {it : It} {cs : Es} {v1 : List Nat} {tg1 : Tg} {it1 : It} {cs1 : Es} {el : E} {elt t iter t1 iter1 : Expr} {ifs ifs1 : List Expr} {scope : Scope} {pos : Pos} (h : COk C g n call W X) (hb : blkC X.N X.env.scope scope vs = true)
    (ht : tgB X.N scope tg t = true) (hi : tgIn vs tg = true) (hset : notSet iter = true) (hv : ∀ i ∈ v1, i ∈ vs.map (·.2)) (ht1 : tgB X.N scope tg1 t1 = true) (hi1 : ∀ i ∈ tgOf tg1, i ∈ v1) (hset1 : notSet iter1 = true)
    (hit : PI X t iter (tI g X.K W (relT g.ca g.T) (evIt call true it))) (hcs : ∀ (s : Shared) (H : Hp) (Ca : Addr) (cl : List (Str × Addr)) (fp : List Addr), PTs (X.blk s H scope (compEnvC scope cl Ca X.env) fp) ifs (tT g X.K W0 (evTs call cs)))
    (hit1 : ∀ (s : Shared) (H : Hp) (Ca : Addr) (cl : List (Str × Addr)) (fp : List Addr), PI (X.blk s H scope (compEnvC scope cl Ca X.env) fp) t1 iter1 (tI g X.K W0 relF (evIt call false it1)))
    (hcs1 : ∀ (s : Shared) (H : Hp) (Ca : Addr) (cl : List (Str × Addr)) (fp : List Addr), PTs (X.blk s H scope (compEnvC scope cl Ca X.env) fp) ifs1 (tT g X.K W0 (evTs call cs1)))
    (hel : ∀ (s : Shared) (H : Hp) (Ca : Addr) (cl : List (Str × Addr)) (fp : List Addr), PE (X.blk s H scope (compEnvC scope cl Ca X.env) fp) elt (tE g X.K W0 (evE call el))) :
    PE X (.ListComp elt [⟨t, iter, ifs, 0⟩, ⟨t1, iter1, ifs1, 0⟩] scope pos) (tO g X.K W (evE call (.comp2 vs tg it cs v1 tg1 it1 cs1 el))) :=
  (pe_lc2 h.calm h.nd hit (blkOk_by hb) hv (fun s H Ca cl fp => s_tg (X := X.blk s H scope (compEnvC scope cl Ca X.env) fp) h.calm h.nd blk_st ht) hcs hit1
    (fun s H Ca cl fp => s_tg (X := X.blk s H scope (compEnvC scope cl Ca X.env) fp) h.calm h.nd blk_st ht1) hcs1 hel (folded hset) (fun env x => folded hset1 x)).imp fun σ H Q q => t_comp2 hi hi1 q
end
end FS

-- part FsDc
set_option Elab.async false
set_option linter.all false
set_option maxRecDepth 100000
set_option maxHeartbeats 4000000
/-! Dict comprehensions whose keys are tuples, or ints and texts; as values, and given to a name. -/
namespace FS
open PySem PySem.Spec PyProof.Rows L2

section
variable {X : Cx}
/-- a comprehension's store -/
theorem d_dictPut {pins : List (Addr × Obj)} {σ : L2.St} {H H' : Hp} {s : Shared} {Er : Value → Shared → Prop} {D : Addr} {y v : V} {u r : Value} {Q : Unit → Shared → Prop} (hu : X.A.units < cLine) (I : Inv X pins σ H s) (g : DPut H D y v H')
    (ry : RelV y u) (rv : RelV v r) (h : ∀ s', Inv X pins σ H' s' → Q () s') : wpAny (model X.prog X.w) X.A (dictSet D u r) Q Er s := by
  rcases g with ⟨kvs, k, e, ey, hz, eH⟩ | ⟨kvs, k, b, e, ey, eb, hz, eH⟩
  · subst ey eH
    exact d_dictSet I e hz ry rv h
  · subst ey eH
    obtain rfl : u = Value.ref b := ry
    obtain ⟨z, hd, xs, rel, dd⟩ := dt_of I.hok e
    have hxs : xs.length ≤ sizeLine := by rw [← Paired.length rel]; exact z
    have hput : (putK kvs k v).length ≤ sizeLine := by have := length_putK kvs k v; omega
    refine wpAny_dictSet_heap (hsz := hxs) (knd := tupleKind (mixKind X.prog X.w)) hu (key_of I.hok eb) dd fun h' dd' hs => h _ ?_
    obtain ⟨q, es, ep, hq, h2, h3, h4, _, h5⟩ := dd'
    have keep : ∀ (c : Addr) (ys : List V), H c = some (.tup ys) → upd H D (.dT (putK kvs k v)) c = some (.tup ys) := fun c ys ec => by
      rw [upd_ne (ne_of ec e (fun z => nomatch z))]; exact ec
    exact d_write I (by rw [e]; exact True.intro) hs ⟨q, hq⟩ ⟨hput, hd, _, (rel.put k eb rv).keeps fun c ys ec => keep c ys ec, q, es, ep, hq, h2, h3, h4, h5⟩
/-- {k: v for target in iter if ..}: D the new dict, o0 how it begins -/
def tDcP (o0 : HO) (wi : TI) (g : TG) (tt : TT) (tk tv : TE) (vs : List Nat) : TE := fun σ H Q => wi σ H fun J H1 => ∀ D, H1 D = none → ∃ W : Nat → Nat → Hp → Prop, (∃ m, W 0 m (upd H1 D o0)) ∧ ∀ i m H, W i m H →
  (J.stop i H ∧ Q (.ref D) H) ∨ (J.go i H ∧ ∃ Nx : Hp → Prop, (∀ H', Nx H' → ∃ m', m' < m ∧ W (i + 1) m' H') ∧ ∀ x H', J.yld i H x H' → g x (wipe σ vs) H' fun σ2 H2 => wipe σ2 vs = wipe σ vs ∧ tt σ2 H2 fun b H3 =>
    if b = true then tk σ2 H3 fun y H4 => tv σ2 H4 fun z H5 => ∃ H6, DPut H5 D y z H6 ∧ Nx H6 else Nx H3)
def IsNew (o0 : HO) : Prop := o0 = .dK [] ∨ o0 = .dT []
theorem lay_new {pins : List (Addr × Obj)} {σ : L2.St} {H : Hp} {s : Shared} {o0 : HO} (ho : IsNew o0) (I : Inv X pins σ H s) : Inv X pins σ (upd H s.heap.objs.size o0) { s with heap := s.heap.push { cls := .type "dict", data := .dict #[] } } := by
  rcases ho with rfl | rfl
  · exact I.laid (t' := s.toks) (fun b o e => Heap.get?_push_of_some _ e) (Nat.le_refl _) (dk_empty s.heap I.big)
  · exact I.laid (t' := s.toks) (fun b o e => Heap.get?_push_of_some _ e) (Nat.le_refl _) (dt_empty s.heap I.big)
theorem dcp_core {o0 : HO} {pins : List (Addr × Obj)} {sA : Shared} {σ : L2.St} {HA : Hp} {Q : VK} {kx vx tg iter : Expr} {ifs : List Expr} {scope : Scope} {own : List (Str × Nat)} {pos pos' : Pos} {wi : TI} {g : TG} {tt : TT} {tk tv : TE} {use : Option (Value → Sem Unit)} {Qf : Value → Shared → Prop}
    (hu : X.A.units < cLine) (h0 : IsNew o0) (hc : X.calm = true) (hN : X.N.Nodup) (IA : Inv X pins σ HA sA) (hi : PI X tg iter wi) (ok : BlkOk X.N X.env.scope scope own)
    (hg : ∀ (s : Shared) (H : Hp) (Ca : Addr) (cl : List (Str × Addr)) (fp : List Addr), PG (X.blk s H scope (compEnvC scope cl Ca X.env) fp) tg g) (ht : ∀ (s : Shared) (H : Hp) (Ca : Addr) (cl : List (Str × Addr)) (fp : List Addr), PTs (X.blk s H scope (compEnvC scope cl Ca X.env) fp) ifs tt)
    (hk : ∀ (s : Shared) (H : Hp) (Ca : Addr) (cl : List (Str × Addr)) (fp : List Addr), PE (X.blk s H scope (compEnvC scope cl Ca X.env) fp) kx tk)
    (he : ∀ (s : Shared) (H : Hp) (Ca : Addr) (cl : List (Str × Addr)) (fp : List Addr), PE (X.blk s H scope (compEnvC scope cl Ca X.env) fp) vx tv) (hs : ∀ x, foldedSetIterable iter X.env x = pure x)
    (hA : tDcP o0 wi g tt tk tv (own.map (·.2)) σ HA Q)
    (hEnd : ∀ D Ca s' m H', Inv X pins σ H' s' → Q (.ref D) H' → s'.heap.Ns Ca m → FpOk X pins H' Ca → compPost (model X.prog X.w) X.A X.xe use Qf (.ref D) Ca (.ok .next) s') :
    wpAny (model X.prog X.w) X.A (comprehension (.DictComp kx vx [⟨tg, iter, ifs, 0⟩] scope pos) scope X.env pos' newDict false (eval iter X.env) use) Qf X.xe sA := by
  have hfree : ∀ y ∈ scope.names, y.2 = .free → ∃ c, X.env.cells.lookup y.1 = some c := fun y hy e => (ok.free y hy e).elim (fun k => IA.ok.has _ (.inl k)) fun k => IA.ok.has _ (.inr k)
  refine wpAny_comprehension_free (use := use) rfl hs (closure_ok hfree) ok.kind (fun y hy e => by rw [ok.uniq y hy, e]) (thn (hi.run pins sA σ HA _ IA hA) fun xv sB hx => thn hx fun itv sC hC => ?_)
  obtain ⟨itr, fp, tick, Jt, HC, rfl, IC, TT, tick0, fC, qC⟩ := hC
  refine wpAny_newObj_type (newEnv_comp ?_)
  generalize hDD : sC.heap.objs.size = DD
  have hDn : HC DD = none := IC.hok.fresh (Nat.le_of_eq hDD)
  obtain ⟨W, ⟨m0, wBeg⟩, turn⟩ := qC DD hDn
  -- the new dict
  have ID := lay_new h0 IC
  rw [hDD] at ID
  generalize hsD : ({ sC with heap := sC.heap.push { cls := .type "dict", data := .dict #[] } } : Shared) = sD at ID
  have hpD : sD.heap = sC.heap.push { cls := .type "dict", data := .dict #[] } := by rw [← hsD]
  have small : ∀ b ∈ fp, b < sC.heap.objs.size := fun b hb => Heap.lt_size (TT.obj _ _ tick0 b hb).choose_spec.1
  have fD : ∀ b ∈ fp, FpOk X pins (upd HC DD o0) b ∧ b < sD.heap.objs.size := fun b hb => by
    have hlt := small b hb
    refine ⟨⟨?_, (fC b hb).2⟩, by rw [hpD, Heap.size_push]; exact Nat.lt_succ_of_lt hlt⟩
    rw [upd_ne (by rw [← hDD]; exact Nat.ne_of_lt hlt)]; exact (fC b hb).1
  have tickD : tick 0 sD.heap := TT.keep _ _ _ tick0 fun b _ o e => by rw [hpD]; exact Heap.get?_push_of_some _ e
  have IE := block_start ID ok hN fD
  have pg := hg sD (upd HC DD o0) sD.heap.objs.size (cellsFrom (sD.heap.objs.size + 1) scope.names (cloFrom X.env.cells scope.names [])) fp
  have pt := ht sD (upd HC DD o0) sD.heap.objs.size (cellsFrom (sD.heap.objs.size + 1) scope.names (cloFrom X.env.cells scope.names [])) fp
  have pk := hk sD (upd HC DD o0) sD.heap.objs.size (cellsFrom (sD.heap.objs.size + 1) scope.names (cloFrom X.env.cells scope.names [])) fp
  have pe := he sD (upd HC DD o0) sD.heap.objs.size (cellsFrom (sD.heap.objs.size + 1) scope.names (cloFrom X.env.cells scope.names [])) fp
  show codeAny _ _ (.compStart (.DictComp kx vx [⟨tg, iter, ifs, 0⟩] scope pos) 0 (.ref itr) (.ref DD) (compEnvC scope (cellsFrom (sD.heap.objs.size + 1) scope.names (cloFrom X.env.cells scope.names [])) sD.heap.objs.size X.env)) (compPost (model X.prog X.w) X.A X.xe use Qf (.ref DD) sD.heap.objs.size) { sD with heap := pushCells (sD.heap.push { cls := .type "dict", data := .dict #[] }) scope.names }
  have noFp : ∀ b ∈ fp, (upd HC DD o0) b = none := fun b hb => (fD b hb).1.1
  generalize hce : compEnvC scope (cellsFrom (sD.heap.objs.size + 1) scope.names (cloFrom X.env.cells scope.names [])) sD.heap.objs.size X.env = ce at IE pg pt pk pe ⊢
  have cLoc : ce.locals = sD.heap.objs.size := by subst hce; rfl
  generalize hHD : upd HC DD o0 = HD at ID IE pg pt pk pe wBeg noFp fD
  generalize hsE : ({ sD with heap := pushCells (sD.heap.push { cls := .type "dict", data := .dict #[] }) scope.names } : Shared) = sE at IE ⊢
  have tickE : tick 0 sE.heap := TT.keep _ _ _ tickD fun b _ o e => by rw [← hsE]; exact pushCells_keeps _ _ _ _ (Heap.get?_push_of_some _ e)
  have stat : ∀ {τ : L2.St} {G : Hp} {t : Shared}, Inv (X.blk sD HD scope ce fp) [] τ G t → (∀ b ∈ fp, G b = none) → ∀ b ∈ fp, FpOk (X.blk sD HD scope ce fp) [] G b := fun {τ G t} Iv hn b hb =>
    ⟨hn b hb, (Iv.ok.exf b hb).1, Iv.ok.exfs b hb, .inl hb, fun x c e => (Iv.ok.exf b hb).2 x c e, fun p hp => absurd (show p ∈ ([] : List (Addr × Obj)) ++ [] from hp) (by simp)⟩
  have loop : codeAny (model X.prog X.w) X.A (.compLoop (.DictComp kx vx [⟨tg, iter, ifs, 0⟩] scope pos) 0 (.ref itr) (.ref DD) ce) (compPost (model X.prog X.w) X.A X.xe use Qf (.ref DD) sD.heap.objs.size) sE := by
    refine compLoop_anyD (fun n t => ∃ i G, Inv (X.blk sD HD scope ce fp) [] (wipe σ (own.map (·.2))) G t ∧ tick i t.heap ∧ (∀ b ∈ fp, G b = none) ∧ W i n G) ?_ m0 ⟨0, HD, IE, tickE, noFp, wBeg⟩
    rintro n tA ⟨i, GA, JA, tickA, nA, wA⟩
    rcases turn i n GA wA with ⟨stop, qq⟩ | ⟨go, Nx, hNx, step⟩
    · refine thnF (TT.done (X.blk sD HD scope ce fp) rfl rfl rfl hc i [] tA _ GA (fun _ _ => False) JA (stat JA nA) tickA stop) fun r tB ⟨hr, JB⟩ => ?_
      subst hr
      -- the def's own context again
      have IZ : Inv X pins σ GA tB := ID.call' (ch := fp) JB.os JB.base JB.hok JB.bare fun b hb => ⟨(fD b hb).1.2.2.2.1, (fD b hb).1.2.1, (fD b hb).1.2.2.2.2.1, (fD b hb).1.2.2.2.2.2⟩
      have free : GA sD.heap.objs.size = none := by rw [← cLoc]; exact (show GA ce.locals = none from JB.free)
      obtain ⟨m, ns, _⟩ := JB.loc
      have ns : tB.heap.Ns sD.heap.objs.size m := by rw [← cLoc]; exact ns
      exact hEnd DD sD.heap.objs.size tB m GA IZ qq ns (ID.fpOk (Nat.le_refl _) free)
    · refine thnF (TT.item (X.blk sD HD scope ce fp) rfl rfl rfl hc i [] tA _ GA (fun _ _ => False) JA (stat JA nA) tickA go) fun r tB ⟨u, hr, hB⟩ => ?_
      subst hr
      refine thnF hB fun _ tC ⟨x, GC, JC, rC, yC, tickC, nC⟩ => ?_
      have JC' := JC.pinned (stat JC nC) (TT.obj _ _ tickC)
      refine thnF (pg.run _ tC _ GC x u _ JC' rC (step x GC yC)) fun _ tD ⟨τ, GD, JD, hw, qD⟩ => ?_
      refine thnF (pt.run _ tD τ GD _ JD qD) fun b tE ⟨GE, JE, qE⟩ => ?_
      have fin : ∀ {t : Shared} {G : Hp}, Inv (X.blk sD HD scope ce fp) ([] ++ pinsAt fp tC.heap) τ G t → Nx G → ∃ m, m < n ∧ ∃ i G, Inv (X.blk sD HD scope ce fp) [] (wipe σ (own.map (·.2))) G t ∧ tick i t.heap ∧ (∀ b ∈ fp, G b = none) ∧ W i m G := fun {t G} Iv nx => by
        obtain ⟨mn, hm, wn⟩ := hNx G nx
        have pin' : ∀ b ∈ fp, ∀ o, tC.heap.get? b = some o → t.heap.get? b = some o ∧ G b = none := fun b hb o e =>
          let z := Iv.pin (b, o) (List.mem_append_right _ (List.mem_append_right _ (mem_pinsAt hb e)))
          ⟨z.1, z.2.1⟩
        refine ⟨mn, hm, i + 1, G, (Iv.unpinned (pins := [])).weak (by rw [← hw, wipe_length]) (fun j v e => ?_), TT.keep _ _ _ tickC fun b hb o e => (pin' b hb o e).1, fun b hb => ?_, wn⟩
        · rw [← hw] at e; exact (wipe_some e).1
        · exact (pin' b hb _ (TT.obj _ _ tickC b hb).choose_spec.1).2
      cases b with
      | false => exact fin JE (by simpa using qE)
      | true =>
        simp only [if_true] at qE ⊢
        refine thnF (pk.run _ tE τ GE _ JE qE) fun z tF ⟨yk, GF, JF, rF, qF⟩ => ?_
        refine thnF (pe.run _ tF τ GF _ JF qF) fun z2 tG ⟨yv, GG, JG, rG, G6, put, nx⟩ => ?_
        exact d_dictPut (X := X.blk sD HD scope ce fp) hu JG put rF rG fun tH JH => fin JH nx
  exact codeAny_compStart_dict loop (TT.self X.A 0 _ _ _ tickE loop)
theorem pe_dcP {o0 : HO} {kx vx tg iter : Expr} {ifs : List Expr} {scope : Scope} {own : List (Str × Nat)} {pos : Pos} {wi : TI} {g : TG} {tt : TT} {tk tv : TE} (hu : X.A.units < cLine) (h0 : IsNew o0) (hc : X.calm = true) (hN : X.N.Nodup) (hi : PI X tg iter wi) (ok : BlkOk X.N X.env.scope scope own)
    (hg : ∀ (s : Shared) (H : Hp) (Ca : Addr) (cl : List (Str × Addr)) (fp : List Addr), PG (X.blk s H scope (compEnvC scope cl Ca X.env) fp) tg g) (ht : ∀ (s : Shared) (H : Hp) (Ca : Addr) (cl : List (Str × Addr)) (fp : List Addr), PTs (X.blk s H scope (compEnvC scope cl Ca X.env) fp) ifs tt)
    (hk : ∀ (s : Shared) (H : Hp) (Ca : Addr) (cl : List (Str × Addr)) (fp : List Addr), PE (X.blk s H scope (compEnvC scope cl Ca X.env) fp) kx tk)
    (he : ∀ (s : Shared) (H : Hp) (Ca : Addr) (cl : List (Str × Addr)) (fp : List Addr), PE (X.blk s H scope (compEnvC scope cl Ca X.env) fp) vx tv) (hs : ∀ x, foldedSetIterable iter X.env x = pure x) :
    PE X (.DictComp kx vx [⟨tg, iter, ifs, 0⟩] scope pos) (tDcP o0 wi g tt tk tv (own.map (·.2))) := by
  constructor
  intro pins s σ H Q I h
  rw [arm_eval_DictComp]
  refine dcp_core hu h0 hc hN I hi ok hg ht hk he hs h fun D Ca s' m H' I' q hn f => ⟨m, hn, fun h2 sb => ⟨.ref D, H', ?_, rfl, q⟩⟩
  exact I'.turned (t' := s'.toks) (fun b o hb e => (sb.2 b hb).trans e) f.1 f.2.1 f.2.2.2.1 f.2.2.2.2.1 f.2.2.2.2.2
theorem sw_trueD {kx vx : Expr} {gs : List Comprehension} {scope : Scope} {pos py : Pos} {y : Str} {l : Nat} {env : PySem.Env} (hk : env.scope.kind = .function) (hy : env.scope.names.lookup y = some .local) (hl : (py.line == pos.line) = true)
    (ha : (scope.names.any fun (n, k) => n == y && (k == .local || k == .cell)) = false) : swapsWith (.DictComp kx vx gs scope pos) (some (.Name y py)) l env = pure true := by
  have kn : env.kindOf y = some .local := hy
  have bk : env.blockKind = .function := by unfold Env.blockKind; rw [hk]; rfl
  unfold swapsWith
  simp only [bk, kn, ha, Expr.pos, hl]
  rfl
/-- name = {..} on one line, the name a local -/
theorem ps_setDcP {o0 : HO} {i : Nat} {y : Str} {py : Pos} {kx vx tg iter : Expr} {ifs : List Expr} {scope : Scope} {own : List (Str × Nat)} {pos spos : Pos} {wi : TI} {g : TG} {tt : TT} {tk tv : TE} (hu : X.A.units < cLine) (h0 : IsNew o0) (hc : X.calm = true) (hN : X.N.Nodup) (hy : X.N[i]? = some y)
    (hyl : X.env.scope.names.lookup y = some .local) (hsw : swapsWith (.DictComp kx vx [⟨tg, iter, ifs, 0⟩] scope pos) (some (.Name y py)) spos.line X.env = pure true) (hi : PI X tg iter wi) (ok : BlkOk X.N X.env.scope scope own)
    (hg : ∀ (s : Shared) (H : Hp) (Ca : Addr) (cl : List (Str × Addr)) (fp : List Addr), PG (X.blk s H scope (compEnvC scope cl Ca X.env) fp) tg g) (ht : ∀ (s : Shared) (H : Hp) (Ca : Addr) (cl : List (Str × Addr)) (fp : List Addr), PTs (X.blk s H scope (compEnvC scope cl Ca X.env) fp) ifs tt)
    (hk : ∀ (s : Shared) (H : Hp) (Ca : Addr) (cl : List (Str × Addr)) (fp : List Addr), PE (X.blk s H scope (compEnvC scope cl Ca X.env) fp) kx tk)
    (he : ∀ (s : Shared) (H : Hp) (Ca : Addr) (cl : List (Str × Addr)) (fp : List Addr), PE (X.blk s H scope (compEnvC scope cl Ca X.env) fp) vx tv) (hs : ∀ x, foldedSetIterable iter X.env x = pure x) :
    PS X (.Assign [.Name y py] (.DictComp kx vx [⟨tg, iter, ifs, 0⟩] scope pos) spos) (tAsg (tDcP o0 wi g tt tk tv (own.map (·.2))) (gName i)) := by
  constructor
  intro pins s σ H D I h
  rw [exec_Assign_Name_used _ _ _ _ hsw]
  refine wpAny_bind (wpAny_standAt (wpAny_bind ?_))
  show wpAny _ X.A (do let _ ← comprehension (.DictComp kx vx [⟨tg, iter, ifs, 0⟩] scope pos) scope X.env (firstIterPos [⟨tg, iter, ifs, 0⟩] pos) newDict false (eval iter X.env) (some (assign (.Name y py) X.env))) _ _ s
  have h : tDcP o0 wi g tt tk tv (own.map (·.2)) σ H (fun x H1 => gName i x σ H1 D.nx) := h
  refine wpAny_bind (thn (dcp_core (Qf := fun _ s' => SP X pins D .next s') hu h0 hc hN I hi ok hg ht hk he hs h fun L Ca s' m H' I' q hn f => ?_) fun _ s' hq => wpAny_pure (wpAny_pure hq))
  show wpAny _ _ (assign (.Name y py) X.env (.ref L)) _ _ _
  refine wpAny_assign_Name (store_ok2 (v := V.ref L) I' hN hy (.inl hyl) rfl (fun s2 I2 ⟨a, sb, ha⟩ => ?_) (.inr hyl))
  have hne : Ca ≠ a := ha.elim (fun z => by rw [z]; exact f.2.1) fun z e => f.2.2.2.2.1 y a z e.symm
  refine ⟨m, hn.sameBut sb hne, fun h3 sb3 => ⟨_, H', ?_, q⟩⟩
  exact I2.turned (t' := s2.toks) (fun b o hb e => (sb3.2 b hb).trans e) f.1 f.2.1 f.2.2.2.1 f.2.2.2.2.1 f.2.2.2.2.2
end

/-! the evaluator's dict comprehension -/
section
variable {ca : Addr} {fa : Nat → Addr} {F : Hp}
theorem any_K (k : Key) : ∀ {kvs : List (Key × V)} {ds : List (D × D)}, RpK ca fa F kvs ds → (kvs.any fun p => decide (p.1 = k)) = ds.any fun p => PyData.eqv p.1 (keyD k)
  | _, _, .nil => rfl
  | _, _, @RpK.cons _ _ _ k' v vs d ds g r t => by
    rw [List.any_cons, List.any_cons, any_K k t, eqv_key]
theorem any_T (k : List Key) : ∀ {kvs : List (List Key × V)} {ds : List (D × D)}, RpT ca fa F kvs ds → (kvs.any fun p => decide (p.1 = k)) = ds.any fun p => PyData.eqv p.1 (.tuple (k.map keyD))
  | _, _, .nil => rfl
  | _, _, @RpT.cons _ _ _ k' v vs d ds g r t => by
    rw [List.any_cons, List.any_cons, any_T k t, eqv_keys]
theorem map_K {k : Key} {v : V} {d : D} (r : Rp ca fa F v d) : ∀ {kvs : List (Key × V)} {ds : List (D × D)}, RpK ca fa F kvs ds → RpK ca fa F (kvs.map fun p => if p.1 = k then (p.1, v) else p) (ds.map fun p => if PyData.eqv p.1 (keyD k) = true then (p.1, d) else p)
  | _, _, .nil => .nil
  | _, _, @RpK.cons _ _ _ k' v' vs d' ds g r' t => by
    rw [List.map_cons, List.map_cons, eqv_key]
    by_cases h : k' = k
    · rw [decide_eq_true h, if_pos rfl, if_pos h]; exact .cons g r (map_K r t)
    · rw [decide_eq_false h, if_neg Bool.false_ne_true, if_neg h]; exact .cons g r' (map_K r t)
theorem map_T {k : List Key} {v : V} {d : D} (r : Rp ca fa F v d) : ∀ {kvs : List (List Key × V)} {ds : List (D × D)}, RpT ca fa F kvs ds → RpT ca fa F (kvs.map fun p => if p.1 = k then (p.1, v) else p) (ds.map fun p => if PyData.eqv p.1 (.tuple (k.map keyD)) = true then (p.1, d) else p)
  | _, _, .nil => .nil
  | _, _, @RpT.cons _ _ _ k' v' vs d' ds g r' t => by
    rw [List.map_cons, List.map_cons, eqv_keys]
    by_cases h : k' = k
    · rw [decide_eq_true h, if_pos rfl, if_pos h]; exact .cons g r (map_T r t)
    · rw [decide_eq_false h, if_neg Bool.false_ne_true, if_neg h]; exact .cons g r' (map_T r t)
theorem snoc_K {k : Key} {v : V} {d : D} (g : keyG k = true) (r : Rp ca fa F v d) : ∀ {kvs : List (Key × V)} {ds : List (D × D)}, RpK ca fa F kvs ds → RpK ca fa F (kvs ++ [(k, v)]) (ds ++ [(keyD k, d)])
  | _, _, .nil => .cons g r .nil
  | _, _, .cons g' r' t => .cons g' r' (snoc_K g r t)
theorem snoc_T {k : List Key} {v : V} {d : D} (g : k.all keyG = true) (r : Rp ca fa F v d) : ∀ {kvs : List (List Key × V)} {ds : List (D × D)}, RpT ca fa F kvs ds → RpT ca fa F (kvs ++ [(k, v)]) (ds ++ [(.tuple (k.map keyD), d)])
  | _, _, .nil => .cons g r .nil
  | _, _, .cons g' r' t => .cons g' r' (snoc_T g r t)
theorem put_K {k : Key} {v : V} {d : D} {kvs : List (Key × V)} {ds : List (D × D)} (g : keyG k = true) (r : Rp ca fa F v d) (t : RpK ca fa F kvs ds) : RpK ca fa F (putK kvs k v) (putD (keyD k) d ds) := by
  unfold putK putD
  rw [any_K k t]
  by_cases h : (ds.any fun p => PyData.eqv p.1 (keyD k)) = true
  · rw [if_pos h, if_pos h]; exact map_K r t
  · rw [if_neg h, if_neg h]; exact snoc_K g r t
theorem put_T {k : List Key} {v : V} {d : D} {kvs : List (List Key × V)} {ds : List (D × D)} (g : k.all keyG = true) (r : Rp ca fa F v d) (t : RpT ca fa F kvs ds) : RpT ca fa F (putK kvs k v) (putD (.tuple (k.map keyD)) d ds) := by
  unfold putK putD
  rw [any_T k t]
  by_cases h : (ds.any fun p => PyData.eqv p.1 (.tuple (k.map keyD))) = true
  · rw [if_pos h, if_pos h]; exact map_T r t
  · rw [if_neg h, if_neg h]; exact snoc_T g r t
theorem rp_keyG {v : V} {k : Key} (r : Rp ca fa F v (keyD k)) : keyG k = true := by
  cases k with
  | inl i => rfl
  | inr x =>
    cases r with
    | str _ g => exact g
theorem rp_keysG : ∀ {vs : List V} {ks : List Key}, RpAll ca fa F vs (ks.map keyD) → ks.all keyG = true
  | _, [], _ => rfl
  | _, k :: ks, r => by
    rw [List.map_cons] at r
    cases r with
    | cons r1 r2 => rw [List.all_cons, rp_keyG r1, rp_keysG r2]; rfl
theorem rpK_len : ∀ {kvs : List (Key × V)} {ds : List (D × D)}, RpK ca fa F kvs ds → kvs.length = ds.length
  | _, _, .nil => rfl
  | _, _, .cons _ _ t => by rw [List.length_cons, List.length_cons, rpK_len t]
theorem rpT_len : ∀ {kvs : List (List Key × V)} {ds : List (D × D)}, RpT ca fa F kvs ds → kvs.length = ds.length
  | _, _, .nil => rfl
  | _, _, .cons _ _ t => by rw [List.length_cons, List.length_cons, rpT_len t]
end
/-- a dict that stands at p -/
def DAt (ca : Addr) (fa : Nat → Addr) (t : Bool) (F H : Hp) (p : Addr) (ds : List (D × D)) : Prop :=
  if t = true then ∃ kvs, H p = some (.dT kvs) ∧ RpT ca fa F kvs ds else ∃ kvs, H p = some (.dK kvs) ∧ RpK ca fa F kvs ds
section
variable {ca : Addr} {fa : Nat → Addr} {F H : Hp} {t : Bool} {p : Addr} {ds : List (D × D)}
theorem DAt.keep {F' H' : Hp} (h : DAt ca fa t F H p ds) (f : Sub F F') (e : ∀ u, H p = some u → H' p = some u) : DAt ca fa t F' H' p ds := by
  unfold DAt at h ⊢
  cases t with
  | true =>
    obtain ⟨kvs, h1, h2⟩ := (show ∃ kvs, H p = some (.dT kvs) ∧ RpT ca fa F kvs ds from h)
    exact ⟨kvs, e _ h1, h2.mono f⟩
  | false =>
    obtain ⟨kvs, h1, h2⟩ := (show ∃ kvs, H p = some (.dK kvs) ∧ RpK ca fa F kvs ds from h)
    exact ⟨kvs, e _ h1, h2.mono f⟩
theorem DAt.at (h : DAt ca fa t F H p ds) : ∃ u, H p = some u ∧ Pl u := by
  unfold DAt at h
  cases t with
  | true =>
    obtain ⟨kvs, h1, h2⟩ := (show ∃ kvs, H p = some (.dT kvs) ∧ RpT ca fa F kvs ds from h)
    exact ⟨_, h1, pl_dT⟩
  | false =>
    obtain ⟨kvs, h1, h2⟩ := (show ∃ kvs, H p = some (.dK kvs) ∧ RpK ca fa F kvs ds from h)
    exact ⟨_, h1, pl_dK⟩
theorem DAt.ow (h : DAt ca fa t F H p ds) : OwAt ca fa F H p (.dict ((.none, .bool t) :: ds)) := by
  unfold DAt at h
  cases t with
  | true =>
    obtain ⟨kvs, h1, h2⟩ := (show ∃ kvs, H p = some (.dT kvs) ∧ RpT ca fa F kvs ds from h)
    exact .dT h1 h2
  | false =>
    obtain ⟨kvs, h1, h2⟩ := (show ∃ kvs, H p = some (.dK kvs) ∧ RpK ca fa F kvs ds from h)
    exact .dK h1 h2
theorem DAt.put {y z : V} {k d : D} (h : DAt ca fa t F H p ds) (fh : Sub F H) (hk : keyFor t k = true) (rk : Rp ca fa F y k) (r : Rp ca fa F z d) (hl : ds.length < sizeLine) : ∃ u, DPut H p y z (upd H p u) ∧ Pl u ∧ DAt ca fa t F (upd H p u) p (putD k d ds) := by
  unfold DAt at h
  cases t with
  | true =>
    obtain ⟨kvs, h1, h2⟩ := (show ∃ kvs, H p = some (.dT kvs) ∧ RpT ca fa F kvs ds from h)
    obtain ⟨ks, rfl⟩ := keyFor_T hk
    obtain ⟨b, vs, rfl, e, l, q⟩ := rp_tup rk
    have hg := rp_keysG q
    obtain rfl := rp_keys q
    exact ⟨_, .inr ⟨kvs, ks, b, h1, rfl, fh _ _ e, by rw [rpT_len h2]; exact hl, rfl⟩, pl_dT, ⟨_, upd_same, put_T hg r h2⟩⟩
  | false =>
    obtain ⟨kvs, h1, h2⟩ := (show ∃ kvs, H p = some (.dK kvs) ∧ RpK ca fa F kvs ds from h)
    obtain ⟨kk, rfl⟩ := keyFor_K hk
    have hg := rp_keyG rk
    obtain rfl := rp_key rk
    exact ⟨_, .inl ⟨kvs, kk, h1, rfl, by rw [rpK_len h2]; exact hl, rfl⟩, pl_dK, ⟨_, upd_same, put_K hg r h2⟩⟩
end
def newO (t : Bool) : HO := if t then .dT [] else .dK []
theorem newO_is (t : Bool) : IsNew (newO t) := by cases t <;> first | exact .inl rfl | exact .inr rfl
section
variable {C : Tx} {g : Gd} {n : Nat} {call : Nat → List D → M D} {W : WX} {X : Cx}
def stepD (call : Nat → List D → M D) (ρ : En) (t : Bool) (vs : List Nat) (tg : Tg) (cs : Es) (k v : E) : D → M (Option D) := fun x => match setTg tg x (wipeE ρ vs) with
  | none => M.err
  | some ρ' => M.bnd (evTs call cs ρ') fun b => if b then M.bnd (evE call k ρ') fun y => M.bnd (evE call v ρ') fun z => if keyFor t y then M.ret (some (.tuple [y, z])) else M.err else M.ret none
theorem ev_dcomp (t : Bool) (vs : List (Str × Nat)) (tg : Tg) (it : FS.It) (cs : Es) (k v : E) (ρ : En) : evE call (.dcomp t vs tg it cs k v) ρ =
    M.bnd (evIt call true it ρ) fun xs => M.bnd (M.nox (compL (stepD call ρ t (vs.map (·.2)) tg cs k v) xs)) fun ds => M.ret (.dict ((.none, .bool t) :: ds.foldl putP [])) := rfl
theorem stepD_ok {ρ : En} {t : Bool} {vs : List Nat} {tg : Tg} {cs : Es} {k v : E} {x : D} {c c' : Cup} {o : Option D} (h : stepD call ρ t vs tg cs k v x c = .ok o c') : ∃ ρ' b c1, setTg tg x (wipeE ρ vs) = some ρ' ∧ evTs call cs ρ' c = .ok b c1 ∧
    ((b = false ∧ o = none ∧ c1 = c') ∨ (b = true ∧ ∃ y z c2, o = some (.tuple [y, z]) ∧ keyFor t y = true ∧ evE call k ρ' c1 = .ok y c2 ∧ evE call v ρ' c2 = .ok z c')) := by
  unfold stepD at h
  cases e : setTg tg x (wipeE ρ vs) with
  | none => rw [e] at h; cases h
  | some ρ' =>
    rw [e] at h
    obtain ⟨b, c1, e1, h⟩ := bnd_ok h
    cases b with
    | false => cases h; exact ⟨ρ', false, _, rfl, e1, .inl ⟨rfl, rfl, rfl⟩⟩
    | true =>
      obtain ⟨y, c2, e2, h⟩ := bnd_ok (show M.bnd (evE call k ρ') (fun y => M.bnd (evE call v ρ') fun z => if keyFor t y then M.ret (some (.tuple [y, z])) else M.err) c1 = .ok o c' from h)
      obtain ⟨z, c3, e3, h⟩ := bnd_ok h
      by_cases hk : keyFor t y = true
      · rw [if_pos hk] at h; cases h
        exact ⟨ρ', true, _, rfl, e1, .inr ⟨rfl, y, z, c2, rfl, hk, e2, e3⟩⟩
      · rw [if_neg hk] at h; cases h
def AtD (g : Gd) (F1 H1 : Hp) (p : Addr) (t : Bool) (f : D → M (Option D)) (xs ys : List D) (c2 : Cup) (i m : Nat) (H : Hp) : Prop :=
  i ≤ xs.length ∧ m = xs.length - i ∧ ∃ F c ds rest, Step g.ca g.T F1 H1 c F H ∧ F p = none ∧ DAt g.ca g.fa t F H p ds ∧ ds.length ≤ i ∧ compL f (xs.drop i) c = .ok rest c2 ∧ ys.foldl putP [] = rest.foldl putP ds
theorem putD_len (k v : D) (ds : List (D × D)) : (putD k v ds).length ≤ ds.length + 1 := by
  unfold putD
  split
  · rw [List.length_map]; omega
  · rw [List.length_append]; exact Nat.le_refl _
theorem t_dcomp {t : Bool} {vs : List (Str × Nat)} {tg : Tg} {it : FS.It} {cs : Es} {k v : E} {σ : SV} {H : Hp} {Q : VK} (hi : tgIn vs tg = true) (q : tO g X.K W (evE call (.dcomp t vs tg it cs k v)) σ H Q) :
    tDcP (newO t) (tI g X.K W (relT g.ca g.T) (evIt call true it)) (tG X.K tg) (tT g X.K W0 (evTs call cs)) (tE g X.K W0 (evE call k)) (tE g X.K W0 (evE call v)) (vs.map (·.2)) σ H Q := by
  obtain ⟨F, ρ, c, gs, r⟩ := q
  rw [ev_dcomp] at r
  refine ⟨F, ρ, c, gs, (Res.bind r).imp fun xs c1 r1 J F1 H1 s1 wk hz p hp => ?_⟩
  obtain ⟨ys, c2, e0, r2⟩ := Res.nox r1
  have gs1 := gs.step s1
  have hne : p ≠ g.ca := fun z => by rw [z, s1.cup] at hp; cases hp
  have beg : DAt g.ca g.fa t F1 (upd H1 p (newO t)) p [] := by
    unfold DAt newO
    cases t with
    | true => exact ⟨[], upd_same, .nil⟩
    | false => exact ⟨[], upd_same, .nil⟩
  refine ⟨AtD g F1 H1 p t (stepD call ρ t (vs.map (·.2)) tg cs k v) xs ys c2, ⟨xs.length, Nat.zero_le _, rfl, F1, c1, [], ys, gs1.grow (.heap s1.fh (Sub.upd hp)), s1.fh.none hp, beg, Nat.le_refl _, e0, rfl⟩, ?_⟩
  rintro i m H2 ⟨hi1, rfl, F2, c3, ds, rest, s2, f2, a2, la, e2, ey⟩
  obtain ⟨u2, hu2, pl2⟩ := a2.at
  obtain ⟨wk1, wk2⟩ := wk F2 H2 ⟨c3, s2⟩
  by_cases hlt : i < xs.length
  · right
    obtain ⟨go, yl⟩ := wk1 i _ (List.getElem?_eq_getElem hlt)
    rw [drop_cons hlt] at e2
    obtain ⟨o, c4, rest', e3, e4, rfl⟩ := compL_cons e2
    obtain ⟨ρ', b, c5, e5, e6, e7⟩ := stepD_ok e3
    refine ⟨go, AtD g F1 H1 p t (stepD call ρ t (vs.map (·.2)) tg cs k v) xs ys c2 (i + 1) (xs.length - (i + 1)), fun H' hn => ⟨_, by omega, hn⟩, fun x H' hy => ?_⟩
    obtain ⟨F3, w3, r3⟩ := yl x H' hy
    have s3 := s2.grow w3
    have gs3 := ((gs1.step s2).step (w3.step s2.cup s2.tabs)).wipe (vs.map (·.2))
    have st3 := (w3.step s2.cup s2.tabs).stays hne hu2 pl2 f2
    refine tgSet gs3 r3 e5 fun σ2 hg4 hw => ?_
    have gs4 := hg4 F3 c3 H' (.refl _) gs3
    refine ⟨?_, F3, ρ', c3, gs4, res_ok e6 ?_⟩
    · rw [hw _ (tgIn_of hi), wipe_wipe fun _ h => h]
    · intro F4 H4 s4
      have st4 := s4.stays hne st3.1 pl2 st3.2
      rcases e7 with ⟨rfl, rfl, rfl⟩ | ⟨rfl, y, z, c6, rfl, hk, e8, e9⟩
      · exact ⟨hlt, rfl, F4, c5, ds, rest', s3.trans s4, st4.2, a2.keep (w3.ff.trans s4.ff) fun u q => by rw [hu2] at q; cases q; exact st4.1, Nat.le_succ_of_le la, e4, ey⟩
      · refine ⟨F4, ρ', c5, gs4.step s4, res_ok e8 fun yv F5 H5 s5 ry => ?_⟩
        have st5 := s5.stays hne st4.1 pl2 st4.2
        refine ⟨F5, ρ', c6, (gs4.step s4).step s5, res_ok e9 fun zv F6 H6 s6 rz => ?_⟩
        have st6 := s6.stays hne st5.1 pl2 st5.2
        have s7 := ((s3.trans s4).trans s5).trans s6
        have a6 : DAt g.ca g.fa t F6 H6 p ds := a2.keep (((w3.ff.trans s4.ff).trans s5.ff).trans s6.ff) fun u q => by rw [hu2] at q; cases q; exact st6.1
        obtain ⟨u7, dp, pl7, a7⟩ := a6.put s6.fh hk (ry.mono s6.ff) rz (by omega)
        refine ⟨_, dp, hlt, rfl, F6, c4, _, rest', s7.turn hp hne st6.2 st6.1 pl2, st6.2, a7, Nat.le_trans (putD_len _ _ _) (Nat.succ_le_succ la), e4, ey⟩
  · left
    have he : i = xs.length := by omega
    subst he
    refine ⟨wk2, ?_⟩
    rw [List.drop_length] at e2
    cases e2
    rw [ey] at r2
    exact r2 _ _ _ (s1.trans s2) (s1.none hp) f2 hne a2.ow
end
end FS

-- part FsSrt1
set_option Elab.async false
set_option linter.all false
set_option maxRecDepth 100000
set_option maxHeartbeats 4000000
/-! sorted of alike data, tuples with and without items among them. -/
namespace FS
open PySem PySem.Spec PyProof.Rows L2 PySem.W PySem.SeqAt

theorem and2' {a b : Bool} (h : (a && b) = true) : a = true ∧ b = true := by rw [Bool.and_eq_true] at h; exact h
section
variable {prog : Program} {w : World} {A : Around} {Er : Value → Shared → Prop} {s : Shared}
/-- tuple's own __lt__, as sorting calls it -/
theorem call_tupLt {A : Around} {l b : Addr} {items items2 : Array Value} {e r : Nat → Bool} {Q : Value → Shared → Prop} (hl : s.heap.IsTuple l items) (hb : s.heap.IsTuple b items2)
    (he : ∀ j (h1 : j < items.size) (h2 : j < items2.size), EqAt A.in1 s items[j] items2[j] (e j)) (hr : ∀ j (h1 : j < items.size) (h2 : j < items2.size), e j = false → RcLt A.in1 s items[j] items2[j] (r j))
    (h : Q (.bool (firstLt e r (decide (items.size < items2.size)) (List.range (min items.size items2.size)))) s) : wpAny (model prog w) A (call (.builtin "tuple.__lt__") [.ref l, .ref b]) Q Er s := by
  obtain ⟨⟨c1, d1, x1, y1⟩, o1, hc1, n1, hd1⟩ := id hl
  obtain ⟨⟨c2, d2, x2, y2⟩, o2, hc2, n2, hd2⟩ := id hb
  simp only at hc1 hd1 hc2 hd2
  subst hc1 hd1 hc2 hd2
  exact call_meets F.slot_tuple_lt ⟨_, o1, rfl⟩ F.entry_tuple_lt (F.args_tuple_lt_2 _ _) (tuple_ltAt l b items items2 n1 n2 d1 d2 y1 y2 e r) ⟨o1, o2, he, hr, h⟩
/-- one tuple against another, whatever the kind of the keys -/
theorem oneLt_tups {f : Bool} {xs ys : List PyData} {a b : Value} {as bs : List Addr} {Q : Bool → Shared → Prop} (ra : Reads s.heap a (.tuple xs) as) (rb : Reads s.heap b (.tuple ys) bs) (h : alike (.tuple xs) (.tuple ys) = true)
    (hu : A.units + min (PyData.tuple xs).depth (PyData.tuple ys).depth < cLine) (hq : Q (dataLt (.tuple xs) (.tuple ys)) s) : wpAny (model prog w) A (oneLt' f a b) Q Er s := by
  cases f with
  | false => exact oneLt_alike (fun z => Bool.noConfusion z) ra rb h (fun z => PyData.noConfusion z) hu hq
  | true =>
    have hal : alikeAll xs ys = true := by simpa [alike] using h
    cases ra with
    | @tuple l o vs n _ as1 h1 h2 h3 h4 =>
      cases rb with
      | @tuple l' o' vs' n' _ bs1 k1 k2 k3 k4 =>
        have n1 : vs.size = xs.length := by simpa using SeqAt.ReadsAll.length _ _ _ h4
        have n2 : vs'.size = ys.length := by simpa using SeqAt.ReadsAll.length _ _ _ k4
        rw [dataLt_tuple, ← firstLt_toks xs ys hal, ← n1, ← n2] at hq
        rw [oneLt'_eq]
        simp only [if_true]
        refine wpAny_bind (wpAny_cRoomFor (room_here hu) ?_)
        refine wpAny_bind (wpAny_callSpecialIfBound?_slot (T := "tuple") ⟨_, h1, h2⟩ F.slot_tuple_lt (call_tupLt (e := pairEq xs ys) (r := fun j => dataLt (xs.getD j .none) (ys.getD j .none)) ⟨_, h1, h2, _, h3⟩ ⟨_, k1, k2, _, k3⟩ (fun j j1 j2 => ?_) (fun j j1 j2 hj => ?_) ?_))
        · have := eqAt_alikeAll xs ys A.in1 s vs.toList vs'.toList _ _ h4 k4 hal (SeqAt.room_in hu) j (by simpa using j1) (by simpa using j2)
          simpa using this
        · have := rcLt_alikeAll xs ys A.in1 s vs.toList vs'.toList _ _ h4 k4 hal (SeqAt.room_in hu) j (by simpa using j1) (by simpa using j2) hj
          simpa using this
        · exact wpAny_truthy_bool hq
/-- the first items of tuples, where there is one -/
theorem firsts_tups {M : Model} : ∀ (vs : List Value) (dss : List (List PyData)) {Q : List (Option Value) → Shared → Prop}, EachIs (fun v ds => ∃ as, Reads s.heap v (.tuple ds) as) vs dss →
    (∀ fs : List (Option Value), fs.map Option.isSome = dss.map (fun ds => !ds.isEmpty) → Q fs s) → wpAny M A (vs.mapM firstOfTuple') Q Er s
  | _, _, _, .nil, h => by rw [List.mapM_nil]; exact wpAny_pure (h [] rfl)
  | v :: vs, ds :: dss, Q, .cons ⟨as, r⟩ t, h => by
    cases r with
    | @tuple a o xs n _ _ ho hc hd hr =>
      rw [List.mapM_cons]
      refine wpAny_bind ?_
      rw [kas_first_eq]
      refine wpAny_bind (Looks.here (show Looks M s.heap (typeOf (.ref a)) o.cls from (Looks.ld ho).andThen .now) ?_)
      rw [hc, if_neg (by first | decide | simp)]
      refine wpAny_bind (listItems_at ho hd (wpAny_pure ?_))
      refine wpAny_bind (firsts_tups vs dss t fun fs hfs => wpAny_pure (h _ ?_))
      rw [List.map_cons, List.map_cons, hfs]
      congr 1
      have n1 : xs.size = ds.length := by simpa using SeqAt.ReadsAll.length _ _ _ hr
      cases ds with
      | nil =>
        rw [Array.getElem?_eq_none (by rw [n1]; exact Nat.le_refl _)]; rfl
      | cons d ds =>
        rw [Array.getElem?_eq_getElem (by rw [n1]; exact Nat.succ_pos _)]; rfl
theorem each_tup {h : Heap} : ∀ {vs : List Value} {ds : List PyData}, EachIs (fun v d => ∃ as, Reads h v d as) vs ds → (∀ d ∈ ds, ∃ xs, d = .tuple xs) → ∃ dss : List (List PyData), ds = dss.map .tuple ∧ EachIs (fun v ds => ∃ as, Reads h v (.tuple ds) as) vs dss
  | _, _, .nil, _ => ⟨[], rfl, .nil⟩
  | _, _, .cons (b := d) r t, ht => by
    obtain ⟨dss, e, k⟩ := each_tup t fun d hd => ht d (List.mem_cons_of_mem _ hd)
    obtain ⟨xs, rfl⟩ := ht d List.mem_cons_self
    exact ⟨xs :: dss, by rw [e]; rfl, .cons r k⟩
/-- tuples, some without an item, can be sorted -/
theorem sorts_mixed {vs : List Value} {ds : List PyData} (e : EachIs (fun v d => ∃ as, Reads s.heap v d as) vs ds) (hal : AllAlike ds) (ht : ∀ d ∈ ds, ∃ xs, d = .tuple xs) (hno : PyData.tuple [] ∈ ds) (hu : ∀ d, d ∈ ds → A.units + d.depth < cLine) :
    SortsAt prog w A s (dataKind s.heap ds) vs := by
  have room : ∀ {d d' : PyData}, d ∈ ds → A.units + min d.depth d'.depth < cLine := fun {d d'} hd => Nat.lt_of_le_of_lt (Nat.add_le_add_left (Nat.min_le_left _ _) _) (hu d hd)
  have lt1 : ∀ f : Bool, ∀ (Er : Value → Shared → Prop) {x y : Value} {a b : List (Int ⊕ List Nat)} {Q : Bool → Shared → Prop}, (dataKind s.heap ds).keyOf x = some a → (dataKind s.heap ds).keyOf y = some b → Q ((dataKind s.heap ds).blt a b) s → wpAny (model prog w) A (oneLt' f x y) Q Er s := fun f Er x y a b Q ha hb hq => by
    obtain ⟨d, as, hd, ra, rfl⟩ := dataKind_inv ha
    obtain ⟨d', as', hd', rb, rfl⟩ := dataKind_inv hb
    have hdd := hal d hd d' hd'
    have hroom := room (d' := d') hd
    obtain ⟨xs, rfl⟩ := ht d hd
    obtain ⟨ys, rfl⟩ := ht d' hd'
    exact oneLt_tups ra rb hdd hroom hq
  refine ⟨fun v hv => ?_, ?_⟩
  · obtain ⟨d, hd, as, r⟩ := e.left v hv
    exact ⟨_, dataKind_some hal hd r⟩
  · obtain ⟨dss, rfl, k⟩ := each_tup e ht
    have hmem : [] ∈ dss := by
      obtain ⟨x, hx, ex⟩ := List.mem_map.mp hno
      cases ex; exact hx
    have notAll : ∀ fs : List (Option Value), fs.map Option.isSome = dss.map (fun ds => !ds.isEmpty) → ¬ (fs.toArray.all fun x => x.isSome) = true := fun fs hfs z => by
      simp only [List.all_toArray, List.all_eq_true] at z
      have hm : false ∈ fs.map Option.isSome := by rw [hfs]; exact List.mem_map.mpr ⟨[], hmem, rfl⟩
      obtain ⟨x, hx, ex⟩ := List.mem_map.mp hm
      rw [z x hx] at ex; cases ex
    cases k with
    | nil => cases hmem
    | @cons v0 d0 vs0 dss0 r0 t0 =>
      have k : EachIs (fun v ds => ∃ as, Reads s.heap v (.tuple ds) as) (v0 :: vs0) (d0 :: dss0) := .cons r0 t0
      have first : ∀ fs : List (Option Value), fs.map Option.isSome = (d0 :: dss0).map (fun ds => !ds.isEmpty) → (fs.toArray[0]?.bind id).isSome = !d0.isEmpty := fun fs hfs => by
        cases fs with
        | nil => cases hfs
        | cons f fs =>
          rw [List.map_cons, List.map_cons] at hfs
          have := (List.cons.inj hfs).1
          rw [← this]
          cases f <;> rfl
      by_cases h0 : d0.isEmpty = true
      · refine ⟨oneType', fun Er x y a b Q ha hb hq => lt1 true Er ha hb hq, fun h2 Er Q hq => ?_⟩
        rw [keyKind'_eq, List.mapM_toArray, map_eq_pure_bind]
        refine wpAny_bind (wpAny_bind (firsts_tups _ _ k fun fs hfs => wpAny_pure ?_))
        rw [if_neg (notAll fs hfs), if_neg (by rw [first fs hfs, h0]; exact fun z => Bool.noConfusion z)]
        rw [oneTypeOnly'_eq, List.mapM_toArray, map_eq_pure_bind]
        refine wpAny_bind (wpAny_bind (wpAny_bind (kas_mapM (r := Value.type "tuple") _ (fun v hv Q' hq' => ?_) (wpAny_pure ?_))))
        · obtain ⟨ds, _, as, r⟩ := k.left v hv
          exact (looks_reads (M := model prog w) r).here hq'
        · have hall : ((List.map (fun _ => Value.type "tuple") (v0 :: vs0)).toArray.all fun x => x == Value.type "tuple") = true := by
            simp only [List.all_toArray, List.all_map, List.all_eq_true]
            intro _ _
            rfl
          have hz : (List.map (fun _ => Value.type "tuple") (v0 :: vs0)).toArray[0]? = some (Value.type "tuple") := by simp
          rw [hz]
          simp only [hall, if_true]
          exact wpAny_pure (wpAny_pure hq)
      · refine ⟨general', fun Er x y a b Q ha hb hq => lt1 false Er ha hb hq, fun h2 Er Q hq => ?_⟩
        rw [keyKind'_eq, List.mapM_toArray, map_eq_pure_bind]
        refine wpAny_bind (wpAny_bind (firsts_tups _ _ k fun fs hfs => wpAny_pure ?_))
        rw [if_neg (notAll fs hfs), if_pos (by rw [first fs hfs]; simpa using h0)]
        exact wpAny_pure hq
/-- alike data but None can be sorted -/
theorem sorts_any {vs : List Value} {ds : List PyData} (e : EachIs (fun v d => ∃ as, Reads s.heap v d as) vs ds) (hal : AllAlike ds) (hn : ∀ d ∈ ds, d ≠ .none) (hu : ∀ d, d ∈ ds → A.units + d.depth < cLine) : SortsAt prog w A s (dataKind s.heap ds) vs := by
  by_cases ht : ∀ d ∈ ds, ∃ xs, d = .tuple xs
  · by_cases hno : PyData.tuple [] ∈ ds
    · exact sorts_mixed e hal ht hno hu
    · refine SortsAt.data e hal (.inl fun d hd => ?_) hu
      obtain ⟨xs, rfl⟩ := ht d hd
      cases xs with
      | nil => exact absurd hd hno
      | cons x xs => exact ⟨x, xs, rfl⟩
  · refine SortsAt.data e hal (.inr fun d hd => ⟨hn d hd, fun xs z => ht fun d' hd' => ?_⟩) hu
    have := hal d hd d' hd'
    rw [z] at this
    cases d' <;> first | exact ⟨_, rfl⟩ | (simp [alike] at this)
/-- sorted(xs) -/
theorem sorted_all {l : Addr} {vs : List Value} {ds : List PyData} {R : Value → PyData → Prop} {Q : Value → Shared → Prop} (hl : s.heap.IsList l vs.toArray) (e : EachIs R vs ds) (er : EachIs (fun v d => ∃ as, Reads s.heap v d as) vs ds) (hal : AllAlike ds) (hn : ∀ d ∈ ds, d ≠ .none) (hL : ds.length ≤ sizeLine)
    (hu : ∀ d, d ∈ ds → A.units + 2 + d.depth < cLine) (h : ∀ out, out.length = ds.length → EachIs R out (ds.mergeSort (dataLe false id)) → Q (.ref (s.heap.objs.size + 1)) { s with heap := sortedAll s.heap vs (List.toArray out) }) :
    wpAny (model prog w) A (call (.builtin "sorted") [.ref l]) Q Er s := by
  have er' : EachIs (fun v d => ∃ as, Reads (sortingHeap (copyHeap s.heap vs) (s.heap.objs.size + 1) vs) v d as) vs ds := er.mono fun _ _ ⟨as, r⟩ => ⟨as, PyProof.Rows.Reads.keeps (fun _ _ => sorting_copy_old) r⟩
  have S := sorts_any (prog := prog) (w := w) (A := A.in1.in1) (s := { s with heap := sortingHeap (copyHeap s.heap vs) (s.heap.objs.size + 1) vs }) er' hal hn hu
  refine sorted_vals hl S (by rw [e.length]; exact hL) (h _ (by rw [sortVals_length false rfl]; exact e.length) ?_)
  have := sortVals_data (enc := id) false e er' (by rw [List.map_id]; exact hal)
  rw [List.map_id] at this
  exact this
end

/-! as a rule -/
section
variable {X : Cx} {ca : Addr} {fa : Nat → Addr}
theorem rp_each {F H : Hp} {s : Shared} {σ : L2.St} {pins : List (Addr × Obj)} (I : Inv X pins σ H s) (fh : Sub F H) : ∀ {xs : List V} {ds : List D} {us : List Value}, RpAll ca fa F xs ds → Vals xs us → (∀ d ∈ ds, shaped d = true) →
    EachIs (fun u d => ∃ x, RelV x u ∧ Rp ca fa F x d) us ds ∧ EachIs (fun v d => ∃ as, Reads s.heap v d as) us ds
  | _, _, _, .nil, v, _ => by cases v; exact ⟨.nil, .nil⟩
  | _, _, _, .cons r t, v, hs => by
    cases v with
    | cons v1 v2 =>
      obtain ⟨k1, k2⟩ := rp_each I fh t v2 fun d hd => hs d (List.mem_cons_of_mem _ hd)
      exact ⟨.cons ⟨_, v1, r⟩ k1, .cons (Dp.reads I _ _ _ (r.dp (K := X.K) fh (SeqAt.canLay_of_shaped (hs _ List.mem_cons_self))) v1) k2⟩
theorem each_rp {F : Hp} : ∀ {us : List Value} {ds : List D}, EachIs (fun u d => ∃ x, RelV x u ∧ Rp ca fa F x d) us ds → ∃ xs, Vals xs us ∧ RpAll ca fa F xs ds
  | _, _, .nil => ⟨[], .nil, .nil⟩
  | _, _, .cons ⟨x, r1, r2⟩ t => by
    obtain ⟨xs, h1, h2⟩ := each_rp t
    exact ⟨x :: xs, .cons r1 h1, .cons r2 h2⟩
def rSrt (ca : Addr) (fa : Nat → Addr) : List V → Hp → VK → Prop := fun xs H Q => ∃ F x ds ys, xs = [x] ∧ Sub F H ∧ Lp ca fa F H x (.list ds) ∧ srtD ds = some ys ∧ ∀ p zs, H p = none → zs.length ≤ sizeLine → RpAll ca fa F zs ys → Q (.ref p) (upd H p (.lst zs))
theorem c_srt (hu : X.A.units + 200 < cLine) : CallR X (.builtin "sorted") (rSrt ca fa) := by
  intro pins s σ H xs us Q I r h
  obtain ⟨F, x, ds, ys, rfl, fh, l, e, q⟩ := h
  obtain ⟨a, vs, rfl, h1, h2, h3⟩ := lp_lst fh l
  obtain ⟨u, rfl, ru⟩ := vals1 r
  obtain rfl : u = Value.ref a := ru
  obtain ⟨its, rv, hl, hz⟩ := I.list (SqL.of (K := X.K) h1)
  unfold srtD at e
  split at e
  case isFalse => cases e
  rename_i hc
  cases e
  obtain ⟨c1, c2⟩ := and2' hc
  have hsh : ∀ d ∈ ds, shaped d = true ∧ d ≠ .none := fun d hd => by
    have := List.all_eq_true.mp c2 d hd
    obtain ⟨g1, g2⟩ := and2' this
    exact ⟨g1, fun z => by subst z; cases g2⟩
  obtain ⟨k1, k2⟩ := rp_each I fh h3 rv fun d hd => (hsh d hd).1
  have hlen := h3.length
  refine sorted_all hl.isList k1 k2 (fun d hd d' hd' => List.all_eq_true.mp (List.all_eq_true.mp c1 d hd) d' hd') (fun d hd => (hsh d hd).2) (by omega) (fun d hd => ?_) fun out ho eo => ?_
  · have := SeqAt.depth_of_shaped (hsh d hd).1
    omega
  · obtain ⟨zs, g1, g2⟩ := each_rp eo
    obtain ⟨n, hn⟩ := sortedAll_at s.heap its (List.toArray out)
    have hzs : zs.length ≤ sizeLine := by rw [g2.length, List.length_mergeSort]; omega
    exact ⟨.ref (s.heap.objs.size + 1), _, I.laid (t' := s.toks) (o := .lst zs) (fun b o hb => sortedAll_old hb) (Nat.le_succ _) ⟨hzs, out, n, g1, hn⟩, rfl, q _ zs (I.hok.fresh (Nat.le_succ _)) hzs g2⟩
end
end FS

-- part FsSet
set_option Elab.async false
set_option linter.all false
set_option maxRecDepth 100000
set_option maxHeartbeats 4000000
/-! Sets of ints and texts, made of a list or a tuple: how many, and sorted. -/
namespace FS
open PySem PySem.Spec PyProof.Rows L2

noncomputable local instance memK (j : Key) (l : List Key) : Decidable (j ∈ l) := Classical.propDecidable _
def kOf : Value → Key
  | .int k _ => .inl k
  | .str x _ => .inr x
  | _ => .inl 0
def keyK (e : Int × Value) : Key := kOf e.2
def GoodK (P : Program) (w : World) (e : Int × Value) : Prop := ∃ k, (mixKind P w).is k e.2 = true ∧ e.1 = (mixKind P w).hash k ∧ e.2.scannable = true
/-- the set at a: S its members, n their number; its table rises and can be walked -/
def SetQ (P : Program) (w : World) (h : Heap) (a : Addr) (S : Key → Bool) (n : Nat) : Prop :=
  ∃ o es ep t, h.get? a = some o ∧ o.ExactSet ∧ o.data = .set es ep t ∧ (∀ e ∈ es.toList, GoodK P w e) ∧ (es.toList.map keyK).Nodup ∧ (∀ k, S k = true ↔ k ∈ es.toList.map keyK) ∧
    es.size < scanBound ∧ t.fits es.size = true ∧ es.size = n ∧ Ris t.place.toList ∧ (w.params.followText "set-order" = true ∨ t.led = true)
section
variable {P : Program} {w : World} {h h' : Heap} {a : Addr} {S : Key → Bool} {n : Nat}
theorem kOf_is {k : Key} {v : Value} (h : (mixKind P w).is k v = true) : kOf v = k := by
  rcases keyIs_shape h with ⟨i, t, rfl, rfl⟩ | ⟨x, t, rfl, rfl⟩ <;> rfl
theorem keyK_of {k : Key} {v : Value} {i : Int} (h : (mixKind P w).is k v = true) : keyK (i, v) = k := kOf_is h
theorem SetQ.at (R : SetQ P w h a S n) (k : ∀ o, h.get? a = some o → h'.get? a = some o) : SetQ P w h' a S n := by
  obtain ⟨o, es, ep, t, e, r⟩ := R
  exact ⟨o, es, ep, t, k o e, r⟩
theorem SetQ.congr {S' : Key → Bool} (R : SetQ P w h a S n) (e : ∀ k, S' k = S k) : SetQ P w h a S' n := by
  have q : S' = S := funext e
  subst q; exact R
theorem goodK_elems {l : List (Int × Value)} (g : ∀ e ∈ l, GoodK P w e) : ElemsOf (mixKind P w) l := fun e he => by
  obtain ⟨k, h1, h2, h3⟩ := g e he
  exact ⟨⟨k, h1, h2⟩, h3⟩
theorem goodK_is {e : Int × Value} (g : GoodK P w e) (k : Key) : (mixKind P w).is k e.2 = true ↔ keyK e = k := by
  obtain ⟨k0, h1, _⟩ := g
  have e0 : keyK e = k0 := kOf_is h1
  constructor
  · intro h; exact kOf_is h
  · intro h; rw [← h, e0]; exact h1
theorem goodK_mem {l : List (Int × Value)} (g : ∀ e ∈ l, GoodK P w e) (k : Key) : k ∈ l.map keyK ↔ ∃ e ∈ l, (mixKind P w).is k e.2 = true := by
  rw [List.mem_map]
  exact ⟨fun ⟨e, he, q⟩ => ⟨e, he, (goodK_is (g e he) k).2 q⟩, fun ⟨e, he, q⟩ => ⟨e, he, (goodK_is (g e he) k).1 q⟩⟩
end
section
variable {P : Program} {w : World} {A : Around} {Er : Value → Shared → Prop} {s : Shared} {a : Addr} {S : Key → Bool} {n : Nat}
theorem setQ_tail {g : Bool → Sem Unit} (hg : ∀ (b : Bool) (sx : Shared) (Qx : Unit → Shared → Prop), Qx () sx → wpAny (model P w) A (g b) Qx Er sx)
    {o : Obj} {es : Array (Int × Value)} {ep : Nat} {t : SetTable} (hGet : s.heap.get? a = some o) (hex : o.ExactSet) (hData : o.data = .set es ep t)
    {esA : Array (Int × Value)} {tabB : SetTable} {S' : Key → Bool} (g1 : ∀ e ∈ esA.toList, GoodK P w e) (nd1 : (esA.toList.map keyK).Nodup) (m1 : ∀ k, S' k = true ↔ k ∈ esA.toList.map keyK)
    (hb1 : esA.size < scanBound) (hf2 : tabB.fits esA.size = true) (hr : Ris tabB.place.toList) (hl : w.params.followText "set-order" = true ∨ tabB.led = true) {wasDummy : Bool} {R : Option Bool → Shared → Prop}
    (hR : ∀ h', Heap.SameBut a s.heap h' → SetQ P w h' a S' esA.size → R (some true) { s with heap := h' }) :
    wpAny (model P w) A (do
        storeSet a esA tabB
        if (!wasDummy && tabB.tooFull) = true then do
            g (relayAll tabB esA (SetTable.grown esA.size)).2.2
            storeSet a (relayAll tabB esA (SetTable.grown esA.size)).1 (relayAll tabB esA (SetTable.grown esA.size)).2.1
            pure (some true)
          else pure (some true)) R Er s := by
  refine wpAny_bind (wpAny_storeSet_of hGet hData ?_ (fits_of_scanBound hb1))
  have ho1 := store_at (es' := esA) (t' := tabB) hGet hData
  have sb1 := Heap.SameBut.update s.heap a (Obj.putSet esA tabB)
  split
  · have prm := relayAll_perm tabB esA (SetTable.grown esA.size)
    have hf3 := relayAll_fits tabB esA (SetTable.grown esA.size)
    have hr3 := relayAll_ris tabB esA (SetTable.grown esA.size)
    have hl3 := relayAll_led tabB esA (SetTable.grown esA.size)
    generalize relayAll tabB esA (SetTable.grown esA.size) = Lay at prm hf3 hr3 hl3 ⊢
    obtain ⟨esB, tabC, gave⟩ := Lay
    dsimp only at prm hf3 hr3 hl3 ⊢
    have hsz : esB.size = esA.size := by rw [← Array.length_toList, prm.length_eq, Array.length_toList]
    have hb2 : esB.size < scanBound := by rw [hsz]; exact hb1
    refine wpAny_bind (hg _ _ _ ?_)
    refine wpAny_bind (wpAny_storeSet_of ho1 rfl ?_ (fits_of_scanBound hb2))
    have ho2 := store_at (es' := esB) (t' := tabC) ho1 rfl
    refine wpAny_pure (hR _ (sb1.trans (Heap.SameBut.update _ a _)) ?_)
    exact ⟨_, esB, _, tabC, ho2, hex, rfl, fun e he => g1 e (prm.mem_iff.mp he), (prm.map keyK).nodup_iff.mpr nd1, fun k => (m1 k).trans (prm.map keyK).mem_iff.symm, hb2, hf3, hsz, hr3,
      hl.imp id fun z => by rw [hl3]; exact z⟩
  · exact wpAny_pure (hR _ sb1 ⟨_, esA, _, tabB, ho1, hex, rfl, g1, nd1, m1, hb1, hf2, rfl, hr, hl⟩)

theorem setQ_add {k : Key} {u : Value} {Q : Bool → Shared → Prop} (hkv : (mixKind P w).is k u = true) (hsv : u.scannable = true) (R : SetQ P w s.heap a S n) (room : n + 1 < scanBound)
    (hQ : ∀ h', Heap.SameBut a s.heap h' → SetQ P w h' a (fun j => S j || decide (j = k)) (if S k = true then n else n + 1) → Q (!S k) { s with heap := h' }) :
    wpAny (model P w) A (setAddHashed a u ((mixKind P w).hash k)) Q Er s := by
  obtain ⟨o, es, ep, t, hGet, hex, hData, g, nd, hMem, hBound, hFits, hn, hr, hl⟩ := R
  have hkey : (mixKind P w).is k u = true := hkv
  have hsc : u.scannable = true := hsv
  have hel : ElemsOf (mixKind P w) es.toList := goodK_elems g
  unfold setAddHashed setAddHashedIn
  refine wpAny_holding (wpAny_bind (wpAny_setState_of hGet hData hFits ?_))
  dsimp only
  rw [byScan_of hsc hBound hel]
  simp only [↓reduceIte]
  unfold setAddByScan
  refine wpAny_bind ?_
  refine wpAny_bind (wpAny_rule ?_)
  refine wpAny_bind (wpAny_setScan_of hkey hGet hData hFits hel ?_)
  cases hfi : List.findIdx? (fun e => (mixKind P w).is k e.2) es.toList with
  | some j =>
    dsimp only
    obtain ⟨hj, pj, _⟩ := List.findIdx?_eq_some_iff_getElem.mp hfi
    have hSk : S k = true := (hMem k).2 ((goodK_mem g k).2 ⟨es.toList[j], List.getElem_mem hj, pj⟩)
    refine wpAny_pure (wpAny_pure ?_)
    have q := hQ s.heap (Heap.SameBut.refl a s.heap) ⟨o, es, ep, t, hGet, hex, hData, g, nd, fun i => by
      rw [Bool.or_eq_true, decide_eq_true_eq, ← hMem i]
      exact ⟨fun z => z.elim id (fun e => e ▸ hSk), .inl⟩, hBound, hFits, by rw [if_pos hSk]; exact hn, hr, hl⟩
    rw [hSk] at q
    exact q
  | none =>
    dsimp only
    have hnk : k ∉ es.toList.map keyK := fun z => by
      obtain ⟨e, he, q⟩ := (goodK_mem g k).1 z
      have c := List.findIdx?_eq_none_iff.mp hfi e he
      rw [q] at c
      cases c
    have hSk : S k = false := by
      cases q : S k with
      | false => rfl
      | true => exact absurd ((hMem k).1 q) hnk
    have gaveOk : ∀ (b : Bool) {sx : Shared} {Qx : Unit → Shared → Prop}, Qx () sx → wpAny (model P w) A (match b with | true => rule "set.scan.the-table-gave-way" | false => pure ()) Qx Er sx :=
      fun b sx Qx q => by cases b <;> first | exact wpAny_pure q | exact wpAny_rule q
    have prm := layNew_perm t es ((mixKind P w).hash k) u
    have hf1 := layNew_fits t es ((mixKind P w).hash k) u
    have hr1 := layNew_ris t es ((mixKind P w).hash k) u hr
    have hl1 := layNew_led t es ((mixKind P w).hash k) u
    generalize layNew t es ((mixKind P w).hash k) u = Lay at prm hf1 hr1 hl1 ⊢
    obtain ⟨esA, tabA, wasDummy, gave⟩ := Lay
    dsimp only at prm hf1 hr1 hl1 ⊢
    rw [Array.toList_push] at prm
    have pc : esA.toList.Perm (((mixKind P w).hash k, u) :: es.toList) := prm.trans (List.perm_append_singleton _ _)
    have pk : (esA.toList.map keyK).Perm (k :: es.toList.map keyK) := by
      have := pc.map keyK
      rw [List.map_cons, keyK_of hkv] at this
      exact this
    have g1 : ∀ e ∈ esA.toList, GoodK P w e := fun e he => by
      rcases List.mem_cons.mp (pc.mem_iff.mp he) with z | z
      · rw [z]; exact ⟨k, hkv, rfl, hsv⟩
      · exact g e z
    have nd1 : (esA.toList.map keyK).Nodup := pk.nodup_iff.mpr (List.nodup_cons.mpr ⟨hnk, nd⟩)
    have m1 : ∀ i, (S i || decide (i = k)) = true ↔ i ∈ esA.toList.map keyK := fun i => by
      rw [Bool.or_eq_true, decide_eq_true_eq, hMem i, pk.mem_iff, List.mem_cons]
      exact Or.comm
    have hsz : esA.size = n + 1 := by rw [← Array.length_toList, pc.length_eq, List.length_cons, Array.length_toList, hn]
    have hb1 : esA.size < scanBound := by rw [hsz]; exact room
    have hled : w.params.followText "set-order" = true ∨ tabA.led = true := hl.imp id fun z => by rw [hl1]; exact z
    have fin : ∀ h', Heap.SameBut a s.heap h' → SetQ P w h' a (fun j => S j || decide (j = k)) esA.size → Q true { s with heap := h' } := fun h' sb r => by
      have q := hQ h' sb
      rw [hSk] at q
      rw [hsz] at r
      exact q r
    refine wpAny_bind (gaveOk _ ?_)
    split
    · refine wpAny_bind ?_
      rw [hashByValue_scannable 8 hsc]
      refine wpAny_pure ?_
      refine setQ_tail ?_ hGet hex hData g1 nd1 m1 hb1 ?_ ?_ ?_ ?_
      · intro b sx Qx q; cases b <;> first | exact wpAny_pure q | exact wpAny_rule q
      · first | (split <;> first | exact hf1 | exact SetTable.fits_plain_off hf1) | exact hf1
      · first | (split <;> exact hr1) | exact hr1
      · first | (split <;> exact hled) | exact hled
      · intro h' sb r; dsimp only; exact wpAny_pure (fin h' sb r)
    · refine wpAny_bind (wpAny_pure ?_)
      simp only [↓reduceIte]
      refine setQ_tail ?_ hGet hex hData g1 nd1 m1 hb1 hf1 hr1 hled ?_
      · intro b sx Qx q; cases b <;> first | exact wpAny_pure q | exact wpAny_rule q
      · intro h' sb r; dsimp only; exact wpAny_pure (fin h' sb r)

theorem setQ_update {I : Addr} {fp wr : List Addr} {G : Array GenState → Array GenState → Prop} {n : Nat} {Pv : Nat → Value → Prop} {St : Nat → Shared → Prop} {R : Result → Shared → Prop}
    (W : WalksS P w A.in1 I fp wr G n Pv St) (S : Addr) (hSf : S ∉ fp) (ks : List Key) (hn : n = ks.length) (hb : ks.length + 1 < scanBound) (hval : ∀ i v, Pv i v → ∃ k, ks[i]? = some k ∧ (mixKind P w).is k v = true ∧ v.scannable = true) :
    ∀ (k i : Nat) (s : Shared), n - i = k → i ≤ n → St i s → (∃ c, c ≤ i ∧ SetQ P w s.heap S (fun j => decide (j ∈ ks.take i)) c) →
      (∀ s' c, Moved (S :: wr) G s s' → c ≤ n → SetQ P w s'.heap S (fun j => decide (j ∈ ks)) c → R (.ok (.ret .none)) s') →
      codeAny (model P w) A (.builtin "set.update.loop" ⟨[.ref S, .ref I], []⟩) R s := by
  have notW : S ∉ wr := fun h => hSf (W.sub _ h)
  have subW : ∀ b ∈ wr, b ∈ S :: wr := fun b hb => List.mem_cons_of_mem _ hb
  intro k
  induction k with
  | zero =>
    intro i s hKi hi atI ⟨c, hc, hS⟩ hR
    have hin : i = n := by omega
    subst hin
    refine codeAny_builtin F.entry_set_update_loop ?_
    rw [Around.under_plainId F.plain_set_update_loop _]
    show wpAny _ A.in1 (pyNext (.ref I) >>= _) _ _ s
    refine wpAny_bind (W.done s _ _ atI fun s' hm => ?_)
    show wpAny _ A.in1 (ret Value.none) _ _ s'
    have e : ks.take i = ks := List.take_of_length_le (by omega)
    rw [e] at hS
    exact wpAny_pure (hR s' c (hm.mono subW) hc (hS.at fun o e => hm.heap S o notW e))
  | succ k ih =>
    intro i s hKi hi atI ⟨c, hc, hS⟩ hR
    have iLt : i < n := by omega
    refine codeAny_builtin F.entry_set_update_loop ?_
    rw [Around.under_plainId F.plain_set_update_loop _]
    show wpAny _ A.in1 (pyNext (.ref I) >>= _) _ _ s
    refine wpAny_bind (W.item i s _ _ iLt atI fun v s' hPv atI' hm => ?_)
    obtain ⟨z, hz, hk, hs⟩ := hval i v hPv
    have hS' : SetQ P w s'.heap S (fun j => decide (j ∈ ks.take i)) c := hS.at fun o e => hm.heap S o notW e
    show wpAny _ A.in1 (holding [v] (setAdd S v) >>= _) _ _ s'
    refine wpAny_bind (wpAny_holding ?_)
    unfold setAdd
    refine wpAny_holding ?_
    refine wpAny_bind ((mixKind P w).pyHash (k := z) hk ?_)
    refine setQ_add hk hs (s := { s' with toks := s'.toks + 1 }) hS' (by omega) fun h' same hS2 => ?_
    have hS3 : SetQ P w h' S (fun j => decide (j ∈ ks.take (i + 1))) (if decide (z ∈ ks.take i) = true then c else c + 1) := hS2.congr fun j => by
      rw [List.take_add_one, hz]
      simp [List.mem_append]
    have hc3 : (if decide (z ∈ ks.take i) = true then c else c + 1) ≤ i + 1 := by
      split <;> omega
    refine wpAny_pure ⟨plainId_quiet F.plain_set_update_loop _, ih (i + 1) _ (by omega) iLt (W.frame _ s' _ _ atI' (Nat.le_succ _) fun b hb o e => ?_) ⟨_, hc3, hS3⟩ fun s'' c2 hm'' hc'' hS'' => ?_⟩
    · rw [same.2 b (fun h : b = S => hSf (by rw [← h]; exact hb))]; exact e
    · refine hR s'' c2 (Moved.trans W.gtrans ((hm.mono subW).then_heap (Nat.le_succ _) fun b o hb e => ?_) hm'') hc'' hS''
      rw [same.2 b (fun h : b = S => hb (by rw [h]; exact List.mem_cons_self))]; exact e


theorem each_at {α β : Type} {R : α → β → Prop} : ∀ {as : List α} {bs : List β} {i : Nat} {x : α}, PySem.W.EachIs R as bs → as[i]? = some x → ∃ y, bs[i]? = some y ∧ R x y
  | _, _, _, _, .nil, h => by simp at h
  | _, _, 0, _, .cons r _, h => by simp at h; subst h; exact ⟨_, rfl, r⟩
  | _, _, i + 1, _, .cons _ t, h => by
    obtain ⟨y, h1, h2⟩ := each_at (i := i) t (by simpa using h)
    exact ⟨y, by simpa using h1, h2⟩
theorem setQ_new_at {P : Program} {w : World} {h : Heap} {a : Addr} {ks : List Key} (ho : h.get? a = some { cls := .type "set", dict := none, data := .set #[] 0 (.fresh 0 0 (!w.params.followText "set-order")) }) : SetQ P w h a (fun j => decide (j ∈ ks.take 0)) 0 :=
  ⟨_, #[], 0, _, ho, ⟨rfl, rfl, rfl⟩, rfl, (fun e he => by simp at he), (by simp), (fun k => by simp), (by decide), (by rfl), rfl, List.Pairwise.nil, by
    show _ ∨ (!w.params.followText "set-order") = true
    cases w.params.followText "set-order" <;> simp⟩
theorem call_setQ_tup {l : Addr} {items : Array Value} (ks : List Key) {Q : Value → Shared → Prop} (hh : A.handled = none) (hl : s.heap.IsTuple l items) (hit : PySem.W.EachIs (fun v k => (mixKind P w).is k v = true ∧ v.scannable = true) items.toList ks) (hb : ks.length + 1 < scanBound)
    (h : ∀ (h' : Heap) (tk c : Nat), SetQ P w h' s.heap.objs.size (fun j => decide (j ∈ ks)) c → c ≤ ks.length → (∀ b o, s.heap.get? b = some o → h'.get? b = some o) → Q (.ref s.heap.objs.size) { s with heap := h', toks := tk }) :
    wpAny (model P w) A (call (.type "set") [.ref l]) Q Er s := by
  have sizes : items.size = ks.length := by
    have q := hit.length
    rw [Array.length_toList] at q
    exact q
  obtain ⟨c, mroTl, mro0⟩ := F.called_set.mro
  have isMade := F.called_set.made
  have isSub := F.called_set.sub
  refine wpAny_call (codeAny_of_tree ?_)
  show wpAny _ _ (callAny (.type "set") _) _ _ _
  refine wpAny_pure ⟨Code.quiet_builtin _ (by decide +kernel), codeAny_builtin F.entry_type_call ?_⟩
  rw [Around.under_plain (weight_type_call_type "set" [.ref l] []) rfl]
  have nType := F.called_set.notType
  have canMk := F.called_set.canCreate
  have tcOk := F.typeCall_set_1 (.ref l)
  repeat (any_goals (first | assumption | wp_step))

  refine codeAny_mono (code_set_led1 (.ref l) (E := Er) (Q₁ := fun obj s₁ => obj = .ref s.heap.objs.size ∧ s₁ = { s with heap := s.heap.push { cls := .type "set", dict := none, data := .set #[] 0 (.fresh 0 0 (!w.params.followText "set-order")) } }) ⟨rfl, rfl⟩) fun r s₁ hr => ?_
  cases r with
  | error e => exact hr
  | ok fl =>
    cases fl with
    | ret obj =>
      obtain ⟨rfl, rfl⟩ := hr
      have setAt : (s.heap.push { cls := .type "set", dict := none, data := .set #[] 0 (.fresh 0 0 (!w.params.followText "set-order")) }).get? s.heap.objs.size = some { cls := .type "set", dict := none, data := .set #[] 0 (.fresh 0 0 (!w.params.followText "set-order")) } := Heap.get?_push_size _ rfl
      have setTy : Shared.TypeIs { s with heap := s.heap.push { cls := .type "set", dict := none, data := .set #[] 0 (.fresh 0 0 (!w.params.followText "set-order")) } } (.ref s.heap.objs.size) "set" := ⟨_, setAt, rfl⟩
      have lkInit := F.called_set.init.lookup
      have bdInit := F.called_set.init.bind (.ref s.heap.objs.size)
      repeat (any_goals (first | assumption | wp_step))

      refine codeAny_mono (codeAny_call_builtin (R := wants (fun r s₂ => r = .none ∧ ∃ h' tk c, s₂ = { s with heap := h', toks := tk } ∧ SetQ P w h' s.heap.objs.size (fun j => decide (j ∈ ks)) c ∧ c ≤ ks.length ∧
          (∀ b o, s.heap.get? b = some o → h'.get? b = some o)) Er) F.called_set.init.plain F.entry_set_init (check_set_init_1 setTy ?_)) fun r₂ s₂ hr₂ => ?_
      · obtain ⟨ol, hol, hcl, nl, hdl⟩ := hl
        obtain ⟨ocls, odict, odata, oslots⟩ := ol
        simp only at hcl hdl
        subst hcl; subst hdl
        have getSrc : (s.heap.push { cls := .type "set", dict := none, data := .set #[] 0 (.fresh 0 0 (!w.params.followText "set-order")) }).get? l = some { cls := .type "tuple", dict := odict, data := .seq items nl, slots := oslots } := Heap.get?_push_of_some _ hol
        have subS := F.sub_tuple_set
        have subF := F.sub_tuple_frozenset
        have hne : (Value.type "tuple" == Value.type "dict") = false := by decide
        have srcOk : (s.heap.push { cls := .type "set", dict := none, data := .set #[] 0 (.fresh 0 0 (!w.params.followText "set-order")) }).IsTuple l items := ⟨_, getSrc, rfl, nl, rfl⟩
        unfold Builtin.«set.__init__» noKeywords Builtin.Frozenset.updateFrom
        generalize hPI : pyIter = PI
        wp_walk
        subst hPI

        refine wpAny_pyIter_tuple srcOk ?_
        refine wpAny_bind (wpAny_runValue ?_)
        have srcLt : l < s.heap.objs.size := Heap.lt_size hol
        have noHd : A.in1.in1.in1.handled = none := by simp [hh]
        have szOne : (s.heap.push { cls := .type "set", dict := none, data := .set #[] 0 (.fresh 0 0 (!w.params.followText "set-order")) }).objs.size = s.heap.objs.size + 1 := Heap.size_push ..
        have srcNe : l ≠ (s.heap.push { cls := .type "set", dict := none, data := .set #[] 0 (.fresh 0 0 (!w.params.followText "set-order")) }).objs.size := by
          rw [Heap.size_push]; exact Nat.ne_of_lt (Nat.lt_succ_of_lt srcLt)
        have setNotIn : s.heap.objs.size ∉ [(s.heap.push { cls := .type "set", dict := none, data := .set #[] 0 (.fresh 0 0 (!w.params.followText "set-order")) }).objs.size, l] := by
          rw [Heap.size_push]; simp only [List.mem_cons, List.mem_singleton, List.not_mem_nil, or_false, not_or]
          exact ⟨Nat.ne_of_lt (Nat.lt_succ_self _), Nat.ne_of_gt srcLt⟩
        have vals : ∀ (i : Nat) (v : Value), items[i]? = some v → ∃ k, ks[i]? = some k ∧ (mixKind P w).is k v = true ∧ v.scannable = true := fun i v hv => each_at hit (by rw [Array.getElem?_toList]; exact hv)
        refine setQ_update ((Walks.tuple noHd _ l srcNe items).toS) s.heap.objs.size
          setNotIn ks sizes hb vals (items.size - 0) 0 _ (by omega) (Nat.zero_le _)
          ⟨⟨_, Heap.get?_push_size _ rfl, rfl, rfl⟩, (srcOk.push _)⟩ ?hS0 ?hR
        case hS0 =>
          have hget : ((s.heap.push { cls := .type "set", dict := none, data := .set #[] 0 (.fresh 0 0 (!w.params.followText "set-order")) }).push { cls := .type "tuple_iterator", data := .fields #[.ref l, .int 0 0] }).get? s.heap.objs.size
              = some { cls := .type "set", dict := none, data := .set #[] 0 (.fresh 0 0 (!w.params.followText "set-order")) } := Heap.get?_push_of_some _ setAt
          exact ⟨0, Nat.le_refl 0, setQ_new_at hget⟩
        case hR =>
          intro s' c' moved cLe setNow
          obtain ⟨h', g2, d', tk', os'⟩ := s'
          have eg : g2 = s.gens := moved.gens
          have ed : d' = s.drawn := moved.drawn
          have eo : os' = s.os := moved.os
          subst eg; subst ed; subst eo
          show wpAny _ _ _ _ _ _
          refine wpAny_pure ?_
          show wpAny _ _ (ret Value.none) _ _ _
          rw [sizes] at cLe
          refine wpAny_pure ⟨rfl, h', tk', c', rfl, setNow, cLe, fun b o e => ?_⟩
          have hb0 : b < s.heap.objs.size := Heap.lt_size e
          have hb1 : b ≠ s.heap.objs.size := Nat.ne_of_lt hb0
          have hb2 : b ≠ (s.heap.push { cls := .type "set", dict := none, data := .set #[] 0 (.fresh 0 0 (!w.params.followText "set-order")) }).objs.size := by
            rw [Heap.size_push]; exact Nat.ne_of_lt (Nat.lt_succ_of_lt hb0)
          exact moved.heap b o (by simp only [List.mem_cons, List.mem_singleton, List.not_mem_nil, or_false, not_or]; exact ⟨hb1, hb2⟩) (Heap.get?_push_of_some _ (Heap.get?_push_of_some _ e))

      · cases r₂ with
        | error e => exact hr₂
        | ok fl₂ =>
          cases fl₂ with
          | ret r =>
            obtain ⟨rfl, h', tk, c', rfl, setNow, cLe, keep'⟩ := hr₂
            repeat (any_goals (first | assumption | wp_step))
            exact h _ _ _ setNow cLe keep'
          | _ => exact hr₂.elim
    | _ => exact hr.elim
set_option maxRecDepth 100000 in
set_option maxHeartbeats 3200000 in
theorem call_setQ_list {l : Addr} {items : Array Value} (ks : List Key) {Q : Value → Shared → Prop} (hh : A.handled = none) (hl : s.heap.IsList l items) (hit : PySem.W.EachIs (fun v k => (mixKind P w).is k v = true ∧ v.scannable = true) items.toList ks) (hb : ks.length + 1 < scanBound)
    (h : ∀ (h' : Heap) (tk c : Nat), SetQ P w h' s.heap.objs.size (fun j => decide (j ∈ ks)) c → c ≤ ks.length → (∀ b o, s.heap.get? b = some o → h'.get? b = some o) → Q (.ref s.heap.objs.size) { s with heap := h', toks := tk }) :
    wpAny (model P w) A (call (.type "set") [.ref l]) Q Er s := by
  have sizes : items.size = ks.length := by
    have q := hit.length
    rw [Array.length_toList] at q
    exact q
  obtain ⟨c, mroTl, mro0⟩ := F.called_set.mro
  have isMade := F.called_set.made
  have isSub := F.called_set.sub
  refine wpAny_call (codeAny_of_tree ?_)
  show wpAny _ _ (callAny (.type "set") _) _ _ _
  refine wpAny_pure ⟨Code.quiet_builtin _ (by decide +kernel), codeAny_builtin F.entry_type_call ?_⟩
  rw [Around.under_plain (weight_type_call_type "set" [.ref l] []) rfl]
  have nType := F.called_set.notType
  have canMk := F.called_set.canCreate
  have tcOk := F.typeCall_set_1 (.ref l)
  repeat (any_goals (first | assumption | wp_step))

  refine codeAny_mono (code_set_led1 (.ref l) (E := Er) (Q₁ := fun obj s₁ => obj = .ref s.heap.objs.size ∧ s₁ = { s with heap := s.heap.push { cls := .type "set", dict := none, data := .set #[] 0 (.fresh 0 0 (!w.params.followText "set-order")) } }) ⟨rfl, rfl⟩) fun r s₁ hr => ?_
  cases r with
  | error e => exact hr
  | ok fl =>
    cases fl with
    | ret obj =>
      obtain ⟨rfl, rfl⟩ := hr
      have setAt : (s.heap.push { cls := .type "set", dict := none, data := .set #[] 0 (.fresh 0 0 (!w.params.followText "set-order")) }).get? s.heap.objs.size = some { cls := .type "set", dict := none, data := .set #[] 0 (.fresh 0 0 (!w.params.followText "set-order")) } := Heap.get?_push_size _ rfl
      have setTy : Shared.TypeIs { s with heap := s.heap.push { cls := .type "set", dict := none, data := .set #[] 0 (.fresh 0 0 (!w.params.followText "set-order")) } } (.ref s.heap.objs.size) "set" := ⟨_, setAt, rfl⟩
      have lkInit := F.called_set.init.lookup
      have bdInit := F.called_set.init.bind (.ref s.heap.objs.size)
      repeat (any_goals (first | assumption | wp_step))

      refine codeAny_mono (codeAny_call_builtin (R := wants (fun r s₂ => r = .none ∧ ∃ h' tk c, s₂ = { s with heap := h', toks := tk } ∧ SetQ P w h' s.heap.objs.size (fun j => decide (j ∈ ks)) c ∧ c ≤ ks.length ∧
          (∀ b o, s.heap.get? b = some o → h'.get? b = some o)) Er) F.called_set.init.plain F.entry_set_init (check_set_init_1 setTy ?_)) fun r₂ s₂ hr₂ => ?_
      · obtain ⟨ol, hol, hcl, nl, hdl⟩ := hl
        obtain ⟨ocls, odict, odata, oslots⟩ := ol
        simp only at hcl hdl
        subst hcl; subst hdl
        have getSrc : (s.heap.push { cls := .type "set", dict := none, data := .set #[] 0 (.fresh 0 0 (!w.params.followText "set-order")) }).get? l = some { cls := .type "list", dict := odict, data := .seq items nl, slots := oslots } := Heap.get?_push_of_some _ hol
        have subS := F.sub_list_set
        have subF := F.sub_list_frozenset
        have hne : (Value.type "list" == Value.type "dict") = false := by decide
        have srcOk : (s.heap.push { cls := .type "set", dict := none, data := .set #[] 0 (.fresh 0 0 (!w.params.followText "set-order")) }).IsList l items := ⟨_, getSrc, rfl, nl, rfl⟩
        unfold Builtin.«set.__init__» noKeywords Builtin.Frozenset.updateFrom
        generalize hPI : pyIter = PI
        wp_walk
        subst hPI

        refine wpAny_pyIter_list srcOk ?_
        refine wpAny_bind (wpAny_runValue ?_)
        have srcLt : l < s.heap.objs.size := Heap.lt_size hol
        have noHd : A.in1.in1.in1.handled = none := by simp [hh]
        have szOne : (s.heap.push { cls := .type "set", dict := none, data := .set #[] 0 (.fresh 0 0 (!w.params.followText "set-order")) }).objs.size = s.heap.objs.size + 1 := Heap.size_push ..
        have srcNe : l ≠ (s.heap.push { cls := .type "set", dict := none, data := .set #[] 0 (.fresh 0 0 (!w.params.followText "set-order")) }).objs.size := by
          rw [Heap.size_push]; exact Nat.ne_of_lt (Nat.lt_succ_of_lt srcLt)
        have setNotIn : s.heap.objs.size ∉ [(s.heap.push { cls := .type "set", dict := none, data := .set #[] 0 (.fresh 0 0 (!w.params.followText "set-order")) }).objs.size, l] := by
          rw [Heap.size_push]; simp only [List.mem_cons, List.mem_singleton, List.not_mem_nil, or_false, not_or]
          exact ⟨Nat.ne_of_lt (Nat.lt_succ_self _), Nat.ne_of_gt srcLt⟩
        have vals : ∀ (i : Nat) (v : Value), items[i]? = some v → ∃ k, ks[i]? = some k ∧ (mixKind P w).is k v = true ∧ v.scannable = true := fun i v hv => each_at hit (by rw [Array.getElem?_toList]; exact hv)
        refine setQ_update ((Walks.list noHd _ l srcNe items).toS) s.heap.objs.size
          setNotIn ks sizes hb vals (items.size - 0) 0 _ (by omega) (Nat.zero_le _)
          ⟨⟨_, Heap.get?_push_size _ rfl, rfl, rfl⟩, (srcOk.push _)⟩ ?hS0 ?hR
        case hS0 =>
          have hget : ((s.heap.push { cls := .type "set", dict := none, data := .set #[] 0 (.fresh 0 0 (!w.params.followText "set-order")) }).push { cls := .type "list_iterator", data := .fields #[.ref l, .int 0 0] }).get? s.heap.objs.size
              = some { cls := .type "set", dict := none, data := .set #[] 0 (.fresh 0 0 (!w.params.followText "set-order")) } := Heap.get?_push_of_some _ setAt
          exact ⟨0, Nat.le_refl 0, setQ_new_at hget⟩
        case hR =>
          intro s' c' moved cLe setNow
          obtain ⟨h', g2, d', tk', os'⟩ := s'
          have eg : g2 = s.gens := moved.gens
          have ed : d' = s.drawn := moved.drawn
          have eo : os' = s.os := moved.os
          subst eg; subst ed; subst eo
          show wpAny _ _ _ _ _ _
          refine wpAny_pure ?_
          show wpAny _ _ (ret Value.none) _ _ _
          rw [sizes] at cLe
          refine wpAny_pure ⟨rfl, h', tk', c', rfl, setNow, cLe, fun b o e => ?_⟩
          have hb0 : b < s.heap.objs.size := Heap.lt_size e
          have hb1 : b ≠ s.heap.objs.size := Nat.ne_of_lt hb0
          have hb2 : b ≠ (s.heap.push { cls := .type "set", dict := none, data := .set #[] 0 (.fresh 0 0 (!w.params.followText "set-order")) }).objs.size := by
            rw [Heap.size_push]; exact Nat.ne_of_lt (Nat.lt_succ_of_lt hb0)
          exact moved.heap b o (by simp only [List.mem_cons, List.mem_singleton, List.not_mem_nil, or_false, not_or]; exact ⟨hb1, hb2⟩) (Heap.get?_push_of_some _ (Heap.get?_push_of_some _ e))

      · cases r₂ with
        | error e => exact hr₂
        | ok fl₂ =>
          cases fl₂ with
          | ret r =>
            obtain ⟨rfl, h', tk, c', rfl, setNow, cLe, keep'⟩ := hr₂
            repeat (any_goals (first | assumption | wp_step))
            exact h _ _ _ setNow cLe keep'
          | _ => exact hr₂.elim
    | _ => exact hr.elim
end
end FS

-- part FsSet2
set_option Elab.async false
set_option linter.all false
set_option maxRecDepth 100000
set_option maxHeartbeats 4000000
/-! Sets: sorted, whatever order their table gives. -/
namespace FS
open PySem PySem.Spec PyProof.Rows L2 PySem.W PySem.SeqAt

/-! data that no order tells apart are one -/
mutual
theorem eqv_eq : ∀ {a b : PyData}, alike a b = true → PyData.eqv a b = true → a = b
  | .none, b, h, e => by cases b <;> first | rfl | (simp [alike] at h)
  | .bool x, b, h, e => by
    cases b <;> first | (simp [alike] at h; done) | skip
    rename_i y
    have : x = y := by simpa [PyData.eqv] using e
    rw [this]
  | .int x, b, h, e => by
    cases b <;> first | (simp [alike] at h; done) | skip
    rename_i y
    have : x = y := by simpa [PyData.eqv] using e
    rw [this]
  | .str x, b, h, e => by
    cases b <;> first | (simp [alike] at h; done) | skip
    rename_i y
    have : x = y := by simpa [PyData.eqv] using e
    rw [this]
  | .list xs, b, h, e => by
    cases b <;> first | (simp [alike] at h; done) | skip
    rename_i ys
    have k := eqvAll_eq (xs := xs) (ys := ys) (by simpa [alike] using h) (by simpa [PyData.eqv] using e)
    rw [k]
  | .tuple xs, b, h, e => by
    cases b <;> first | (simp [alike] at h; done) | skip
    rename_i ys
    have k := eqvAll_eq (xs := xs) (ys := ys) (by simpa [alike] using h) (by simpa [PyData.eqv] using e)
    rw [k]
  | .dict _, b, h, e => by cases b <;> simp [alike] at h
theorem eqvAll_eq : ∀ {xs ys : List PyData}, alikeAll xs ys = true → PyData.eqvAll xs ys = true → xs = ys
  | [], [], _, _ => rfl
  | [], _ :: _, _, e => by simp [PyData.eqvAll] at e
  | _ :: _, [], _, e => by simp [PyData.eqvAll] at e
  | x :: xs, y :: ys, h, e => by
    rw [eqv_all_cons, Bool.and_eq_true] at e
    rw [eqv_eq (alike_all_cons h).1 e.1, eqvAll_eq (alike_all_cons h).2 e.2]
end
theorem le_antisymm {a b : PyData} (h : alike a b = true) (h1 : dataLe (β := PyData) false id a b = true) (h2 : dataLe (β := PyData) false id b a = true) : a = b := by
  have k1 : PyProof.Rows.lexLt itemOrd (keyToks b) (keyToks a) = false := by
    cases q : PyProof.Rows.lexLt itemOrd (keyToks b) (keyToks a) with
    | false => rfl
    | true => simp [dataLe, sortLe, q] at h1
  have k2 : PyProof.Rows.lexLt itemOrd (keyToks a) (keyToks b) = false := by
    cases q : PyProof.Rows.lexLt itemOrd (keyToks a) (keyToks b) with
    | false => rfl
    | true => simp [dataLe, sortLe, q] at h2
  have e : keyToks a = keyToks b := lex_total (O := itemOrd) _ _ k2 k1
  cases q : PyData.eqv a b with
  | true => exact eqv_eq h q
  | false =>
    exfalso
    have t := (toks_eqv a b h).2 q [] [.inl 0]
    rw [← e, lex_pre, lex_irrefl] at t
    exact Bool.noConfusion (show true = false from t)
theorem le_tot : TotalLe (dataLe (β := PyData) false id) := sortLe_total (listOrd itemOrd) false _
/-- the sorted list is one, whatever order the items stood in -/
theorem sort_perm {xs ys : List PyData} (p : xs.Perm ys) (hal : AllAlike ys) : xs.mergeSort (dataLe false id) = ys.mergeSort (dataLe false id) := by
  have tr : ∀ a b c : PyData, dataLe (β := PyData) false id a b = true → dataLe (β := PyData) false id b c = true → dataLe (β := PyData) false id a c = true := le_tot.trans
  have tt : ∀ a b : PyData, (dataLe (β := PyData) false id a b || dataLe (β := PyData) false id b a) = true := fun a b => by
    have := le_tot.total a b
    simpa using this
  have s1 := List.pairwise_mergeSort tr tt xs
  have s2 := List.pairwise_mergeSort tr tt ys
  have pp : (xs.mergeSort (dataLe false id)).Perm (ys.mergeSort (dataLe false id)) := (List.mergeSort_perm _ _).trans (p.trans (List.mergeSort_perm _ _).symm)
  refine pp.eq_of_pairwise (fun a b ha hb h1 h2 => ?_) s1 s2
  have ma : a ∈ ys := p.mem_iff.mp (List.mem_mergeSort.mp ha)
  have mb : b ∈ ys := List.mem_mergeSort.mp hb
  exact le_antisymm (hal a ma b mb) h1 h2
theorem each_perm {R : Value → PyData → Prop} : ∀ {vs ws : List Value} {ds : List PyData}, vs.Perm ws → EachIs R ws ds → ∃ ds', ds'.Perm ds ∧ EachIs R vs ds' := by
  intro vs ws ds p
  induction p generalizing ds with
  | nil => intro e; cases e; exact ⟨[], .nil, .nil⟩
  | cons x p ih =>
    intro e
    cases e with
    | cons r t =>
      obtain ⟨ds', q, k⟩ := ih t
      exact ⟨_ :: ds', q.cons _, .cons r k⟩
  | swap x y l =>
    intro e
    cases e with
    | cons r t => cases t with
      | cons r2 t2 => exact ⟨_ :: _ :: _, .swap _ _ _, .cons r2 (.cons r t2)⟩
  | trans p1 p2 ih1 ih2 =>
    intro e
    obtain ⟨d1, q1, k1⟩ := ih2 e
    obtain ⟨d2, q2, k2⟩ := ih1 k1
    exact ⟨d2, q2.trans q1, k2⟩
theorem each_and {R S : Value → PyData → Prop} : ∀ {vs : List Value} {ds : List PyData}, EachIs R vs ds → EachIs S vs ds → EachIs (fun v d => R v d ∧ S v d) vs ds
  | _, _, .nil, .nil => .nil
  | _, _, .cons r t, .cons r2 t2 => .cons ⟨r, r2⟩ (each_and t t2)
section
variable {P : Program} {w : World} {A : Around} {Er : Value → Shared → Prop} {s : Shared} {a : Addr} {es : Array (Int × Value)} {ep : Nat} {t : SetTable}
/-- sorted(set): R is whatever the members are known to stand for -/
theorem sorted_es {ds : List PyData} {R : Value → PyData → Prop} {Q : Value → Shared → Prop} (ha : SetAt s.heap a es ep t) (hf : t.fits es.size = true) (hb : es.size < scanBound) (hr : Ris t.place.toList) (hl : w.params.followText "set-order" = true ∨ t.led = true) (hh : A.handled = none)
    (e : EachIs R (es.toList.map (·.2)) ds) (er : EachIs (fun v d => Reads s.heap v d []) (es.toList.map (·.2)) ds) (hal : AllAlike ds) (hn : ∀ d ∈ ds, d ≠ .none) (hu : ∀ d, d ∈ ds → A.units + 4 + d.depth < cLine)
    (hQ : ∀ s' p (out : List Value) c, (∀ b o, s.heap.get? b = some o → s'.heap.get? b = some o) → s'.gens = s.gens → s'.os = s.os → s.heap.objs.size ≤ p → s'.heap.get? p = some (seqObj "list" out.toArray c) → EachIs R out (ds.mergeSort (dataLe false id)) → Q (.ref p) s') :
    wpAny (model P w) A (call (.builtin "sorted") [.ref a]) Q Er s := by
  refine Calls.call_function_entry kind_sorted plain_sorted entry_sorted (args_sorted1 _) ?_
  unfold Builtin.«sorted»
  refine wpAny_bind (m := checkCount "sorted" 1 1 _) (wpAny_pure ?_)
  refine wpAny_bind (collect_set (A := A.in1) hh ha hf hb hr hl fun s1 vs k1 hz g1 o1 pm => ?_)
  obtain ⟨ds', pd, ee⟩ := each_perm pm (each_and e er)
  have hsize : es.size ≤ sizeLine := by
    have : scanBound ≤ sizeLine := by decide
    omega
  have hlen : ds'.length = vs.length := ee.length.symm
  have hvl : vs.length = es.size := by rw [pm.length_eq, List.length_map, Array.length_toList]
  have hal' : AllAlike ds' := fun d hd d' hd' => hal d (pd.mem_iff.mp hd) d' (pd.mem_iff.mp hd')
  refine wpAny_bind (wpAny_newList ?_ (by rw [hvl]; exact hsize))
  have hoL : (s1.heap.push (seqObj "list" vs.toArray 0)).get? s1.heap.objs.size = some (seqObj "list" vs.toArray 0) := Heap.get?_push_size _ rfl
  have er1 : EachIs (fun v d => ∃ as, Reads (sortingHeap (s1.heap.push (seqObj "list" vs.toArray 0)) s1.heap.objs.size vs) v d as) vs ds' := by
    have q1 : EachIs (fun v d => ∃ as, Reads (s1.heap.push (seqObj "list" vs.toArray 0)) v (id d) as ∧ s1.heap.objs.size ∉ as) vs ds' := ee.mono fun v d r => ⟨[], PyProof.Rows.Reads.keeps (fun b o q => Heap.get?_push_of_some _ (k1 b o q)) r.2, by simp⟩
    exact each_keepBut (h' := sortingHeap (s1.heap.push (seqObj "list" vs.toArray 0)) s1.heap.objs.size vs) (enc := id) (fun _ _ hb q => sortingHeap_old hb q) (fun o q => by rw [hoL] at q; rw [← Option.some.inj q]) (by rw [List.map_id]; exact hal') q1
  have S := sorts_any (prog := P) (w := w) (A := A.in1.in1) (s := { s1 with heap := sortingHeap (s1.heap.push (seqObj "list" vs.toArray 0)) s1.heap.objs.size vs }) er1 hal' (fun d hd => hn d (pd.mem_iff.mp hd)) (fun d hd => by
    have := hu d (pd.mem_iff.mp hd)
    show A.units + 1 + 1 + d.depth < cLine
    omega)
  have so := sortVals_data (enc := id) false (ee.mono fun v d r => r.1) er1 (by rw [List.map_id]; exact hal')
  rw [List.map_id, sort_perm pd hal] at so
  generalize hout : sortVals (dataKind (sortingHeap (s1.heap.push (seqObj "list" vs.toArray 0)) s1.heap.objs.size vs) ds') false vs vs = out at so
  refine wpAny_bind (wpAny_holding (wpAny_call_entry slot_list_sort ⟨_, hoL, rfl⟩ entry_list_sort (list_sort_vals (κ := dataKind (sortingHeap (s1.heap.push (seqObj "list" vs.toArray 0)) s1.heap.objs.size vs) ds') hoL S (by rw [hvl]; exact hsize) ⟨.none, rfl, ?_⟩) (args_list_sort _)))
  have hs : sortVals (dataKind (sortingHeap (s1.heap.push (seqObj "list" vs.toArray 0)) s1.heap.objs.size vs) ds') false vs vs = out := hout
  rw [hs]
  obtain ⟨c, hc⟩ := sortedHeap_at (vs := vs) (out := out.toArray) hoL
  refine wpAny_pure ⟨_, rfl, hQ _ s1.heap.objs.size out c (fun b u q => ?_) g1 o1 hz hc so⟩
  have q2 := k1 b u q
  have hlt := Heap.lt_size q2
  show (sortedHeap (s1.heap.push (seqObj "list" vs.toArray 0)) s1.heap.objs.size vs out.toArray).get? b = some u
  rw [sortedHeap_old (Nat.ne_of_lt hlt) (by rw [size_push']; exact Nat.lt_succ_of_lt hlt)]
  exact Heap.get?_push_of_some _ q2
end
end FS

-- part FsSet3
set_option Elab.async false
set_option linter.all false
set_option maxRecDepth 100000
set_option maxHeartbeats 4000000
/-! Sets of tuples of ints made of a tuple; the rules for sorted(set(..)) and len(set(..)). -/
namespace FS
open PySem PySem.Spec PyProof.Rows L2
section
variable {P : Program} {w : World} {A : Around} {Er : Value → Shared → Prop} {s : Shared}
set_option maxRecDepth 100000 in
set_option maxHeartbeats 3200000 in
theorem call_setT_tup {l : Addr} {items : Array Value} (ks : List (Addr × List Int)) {Q : Value → Shared → Prop} (hh : A.handled = none) (hl : s.heap.IsTuple l items) (hit : items.toList = ks.map fun p => Value.ref p.1)
    (hk : ∀ p ∈ ks, IsT P w s.heap p.2 p.1) (hfew : ks.length < 64) (hu : A.units + 3 < cLine)
    (h : ∀ (h' : Heap) (tk : Nat) L es ep t, SetTR P w h' s.heap.objs.size L es ep t → Got ks ks.length L → (∀ b o, s.heap.get? b = some o → h'.get? b = some o) → Q (.ref s.heap.objs.size) { s with heap := h', toks := tk }) :
    wpAny (model P w) A (call (.type "set") [.ref l]) Q Er s := by
  have sizes : items.size = ks.length := by
    have q := congrArg List.length hit
    rw [Array.length_toList, List.length_map] at q
    exact q
  obtain ⟨c, mroTl, mro0⟩ := F.called_set.mro
  have isMade := F.called_set.made
  have isSub := F.called_set.sub
  refine wpAny_call (codeAny_of_tree ?_)
  show wpAny _ _ (callAny (.type "set") _) _ _ _
  refine wpAny_pure ⟨Code.quiet_builtin _ (by decide +kernel), codeAny_builtin F.entry_type_call ?_⟩
  rw [Around.under_plain (weight_type_call_type "set" [.ref l] []) rfl]
  have nType := F.called_set.notType
  have canMk := F.called_set.canCreate
  have tcOk := F.typeCall_set_1 (.ref l)
  repeat (any_goals (first | assumption | wp_step))

  refine codeAny_mono (code_set_led1 (.ref l) (E := Er) (Q₁ := fun obj s₁ => obj = .ref s.heap.objs.size ∧ s₁ = { s with heap := s.heap.push { cls := .type "set", dict := none, data := .set #[] 0 (.fresh 0 0 (!w.params.followText "set-order")) } }) ⟨rfl, rfl⟩) fun r s₁ hr => ?_
  cases r with
  | error e => exact hr
  | ok fl =>
    cases fl with
    | ret obj =>
      obtain ⟨rfl, rfl⟩ := hr
      have setAt : (s.heap.push { cls := .type "set", dict := none, data := .set #[] 0 (.fresh 0 0 (!w.params.followText "set-order")) }).get? s.heap.objs.size = some { cls := .type "set", dict := none, data := .set #[] 0 (.fresh 0 0 (!w.params.followText "set-order")) } := Heap.get?_push_size _ rfl
      have setTy : Shared.TypeIs { s with heap := s.heap.push { cls := .type "set", dict := none, data := .set #[] 0 (.fresh 0 0 (!w.params.followText "set-order")) } } (.ref s.heap.objs.size) "set" := ⟨_, setAt, rfl⟩
      have lkInit := F.called_set.init.lookup
      have bdInit := F.called_set.init.bind (.ref s.heap.objs.size)
      repeat (any_goals (first | assumption | wp_step))

      refine codeAny_mono (codeAny_call_builtin (R := wants (fun r s₂ => r = .none ∧ ∃ h' tk L es ep t, s₂ = { s with heap := h', toks := tk } ∧ SetTR P w h' s.heap.objs.size L es ep t ∧ Got ks ks.length L ∧
          (∀ b o, s.heap.get? b = some o → h'.get? b = some o)) Er) F.called_set.init.plain F.entry_set_init (check_set_init_1 setTy ?_)) fun r₂ s₂ hr₂ => ?_
      · obtain ⟨ol, hol, hcl, nl, hdl⟩ := hl
        obtain ⟨ocls, odict, odata, oslots⟩ := ol
        simp only at hcl hdl
        subst hcl; subst hdl
        have getSrc : (s.heap.push { cls := .type "set", dict := none, data := .set #[] 0 (.fresh 0 0 (!w.params.followText "set-order")) }).get? l = some { cls := .type "tuple", dict := odict, data := .seq items nl, slots := oslots } := Heap.get?_push_of_some _ hol
        have subS := F.sub_tuple_set
        have subF := F.sub_tuple_frozenset
        have hne : (Value.type "tuple" == Value.type "dict") = false := by decide
        have srcOk : (s.heap.push { cls := .type "set", dict := none, data := .set #[] 0 (.fresh 0 0 (!w.params.followText "set-order")) }).IsTuple l items := ⟨_, getSrc, rfl, nl, rfl⟩
        unfold Builtin.«set.__init__» noKeywords Builtin.Frozenset.updateFrom
        generalize hPI : pyIter = PI
        wp_walk
        subst hPI

        refine wpAny_pyIter_tuple srcOk ?_
        refine wpAny_bind (wpAny_runValue ?_)
        have srcLt : l < s.heap.objs.size := Heap.lt_size hol
        have noHd : A.in1.in1.in1.handled = none := by simp [hh]
        have szOne : (s.heap.push { cls := .type "set", dict := none, data := .set #[] 0 (.fresh 0 0 (!w.params.followText "set-order")) }).objs.size = s.heap.objs.size + 1 := Heap.size_push ..
        have srcNe : l ≠ (s.heap.push { cls := .type "set", dict := none, data := .set #[] 0 (.fresh 0 0 (!w.params.followText "set-order")) }).objs.size := by
          rw [Heap.size_push]; exact Nat.ne_of_lt (Nat.lt_succ_of_lt srcLt)
        have setNotIn : s.heap.objs.size ∉ [(s.heap.push { cls := .type "set", dict := none, data := .set #[] 0 (.fresh 0 0 (!w.params.followText "set-order")) }).objs.size, l] := by
          rw [Heap.size_push]; simp only [List.mem_cons, List.mem_singleton, List.not_mem_nil, or_false, not_or]
          exact ⟨Nat.ne_of_lt (Nat.lt_succ_self _), Nat.ne_of_gt srcLt⟩
        have vals : ∀ (i : Nat) (v : Value), items[i]? = some v → ∃ p, ks[i]? = some p ∧ v = .ref p.1 := fun i v hv => by
          have q : items.toList[i]? = some v := by rw [Array.getElem?_toList]; exact hv
          rw [hit, List.getElem?_map] at q
          cases hq : ks[i]? with
          | none => rw [hq] at q; cases q
          | some p =>
            rw [hq] at q
            exact ⟨p, rfl, (Option.some.inj q).symm⟩
        have nothing : ∀ b, s.heap.objs.size ≤ b → s.heap.get? b = none := fun b hb => by
          cases q : s.heap.get? b with
          | none => rfl
          | some o => exact absurd (Nat.lt_of_lt_of_le (Heap.lt_size q) hb) (Nat.lt_irrefl _)
        refine set_update_tups ((Walks.tuple noHd _ l srcNe items).toS) s.heap.objs.size
          setNotIn ks sizes hfew vals s.heap hk (nothing _ (Nat.le_refl _)) (fun b hb => nothing b (by
            rw [List.mem_singleton.mp hb, Heap.size_push]
            exact Nat.le_succ _)) hu (items.size - 0) 0 _ (by omega) (Nat.zero_le _)
          ⟨⟨_, Heap.get?_push_size _ rfl, rfl, rfl⟩, (srcOk.push _)⟩ (fun b o e => Heap.get?_push_of_some _ (Heap.get?_push_of_some _ e)) ?hS0 ?hR
        case hS0 =>
          have hget : ((s.heap.push { cls := .type "set", dict := none, data := .set #[] 0 (.fresh 0 0 (!w.params.followText "set-order")) }).push { cls := .type "tuple_iterator", data := .fields #[.ref l, .int 0 0] }).get? s.heap.objs.size
              = some { cls := .type "set", dict := none, data := .set #[] 0 (.fresh 0 0 (!w.params.followText "set-order")) } := Heap.get?_push_of_some _ setAt
          exact ⟨[], #[], 0, _, setTR_fresh hget, Got.zero ks⟩
        case hR =>
          intro s' L es ep t moved setNow g' hkp
          obtain ⟨h', g2, d', tk', os'⟩ := s'
          have eg : g2 = s.gens := moved.gens
          have ed : d' = s.drawn := moved.drawn
          have eo : os' = s.os := moved.os
          subst eg; subst ed; subst eo
          show wpAny _ _ _ _ _ _
          refine wpAny_pure ?_
          show wpAny _ _ (ret Value.none) _ _ _
          rw [sizes] at g'
          exact wpAny_pure ⟨rfl, h', tk', L, es, ep, t, rfl, setNow, g', hkp⟩

      · cases r₂ with
        | error e => exact hr₂
        | ok fl₂ =>
          cases fl₂ with
          | ret r =>
            obtain ⟨rfl, h', tk, L, es, ep, t, rfl, setNow, g', hk'⟩ := hr₂
            repeat (any_goals (first | assumption | wp_step))
            exact h _ _ _ _ _ _ setNow g' hk'
          | _ => exact hr₂.elim
    | _ => exact hr.elim
end
noncomputable local instance memK3 (j : Key) (l : List Key) : Decidable (j ∈ l) := memK j l
open PySem.W PySem.SeqAt
mutual
theorem eqv_refl : ∀ {a : PyData}, alike a a = true → PyData.eqv a a = true
  | .none, _ => rfl
  | .bool x, _ => by simp [PyData.eqv]
  | .int x, _ => by simp [PyData.eqv]
  | .str x, _ => by simp [PyData.eqv]
  | .list xs, h => by
    have := eqvAll_refl (xs := xs) (by simpa [alike] using h)
    simpa [PyData.eqv] using this
  | .tuple xs, h => by
    have := eqvAll_refl (xs := xs) (by simpa [alike] using h)
    simpa [PyData.eqv] using this
  | .dict _, h => by simp [alike] at h
theorem eqvAll_refl : ∀ {xs : List PyData}, alikeAll xs xs = true → PyData.eqvAll xs xs = true
  | [], _ => by simp [PyData.eqvAll]
  | x :: xs, h => by
    rw [eqv_all_cons, Bool.and_eq_true]
    exact ⟨eqv_refl (alike_all_cons h).1, eqvAll_refl (alike_all_cons h).2⟩
end
theorem dedup_spec : ∀ {xs : List PyData}, AllAlike xs → (dedup xs).Nodup ∧ ∀ d, d ∈ dedup xs ↔ d ∈ xs
  | [], _ => ⟨List.nodup_nil, fun d => Iff.rfl⟩
  | x :: xs, h => by
    obtain ⟨h1, h2⟩ := dedup_spec fun d hd d' hd' => h d (List.mem_cons_of_mem _ hd) d' (List.mem_cons_of_mem _ hd')
    unfold dedup
    by_cases q : (dedup xs).any (fun y => PyData.eqv y x) = true
    · rw [if_pos q]
      obtain ⟨y, hy, e⟩ := List.any_eq_true.mp q
      have hy2 := (h2 y).mp hy
      have ey : y = x := eqv_eq (h y (List.mem_cons_of_mem _ hy2) x List.mem_cons_self) e
      subst ey
      refine ⟨h1, fun d => ?_⟩
      rw [h2, List.mem_cons]
      exact ⟨.inr, fun z => z.elim (fun z => by rw [z]; exact hy2) id⟩
    · rw [if_neg q]
      refine ⟨List.nodup_cons.mpr ⟨fun hx => q ?_, h1⟩, fun d => by rw [List.mem_cons, List.mem_cons, h2]⟩
      exact List.any_eq_true.mpr ⟨x, hx, eqv_refl (h x List.mem_cons_self x List.mem_cons_self)⟩
theorem perm_of {α : Type} {xs ys : List α} (h1 : xs.Nodup) (h2 : ys.Nodup) (h : ∀ a, a ∈ xs ↔ a ∈ ys) : xs.Perm ys := (List.perm_ext_iff_of_nodup h1 h2).mpr h
/-- what the object of a new set of xs is -/
def SetIs (P : Program) (w : World) (ca : Addr) (fa : Nat → Addr) (F : Hp) (h : Heap) (p : Addr) (xs : List D) : Prop :=
  ∃ o es ep t ds, h.get? p = some o ∧ o.ExactSet ∧ o.data = .set es ep t ∧ t.fits es.size = true ∧ es.size < scanBound ∧ Ris t.place.toList ∧ (w.params.followText "set-order" = true ∨ t.led = true) ∧ ds.Perm (dedup xs) ∧
    EachIs (fun v d => ∃ x, RelV x v ∧ Rp ca fa F x d) (es.toList.map (·.2)) ds ∧ EachIs (fun v d => Reads h v d []) (es.toList.map (·.2)) ds
theorem keyD_inj {a b : Key} (h : keyD a = keyD b) : a = b := by
  cases a <;> cases b <;> simp [keyD] at h <;> rw [h]
theorem keysOf_eq : ∀ {xs : List D}, (keysOf xs).isSome = true → ∃ ks : List Key, xs = ks.map keyD := fun {xs} h => by
  obtain ⟨ks, e⟩ := Option.isSome_iff_exists.mp h
  exact ⟨ks, keysOf_ok e⟩
theorem mem_of_map_keyD {k : Key} {ks : List Key} : keyD k ∈ ks.map keyD ↔ k ∈ ks := by
  rw [List.mem_map]
  exact ⟨fun ⟨a, ha, e⟩ => by rw [← keyD_inj e]; exact ha, fun h => ⟨k, h, rfl⟩⟩
theorem nodup_map {α β : Type} {f : α → β} (hf : ∀ a b, f a = f b → a = b) : ∀ {l : List α}, l.Nodup → (l.map f).Nodup
  | [], _ => List.nodup_nil
  | a :: l, h => by
    obtain ⟨h1, h2⟩ := List.nodup_cons.mp h
    rw [List.map_cons]
    refine List.nodup_cons.mpr ⟨fun z => ?_, nodup_map hf h2⟩
    obtain ⟨b, hb, e⟩ := List.mem_map.mp z
    exact h1 (by rw [← hf b a e]; exact hb)
section
variable {X : Cx} {ca : Addr} {fa : Nat → Addr} {F H : Hp} {s : Shared} {σ : L2.St} {pins : List (Addr × Obj)}
theorem vals_keys : ∀ {ks : List Key} {us : List Value}, Vals (ks.map kV) us → EachIs (fun v k => (mixKind X.prog X.w).is k v = true ∧ v.scannable = true) us ks
  | [], _, .nil => .nil
  | k :: ks, _, .cons r t => by
    refine .cons ⟨kV_is r, ?_⟩ (vals_keys t)
    cases k with
    | inl i => obtain ⟨u, rfl⟩ := r; rfl
    | inr x => obtain ⟨u, rfl⟩ := r; rfl
theorem keysG_mem {ks : List Key} {vs : List V} (r : RpAll ca fa F vs (ks.map keyD)) : ∀ k ∈ ks, keyG k = true := fun k hk => List.all_eq_true.mp (rp_keysG r) k hk
theorem set_keys {ks : List Key} {h' : Heap} {p : Addr} {S : Key → Bool} {c : Nat} (R : SetQ X.prog X.w h' p S c) (hS : ∀ k, S k = true ↔ k ∈ ks) (hg : ∀ k ∈ ks, keyG k = true) (hal : AllAlike (ks.map keyD)) : SetIs X.prog X.w ca fa F h' p (ks.map keyD) := by
  obtain ⟨o, es, ep, t, ho, hex, hd, g, nd, hm, hb, hf, hn, hr, hl⟩ := R
  obtain ⟨d1, d2⟩ := dedup_spec hal
  have gk : ∀ e ∈ es.toList, keyK e ∈ ks := fun e he => (hS _).mp ((hm _).mpr (List.mem_map.mpr ⟨e, he, rfl⟩))
  have each : ∀ (l : List (Int × Value)), (∀ e ∈ l, GoodK X.prog X.w e) → (∀ e ∈ l, keyK e ∈ ks) → EachIs (fun v d => ∃ x, RelV x v ∧ Rp ca fa F x d) (l.map (·.2)) ((l.map keyK).map keyD) ∧ EachIs (fun v d => Reads h' v d []) (l.map (·.2)) ((l.map keyK).map keyD) := fun l => by
    induction l with
    | nil => intro _ _; exact ⟨.nil, .nil⟩
    | cons e l ih =>
      intro h1 h2
      obtain ⟨i1, i2⟩ := ih (fun x hx => h1 x (List.mem_cons_of_mem _ hx)) fun x hx => h2 x (List.mem_cons_of_mem _ hx)
      obtain ⟨k, k1, _, _⟩ := h1 e List.mem_cons_self
      have ek : keyK e = k := kOf_is k1
      have hk := hg k (by rw [← ek]; exact h2 e List.mem_cons_self)
      rw [List.map_cons, List.map_cons, List.map_cons, ek]
      rcases keyIs_shape k1 with ⟨i, u, rfl, ev⟩ | ⟨x, u, rfl, ev⟩
      · exact ⟨.cons ⟨.int i, ⟨u, ev⟩, .int i⟩ i1, .cons (by rw [ev]; exact .int _ _) i2⟩
      · exact ⟨.cons ⟨.str x, ⟨u, ev⟩, .str x hk⟩ i1, .cons (by rw [ev]; exact .str _ _) i2⟩
  obtain ⟨e1, e2⟩ := each es.toList g gk
  refine ⟨o, es, ep, t, _, ho, hex, hd, hf, hb, hr, hl, ?_, e1, e2⟩
  refine perm_of (nodup_map (fun _ _ => keyD_inj) nd) d1 fun d => ?_
  rw [d2]
  constructor
  · intro h
    obtain ⟨k, hk, rfl⟩ := List.mem_map.mp h
    exact mem_of_map_keyD.mpr ((hS k).mp ((hm k).mpr hk))
  · intro h
    obtain ⟨k, hk, rfl⟩ := List.mem_map.mp h
    exact mem_of_map_keyD.mpr ((hm k).mp ((hS k).mpr hk))
def tupI (ns : List Int) : D := .tuple (ns.map .int)
theorem intTup_eq {d : D} (h : isIntTup d = true) : ∃ ns, d = tupI ns := by
  cases d with
  | tuple ds =>
    have h : (ds.all fun d => (intOf d).isSome) = true := h
    have key : ∀ ds : List D, (ds.all fun d => (intOf d).isSome) = true → ∃ ns : List Int, ds = ns.map PyData.int := fun ds => by
      induction ds with
      | nil => exact fun _ => ⟨[], rfl⟩
      | cons d ds ih =>
        intro h
        rw [List.all_cons, Bool.and_eq_true] at h
        obtain ⟨ns, e⟩ := ih h.2
        cases d with
        | int i => exact ⟨i :: ns, by rw [e]; rfl⟩
        | _ => cases h.1
    obtain ⟨ns, rfl⟩ := key ds h
    exact ⟨ns, rfl⟩
  | _ => cases h
theorem rpT_ints : ∀ {ns : List Int} {vs : List V}, RpAll ca fa F vs (ns.map .int) → vs = ns.map V.int
  | [], _, r => by cases r; rfl
  | n :: ns, _, r => by
    rw [List.map_cons] at r
    cases r with
    | cons r1 r2 => cases r1; rw [rpT_ints r2]; rfl
theorem tups_of : ∀ {vs : List V} {ds : List D}, RpAll ca fa F vs ds → (∀ d ∈ ds, isIntTup d = true) → ∃ ks : List (Addr × List Int), vs = ks.map (fun p => V.ref p.1) ∧ ds = ks.map (fun p => tupI p.2) ∧ ∀ p ∈ ks, F p.1 = some (.tup (p.2.map V.int)) ∧ p.2.length ≤ sizeLine
  | _, _, .nil, _ => ⟨[], rfl, rfl, fun p hp => by cases hp⟩
  | _, _, .cons r t, h => by
    obtain ⟨ks, e1, e2, e3⟩ := tups_of t fun d hd => h d (List.mem_cons_of_mem _ hd)
    obtain ⟨ns, rfl⟩ := intTup_eq (h _ List.mem_cons_self)
    obtain ⟨a, ws, rfl, f1, f2, f3⟩ := rp_tup r
    have ew := rpT_ints (ns := ns) f3
    subst ew
    refine ⟨(a, ns) :: ks, by rw [e1]; rfl, by rw [e2]; rfl, fun p hp => ?_⟩
    rcases List.mem_cons.mp hp with rfl | hp
    · exact ⟨f1, by rw [List.length_map] at f2; exact f2⟩
    · exact e3 p hp
theorem readsAll_ints {h : Heap} : ∀ {ns : List Int} {vs : List Value} {as : List Addr}, ReadsAll h vs (ns.map .int) as → as = []
  | [], _, _, r => by cases r; rfl
  | n :: ns, _, _, r => by
    rw [List.map_cons] at r
    cases r with
    | cons r1 r2 => cases r1; rw [readsAll_ints r2]; rfl
theorem reads_tupI {h : Heap} {ns : List Int} {v : Value} {as : List Addr} (r : Reads h v (tupI ns) as) : as = [] := by
  cases r with
  | tuple h1 h2 h3 h4 => exact readsAll_ints h4
theorem mapInt_inj : ∀ {a b : List Int}, a.map PyData.int = b.map PyData.int → a = b
  | [], [], _ => rfl
  | [], _ :: _, h => by cases h
  | _ :: _, [], h => by cases h
  | x :: a, y :: b, h => by
    rw [List.map_cons, List.map_cons] at h
    have h1 := List.cons.inj h
    rw [PyData.int.inj h1.1, mapInt_inj h1.2]
theorem tupI_inj {a b : List Int} (h : tupI a = tupI b) : a = b := mapInt_inj (PyData.tuple.inj h)
theorem set_tups {ks L : List (Addr × List Int)} {h' : Heap} {p : Addr} {es : Array (Int × Value)} {ep : Nat} {t : SetTable} (I : Inv X pins σ H s) (fh : Sub F H) (R : SetTR X.prog X.w h' p L es ep t) (G : Got ks ks.length L) (kp : ∀ b o, s.heap.get? b = some o → h'.get? b = some o)
    (hk : ∀ q ∈ ks, F q.1 = some (.tup (q.2.map V.int)) ∧ q.2.length ≤ sizeLine) (hal : AllAlike (ks.map fun q => tupI q.2)) (hsh : ∀ q ∈ ks, shaped (tupI q.2) = true) : SetIs X.prog X.w ca fa F h' p (ks.map fun q => tupI q.2) := by
  obtain ⟨o, ho, hex, hd⟩ := R.ob
  obtain ⟨d1, d2⟩ := dedup_spec hal
  have hsub : ∀ q ∈ L, q ∈ ks := fun q hq => by have := G.sub q hq; rw [List.take_length] at this; exact this
  have hall : ∀ q ∈ ks, q.2 ∈ L.map (·.2) := fun q hq => G.all q (by rw [List.take_length]; exact hq)
  have intsR : ∀ ns : List Int, RpAll ca fa F (ns.map V.int) (ns.map .int) := fun ns => by
    induction ns with
    | nil => exact .nil
    | cons n ns ih => exact .cons (.int n) ih
  have each : ∀ (l : List (Addr × List Int)), (∀ q ∈ l, q ∈ ks) → EachIs (fun v d => ∃ x, RelV x v ∧ Rp ca fa F x d) ((rowsOf X.prog X.w l).map (·.2)) (l.map fun q => tupI q.2) ∧ EachIs (fun v d => Reads h' v d []) ((rowsOf X.prog X.w l).map (·.2)) (l.map fun q => tupI q.2) := fun l => by
    induction l with
    | nil => intro _; exact ⟨.nil, .nil⟩
    | cons q l ih =>
      intro h
      obtain ⟨i1, i2⟩ := ih fun x hx => h x (List.mem_cons_of_mem _ hx)
      obtain ⟨f1, f2⟩ := hk q (h q List.mem_cons_self)
      have rp : Rp ca fa F (.ref q.1) (tupI q.2) := .tup f1 (by rw [List.length_map]; exact f2) (intsR q.2)
      obtain ⟨as, r⟩ := Dp.reads I _ _ (.ref q.1) (rp.dp (K := X.K) fh (SeqAt.canLay_of_shaped (hsh q (h q List.mem_cons_self)))) rfl
      have e0 := reads_tupI r
      subst e0
      exact ⟨.cons ⟨.ref q.1, rfl, rp⟩ i1, .cons (PyProof.Rows.Reads.keeps kp r) i2⟩
  obtain ⟨e1, e2⟩ := each L hsub
  have hes : es.size < scanBound := by
    have := R.few
    have h2 := SetTR.size (s := { s with heap := h' }) R
    unfold scanBound
    omega
  refine ⟨o, es, ep, t, _, ho, hex, hd, SetTR.fits (s := { s with heap := h' }) R, hes, R.tab.ris, R.led, ?_, by rw [R.rows]; exact e1, by rw [R.rows]; exact e2⟩
  have en : L.map (fun q => tupI q.2) = (L.map (·.2)).map tupI := by rw [List.map_map]; rfl
  refine perm_of (by rw [en]; exact nodup_map (fun _ _ => tupI_inj) R.nd) d1 fun d => ?_
  rw [d2]
  constructor
  · intro h
    obtain ⟨q, hq, rfl⟩ := List.mem_map.mp h
    exact List.mem_map.mpr ⟨q, hsub q hq, rfl⟩
  · intro h
    obtain ⟨q, hq, rfl⟩ := List.mem_map.mp h
    obtain ⟨q2, hq2, e⟩ := List.mem_map.mp (hall q hq)
    exact List.mem_map.mpr ⟨q2, hq2, by show tupI q2.2 = tupI q.2; rw [e]⟩
theorem setOk_al {xs : List D} (h : setOk xs = true) : AllAlike xs ∧ ∀ d ∈ xs, shaped d = true ∧ d ≠ .none := by
  unfold setOk at h
  obtain ⟨h1, h3⟩ := and2' h
  obtain ⟨h1, h2⟩ := and2' h1
  refine ⟨fun d hd d' hd' => List.all_eq_true.mp (List.all_eq_true.mp h1 d hd) d' hd', fun d hd => ?_⟩
  obtain ⟨g1, g2⟩ := and2' (List.all_eq_true.mp h2 d hd)
  exact ⟨g1, fun z => by subst z; cases g2⟩
/-- set(x) -/
theorem call_set_any {x : V} {u : Value} {dx : D} {xs : List D} {Qf : Value → Shared → Prop} {Er : Value → Shared → Prop} (hu : X.A.units + 200 < cLine) (hh : X.A.handled = none) (I : Inv X pins σ H s) (fh : Sub F H) (rx : RelV x u) (l : Lp ca fa F H x dx) (e : setItems dx = some xs) (ok : setOk xs = true)
    (k : ∀ h' tk, (∀ b o, s.heap.get? b = some o → h'.get? b = some o) → SetIs X.prog X.w ca fa F h' s.heap.objs.size xs → Qf (.ref s.heap.objs.size) { s with heap := h', toks := tk }) : wpAny (model X.prog X.w) X.A (call (.type "set") [u]) Qf Er s := by
  obtain ⟨hal, hsh⟩ := setOk_al ok
  have kinds : ((keysOf xs).isSome = true ∧ xs.length < 4000) ∨ ((∀ d ∈ xs, isIntTup d = true) ∧ xs.length < 64) := by
    unfold setOk at ok
    have := (and2' ok).2
    rw [Bool.or_eq_true] at this
    rcases this with h | h
    · obtain ⟨h1, h2⟩ := and2' h; exact .inl ⟨h1, of_decide_eq_true h2⟩
    · obtain ⟨h1, h2⟩ := and2' h; exact .inr ⟨fun d hd => List.all_eq_true.mp h1 d hd, of_decide_eq_true h2⟩
  have main : ∀ {a : Addr} {vs : List V} {its : List Value}, RpAll ca fa F vs xs → Vals vs its → ((s.heap.IsList a its.toArray) ∨ (s.heap.IsTuple a its.toArray)) → wpAny (model X.prog X.w) X.A (call (.type "set") [.ref a]) Qf Er s := fun {a vs its} ra rv hl => by
    rcases kinds with ⟨hk, hn⟩ | ⟨hk, hn⟩
    · obtain ⟨ks, rfl⟩ := keysOf_eq hk
      have hg := keysG_mem ra
      have ev := rp_keys ra
      subst ev
      have hit := vals_keys (X := X) rv
      rw [List.length_map] at hn
      have hb : ks.length + 1 < scanBound := by unfold scanBound; omega
      rcases hl with hl | hl
      · exact call_setQ_list ks hh hl (by simpa using hit) hb fun h' tk c R _ kp => k h' tk kp (set_keys R (fun j => ⟨fun z => of_decide_eq_true z, fun z => decide_eq_true z⟩) hg hal)
      · exact call_setQ_tup ks hh hl (by simpa using hit) hb fun h' tk c R _ kp => k h' tk kp (set_keys R (fun j => ⟨fun z => of_decide_eq_true z, fun z => decide_eq_true z⟩) hg hal)
    · obtain ⟨ks, rfl, rfl, hks⟩ := tups_of ra hk
      rw [List.length_map] at hn
      have hit : its.toArray.toList = ks.map fun p => Value.ref p.1 := by simpa using refs_of_vals rv
      have hIs : ∀ p ∈ ks, IsT X.prog X.w s.heap p.2 p.1 := fun p hp => I.isT (SqT.of (fh _ _ (hks p hp).1))
      have hsh' : ∀ q ∈ ks, shaped (tupI q.2) = true := fun q hq => (hsh _ (List.mem_map.mpr ⟨q, hq, rfl⟩)).1
      rcases hl with hl | hl
      · exact call_set_tups ks hh hl hit hIs hn (by omega) fun h' tk L es ep t R G kp => k h' tk kp (set_tups I fh R G kp hks hal hsh')
      · exact call_setT_tup ks hh hl hit hIs hn (by omega) fun h' tk L es ep t R G kp => k h' tk kp (set_tups I fh R G kp hks hal hsh')
  cases dx with
  | list ds =>
    cases e
    obtain ⟨a, vs, rfl, h1, h2, h3⟩ := lp_lst fh l
    obtain rfl : u = Value.ref a := rx
    obtain ⟨its, rv, hl, hz⟩ := I.list (SqL.of (K := X.K) h1)
    exact main h3 rv (.inl hl.isList)
  | tuple ds =>
    cases e
    obtain ⟨a, vs, rfl, h1, h2, h3⟩ := lp_tup l
    obtain rfl : u = Value.ref a := rx
    obtain ⟨its, rv, hl, hz⟩ := I.tuple (SqT.of (K := X.K) (fh _ _ h1))
    exact main h3 rv (.inr hl)
  | _ => cases e
end
/-! as rules -/
section
variable {X : Cx}
/-- f(set(x)), f a built-in function -/
theorem pe_ofSet {id : String} {f y : Str} {l : Expr} {te : TE} {p p2 pos pos2 : Pos} {r : V → Hp → VK → Prop} (hg : Gl X f) (hm : X.mg f = none) (hv : bootBuiltins f = some (.builtin id)) (hn : f ≠ "__name__") (hdb : (f == ("__debug__" : Str)) = false) (hy : y = "set") (hg2 : Gl X y) (hm2 : X.mg y = none) (hs : notStar l = true) (he : PE X l te)
    (k : ∀ (pins : List (Addr × Obj)) (s : Shared) (σ : L2.St) (H : Hp) (x : V) (u : Value) (Q : VK), Inv X pins σ H s → RelV x u → r x H Q → wpAny (model X.prog X.w) X.A (call (.type "set") [u]) (fun z s' => wpAny (model X.prog X.w) X.A (call (.builtin id) [z]) (EP X pins σ Q) X.xe s') X.xe s) :
    PE X (.Call (.Name f p) [.Call (.Name y p2) [l] [] pos2] [] pos) (fun σ H Q => te σ H fun x H1 => r x H1 Q) := by
  subst hy
  constructor
  intro pins s σ H Q I h
  refine wpAny_Call_Name_kw (ld_blt I hg hm hv ?_ hn hdb)
  refine PyProof.Rows.callWith_builtin1 (PyProof.Rows.args_cons ?_ (star_cons rfl)) (star_cons rfl) rfl
  refine wpAny_Call_Name_kw (ld_blt I hg2 hm2 boot_set ?_)
  refine PyProof.Rows.callWith_type1 (PyProof.Rows.args_cons (thn (he.run pins s σ H _ I h) fun v s1 q1 => PyProof.Rows.args_nil ?_) (star_cons hs)) (star_cons hs) rfl
  obtain ⟨x, H1, I1, r1, q1⟩ := q1
  exact thn (k pins s1 σ H1 x v Q I1 r1 q1) fun z s2 h2 => PyProof.Rows.args_nil h2
end
section
variable {C : Tx} {g : Gd} {n : Nat} {call : Nat → List D → M D} {W : WX} {X : Cx}
def rLenSet (g : Gd) : V → Hp → VK → Prop := fun x H Q => ∃ F dx xs, Sub F H ∧ Lp g.ca g.fa F H x dx ∧ setItems dx = some xs ∧ setOk xs = true ∧ Q (.int (dedup xs).length) H
def rSrtSet (g : Gd) : V → Hp → VK → Prop := fun x H Q => ∃ F dx xs, Sub F H ∧ Lp g.ca g.fa F H x dx ∧ setItems dx = some xs ∧ setOk xs = true ∧ ∀ p zs, H p = none → zs.length ≤ sizeLine → RpAll g.ca g.fa F zs ((dedup xs).mergeSort (dataLe false id)) → Q (.ref p) (upd H p (.lst zs))
theorem room200 (h : COk C g n call W X) : X.A.units + 200 < cLine := by have := h.room.un; omega
theorem dedup_le : ∀ (xs : List D), (dedup xs).length ≤ xs.length
  | [] => Nat.le_refl _
  | x :: xs => by
    unfold dedup
    have := dedup_le xs
    split <;> simp only [List.length_cons] <;> omega
theorem s_lenset {ea : E} {x y : Str} {l : Expr} {p p2 pos pos2 : Pos} (h : COk C g n call W X) (hx : x = "len") (hg : glB X.env.scope x = true) (hy : y = "set") (hgy : glB X.env.scope y = true) (hs : notStar l = true) (hl : PE X l (tL g X.K W (evL call ea))) :
    PE X (.Call (.Name x p) [.Call (.Name y p2) [l] [] pos2] [] pos) (tE g X.K W (evE call (.lenset ea))) := by
  subst hx
  refine (pe_ofSet (r := rLenSet g) (gl_is hg) (fr h (by decide)) rfl (by decide) (by decide) hy (gl_is hgy) (by subst hy; exact fr h (by decide)) hs hl fun pins s σ H x u Q I rx q => ?_).imp fun σ H Q q => ?_
  · obtain ⟨F, dx, xs, fh, l1, e, ok, q⟩ := q
    refine call_set_any (room200 h) (I.ok.hd h.calm) I fh rx l1 e ok fun h' tk kp st => ?_
    obtain ⟨o, es, ep, t, ds, ho, hex, hd, hf, hb, hr, hled, pd, e1, e2⟩ := st
    have I2 : Inv X pins σ H { s with heap := h', toks := tk } := I.kept kp
    have en : es.size = (dedup xs).length := by rw [← pd.length_eq, ← e1.length, List.length_map, Array.length_toList]
    refine call_len_set ho hex hd hf (by have : scanBound = 4096 := rfl; omega) ⟨.int (dedup xs).length, H, I2.tok _, ⟨_, by rw [en]⟩, q⟩
  · obtain ⟨F, ρ, c, gs, r⟩ := q
    refine ⟨F, ρ, c, gs, (Res.bind r).imp fun d c1 r1 v F1 H1 s1 l1 => ?_⟩
    obtain ⟨xs, e1, r2⟩ := Res.opt (Res.bind r1)
    by_cases ok : setOk xs = true
    · rw [if_pos ok] at r2
      exact ⟨F1, d, xs, s1.fh, l1, e1, ok, r2 _ F1 H1 s1 (.int _)⟩
    · rw [if_neg ok] at r2; exact r2.elim
theorem s_srtset {ea : E} {x y : Str} {l : Expr} {p p2 pos pos2 : Pos} (h : COk C g n call W X) (hx : x = "sorted") (hg : glB X.env.scope x = true) (hy : y = "set") (hgy : glB X.env.scope y = true) (hs : notStar l = true) (hl : PE X l (tL g X.K W (evL call ea))) :
    PE X (.Call (.Name x p) [.Call (.Name y p2) [l] [] pos2] [] pos) (tE g X.K W (evE call (.srtset ea))) := by
  subst hx
  refine (pe_ofSet (r := rSrtSet g) (gl_is hg) (fr h (by decide)) rfl (by decide) (by decide) hy (gl_is hgy) (by subst hy; exact fr h (by decide)) hs hl fun pins s σ H x u Q I rx q => ?_).imp fun σ H Q q => ?_
  · obtain ⟨F, dx, xs, fh, l1, e, ok, q⟩ := q
    refine call_set_any (room200 h) (I.ok.hd h.calm) I fh rx l1 e ok fun h' tk kp st => ?_
    obtain ⟨o, es, ep, t, ds, ho, hex, hd, hf, hb, hr, hled, pd, e1, e2⟩ := st
    obtain ⟨hal, hsh⟩ := setOk_al ok
    obtain ⟨d1, d2⟩ := dedup_spec hal
    have I2 : Inv X pins σ H { s with heap := h', toks := tk } := I.kept kp
    have mem : ∀ d ∈ ds, d ∈ xs := fun d hd => (d2 d).mp (pd.mem_iff.mp hd)
    have hdl : ds.length ≤ sizeLine := by
      have : es.size = ds.length := by rw [← e1.length, List.length_map, Array.length_toList]
      have h4 : scanBound ≤ sizeLine := by decide
      omega
    have ho : ({ s with heap := h', toks := tk } : Shared).heap.get? s.heap.objs.size = some o := ho
    have e2 : EachIs (fun v d => Reads ({ s with heap := h', toks := tk } : Shared).heap v d []) (es.toList.map (·.2)) ds := e2
    generalize ({ s with heap := h', toks := tk } : Shared) = s0 at I2 ho e2 ⊢
    refine sorted_es (s := s0) ⟨o, ho, hex.1, hd⟩ hf hb hr hled (I.ok.hd h.calm) e1 e2 (fun d hd d' hd' => hal d (mem d hd) d' (mem d' hd')) (fun d hd => (hsh d (mem d hd)).2) (fun d hd => ?_) fun s' p out c kp2 g2 o2 hp hget eo => ?_
    · have := SeqAt.depth_of_shaped (hsh d (mem d hd)).1
      have := room200 h
      omega
    · rw [sort_perm pd (fun d hd d' hd' => hal d ((d2 d).mp hd) d' ((d2 d').mp hd'))] at eo
      obtain ⟨zs, g1, g3⟩ := each_rp eo
      have hzs : zs.length ≤ sizeLine := by rw [g3.length, List.length_mergeSort, ← pd.length_eq]; exact hdl
      have hn : H p = none := I2.hok.fresh hp
      have J : Inv X pins σ (upd H p (.lst zs)) { s0 with heap := s'.heap, gens := s'.gens, drawn := s'.drawn, toks := s'.toks } :=
        I2.call (ch := []) (Un.laid kp2 hp hn) (I2.hok.laid kp2 hp ⟨hzs, out, c, g1, hget⟩) (by rw [g2]; exact I2.bare) (fun _ z => nomatch z)
      have es : s' = { s0 with heap := s'.heap, gens := s'.gens, drawn := s'.drawn, toks := s'.toks } := by
        cases s'
        cases s0
        cases o2
        rfl
      rw [es]
      exact ⟨.ref p, _, J, rfl, q p zs hn hzs g3⟩
  · obtain ⟨F, ρ, c, gs, r⟩ := q
    refine ⟨F, ρ, c, gs, (Res.bind r).imp fun d c1 r1 v F1 H1 s1 l1 => ?_⟩
    obtain ⟨xs, e1, r2⟩ := Res.opt (Res.bind r1)
    by_cases ok : setOk xs = true
    · rw [if_pos ok] at r2
      exact ⟨F1, d, xs, s1.fh, l1, e1, ok, fun p zs hp hz rz => r2 _ _ _ (s1.grow (.one s1.fh hp)) (.lst upd_same hz (rz.mono (Sub.upd (s1.fh.none hp))))⟩
    · rw [if_neg ok] at r2; exact r2.elim
theorem s_srt {ea : E} {x : Str} {l : Expr} {p pos : Pos} (h : COk C g n call W X) (hx : x = "sorted") (hg : glB X.env.scope x = true) (hs : notStar l = true) (hl : PE X l (tL g X.K W (evL call ea))) : PE X (.Call (.Name x p) [l] [] pos) (tE g X.K W (evE call (.srt ea))) := by
  subst hx
  refine (pe_callB (c_srt (ca := g.ca) (fa := g.fa) (room200 h)) (gl_is hg) (fr h (by decide)) rfl (pa_cons hl pa_nil (star_cons hs)) (by decide) (by decide) (star_cons hs) rfl).imp fun σ H Q q => ?_
  obtain ⟨F, ρ, c, gs, r⟩ := q
  refine ⟨F, ρ, c, gs, (Res.bind r).imp fun d c1 r1 v F1 H1 s1 l1 => ?_⟩
  cases d with
  | list xs =>
    obtain ⟨ys, e1, r2⟩ := Res.opt (Res.bind r1)
    exact ⟨F1, v, xs, ys, rfl, s1.fh, l1, e1, fun p zs hp hz rz => r2 _ _ _ (s1.grow (.one s1.fh hp)) (.lst upd_same hz (rz.mono (Sub.upd (s1.fh.none hp))))⟩
  | _ => exact r1.elim
end

end FS

-- part FsSnd6
set_option Elab.async false
set_option linter.all false
set_option maxRecDepth 100000
set_option maxHeartbeats 4000000
/-! All expressions. -/
namespace FS
open PySem PySem.Spec PyProof.Rows L2

section
variable {C : Tx} {g : Gd} {n : Nat} {call : Nat → List D → M D}
def tRg (g : Gd) (K : PySem.W.Frag) (W : WX) (f : En → M (List D)) : L2.St → Hp → (Int → Int → Hp → Prop) → Prop := fun σ H Q => ∃ F ρ c, GS g F ρ c σ H ∧ Res g K W F σ H (f ρ c) fun ds c' => ∀ a b F' H', Step g.ca g.T F H c' F' H' → RgOk a b → ds = (List.range (b - a).toNat).map (fun i => .int (a + (i : Nat))) → Q a b H'
theorem PRg_imp {X : Cx} {e : Expr} {t t' : L2.St → Hp → (Int → Int → Hp → Prop) → Prop} (h : PRg X e t) (i : ∀ σ H Q, t' σ H Q → t σ H Q) : PRg X e t' := fun pins s σ H Q I q => h pins s σ H Q I (i σ H Q q)
theorem s_rg1 {W : WX} {X : Cx} {e : E} {x : Expr} {y : Str} {p pos : Pos} (hc : COk C g n call W X) (hy : y = "range") (hg : glB X.env.scope y = true) (hs : notStar x = true) (h : PE X x (tL g X.K W (evL call e))) :
    PRg X (.Call (.Name y p) [x] [] pos) (tRg g X.K W fun ρ => M.bnd (evLs call (.cons e .nil) ρ) fun ds => M.opt (rngD ds)) := by
  subst hy
  refine PRg_imp (prg_1 (gl_is hg) (fr hc (by decide)) h (star_cons hs)) fun σ H Q q => ?_
  obtain ⟨F, ρ, c, gs, r⟩ := q
  refine ⟨F, ρ, c, gs, (Res.bind (Res.bind r)).imp fun d c1 r1 v F1 H1 s1 l1 => ?_⟩
  obtain ⟨xs, e1, r2⟩ := Res.opt (show Res g X.K W F σ H (M.opt (rngD [d]) c1) _ from r1)
  rcases rng_ok (g := g) (.cons l1 .nil) e1 with ⟨m, hv, hm, rfl⟩ | ⟨a, b, hv, hm, rfl⟩
  · cases hv
    exact ⟨m, rfl, r2 0 m F1 H1 s1 hm rfl⟩
  · cases hv
theorem s_rg2 {W : WX} {X : Cx} {e e2 : E} {x x2 : Expr} {y : Str} {p pos : Pos} (hc : COk C g n call W X) (hy : y = "range") (hg : glB X.env.scope y = true) (hs : notStar x = true) (hs2 : notStar x2 = true) (h : PE X x (tL g X.K W (evL call e))) (h2 : PE X x2 (tL g X.K W (evL call e2))) :
    PRg X (.Call (.Name y p) [x, x2] [] pos) (tRg g X.K W fun ρ => M.bnd (evLs call (.cons e (.cons e2 .nil)) ρ) fun ds => M.opt (rngD ds)) := by
  subst hy
  refine PRg_imp (prg_2 (gl_is hg) (fr hc (by decide)) h h2 (star_cons hs) (star_cons hs2) (star_any (es := [x2]) (by rw [List.all_cons, hs2]; rfl))) fun σ H Q q => ?_
  obtain ⟨F, ρ, c, gs, r⟩ := q
  refine ⟨F, ρ, c, gs, (Res.bind (Res.bind r)).imp fun d c1 r1 v F1 H1 s1 l1 => ?_⟩
  have r1 := Res.bind (Res.bind (m := evLs call (.cons e2 .nil) ρ) (k := fun xs => M.ret (d :: xs)) r1)
  refine ⟨F1, ρ, c1, gs.step s1, (Res.back r1 s1 fun _ _ z => z).imp fun d2 c2 r2 v2 F2 H2 s2 l2 => ?_⟩
  obtain ⟨xs, e1, r3⟩ := Res.opt (show Res g X.K W F σ H (M.opt (rngD [d, d2]) c2) _ from r2)
  rcases rng_ok (g := g) (.cons (l1.step s2) (.cons l2 .nil)) e1 with ⟨m, hv, hm, rfl⟩ | ⟨a, b, hv, hm, rfl⟩
  · cases hv
  · cases hv
    exact ⟨a, b, rfl, rfl, r3 a b F2 H2 (s1.trans s2) hm rfl⟩
theorem s_listrng {W : WX} {X : Cx} {es : Es} {x : Str} {l : Expr} {p pos : Pos} (hc : COk C g n call W X) (hx : x = "list") (hgx : glB X.env.scope x = true) (hs : notStar l = true) (h : PRg X l (tRg g X.K W fun ρ => M.bnd (evLs call es ρ) fun ds => M.opt (rngD ds))) :
    PE X (.Call (.Name x p) [l] [] pos) (tE g X.K W (evE call (.listrng es))) := by
  subst hx
  refine (pe_listRg hc.calm (gl_is hgx) (fr hc (by decide)) h (star_cons hs)).imp fun σ H Q q => ?_
  obtain ⟨F, ρ, c, gs, r⟩ := q
  refine ⟨F, ρ, c, gs, Res.bindI ((Res.bind r).imp fun ds c1 r1 => (Res.bind r1).imp fun xs c2 r2 a b F1 H1 s1 hr e1 => ⟨hr, fun q hq => ?_⟩)⟩
  subst e1
  exact r2 _ _ _ (s1.grow (.one s1.fh hq)) (.lst upd_same (by rw [rgV_length]; exact hr.2.2.2.2) (rg_rel a b))
theorem s_tuprng {W : WX} {X : Cx} {es : Es} {x : Str} {l : Expr} {p pos : Pos} (hc : COk C g n call W X) (hx : x = "tuple") (hgx : glB X.env.scope x = true) (hs : notStar l = true) (h : PRg X l (tRg g X.K W fun ρ => M.bnd (evLs call es ρ) fun ds => M.opt (rngD ds))) :
    PE X (.Call (.Name x p) [l] [] pos) (tE g X.K W (evE call (.tuprng es))) := by
  subst hx
  refine (pe_tupRg hc.calm (gl_is hgx) (fr hc (by decide)) h (star_cons hs)).imp fun σ H Q q => ?_
  obtain ⟨F, ρ, c, gs, r⟩ := q
  refine ⟨F, ρ, c, gs, Res.bindI ((Res.bind r).imp fun ds c1 r1 => (Res.bind r1).imp fun xs c2 r2 a b F1 H1 s1 hr e1 => ⟨hr, fun q hq => ?_⟩)⟩
  subst e1
  exact r2 _ _ _ (s1.grow (.one s1.fh hq)) (.tup upd_same (by rw [rgV_length]; exact hr.2.2.2.2) (rg_rel a b))
def plainE : E → Bool
  | .cmp .. => false
  | .chn .. => false
  | .not _ => false
  | .and _ => false
  | .or _ => false
  | .ite .. => false
  | _ => true
theorem plain_of {N : List Str} {sc : Scope} {e : E} {x : Expr} (hp : plainE e = true) (h : trE C N sc e x = true) : plainT x = true := by
  cases x with
  | BoolOp o v p => cases e <;> first | exact Bool.noConfusion h | exact Bool.noConfusion hp
  | Compare l o r p => cases e <;> first | exact Bool.noConfusion h | exact Bool.noConfusion hp
  | IfExp t a b p => cases e <;> first | exact Bool.noConfusion h | exact Bool.noConfusion hp
  | UnaryOp o a p => cases o <;> first | rfl | (cases e <;> first | exact Bool.noConfusion h | exact Bool.noConfusion hp)
  | _ => rfl
theorem it_notSet {N : List Str} {sc : Scope} {it : FS.It} {x : Expr} (h : trIt C N sc it x = true) : notSet x = true := by
  cases x with
  | Set a b c =>
    cases it with
    | val e =>
      have h : (trE C N sc e (.Set a b c) && false) = true := h
      rw [Bool.and_false] at h; cases h
    | _ => exact Bool.noConfusion h
  | _ => rfl
theorem tT_evE {W : WX} {X : Cx} {e : E} {x : Expr} (h : PT X x (tT g X.K W (evT call e))) : PT X x (tT g X.K W fun ρ => M.tru (evE call e ρ)) := by
  cases e with
  | var i =>
    refine h.imp fun σ H Q q => ?_
    obtain ⟨F, ρ, c, gs, r⟩ := q
    refine ⟨F, ρ, c, gs, ?_⟩
    have r : Res g X.K W F σ H (M.tru (match ρ[i]? with
      | some (.da d) => M.ret d
      | _ => M.err) c) _ := r
    show Res g X.K W F σ H (M.tru (match ρ[i]? with
      | some (.da d) => M.ret d
      | some (.ow d) => M.ret d
      | _ => M.err) c) _
    cases e : ρ[i]? with
    | none => rw [e] at r; exact r
    | some s =>
      rw [e] at r
      cases s with
      | da d => exact r
      | ow d => exact r.elim
      | no => exact r
  | _ => exact h
end
end FS

-- part FsSnd7
set_option Elab.async false
set_option linter.all false
set_option maxRecDepth 100000
set_option maxHeartbeats 4000000
/-! All expressions: the induction. -/
namespace FS
open PySem PySem.Spec PyProof.Rows L2

section
variable {C : Tx} {g : Gd} {n : Nat} {call : Nat → List D → M D}
theorem and2 {a b : Bool} (h : (a && b) = true) : a = true ∧ b = true := by rw [Bool.and_eq_true] at h; exact h
theorem dt {p : Prop} [Decidable p] (h : decide p = true) : p := of_decide_eq_true h
mutual
theorem sE : ∀ (e : E) {W : WX} {X : Cx} {x : Expr}, COk C g n call W X → trE C X.N X.env.scope e x = true → PE X x (tE g X.K W (evE call e))
  | .var i, W, X, x, hc, h => by
    cases x with
    | Name y p => exact s_var h
    | _ => exact Bool.noConfusion h
  | .int i, W, X, x, hc, h => by
    cases x with
    | Constant c k p =>
      cases c with
      | int j => exact s_int (dt h)
      | _ => exact Bool.noConfusion h
    | _ => exact Bool.noConfusion h
  | .str i, W, X, x, hc, h => by
    cases x with
    | Constant c k p =>
      cases c with
      | str j => exact s_str (dt (and2 h).1) (and2 h).2
      | _ => exact Bool.noConfusion h
    | _ => exact Bool.noConfusion h
  | .bl i, W, X, x, hc, h => by
    cases x with
    | Constant c k p =>
      cases c with
      | bool j => exact s_bl (dt h)
      | _ => exact Bool.noConfusion h
    | _ => exact Bool.noConfusion h
  | .non, W, X, x, hc, h => by
    cases x with
    | Constant c k p =>
      cases c with
      | none => exact s_non
      | _ => exact Bool.noConfusion h
    | _ => exact Bool.noConfusion h
  | .gc y d, W, X, x, hc, h => by
    cases x with
    | Name z p =>
      have h : (decide (y = z) && glB X.env.scope y && plN y && constB d && C.gl.any fun p => decide (p.1 = y) && sameC p.2 d) = true := h
      simp only [Bool.and_eq_true, decide_eq_true_eq] at h
      obtain ⟨⟨⟨⟨rfl, h2⟩, h3⟩, h4⟩, h5⟩ := h
      exact s_gc hc h2 h3 h4 (by simpa using h5)
    | _ => exact Bool.noConfusion h
  | .fnv i, W, X, x, hc, h => by
    cases x with
    | Name z p => exact s_fnv hc (dt (and2 (and2 h).1).1) (and2 (and2 h).1).2 (and2 h).2
    | _ => exact Bool.noConfusion h
  | .bop o a b, W, X, x, hc, h => by
    cases x with
    | BinOp l p r pos =>
      have h1 := and2 (and2 h).1
      exact s_bop h1.1 (s_lon (sE a hc h1.2) h1.2) (s_lon (sE b hc (and2 h).2) (and2 h).2)
    | _ => exact Bool.noConfusion h
  | .neg a, W, X, x, hc, h => by
    cases x with
    | UnaryOp o l p => cases o <;> first | exact s_neg (sE a hc h) | exact Bool.noConfusion h
    | _ => exact Bool.noConfusion h
  | .not a, W, X, x, hc, h => by
    cases x with
    | UnaryOp o l p => cases o <;> first | exact s_not (s_lon (sE a hc h) h) | exact Bool.noConfusion h
    | _ => exact Bool.noConfusion h
  | .and es, W, X, x, hc, h => by
    cases x with
    | BoolOp o l p => cases o <;> first | exact sAnd es hc h | exact Bool.noConfusion h
    | _ => exact Bool.noConfusion h
  | .or es, W, X, x, hc, h => by
    cases x with
    | BoolOp o l p => cases o <;> first | exact sOr es hc h | exact Bool.noConfusion h
    | _ => exact Bool.noConfusion h
  | .cmp o a b, W, X, x, hc, h => by
    cases x with
    | Compare l ps rs pos =>
      match ps, rs, h with
      | [p], [r], h =>
        have h1 := and2 (and2 (and2 h).1).1
        exact s_cmp hc h1.1 (and2 h).2 (s_lon (sE a hc h1.2) h1.2) (s_lon (sE b hc (and2 (and2 h).1).2) (and2 (and2 h).1).2)
    | _ => exact Bool.noConfusion h
  | .chn o p a b c, W, X, x, hc, h => by
    cases x with
    | Compare l ps rs pos =>
      match ps, rs, h with
      | [q, t], [r, u], h =>
        have h : (coOk o q && coOk p t && trE C X.N X.env.scope a l && trE C X.N X.env.scope b r && trE C X.N X.env.scope c u && notSet u) = true := h
        simp only [Bool.and_eq_true] at h
        obtain ⟨⟨⟨⟨⟨h1, h2⟩, h3⟩, h4⟩, h5⟩, h6⟩ := h
        exact pe_chn hc h1 h2 h6 (s_lon (sE a hc h3) h3) (s_lon (sE b hc h4) h4) (s_lon (sE c hc h5) h5)
    | _ => exact Bool.noConfusion h
  | .ite c a b, W, X, x, hc, h => by
    cases x with
    | IfExp t l r p =>
      have h : (teB c && trE C X.N X.env.scope c t && trE C X.N X.env.scope a l && trE C X.N X.env.scope b r) = true := h
      simp only [Bool.and_eq_true] at h
      obtain ⟨⟨⟨h1, h2⟩, h3⟩, h4⟩ := h
      exact s_ite (sT c hc h1 h2) (sE a hc h3) (sE b hc h4)
    | _ => exact Bool.noConfusion h
  | .tup es, W, X, x, hc, h => by
    cases x with
    | Tuple xs k p => exact s_tup (sEs es hc h)
    | _ => exact Bool.noConfusion h
  | .lst es, W, X, x, hc, h => by
    cases x with
    | List xs p => exact pe_tO (o_lst (sEs es hc h))
    | _ => exact Bool.noConfusion h
  | .dct t, W, X, x, hc, h => by
    cases x with
    | Dict ks vs p =>
      match ks, vs, h with
      | [], [], h => exact pe_tO o_dct
    | _ => exact Bool.noConfusion h
  | .idx a i, W, X, x, hc, h => by
    cases x with
    | Subscript l r p =>
      have h1 := and2 (and2 h).1
      exact s_idx hc (and2 h).2 (s_lon (sE a hc h1.1) h1.1) (s_lon (sE i hc h1.2) h1.2)
    | _ => exact Bool.noConfusion h
  | .slc a lo hi, W, X, x, hc, h => by
    cases x with
    | Subscript l r p =>
      cases r with
      | Slice y z st p2 =>
        cases st with
        | none =>
          have h1 := and2 (and2 h).1
          exact s_slc (s_lon (sE a hc h1.1) h1.1) (sO lo hc h1.2) (sO hi hc (and2 h).2)
        | some _ => exact Bool.noConfusion h
      | _ => exact Bool.noConfusion h
    | _ => exact Bool.noConfusion h
  | .rev a, W, X, x, hc, h => by
    cases x with
    | Subscript l r p => exact e_rev (and2 h).1 (s_lon (sE a hc (and2 h).2) (and2 h).2)
    | _ => exact Bool.noConfusion h
  | .cupi i k, W, X, x, hc, h => by
    cases x with
    | Subscript l r p =>
      cases l with
      | Name y p1 =>
        cases r with
        | Constant c m p2 =>
          cases c with
          | int j => exact s_cupi (and2 h).1 (dt (and2 h).2)
          | _ => exact Bool.noConfusion h
        | _ => exact Bool.noConfusion h
      | _ => exact Bool.noConfusion h
    | _ => exact Bool.noConfusion h
  | .call i es, W, X, x, hc, h => by
    cases x with
    | Call f xs ks p =>
      cases f with
      | Name y p1 =>
        cases ks with
        | cons _ _ => exact Bool.noConfusion h
        | nil =>
          have h1 := and2 (and2 h).1
          have h2 := and2 h1.1
          have h3 := (and2 h).2
          cases xs with
          | nil =>
            cases es with
            | nil => exact s_call0 hc (dt h2.1) h2.2 h1.2
            | cons _ _ => exact Bool.noConfusion h3
          | cons z zs => exact s_call hc (dt h2.1) h2.2 h1.2 (trs_star h3) (sEs es hc h3)
      | _ => exact Bool.noConfusion h
    | _ => exact Bool.noConfusion h
  | .bi b es, W, X, x, hc, h => by
    cases x with
    | Call f xs ks p =>
      cases f with
      | Name y p1 =>
        cases ks with
        | cons _ _ => cases xs <;> exact Bool.noConfusion h
        | nil =>
          cases xs with
          | nil => exact Bool.noConfusion h
          | cons z zs =>
            have h1 := and2 (and2 h).1
            exact s_bi hc (dt h1.1) h1.2 (trs_star (and2 h).2) (sLs es hc (and2 h).2)
      | _ => exact Bool.noConfusion h
    | _ => exact Bool.noConfusion h
  | .isi T a, W, X, x, hc, h => by
    cases x with
    | Call f xs ks p =>
      cases f with
      | Name y p1 =>
        match xs, ks, h with
        | [l, .Name t p2], [], h =>
          have h : (decide (y = "isinstance") && glB X.env.scope y && glB X.env.scope t && decide (T ∈ isiTs) && decide (t = Str.ofString T) && trE C X.N X.env.scope a l) = true := h
          simp only [Bool.and_eq_true, decide_eq_true_eq] at h
          obtain ⟨⟨⟨⟨⟨h1, h2⟩, h3⟩, h4⟩, h5⟩, h6⟩ := h
          exact s_isi hc h1 h2 h3 h4 h5 (tr_star h6) (s_lon (sE a hc h6) h6)
      | _ => exact Bool.noConfusion h
    | _ => exact Bool.noConfusion h
  | .get2 a k d, W, X, x, hc, h => by
    cases x with
    | Call f xs ks cp =>
      cases f with
      | Attribute o m ap =>
        match xs, ks, h with
        | [y, z], [], h =>
          have h : (decide (m = "get") && trE C X.N X.env.scope a o && trE C X.N X.env.scope k y && trE C X.N X.env.scope d z && notCall0 o && (ap.endLine == cp.line)) = true := h
          simp only [Bool.and_eq_true, decide_eq_true_eq] at h
          obtain ⟨⟨⟨⟨⟨h1, h2⟩, h3⟩, h4⟩, h5⟩, h6⟩ := h
          exact s_get2 hc h1 h5 h6 (tr_star h3) (tr_star h4) (s_lon (sE a hc h2) h2) (s_lon (sE k hc h3) h3) (sE d hc h4)
      | _ => exact Bool.noConfusion h
    | _ => exact Bool.noConfusion h
  | .comp vs tg it cs el, W, X, x, hc, h => by
    cases x with
    | ListComp elt gs scope pos =>
      match gs, h with
      | [⟨t, iter, ifs, 0⟩], h =>
        have h : (ownOk X.N X.env.scope scope vs && tgB X.N scope tg t && tgIn vs tg && itOk it t && teBs cs && trIt C X.N X.env.scope it iter && trEs C X.N (relS scope X.env.scope) cs ifs && trE C X.N (relS scope X.env.scope) el elt) = true := h
        simp only [Bool.and_eq_true] at h
        obtain ⟨⟨⟨⟨⟨⟨⟨h1, h2⟩, h3⟩, h4⟩, h5⟩, h6⟩, h7⟩, h8⟩ := h
        exact pe_tO <| s_comp hc h1 h2 h3 (it_notSet h6) (sIt it hc h4 h6) (fun s H Ca cl fp => sTs cs (hc.blk h1 s H Ca cl fp) h5 h7) fun s H Ca cl fp => sE el (hc.blk h1 s H Ca cl fp) h8
    | _ => exact Bool.noConfusion h
  | .comp2 vs tg it cs v1 tg1 it1 cs1 el, W, X, x, hc, h => by
    cases x with
    | ListComp elt gs scope pos =>
      match gs, h with
      | [⟨t, iter, ifs, 0⟩, ⟨t1, iter1, ifs1, 0⟩], h =>
        have h : (ownOk X.N X.env.scope scope vs && tgB X.N scope tg t && tgIn vs tg && itOk it t && teBs cs && trIt C X.N X.env.scope it iter && trEs C X.N (relS scope X.env.scope) cs ifs
          && (v1.all fun i => (vs.map (·.2)).contains i) && tgB X.N scope tg1 t1 && tgIn (vs.filter fun p => v1.contains p.2) tg1 && itOk it1 t1 && teBs cs1 && trIt C X.N (relS scope X.env.scope) it1 iter1 && trEs C X.N (relS scope X.env.scope) cs1 ifs1 && trE C X.N (relS scope X.env.scope) el elt) = true := h
        simp only [Bool.and_eq_true] at h
        obtain ⟨⟨⟨⟨⟨⟨⟨⟨⟨⟨⟨⟨⟨⟨h1, h2⟩, h3⟩, h4⟩, h5⟩, h6⟩, h7⟩, k1⟩, k2⟩, k3⟩, k4⟩, k5⟩, k6⟩, k7⟩, h8⟩ := h
        have hv : ∀ i ∈ v1, i ∈ vs.map (·.2) := fun i hi => by
          have := List.all_eq_true.mp k1 i hi
          simpa using this
        have hi1 : ∀ i ∈ tgOf tg1, i ∈ v1 := fun i hi => by
          have := tgIn_of k3 i hi
          obtain ⟨p, hp, rfl⟩ := List.mem_map.mp this
          have := (List.mem_filter.mp hp).2
          simpa using this
        exact pe_tO <| s_comp2 hc h1 h2 h3 (it_notSet h6) hv k2 hi1 (it_notSet k6) (sIt it hc h4 h6) (fun s H Ca cl fp => sTs cs (hc.blk h1 s H Ca cl fp) h5 h7) (fun s H Ca cl fp => sItF it1 (hc.blk h1 s H Ca cl fp) k4 k6)
          (fun s H Ca cl fp => sTs cs1 (hc.blk h1 s H Ca cl fp) k5 k7) fun s H Ca cl fp => sE el (hc.blk h1 s H Ca cl fp) h8
    | _ => exact Bool.noConfusion h
  | .dcomp t vs tg it cs k v, W, X, x, hc, h => by
    cases x with
    | DictComp kx vx gs scope pos =>
      match gs, h with
      | [⟨tx, iter, ifs, 0⟩], h =>
        have h : (ownOk X.N X.env.scope scope vs && tgB X.N scope tg tx && tgIn vs tg && itOk it tx && teBs cs && trIt C X.N X.env.scope it iter && trEs C X.N (relS scope X.env.scope) cs ifs && trE C X.N (relS scope X.env.scope) k kx && trE C X.N (relS scope X.env.scope) v vx) = true := h
        simp only [Bool.and_eq_true] at h
        obtain ⟨⟨⟨⟨⟨⟨⟨⟨h1, h2⟩, h3⟩, h4⟩, h5⟩, h6⟩, h7⟩, h8⟩, h9⟩ := h
        refine pe_tO <| (pe_dcP (o0 := newO t) (g := tG X.K tg) (tt := tT g X.K W0 (evTs call cs)) (tk := tE g X.K W0 (evE call k)) (tv := tE g X.K W0 (evE call v)) (by have := units1 hc; omega) (newO_is t) hc.calm hc.nd (sIt it hc h4 h6) (blkOk_by h1) (fun s H Ca cl fp => s_tg (X := X.blk s H scope (compEnvC scope cl Ca X.env) fp) hc.calm hc.nd blk_st h2)
          (fun s H Ca cl fp => sTs cs (hc.blk h1 s H Ca cl fp) h5 h7) (fun s H Ca cl fp => sE k (hc.blk h1 s H Ca cl fp) h8) (fun s H Ca cl fp => sE v (hc.blk h1 s H Ca cl fp) h9) (folded (it_notSet h6))).imp fun σ H Q q => ?_
        exact t_dcomp h3 q
    | _ => exact Bool.noConfusion h
  | .srt a, W, X, x, hc, h => by
    cases x with
    | Call f xs ks p =>
      cases f with
      | Name y p1 =>
        match xs, ks, h with
        | [l], [], h =>
          have h1 := and2 (and2 h).1
          exact s_srt hc (dt h1.1) h1.2 (tr_star (and2 h).2) (s_lon (sE a hc (and2 h).2) (and2 h).2)
      | _ => exact Bool.noConfusion h
    | _ => exact Bool.noConfusion h
  | .srtset a, W, X, x, hc, h => by
    cases x with
    | Call f xs ks p =>
      cases f with
      | Name y p1 =>
        match xs, ks, h with
        | [.Call (.Name z p3) [l] [] p4], [], h =>
          have h : (decide (y = "sorted") && glB X.env.scope y && decide (z = "set") && glB X.env.scope z && trE C X.N X.env.scope a l) = true := h
          simp only [Bool.and_eq_true, decide_eq_true_eq] at h
          obtain ⟨⟨⟨⟨h1, h2⟩, h3⟩, h4⟩, h5⟩ := h
          exact s_srtset hc h1 h2 h3 h4 (tr_star h5) (s_lon (sE a hc h5) h5)
      | _ => exact Bool.noConfusion h
    | _ => exact Bool.noConfusion h
  | .lenset a, W, X, x, hc, h => by
    cases x with
    | Call f xs ks p =>
      cases f with
      | Name y p1 =>
        match xs, ks, h with
        | [.Call (.Name z p3) [l] [] p4], [], h =>
          have h : (decide (y = "len") && glB X.env.scope y && decide (z = "set") && glB X.env.scope z && trE C X.N X.env.scope a l) = true := h
          simp only [Bool.and_eq_true, decide_eq_true_eq] at h
          obtain ⟨⟨⟨⟨h1, h2⟩, h3⟩, h4⟩, h5⟩ := h
          exact s_lenset hc h1 h2 h3 h4 (tr_star h5) (s_lon (sE a hc h5) h5)
      | _ => exact Bool.noConfusion h
    | _ => exact Bool.noConfusion h
  | .listrng es, W, X, x, hc, h => by
    cases x with
    | Call f xs ks p =>
      cases f with
      | Name y p1 =>
        match xs, ks, h with
        | [.Call (.Name z p3) l [] p4], [], h =>
          have h : (few es && decide (y = "list") && glB X.env.scope y && decide (z = "range") && glB X.env.scope z && trEs C X.N X.env.scope es l) = true := h
          simp only [Bool.and_eq_true, decide_eq_true_eq] at h
          obtain ⟨⟨⟨⟨⟨h0, h1⟩, h2⟩, h3⟩, h4⟩, h5⟩ := h
          exact s_listrng hc h1 h2 rfl (sRg es h0 hc h3 h4 h5)
      | _ => exact Bool.noConfusion h
    | _ => exact Bool.noConfusion h
  | .tuprng es, W, X, x, hc, h => by
    cases x with
    | Call f xs ks p =>
      cases f with
      | Name y p1 =>
        match xs, ks, h with
        | [.Call (.Name z p3) l [] p4], [], h =>
          have h : (few es && decide (y = "tuple") && glB X.env.scope y && decide (z = "range") && glB X.env.scope z && trEs C X.N X.env.scope es l) = true := h
          simp only [Bool.and_eq_true, decide_eq_true_eq] at h
          obtain ⟨⟨⟨⟨⟨h0, h1⟩, h2⟩, h3⟩, h4⟩, h5⟩ := h
          exact s_tuprng hc h1 h2 rfl (sRg es h0 hc h3 h4 h5)
      | _ => exact Bool.noConfusion h
    | _ => exact Bool.noConfusion h
termination_by e => (sizeOf e, 0)
theorem sT : ∀ (e : E) {W : WX} {X : Cx} {x : Expr}, COk C g n call W X → teB e = true → trE C X.N X.env.scope e x = true → PT X x (tT g X.K W (evT call e))
  | .cmp o a b, W, X, x, hc, ht, h => by
    cases x with
    | Compare l ps rs pos =>
      match ps, rs, h with
      | [p], [r], h =>
        have h1 := and2 (and2 (and2 h).1).1
        exact s_cmpT hc h1.1 (and2 h).2 (s_lon (sE a hc h1.2) h1.2) (s_lon (sE b hc (and2 (and2 h).1).2) (and2 (and2 h).1).2)
    | _ => exact Bool.noConfusion h
  | .chn o p a b c, W, X, x, hc, ht, h => by
    cases x with
    | Compare l ps rs pos =>
      match ps, rs, h with
      | [q, t], [r, u], h =>
        have h : (coOk o q && coOk p t && trE C X.N X.env.scope a l && trE C X.N X.env.scope b r && trE C X.N X.env.scope c u && notSet u) = true := h
        simp only [Bool.and_eq_true] at h
        obtain ⟨⟨⟨⟨⟨h1, h2⟩, h3⟩, h4⟩, h5⟩, h6⟩ := h
        exact s_chnT hc h1 h2 h6 (s_lon (sE a hc h3) h3) (s_lon (sE b hc h4) h4) (s_lon (sE c hc h5) h5)
    | _ => exact Bool.noConfusion h
  | .not a, W, X, x, hc, ht, h => by
    cases x with
    | UnaryOp o l p => cases o <;> first | exact s_notT (sT a hc ht h) | exact Bool.noConfusion h
    | _ => exact Bool.noConfusion h
  | .and es, W, X, x, hc, ht, h => by
    cases x with
    | BoolOp o l p => cases o <;> first | exact pw_pt (sAndT es hc ht h) | exact Bool.noConfusion h
    | _ => exact Bool.noConfusion h
  | .or es, W, X, x, hc, ht, h => by
    cases x with
    | BoolOp o l p => cases o <;> first | exact pw_pt (sOrT es hc ht h) | exact Bool.noConfusion h
    | _ => exact Bool.noConfusion h
  | .ite c a b, W, X, x, hc, ht, h => Bool.noConfusion ht
  | .var a1, W, X, x, hc, ht, h => s_truth (plain_of rfl h) (s_lon (sE (.var a1) hc h) h)
  | .int a1, W, X, x, hc, ht, h => s_truth (plain_of rfl h) (s_lon (sE (.int a1) hc h) h)
  | .str a1, W, X, x, hc, ht, h => s_truth (plain_of rfl h) (s_lon (sE (.str a1) hc h) h)
  | .bl a1, W, X, x, hc, ht, h => s_truth (plain_of rfl h) (s_lon (sE (.bl a1) hc h) h)
  | .non, W, X, x, hc, ht, h => s_truth (plain_of rfl h) (s_lon (sE (.non) hc h) h)
  | .gc a1 a2, W, X, x, hc, ht, h => s_truth (plain_of rfl h) (s_lon (sE (.gc a1 a2) hc h) h)
  | .fnv a1, W, X, x, hc, ht, h => s_truth (plain_of rfl h) (s_lon (sE (.fnv a1) hc h) h)
  | .bop a1 a2 a3, W, X, x, hc, ht, h => s_truth (plain_of rfl h) (s_lon (sE (.bop a1 a2 a3) hc h) h)
  | .neg a1, W, X, x, hc, ht, h => s_truth (plain_of rfl h) (s_lon (sE (.neg a1) hc h) h)
  | .tup a1, W, X, x, hc, ht, h => s_truth (plain_of rfl h) (s_lon (sE (.tup a1) hc h) h)
  | .lst a1, W, X, x, hc, ht, h => s_truth (plain_of rfl h) (s_lon (sE (.lst a1) hc h) h)
  | .dct a1, W, X, x, hc, ht, h => s_truth (plain_of rfl h) (s_lon (sE (.dct a1) hc h) h)
  | .idx a1 a2, W, X, x, hc, ht, h => s_truth (plain_of rfl h) (s_lon (sE (.idx a1 a2) hc h) h)
  | .slc a1 a2 a3, W, X, x, hc, ht, h => s_truth (plain_of rfl h) (s_lon (sE (.slc a1 a2 a3) hc h) h)
  | .rev a1, W, X, x, hc, ht, h => s_truth (plain_of rfl h) (s_lon (sE (.rev a1) hc h) h)
  | .cupi a1 a2, W, X, x, hc, ht, h => s_truth (plain_of rfl h) (s_lon (sE (.cupi a1 a2) hc h) h)
  | .call a1 a2, W, X, x, hc, ht, h => s_truth (plain_of rfl h) (s_lon (sE (.call a1 a2) hc h) h)
  | .bi a1 a2, W, X, x, hc, ht, h => s_truth (plain_of rfl h) (s_lon (sE (.bi a1 a2) hc h) h)
  | .isi a1 a2, W, X, x, hc, ht, h => s_truth (plain_of rfl h) (s_lon (sE (.isi a1 a2) hc h) h)
  | .get2 a1 a2 a3, W, X, x, hc, ht, h => s_truth (plain_of rfl h) (s_lon (sE (.get2 a1 a2 a3) hc h) h)
  | .comp a1 a2 a3 a4 a5, W, X, x, hc, ht, h => s_truth (plain_of rfl h) (s_lon (sE (.comp a1 a2 a3 a4 a5) hc h) h)
  | .comp2 a1 a2 a3 a4 a5 a6 a7 a8 a9, W, X, x, hc, ht, h => s_truth (plain_of rfl h) (s_lon (sE (.comp2 a1 a2 a3 a4 a5 a6 a7 a8 a9) hc h) h)
  | .dcomp a1 a2 a3 a4 a5 a6 a7, W, X, x, hc, ht, h => s_truth (plain_of rfl h) (s_lon (sE (.dcomp a1 a2 a3 a4 a5 a6 a7) hc h) h)
  | .srt a1, W, X, x, hc, ht, h => s_truth (plain_of rfl h) (s_lon (sE (.srt a1) hc h) h)
  | .srtset a1, W, X, x, hc, ht, h => s_truth (plain_of rfl h) (s_lon (sE (.srtset a1) hc h) h)
  | .lenset a1, W, X, x, hc, ht, h => s_truth (plain_of rfl h) (s_lon (sE (.lenset a1) hc h) h)
  | .listrng a1, W, X, x, hc, ht, h => s_truth (plain_of rfl h) (s_lon (sE (.listrng a1) hc h) h)
  | .tuprng a1, W, X, x, hc, ht, h => s_truth (plain_of rfl h) (s_lon (sE (.tuprng a1) hc h) h)
termination_by e => (sizeOf e, 1)
theorem sAnd : ∀ (es : Es) {W : WX} {X : Cx} {xs : List Expr} {p : Pos}, COk C g n call W X → trEs C X.N X.env.scope es xs = true → PE X (.BoolOp .And xs p) (tE g X.K W (evAnd call es))
  | .nil, W, X, xs, p, hc, h => by
    cases xs with
    | nil => exact ⟨fun pins s σ H Q I q => by obtain ⟨F, ρ, c, gs, r⟩ := q; exact r.elim⟩
    | cons _ _ => exact Bool.noConfusion h
  | .cons e .nil, W, X, xs, p, hc, h => by
    match xs, h with
    | [x], h => exact pe_one (sE e hc (and2 h).1)
    | _ :: _ :: _, h => exact Bool.noConfusion (and2 h).2
  | .cons e (.cons e2 es), W, X, xs, p, hc, h => by
    match xs, h with
    | x :: y :: xs, h => exact s_and (sE e hc (and2 h).1) (sAnd (.cons e2 es) hc (and2 h).2)
    | [x], h => exact Bool.noConfusion (and2 h).2
termination_by es => (sizeOf es, 0)
theorem sOr : ∀ (es : Es) {W : WX} {X : Cx} {xs : List Expr} {p : Pos}, COk C g n call W X → trEs C X.N X.env.scope es xs = true → PE X (.BoolOp .Or xs p) (tE g X.K W (evOr call es))
  | .nil, W, X, xs, p, hc, h => by
    cases xs with
    | nil => exact ⟨fun pins s σ H Q I q => by obtain ⟨F, ρ, c, gs, r⟩ := q; exact r.elim⟩
    | cons _ _ => exact Bool.noConfusion h
  | .cons e .nil, W, X, xs, p, hc, h => by
    match xs, h with
    | [x], h => exact pe_one (sE e hc (and2 h).1)
    | _ :: _ :: _, h => exact Bool.noConfusion (and2 h).2
  | .cons e (.cons e2 es), W, X, xs, p, hc, h => by
    match xs, h with
    | x :: y :: xs, h => exact s_or (sE e hc (and2 h).1) (sOr (.cons e2 es) hc (and2 h).2)
    | [x], h => exact Bool.noConfusion (and2 h).2
termination_by es => (sizeOf es, 0)
theorem sAndT : ∀ (es : Es) {W : WX} {X : Cx} {xs : List Expr} {p : Pos}, COk C g n call W X → teBs es = true → trEs C X.N X.env.scope es xs = true → PW X (.BoolOp .And xs p) (tT g X.K W fun ρ => M.tru (evAnd call es ρ))
  | .nil, W, X, xs, p, hc, ht, h => by
    cases xs with
    | nil => exact ⟨fun w pins s σ H Q I q => by obtain ⟨F, ρ, c, gs, r⟩ := q; exact r.elim⟩
    | cons _ _ => exact Bool.noConfusion h
  | .cons e .nil, W, X, xs, p, hc, ht, h => by
    match xs, h with
    | [x], h => exact pw_and1 (tT_evE (sT e hc (and2 ht).1 (and2 h).1))
    | _ :: _ :: _, h => exact Bool.noConfusion (and2 h).2
  | .cons e (.cons e2 es), W, X, xs, p, hc, ht, h => by
    match xs, h with
    | x :: y :: xs, h => exact s_andT (tT_evE (sT e hc (and2 ht).1 (and2 h).1)) (sAndT (.cons e2 es) hc (and2 ht).2 (and2 h).2)
    | [x], h => exact Bool.noConfusion (and2 h).2
termination_by es => (sizeOf es, 2)
theorem sOrT : ∀ (es : Es) {W : WX} {X : Cx} {xs : List Expr} {p : Pos}, COk C g n call W X → teBs es = true → trEs C X.N X.env.scope es xs = true → PW X (.BoolOp .Or xs p) (tT g X.K W fun ρ => M.tru (evOr call es ρ))
  | .nil, W, X, xs, p, hc, ht, h => by
    cases xs with
    | nil => exact ⟨fun w pins s σ H Q I q => by obtain ⟨F, ρ, c, gs, r⟩ := q; exact r.elim⟩
    | cons _ _ => exact Bool.noConfusion h
  | .cons e .nil, W, X, xs, p, hc, ht, h => by
    match xs, h with
    | [x], h => exact pw_or1 (tT_evE (sT e hc (and2 ht).1 (and2 h).1))
    | _ :: _ :: _, h => exact Bool.noConfusion (and2 h).2
  | .cons e (.cons e2 es), W, X, xs, p, hc, ht, h => by
    match xs, h with
    | x :: y :: xs, h => exact s_orT (tT_evE (sT e hc (and2 ht).1 (and2 h).1)) (sOrT (.cons e2 es) hc (and2 ht).2 (and2 h).2)
    | [x], h => exact Bool.noConfusion (and2 h).2
termination_by es => (sizeOf es, 2)
theorem sEs : ∀ (es : Es) {W : WX} {X : Cx} {xs : List Expr}, COk C g n call W X → trEs C X.N X.env.scope es xs = true → PA X xs (tA g X.K W (evEs call es))
  | .nil, W, X, xs, hc, h => by
    cases xs with
    | nil => exact s_nil
    | cons _ _ => exact Bool.noConfusion h
  | .cons e es, W, X, xs, hc, h => by
    cases xs with
    | nil => exact Bool.noConfusion h
    | cons x xs => exact s_cons (tr_star (and2 h).1) (sE e hc (and2 h).1) (sEs es hc (and2 h).2)
termination_by es => (sizeOf es, 0)
theorem sLs : ∀ (es : Es) {W : WX} {X : Cx} {xs : List Expr}, COk C g n call W X → trEs C X.N X.env.scope es xs = true → PA X xs (tLs g X.K W (evLs call es))
  | .nil, W, X, xs, hc, h => by
    cases xs with
    | nil => exact s_lnil
    | cons _ _ => exact Bool.noConfusion h
  | .cons e es, W, X, xs, hc, h => by
    cases xs with
    | nil => exact Bool.noConfusion h
    | cons x xs => exact s_lcons (tr_star (and2 h).1) (s_lon (sE e hc (and2 h).1) (and2 h).1) (sLs es hc (and2 h).2)
termination_by es => (sizeOf es, 0)
theorem sO : ∀ (es : Es) {W : WX} {X : Cx} {x : Option Expr}, COk C g n call W X → trO C X.N X.env.scope es x = true → PO X x (tOn g X.K W (evO call es))
  | .nil, W, X, x, hc, h => by
    cases x with
    | none => exact s_o0
    | some _ => exact Bool.noConfusion h
  | .cons e .nil, W, X, x, hc, h => by
    cases x with
    | none => exact Bool.noConfusion h
    | some x => exact s_o1 (sE e hc h)
  | .cons e (.cons _ _), W, X, x, hc, h => by
    cases x <;> exact Bool.noConfusion h
termination_by es => (sizeOf es, 0)
theorem sTs : ∀ (es : Es) {W : WX} {X : Cx} {xs : List Expr}, COk C g n call W X → teBs es = true → trEs C X.N X.env.scope es xs = true → PTs X xs (tT g X.K W (evTs call es))
  | .nil, W, X, xs, hc, ht, h => by
    cases xs with
    | nil => exact ⟨fun pins s σ H Q I q => by
        obtain ⟨F, ρ, c, gs, r⟩ := q
        exact pts_nil.run pins s σ H Q I (r F H gs.refl)⟩
    | cons _ _ => exact Bool.noConfusion h
  | .cons e .nil, W, X, xs, hc, ht, h => by
    match xs, h with
    | [x], h => exact pts_one (sT e hc (and2 ht).1 (and2 h).1)
    | _ :: _ :: _, h => exact Bool.noConfusion (and2 h).2
  | .cons e (.cons _ _), W, X, xs, hc, ht, h => ⟨fun pins s σ H Q I q => by
      obtain ⟨F, ρ, c, gs, r⟩ := q; exact r.elim⟩
termination_by es => (sizeOf es, 2)
theorem sRg : ∀ (es : Es) (hf : few es = true) {W : WX} {X : Cx} {y : Str} {xs : List Expr} {p pos : Pos}, COk C g n call W X → y = "range" → glB X.env.scope y = true → trEs C X.N X.env.scope es xs = true → PRg X (.Call (.Name y p) xs [] pos) (tRg g X.K W fun ρ => M.bnd (evLs call es ρ) fun ds => M.opt (rngD ds))
  | .nil, hf, W, X, y, xs, p, pos, hc, hy, hg, h => fun pins s σ H Q I q => by
    obtain ⟨F, ρ, c, gs, r⟩ := q; exact r.elim
  | .cons e .nil, hf, W, X, y, xs, p, pos, hc, hy, hg, h => by
    match xs, h with
    | [x], h => exact s_rg1 hc hy hg (tr_star (and2 h).1) (s_lon (sE e hc (and2 h).1) (and2 h).1)
    | _ :: _ :: _, h => exact Bool.noConfusion (and2 h).2
  | .cons e (.cons e2 .nil), hf, W, X, y, xs, p, pos, hc, hy, hg, h => by
    match xs, h with
    | [x], h => exact Bool.noConfusion (and2 h).2
    | [x, x2], h =>
      have h2 := and2 (and2 h).2
      exact s_rg2 hc hy hg (tr_star (and2 h).1) (tr_star h2.1) (s_lon (sE e hc (and2 h).1) (and2 h).1) (s_lon (sE e2 hc h2.1) h2.1)
    | _ :: _ :: _ :: _, h => exact Bool.noConfusion (and2 (and2 h).2).2
  | .cons e (.cons e2 (.cons e3 es)), hf, W, X, y, xs, p, pos, hc, hy, hg, h => Bool.noConfusion hf
termination_by es => (sizeOf es, 0)
theorem sIt : ∀ (it : FS.It) {W : WX} {X : Cx} {tg x : Expr}, COk C g n call W X → itOk it tg = true → trIt C X.N X.env.scope it x = true → PI X tg x (tI g X.K W (relT g.ca g.T) (evIt call true it))
  | .val e, W, X, tg, x, hc, ht, h => by
    have h : (trE C X.N X.env.scope e x && notSet x) = true := h
    exact s_itV (relT_ok _ _) (tL_tV (s_lon (sE e hc (and2 h).1) (and2 h).1))
  | .rng es, W, X, tg, x, hc, ht, h => by
    cases x with
    | Call f xs ks p =>
      cases f with
      | Name y p1 =>
        cases ks with
        | cons _ _ => exact Bool.noConfusion h
        | nil =>
          have h1 := and2 (and2 h).1
          have h2 := and2 h1.1
          exact sRngI es h2.1 (relT_ok _ _) hc (dt h2.2) h1.2 (and2 h).2
      | _ => exact Bool.noConfusion h
    | _ => exact Bool.noConfusion h
  | .enum e, W, X, tg, x, hc, ht, h => by
    cases tg with
    | Tuple ts k tp =>
      cases x with
      | Call f xs ks p =>
        cases f with
        | Name y p1 =>
          match xs, ks, h with
          | [l], [], h =>
            have h1 := and2 (and2 h).1
            exact s_enum (relT_ok _ _) hc (dt h1.1) h1.2 (tr_star (and2 h).2) (tL_tV (s_lon (sE e hc (and2 h).2) (and2 h).2))
        | _ => exact Bool.noConfusion h
      | _ => exact Bool.noConfusion h
    | _ => exact Bool.noConfusion ht
  | .zip a b, W, X, tg, x, hc, ht, h => by
    cases tg with
    | Tuple ts k tp =>
      cases x with
      | Call f xs ks p =>
        cases f with
        | Name y p1 =>
          match xs, ks, h with
          | [l, r], [], h =>
            have h1 := and2 (and2 h).1
            have h2 := and2 h1.1
            exact s_zip (relT_ok _ _) hc (dt h2.1) h2.2 (tr_star h1.2) (tr_star (and2 h).2) (tL_tV (s_lon (sE a hc h1.2) h1.2)) (tL_tV (s_lon (sE b hc (and2 h).2) (and2 h).2))
        | _ => exact Bool.noConfusion h
      | _ => exact Bool.noConfusion h
    | _ => exact Bool.noConfusion ht
termination_by it => (sizeOf it, 1)
theorem sItF : ∀ (it : FS.It) {W : WX} {X : Cx} {tg x : Expr}, COk C g n call W X → itOk it tg = true → trIt C X.N X.env.scope it x = true → PI X tg x (tI g X.K W relF (evIt call false it))
  | .val e, W, X, tg, x, hc, ht, h => by
    have h : (trE C X.N X.env.scope e x && notSet x) = true := h
    exact s_itV (relF_ok _ g.T) (tE_tV (sE e hc (and2 h).1))
  | .rng es, W, X, tg, x, hc, ht, h => by
    cases x with
    | Call f xs ks p =>
      cases f with
      | Name y p1 =>
        cases ks with
        | cons _ _ => exact Bool.noConfusion h
        | nil =>
          have h1 := and2 (and2 h).1
          have h2 := and2 h1.1
          exact sRngI es h2.1 (relF_ok _ _) hc (dt h2.2) h1.2 (and2 h).2
      | _ => exact Bool.noConfusion h
    | _ => exact Bool.noConfusion h
  | .enum e, W, X, tg, x, hc, ht, h => by
    cases tg with
    | Tuple ts k tp =>
      cases x with
      | Call f xs ks p =>
        cases f with
        | Name y p1 =>
          match xs, ks, h with
          | [l], [], h =>
            have h1 := and2 (and2 h).1
            exact s_enum (relF_ok _ g.T) hc (dt h1.1) h1.2 (tr_star (and2 h).2) (tE_tV (sE e hc (and2 h).2))
        | _ => exact Bool.noConfusion h
      | _ => exact Bool.noConfusion h
    | _ => exact Bool.noConfusion ht
  | .zip a b, W, X, tg, x, hc, ht, h => by
    cases tg with
    | Tuple ts k tp =>
      cases x with
      | Call f xs ks p =>
        cases f with
        | Name y p1 =>
          match xs, ks, h with
          | [l, r], [], h =>
            have h1 := and2 (and2 h).1
            have h2 := and2 h1.1
            exact s_zip (relF_ok _ g.T) hc (dt h2.1) h2.2 (tr_star h1.2) (tr_star (and2 h).2) (tE_tV (sE a hc h1.2)) (tE_tV (sE b hc (and2 h).2))
        | _ => exact Bool.noConfusion h
      | _ => exact Bool.noConfusion h
    | _ => exact Bool.noConfusion ht
termination_by it => (sizeOf it, 1)
theorem sRngI : ∀ (es : Es) (hf : few es = true) {rel : Hp → Hp → Hp → Hp → Prop} {W : WX} {X : Cx} {y : Str} {tg : Expr} {xs : List Expr} {p pos : Pos}, RelOk g.ca g.T rel → COk C g n call W X → y = "range" → glB X.env.scope y = true → trEs C X.N X.env.scope es xs = true → PI X tg (.Call (.Name y p) xs [] pos) (tI g X.K W rel fun ρ => M.bnd (evLs call es ρ) fun ds => M.opt (rngD ds))
  | .nil, hf, rel, W, X, y, tg, xs, p, pos, ok, hc, hy, hg, h => ⟨fun pins s σ H Q I q => by
    obtain ⟨F, ρ, c, gs, r⟩ := q; exact r.elim⟩
  | .cons e .nil, hf, rel, W, X, y, tg, xs, p, pos, ok, hc, hy, hg, h => by
    match xs, h with
    | [x], h => exact s_rng1 ok hc hy hg (tr_star (and2 h).1) (sLs (.cons e .nil) hc h)
    | _ :: _ :: _, h => exact Bool.noConfusion (and2 h).2
  | .cons e (.cons e2 .nil), hf, rel, W, X, y, tg, xs, p, pos, ok, hc, hy, hg, h => by
    match xs, h with
    | [x], h => exact Bool.noConfusion (and2 h).2
    | [x, x2], h => exact s_rng2 ok hc hy hg (tr_star (and2 h).1) (tr_star (and2 (and2 h).2).1) (sLs (.cons e (.cons e2 .nil)) hc h)
    | _ :: _ :: _ :: _, h => exact Bool.noConfusion (and2 (and2 h).2).2
  | .cons e (.cons e2 (.cons e3 es)), hf, rel, W, X, y, tg, xs, p, pos, ok, hc, hy, hg, h => Bool.noConfusion hf
termination_by es => (sizeOf es, 1)
end
end
end FS

-- part FsStm
set_option Elab.async false
set_option linter.all false
set_option maxRecDepth 100000
set_option maxHeartbeats 4000000
/-! That the model's statements do what the evaluator says. -/
namespace FS
open PySem PySem.Spec PyProof.Rows L2

section
variable {C : Tx} {g : Gd} {n : Nat} {call : Nat → List D → M D} {W : WX} {X : Cx}
/-- what is wanted behind a statement -/
def ResS (g : Gd) (K : PySem.W.Frag) (W : WX) (F : Hp) (r : R Fl) (D : Ends) : Prop := match r with
  | .ok (.nx ρ) c => ∀ σ F' H', GS g F' ρ c σ H' → Sub F F' → D.nx σ H'
  | .ok (.bk ρ) c => ∀ σ F' H', GS g F' ρ c σ H' → Sub F F' → D.bk σ H'
  | .ok (.ct ρ) c => ∀ σ F' H', GS g F' ρ c σ H' → Sub F F' → D.ct σ H'
  | .ok (.rt d) c => ∀ v F' H', Step g.ca g.T g.Fe g.He c F' H' → Rp g.ca g.fa F' v d → D.rt v H'
  | .exc x c => ∀ cls dx σ F' H', Step g.ca g.T g.Fe g.He c F' H' → XRep K x cls dx H' → W cls dx σ H'
  | .err => False
def tSt (g : Gd) (K : PySem.W.Frag) (W : WX) (f : En → M Fl) : TS := fun D σ H => ∃ F ρ c, GS g F ρ c σ H ∧ ResS g K W F (f ρ c) D
theorem ResS.bind {α : Type} {F F2 : Hp} {ρ : En} {c : Cup} {σ : SV} {H : Hp} {K : PySem.W.Frag} {m : M α} {k : α → M Fl} {D : Ends} (gs : GS g F2 ρ c σ H) (h : ResS g K W F (M.bnd m k c) D) : Res g K W F2 σ H (m c) fun a c' => ResS g K W F (k a c') D := by
  unfold M.bnd at h
  cases e : m c with
  | ok a c' => rw [e] at h; exact h
  | exc x c' =>
    rw [e] at h
    exact fun cls dx F' H' s q => h cls dx σ F' H' (gs.st.trans s) q
  | err => rw [e] at h; exact h
theorem ResS.base {F F' : Hp} {K : PySem.W.Frag} {r : R Fl} {D : Ends} (h : ResS g K W F r D) (f : Sub F F') : ResS g K W F' r D := by
  cases r with
  | exc x c => exact h
  | err => exact h
  | ok a c =>
    cases a with
    | nx ρ => exact fun σ F2 H2 gs q => h σ F2 H2 gs (f.trans q)
    | bk ρ => exact fun σ F2 H2 gs q => h σ F2 H2 gs (f.trans q)
    | ct ρ => exact fun σ F2 H2 gs q => h σ F2 H2 gs (f.trans q)
    | rt d => exact h

/-! a new list or dict of one's own -/
theorem GS.own {F0 H0 F H : Hp} {ρ : En} {c0 c : Cup} {σ : SV} (x : GS g F0 ρ c0 σ H0) (s : Step g.ca g.T F0 H0 c F H) {a : Addr} {d : D} (hn : H0 a = none) (hf : F a = none) (hc : a ≠ g.ca) (o : OwAt g.ca g.fa F H a d) (i : Nat) : GS g F (ρ.set i (.ow d)) c (σ.set i (some (.ref a))) H := by
  have y := x.step s
  have apart : ∀ (j : Nat) e b, ρ[j]? = some (.ow e) → σ[j]? = some (some (.ref b)) → b ≠ a := fun j e b h1 h2 z => by
    obtain ⟨o', h3, b', h4, h5, h6, h7, h8⟩ := x.sl j _ h1
    rw [h2] at h3; cases h3; cases h4
    obtain ⟨u, hu⟩ := h8.there
    rw [z, hn] at hu; cases hu
  refine ⟨y.st, y.fca, fun j s' e => ?_, fun j k d1 e1 b hjk h1 h2 h3 h4 => ?_⟩
  · rcases set_get e with ⟨rfl, rfl, hl⟩ | ⟨hne, e⟩
    · obtain ⟨o', h1, h2⟩ := y.sl i _ (List.getElem?_eq_getElem hl)
      exact ⟨some (.ref a), by rw [List.getElem?_set_self (get_lt h1)], a, rfl, hf, hc, s_none x.st hn, o⟩
    · obtain ⟨o', h1, h2⟩ := y.sl j s' e
      exact ⟨o', by rw [List.getElem?_set_ne hne]; exact h1, h2⟩
  · rcases set_get h1 with ⟨rfl, q, hl⟩ | ⟨n1, h1⟩
    · rcases set_get h2 with ⟨rfl, q2, hl2⟩ | ⟨n2, h2⟩
      · exact hjk rfl
      · rw [List.getElem?_set_ne n2] at h4
        rcases set_get h3 with ⟨_, q3, _⟩ | ⟨n3, _⟩
        · cases q3
          exact apart k _ _ h2 h4 rfl
        · exact n3 rfl
    · rw [List.getElem?_set_ne n1] at h3
      rcases set_get h2 with ⟨rfl, q2, hl2⟩ | ⟨n2, h2⟩
      · rcases set_get h4 with ⟨_, q3, _⟩ | ⟨n3, _⟩
        · cases q3
          exact apart j _ _ h1 h3 rfl
        · exact n3 rfl
      · rw [List.getElem?_set_ne n2] at h4
        exact x.dis j k d1 e1 b hjk h1 h2 h3 h4
theorem OwAt.pl {ca : Addr} {fa : Nat → Addr} {F H : Hp} {a : Addr} {d : D} (o : OwAt ca fa F H a d) : ∃ u, H a = some u ∧ Pl u := by
  cases o with
  | lst q l r => exact ⟨_, q, pl_lst⟩
  | dK q r => exact ⟨_, q, pl_dK⟩
  | dT q r => exact ⟨_, q, pl_dT⟩
/-- one's own, changed -/
theorem GS.mut {F H : Hp} {ρ : En} {c : Cup} {σ : SV} (x : GS g F ρ c σ H) {i : Nat} {a : Addr} {d d' : D} {u : HO} (hi : ρ[i]? = some (.ow d)) (ha : σ[i]? = some (some (.ref a))) (o : OwAt g.ca g.fa F (upd H a u) a d') : GS g F (ρ.set i (.ow d')) c σ (upd H a u) := by
  obtain ⟨o0, h1, a0, h2, h3, h4, h5, h6⟩ := x.sl i _ hi
  rw [ha] at h1; cases h1; cases h2
  obtain ⟨u0, hu0, pl0⟩ := h6.pl
  refine ⟨x.st.turn h5 h4 h3 hu0 pl0, x.fca, fun j s' e => ?_, fun j k d1 e1 b hjk k1 k2 k3 k4 => ?_⟩
  · rcases set_get e with ⟨rfl, rfl, hl⟩ | ⟨hne, e⟩
    · exact ⟨_, ha, a, rfl, h3, h4, h5, o⟩
    · obtain ⟨o', q1, q2⟩ := x.sl j s' e
      refine ⟨o', q1, ?_⟩
      cases s' with
      | no => trivial
      | da e => exact q2
      | ow e1 =>
        obtain ⟨b, q3, q4, q5, q6, q7⟩ := q2
        subst q3
        refine ⟨b, rfl, q4, q5, q6, q7.keep (.refl _) fun w hw => ?_⟩
        rw [upd_ne (fun z => x.dis i j d e1 a hne hi e ha (by rw [q1, z]))]
        exact hw
  · have back : ∀ (j : Nat) d1, (ρ.set i (.ow d'))[j]? = some (.ow d1) → ∃ d2, ρ[j]? = some (.ow d2) := fun j d1 k1 => by
      rcases set_get k1 with ⟨rfl, q, hl⟩ | ⟨n1, k1⟩
      · exact ⟨d, hi⟩
      · exact ⟨d1, k1⟩
    obtain ⟨d2, k1⟩ := back j d1 k1
    obtain ⟨d3, k2⟩ := back k e1 k2
    exact x.dis j k d2 d3 b hjk k1 k2 k3 k4
/-- from now on it stays as it is -/
theorem GS.frz {F H : Hp} {ρ : En} {c : Cup} {σ : SV} (x : GS g F ρ c σ H) {i : Nat} {d : D} (hi : ρ[i]? = some (.ow d)) : ∃ F', GS g F' (ρ.set i (.da d)) c σ H ∧ Sub F F' := by
  obtain ⟨o0, h1, a, rfl, h3, h4, h5, h6⟩ := x.sl i _ hi
  obtain ⟨u, hu, rp⟩ := h6.rp h3
  refine ⟨upd F a u, ⟨x.st.frz h5 h3 hu, ⟨by rw [upd_ne h4.symm]; exact x.fca.1, fun p hp => by
    rw [upd_ne (fun z => by
      obtain ⟨ps, h, _⟩ := x.st.tabs p hp
      rw [z, hu] at h
      exact h6.notbl hu ps (Option.some.inj h))]
    exact x.fca.2 p hp⟩, fun j s' e => ?_, fun j k d1 e1 b hjk k1 k2 k3 k4 => ?_⟩, Sub.upd h3⟩
  · rcases set_get e with ⟨rfl, rfl, hl⟩ | ⟨hne, e⟩
    · exact ⟨_, h1, _, rfl, rp⟩
    · obtain ⟨o', q1, q2⟩ := x.sl j s' e
      refine ⟨o', q1, ?_⟩
      cases s' with
      | no => trivial
      | da e =>
        obtain ⟨v, q3, q4⟩ := q2
        exact ⟨v, q3, q4.mono (Sub.upd h3)⟩
      | ow e1 =>
        obtain ⟨b, q3, q4, q5, q6, q7⟩ := q2
        subst q3
        refine ⟨b, rfl, ?_, q5, q6, q7.keep (Sub.upd h3) fun w hw => hw⟩
        rw [upd_ne (fun z => x.dis i j d e1 a hne hi e h1 (by rw [q1, z]))]
        exact q4
  · rcases set_get k1 with ⟨rfl, q, hl⟩ | ⟨n1, k1⟩
    · cases q
    · rcases set_get k2 with ⟨rfl, q, hl⟩ | ⟨n2, k2⟩
      · cases q
      · exact x.dis j k d1 e1 b hjk k1 k2 k3 k4
/-- the cup turned -/
theorem GS.turnCup {F H : Hp} {ρ : En} {c c' : Cup} {σ : SV} (x : GS g F ρ c σ H) : GS g F ρ c' σ (upd H g.ca (.lst [.int c'.1, .int c'.2])) where
  st := {
    ext := fun a o n t e => by rw [upd_ne n]; exact x.st.ext a o n t e
    tb := fun a ps n e => by rw [upd_ne n]; exact x.st.tb a ps n e
    ff := x.st.ff
    fh := fun a o e => by
      rw [upd_ne (fun z => by rw [z, x.fca.1] at e; cases e)]; exact x.st.fh a o e
    new := x.st.new
    cup := upd_same
    tabs := tabs_upd x.st.tabs x.st.cup pl_lst }
  fca := x.fca
  sl := fun j s' e => by
    obtain ⟨o', q1, q2⟩ := x.sl j s' e
    refine ⟨o', q1, ?_⟩
    cases s' with
    | no => trivial
    | da e => exact q2
    | ow e1 =>
      obtain ⟨b, q3, q4, q5, q6, q7⟩ := q2
      exact ⟨b, q3, q4, q5, q6, q7.keep (.refl _) fun w hw => by rw [upd_ne q5]; exact hw⟩
  dis := x.dis

/-! an expression's new list or dict -/
theorem tO_f {e : E} {σ : SV} {H : Hp} {Q : VK} (q : tO g X.K W (fO call e) σ H Q) : tO g X.K W (evE call e) σ H Q := by
  obtain ⟨F, ρ, c, gs, r⟩ := q
  refine ⟨F, ρ, c, gs, (Res.bind r).imp fun d c1 r1 => ?_⟩
  by_cases h : isOwn d = true
  · rw [if_pos h] at r1; exact r1
  · rw [if_neg h] at r1; exact r1.elim
/-- xs + ys, two lists, made anew -/
def rAddO (g : Gd) : R2 := fun x y H Q => ∃ F dx dy d, Sub F H ∧ Lp g.ca g.fa F H x dx ∧ Lp g.ca g.fa F H y dy ∧ addD dx dy = some d ∧ isOwn d = true ∧ ∀ p H', H p = none → Sub H H' → OwAt g.ca g.fa F H' p d → Q (.ref p) H'
theorem r_addO : OpR X (binaryOp .Add) (rAddO g) := by
  intro pins s σ H x y v u Q I rx ry h
  obtain ⟨F, dx, dy, d, fh, r1, r2, e, ow, k⟩ := h
  unfold addD at e
  split at e
  · cases e; cases ow
  · split at e
    · cases e; cases ow
    · cases e
  · split at e
    · cases e; cases ow
    · cases e
  · split at e
    · rename_i hl
      cases e
      obtain ⟨a, vs, rfl, e1, l1, q1⟩ := lp_lst fh r1
      obtain ⟨b, ws, rfl, e2, l2, q2⟩ := lp_lst fh r2
      have a1 := q1.length
      have a2 := q2.length
      exact op_cat pins s σ H _ _ v u Q I rx ry ⟨_, _, _, _, rfl, rfl, e1, e2, by omega, fun p hp => k p _ hp (Sub.upd hp) (.lst upd_same (by rw [List.length_append]; omega) (q1.append q2))⟩
    · cases e
  · cases e
theorem o_add {ea eb : E} {a b : Expr} {pos : Pos} (ha : PE X a (tL g X.K W (evL call ea))) (hb : PE X b (tL g X.K W (evL call eb))) : PE X (.BinOp a .Add b pos) (tO g X.K W (fO call (.bop .add ea eb))) := (pe_op (r_addO (g := g)) ha hb).imp fun σ H Q q => by
  obtain ⟨F, ρ, c, gs, r⟩ := q
  refine ⟨F, ρ, c, gs, (Res.bind (Res.bind r)).imp fun dx c1 r1 v F1 H1 s1 l1 => ?_⟩
  refine ⟨F1, ρ, c1, gs.step s1, (Res.bind (m := evL call eb ρ) (k := fun y => M.opt (addD dx y)) (Res.back r1 s1 fun _ _ z => z)).imp fun dy c2 r2 w F2 H2 s2 l2 => ?_⟩
  obtain ⟨d, e, r3⟩ := Res.opt r2
  by_cases h : isOwn d = true
  · rw [if_pos h] at r3
    have s3 := s1.trans s2
    exact ⟨F2, dx, dy, d, s2.fh, l1.step s2, l2, e, h, fun p H' hp hh o => r3 p F2 H' (s3.grow (.heap s2.fh hh)) (s_none s3 hp) (s2.fh.none hp) (fun z => by rw [z, s2.cup] at hp; cases hp) o⟩
  · rw [if_neg h] at r3; exact r3.elim
theorem fO_pe {e : E} {x : Expr} (h : PE X x (tO g X.K W (evE call e))) : PE X x (tO g X.K W (fO call e)) := h.imp fun σ H Q q => tO_f q
theorem o_comp {vs : List (Str × Nat)} {tg : Tg} {it : FS.It} {cs : Es} {el : E} {elt : Expr} {gs : List Comprehension} {scope : Scope} {pos : Pos} (hc : COk C g n call W X) (h : trE C X.N X.env.scope (.comp vs tg it cs el) (.ListComp elt gs scope pos) = true) :
    PE X (.ListComp elt gs scope pos) (tO g X.K W (evE call (.comp vs tg it cs el))) := by
  match gs, h with
  | [⟨t, iter, ifs, 0⟩], h =>
    have h : (ownOk X.N X.env.scope scope vs && tgB X.N scope tg t && tgIn vs tg && itOk it t && teBs cs && trIt C X.N X.env.scope it iter && trEs C X.N (relS scope X.env.scope) cs ifs && trE C X.N (relS scope X.env.scope) el elt) = true := h
    simp only [Bool.and_eq_true] at h
    obtain ⟨⟨⟨⟨⟨⟨⟨h1, h2⟩, h3⟩, h4⟩, h5⟩, h6⟩, h7⟩, h8⟩ := h
    exact s_comp hc h1 h2 h3 (it_notSet h6) (sIt it hc h4 h6) (fun s H Ca cl fp => sTs cs (hc.blk h1 s H Ca cl fp) h5 h7) fun s H Ca cl fp => sE el (hc.blk h1 s H Ca cl fp) h8
theorem a_comp {vs : List (Str × Nat)} {tg : Tg} {it : FS.It} {cs : Es} {el : E} {elt : Expr} {gs : List Comprehension} {scope : Scope} {i : Nat} {y : Str} {py pos spos : Pos} (hc : COk C g n call W X) (hy : X.N[i]? = some y) (hyl : X.env.scope.names.lookup y = some .local) (h : trE C X.N X.env.scope (.comp vs tg it cs el) (.ListComp elt gs scope pos) = true)
    (hsw : swapsWith (.ListComp elt gs scope pos) (some (.Name y py)) spos.line X.env = pure true) : PS X (.Assign [.Name y py] (.ListComp elt gs scope pos) spos) (tAsg (tO g X.K W (evE call (.comp vs tg it cs el))) (gName i)) := by
  match gs, h with
  | [⟨t, iter, ifs, 0⟩], h =>
    have h : (ownOk X.N X.env.scope scope vs && tgB X.N scope tg t && tgIn vs tg && itOk it t && teBs cs && trIt C X.N X.env.scope it iter && trEs C X.N (relS scope X.env.scope) cs ifs && trE C X.N (relS scope X.env.scope) el elt) = true := h
    simp only [Bool.and_eq_true] at h
    obtain ⟨⟨⟨⟨⟨⟨⟨h1, h2⟩, h3⟩, h4⟩, h5⟩, h6⟩, h7⟩, h8⟩ := h
    refine (ps_setLc hc.calm hc.nd hy hyl hsw (g := tG X.K tg) (wi := tI g X.K W (relT g.ca g.T) (evIt call true it)) (tt := tT g X.K W0 (evTs call cs)) (te := tE g X.K W0 (evE call el)) (sIt it hc h4 h6) (blkOk_by h1) (fun s H Ca cl fp => s_tg (X := X.blk s H scope (compEnvC scope cl Ca X.env) fp) hc.calm hc.nd blk_st h2) (fun s H Ca cl fp => sTs cs (hc.blk h1 s H Ca cl fp) h5 h7) (fun s H Ca cl fp => sE el (hc.blk h1 s H Ca cl fp) h8) (folded (it_notSet h6))).imp fun D σ H q => ?_
    exact t_comp h3 q
theorem o_comp2 {vs : List (Str × Nat)} {tg : Tg} {it : FS.It} {cs : Es} {v1 : List Nat} {tg1 : Tg} {it1 : FS.It} {cs1 : Es} {el : E} {elt : Expr} {gs : List Comprehension} {scope : Scope} {pos : Pos} (hc : COk C g n call W X) (h : trE C X.N X.env.scope (.comp2 vs tg it cs v1 tg1 it1 cs1 el) (.ListComp elt gs scope pos) = true) :
    PE X (.ListComp elt gs scope pos) (tO g X.K W (evE call (.comp2 vs tg it cs v1 tg1 it1 cs1 el))) := by
  match gs, h with
  | [⟨t, iter, ifs, 0⟩, ⟨t1, iter1, ifs1, 0⟩], h =>
    have h : (ownOk X.N X.env.scope scope vs && tgB X.N scope tg t && tgIn vs tg && itOk it t && teBs cs && trIt C X.N X.env.scope it iter && trEs C X.N (relS scope X.env.scope) cs ifs
      && (v1.all fun i => (vs.map (·.2)).contains i) && tgB X.N scope tg1 t1 && tgIn (vs.filter fun p => v1.contains p.2) tg1 && itOk it1 t1 && teBs cs1 && trIt C X.N (relS scope X.env.scope) it1 iter1 && trEs C X.N (relS scope X.env.scope) cs1 ifs1 && trE C X.N (relS scope X.env.scope) el elt) = true := h
    simp only [Bool.and_eq_true] at h
    obtain ⟨⟨⟨⟨⟨⟨⟨⟨⟨⟨⟨⟨⟨⟨h1, h2⟩, h3⟩, h4⟩, h5⟩, h6⟩, h7⟩, k1⟩, k2⟩, k3⟩, k4⟩, k5⟩, k6⟩, k7⟩, h8⟩ := h
    have hv : ∀ i ∈ v1, i ∈ vs.map (·.2) := fun i hi => by
      have := List.all_eq_true.mp k1 i hi
      simpa using this
    have hi1 : ∀ i ∈ tgOf tg1, i ∈ v1 := fun i hi => by
      have := tgIn_of k3 i hi
      obtain ⟨p, hp, rfl⟩ := List.mem_map.mp this
      have := (List.mem_filter.mp hp).2
      simpa using this
    exact s_comp2 hc h1 h2 h3 (it_notSet h6) hv k2 hi1 (it_notSet k6) (sIt it hc h4 h6) (fun s H Ca cl fp => sTs cs (hc.blk h1 s H Ca cl fp) h5 h7) (fun s H Ca cl fp => sItF it1 (hc.blk h1 s H Ca cl fp) k4 k6)
      (fun s H Ca cl fp => sTs cs1 (hc.blk h1 s H Ca cl fp) k5 k7) fun s H Ca cl fp => sE el (hc.blk h1 s H Ca cl fp) h8
theorem a_comp2 {vs : List (Str × Nat)} {tg : Tg} {it : FS.It} {cs : Es} {v1 : List Nat} {tg1 : Tg} {it1 : FS.It} {cs1 : Es} {el : E} {elt : Expr} {gs : List Comprehension} {scope : Scope} {i : Nat} {y : Str} {py pos spos : Pos} (hc : COk C g n call W X) (hy : X.N[i]? = some y) (hyl : X.env.scope.names.lookup y = some .local)
    (h : trE C X.N X.env.scope (.comp2 vs tg it cs v1 tg1 it1 cs1 el) (.ListComp elt gs scope pos) = true) (hsw : swapsWith (.ListComp elt gs scope pos) (some (.Name y py)) spos.line X.env = pure true) : PS X (.Assign [.Name y py] (.ListComp elt gs scope pos) spos) (tAsg (tO g X.K W (evE call (.comp2 vs tg it cs v1 tg1 it1 cs1 el))) (gName i)) := by
  match gs, h with
  | [⟨t, iter, ifs, 0⟩, ⟨t1, iter1, ifs1, 0⟩], h =>
    have h : (ownOk X.N X.env.scope scope vs && tgB X.N scope tg t && tgIn vs tg && itOk it t && teBs cs && trIt C X.N X.env.scope it iter && trEs C X.N (relS scope X.env.scope) cs ifs
      && (v1.all fun i => (vs.map (·.2)).contains i) && tgB X.N scope tg1 t1 && tgIn (vs.filter fun p => v1.contains p.2) tg1 && itOk it1 t1 && teBs cs1 && trIt C X.N (relS scope X.env.scope) it1 iter1 && trEs C X.N (relS scope X.env.scope) cs1 ifs1 && trE C X.N (relS scope X.env.scope) el elt) = true := h
    simp only [Bool.and_eq_true] at h
    obtain ⟨⟨⟨⟨⟨⟨⟨⟨⟨⟨⟨⟨⟨⟨h1, h2⟩, h3⟩, h4⟩, h5⟩, h6⟩, h7⟩, k1⟩, k2⟩, k3⟩, k4⟩, k5⟩, k6⟩, k7⟩, h8⟩ := h
    have hv : ∀ i ∈ v1, i ∈ vs.map (·.2) := fun i hi => by
      have := List.all_eq_true.mp k1 i hi
      simpa using this
    have hi1 : ∀ i ∈ tgOf tg1, i ∈ v1 := fun i hi => by
      have := tgIn_of k3 i hi
      obtain ⟨p, hp, rfl⟩ := List.mem_map.mp this
      have := (List.mem_filter.mp hp).2
      simpa using this
    refine (ps_setLc2 hc.calm hc.nd hy hyl hsw (g := tG X.K tg) (wi := tI g X.K W (relT g.ca g.T) (evIt call true it)) (tt := tT g X.K W0 (evTs call cs)) (wi1 := tI g X.K W0 relF (evIt call false it1)) (g1 := tG X.K tg1) (tt1 := tT g X.K W0 (evTs call cs1)) (te := tE g X.K W0 (evE call el)) (sIt it hc h4 h6) (blkOk_by h1) hv
      (fun s H Ca cl fp => s_tg (X := X.blk s H scope (compEnvC scope cl Ca X.env) fp) hc.calm hc.nd blk_st h2) (fun s H Ca cl fp => sTs cs (hc.blk h1 s H Ca cl fp) h5 h7) (fun s H Ca cl fp => sItF it1 (hc.blk h1 s H Ca cl fp) k4 k6) (fun s H Ca cl fp => s_tg (X := X.blk s H scope (compEnvC scope cl Ca X.env) fp) hc.calm hc.nd blk_st k2)
      (fun s H Ca cl fp => sTs cs1 (hc.blk h1 s H Ca cl fp) k5 k7) (fun s H Ca cl fp => sE el (hc.blk h1 s H Ca cl fp) h8) (folded (it_notSet h6)) (fun env x => folded (it_notSet k6) x)).imp fun D σ H q => ?_
    exact t_comp2 h3 hi1 q
theorem o_dcomp {b : Bool} {vs : List (Str × Nat)} {tg : Tg} {it : FS.It} {cs : Es} {k v : E} {kx vx : Expr} {gs : List Comprehension} {scope : Scope} {pos : Pos} (hc : COk C g n call W X) (h : trE C X.N X.env.scope (.dcomp b vs tg it cs k v) (.DictComp kx vx gs scope pos) = true) :
    PE X (.DictComp kx vx gs scope pos) (tO g X.K W (evE call (.dcomp b vs tg it cs k v))) := by
  match gs, h with
  | [⟨tx, iter, ifs, 0⟩], h =>
    have h : (ownOk X.N X.env.scope scope vs && tgB X.N scope tg tx && tgIn vs tg && itOk it tx && teBs cs && trIt C X.N X.env.scope it iter && trEs C X.N (relS scope X.env.scope) cs ifs && trE C X.N (relS scope X.env.scope) k kx && trE C X.N (relS scope X.env.scope) v vx) = true := h
    simp only [Bool.and_eq_true] at h
    obtain ⟨⟨⟨⟨⟨⟨⟨⟨h1, h2⟩, h3⟩, h4⟩, h5⟩, h6⟩, h7⟩, h8⟩, h9⟩ := h
    refine (pe_dcP (o0 := newO b) (g := tG X.K tg) (wi := tI g X.K W (relT g.ca g.T) (evIt call true it)) (tt := tT g X.K W0 (evTs call cs)) (tk := tE g X.K W0 (evE call k)) (tv := tE g X.K W0 (evE call v)) (by have := units1 hc; omega) (newO_is b) hc.calm hc.nd (sIt it hc h4 h6) (blkOk_by h1) (fun s H Ca cl fp => s_tg (X := X.blk s H scope (compEnvC scope cl Ca X.env) fp) hc.calm hc.nd blk_st h2)
      (fun s H Ca cl fp => sTs cs (hc.blk h1 s H Ca cl fp) h5 h7) (fun s H Ca cl fp => sE k (hc.blk h1 s H Ca cl fp) h8) (fun s H Ca cl fp => sE v (hc.blk h1 s H Ca cl fp) h9) (folded (it_notSet h6))).imp fun σ H Q q => ?_
    exact t_dcomp h3 q
theorem a_dcomp {b : Bool} {vs : List (Str × Nat)} {tg : Tg} {it : FS.It} {cs : Es} {k v : E} {kx vx : Expr} {gs : List Comprehension} {scope : Scope} {i : Nat} {y : Str} {py pos spos : Pos} (hc : COk C g n call W X) (hy : X.N[i]? = some y) (hyl : X.env.scope.names.lookup y = some .local) (h : trE C X.N X.env.scope (.dcomp b vs tg it cs k v) (.DictComp kx vx gs scope pos) = true)
    (hsw : swapsWith (.DictComp kx vx gs scope pos) (some (.Name y py)) spos.line X.env = pure true) : PS X (.Assign [.Name y py] (.DictComp kx vx gs scope pos) spos) (tAsg (tO g X.K W (evE call (.dcomp b vs tg it cs k v))) (gName i)) := by
  match gs, h with
  | [⟨tx, iter, ifs, 0⟩], h =>
    have h : (ownOk X.N X.env.scope scope vs && tgB X.N scope tg tx && tgIn vs tg && itOk it tx && teBs cs && trIt C X.N X.env.scope it iter && trEs C X.N (relS scope X.env.scope) cs ifs && trE C X.N (relS scope X.env.scope) k kx && trE C X.N (relS scope X.env.scope) v vx) = true := h
    simp only [Bool.and_eq_true] at h
    obtain ⟨⟨⟨⟨⟨⟨⟨⟨h1, h2⟩, h3⟩, h4⟩, h5⟩, h6⟩, h7⟩, h8⟩, h9⟩ := h
    refine (ps_setDcP (o0 := newO b) (g := tG X.K tg) (wi := tI g X.K W (relT g.ca g.T) (evIt call true it)) (tt := tT g X.K W0 (evTs call cs)) (tk := tE g X.K W0 (evE call k)) (tv := tE g X.K W0 (evE call v)) (by have := units1 hc; omega) (newO_is b) hc.calm hc.nd hy hyl hsw (sIt it hc h4 h6) (blkOk_by h1) (fun s H Ca cl fp => s_tg (X := X.blk s H scope (compEnvC scope cl Ca X.env) fp) hc.calm hc.nd blk_st h2)
      (fun s H Ca cl fp => sTs cs (hc.blk h1 s H Ca cl fp) h5 h7) (fun s H Ca cl fp => sE k (hc.blk h1 s H Ca cl fp) h8) (fun s H Ca cl fp => sE v (hc.blk h1 s H Ca cl fp) h9) (folded (it_notSet h6))).imp fun D σ H q => ?_
    exact t_dcomp h3 q
theorem sFresh : ∀ {e : E} {x : Expr}, COk C g n call W X → isFresh e = true → trE C X.N X.env.scope e x = true → PE X x (tO g X.K W (fO call e))
  | .lst es, x, hc, hf, h => by
    cases x with
    | List xs p => exact fO_pe (o_lst (sEs es hc h))
    | _ => exact Bool.noConfusion h
  | .dct t, x, hc, hf, h => by
    cases x with
    | Dict ks vs p =>
      match ks, vs, h with
      | [], [], h => exact fO_pe o_dct
    | _ => exact Bool.noConfusion h
  | .comp vs tg it cs el, x, hc, hf, h => by
    cases x with
    | ListComp elt gs scope pos => exact fO_pe (o_comp hc h)
    | _ => exact Bool.noConfusion h
  | .comp2 vs tg it cs v1 tg1 it1 cs1 el, x, hc, hf, h => by
    cases x with
    | ListComp elt gs scope pos => exact fO_pe (o_comp2 hc h)
    | _ => exact Bool.noConfusion h
  | .dcomp b vs tg it cs k v, x, hc, hf, h => by
    cases x with
    | DictComp kx vx gs scope pos => exact fO_pe (o_dcomp hc h)
    | _ => exact Bool.noConfusion h
  | .bop o a b, x, hc, hf, h => by
    cases x with
    | BinOp l p r pos =>
      have h1 := and2 (and2 h).1
      cases o with
      | add =>
        cases p with
        | Add => exact o_add (s_lon (sE a hc h1.2) h1.2) (s_lon (sE b hc (and2 h).2) (and2 h).2)
        | _ => exact Bool.noConfusion h1.1
      | _ => exact Bool.noConfusion hf
    | _ => exact Bool.noConfusion h
theorem swp (e : Expr) (t : Option Expr) (l : Nat) (env : PySem.Env) (h : notComp e = true) : swapsWith e t l env = pure false := by
  cases e <;> first | rfl | exact Bool.noConfusion h
theorem loc_of {env : PySem.Env} {y : Str} {b c d : Bool} (h : (env.blockKind == ScopeKind.function && env.kindOf y == some NameKind.local && b && c) = true) : env.scope.names.lookup y = some .local := by
  simp only [Bool.and_eq_true] at h
  have := h.1.1.2
  exact eq_of_beq this
/-- name = value, by any reading of the value -/
theorem s_asg {e : E} {v : Expr} {i : Nat} {y : Str} {py pos : Pos} {T : TE} (hs : SOk C g n call W X) (hst : stB X.N X.env.scope i y = true) (ht : trE C X.N X.env.scope e v = true) (hT : PE X v T) (hO : ∀ σ H Q, T σ H Q → tO g X.K W (evE call e) σ H Q) : PS X (.Assign [.Name y py] v pos) (tAsg T (gName i)) := by
  obtain ⟨h1, h2⟩ := stB_of hst
  obtain ⟨h3, h4⟩ := hs.st y h2
  cases v with
  | ListComp elt gs scope p =>
    generalize hb : (X.env.blockKind == ScopeKind.function && X.env.kindOf y == some NameKind.local && py.line == p.line && !scope.names.any fun (n, k) => n == y && (k == NameKind.local || k == NameKind.cell)) = b
    have hsw : swapsWith (.ListComp elt gs scope p) (some (.Name y py)) pos.line X.env = pure b := by rw [← hb]; rfl
    cases b with
    | false => exact ps_set hs.co.nd h1 h3 hT hsw h4
    | true =>
      have hl := loc_of (d := true) hb
      cases e with
      | comp vs tg it cs el => exact (a_comp hs.co h1 hl ht hsw).imp fun D σ H q => hO σ H _ q
      | comp2 vs tg it cs v1 tg1 it1 cs1 el => exact (a_comp2 hs.co h1 hl ht hsw).imp fun D σ H q => hO σ H _ q
      | _ => exact Bool.noConfusion ht
  | DictComp kx vx gs scope p =>
    generalize hb : (X.env.blockKind == ScopeKind.function && X.env.kindOf y == some NameKind.local && py.line == p.line && !scope.names.any fun (n, k) => n == y && (k == NameKind.local || k == NameKind.cell)) = b
    have hsw : swapsWith (.DictComp kx vx gs scope p) (some (.Name y py)) pos.line X.env = pure b := by rw [← hb]; rfl
    cases b with
    | false => exact ps_set hs.co.nd h1 h3 hT hsw h4
    | true =>
      have hl := loc_of (d := true) hb
      cases e with
      | dcomp b vs tg it cs k v => exact (a_dcomp hs.co h1 hl ht hsw).imp fun D σ H q => hO σ H _ q
      | _ => exact Bool.noConfusion ht
  | SetComp elt gs scope p => cases e <;> exact Bool.noConfusion ht
  | _ => exact ps_set hs.co.nd h1 h3 hT rfl h4
end
end FS

-- part FsLam
set_option Elab.async false
set_option linter.all false
set_option maxRecDepth 100000
set_option maxHeartbeats 4000000
/-! A lambda made, and the heap told that then stands. -/
namespace FS
open PySem PySem.Spec PyProof.Rows L2 LamX

section
variable {X : Cx} {pins : List (Addr × Obj)} {σ : L2.St} {H : Hp} {s : Shared}
/-- the heap behind a lambda: as it was, or one row more in the table and the new code object -/
def LamHp (P : Addr) (q : Str) (H : Hp) (c' : Addr) (H1 : Hp) : Prop := (H1 = H ∧ H c' = some (CodeO c' q)) ∨ (H c' = none ∧ ∃ qs, H1 = upd (upd H P (.tbl qs)) c' (CodeO c' q))
theorem off_stack (I : Inv X pins σ H s) {f : Addr} (hf : s.heap.objs.size ≤ f) : f ∉ L2.frs X.stack := fun z => by
  rcases List.mem_cons.mp (I.stkSub _ z) with e | e
  · have h1 := I.lt
    rw [← e] at h1
    exact Nat.not_lt_of_le hf h1
  · exact I.nofs hf e
theorem lam_made {c P : Addr} {q : Str} {ps : Array Value} {params : Arguments} {body : Expr} {scope : Scope} {pos : Pos} {Er : Value → Shared → Prop} {Q : Value → Shared → Prop} (I : Inv X pins σ H s) (tb : TabB X.base X.mg c P) (hcode : X.env.code = .ref c)
    (hq : q = X.env.qual ++ "<lambda>") (hP : H P = some (.tbl ps)) (ok : TriplesOk ps.toList) (old : ∀ (pos : Pos) (cv : Value), codeAmong pos ps.toList = some cv → ∃ c, cv = .ref c ∧ H c = some (CodeO c q)) (hdef : defaultsOf params X.env = ([], []))
    (hfree : ∀ y ∈ scope.names, y.2 = .free → ∃ c, X.env.cells.lookup y.1 = some c)
    (h : ∀ (f c' : Addr) (pm ctv : Value) (H1 : Hp) (s' : Shared), Inv X pins σ H1 s' → LamHp P q H c' H1 → TabS H1 P q →
      s'.heap.get? f = some (PySem.W.kla_obj "<lambda>" q params body scope (cloFrom X.env.cells scope.names []) pm c' ctv) → H1 f = none → f ∉ L2.frs X.stack → Q (.ref f) s') :
    wpAny (model X.prog X.w) X.A (eval (.Lambda params body scope pos) X.env) Q Er s := by
  subst hq
  have bm := tb.bm.keeps I.bk
  have tabAt : s.heap.get? P = some { cls := .none, data := .fields ps } := I.hok P _ hP
  refine PySem.W.kla_eval hdef ?_
  cases found : codeAmong pos ps.toList with
  | some cv =>
    obtain ⟨d, rfl, hd⟩ := old pos cv found
    refine PySem.W.kla_makeFunctionHit (mg := X.mg) (closure_ok hfree) I.ok.glob (I.mod.glob.keeps I.bk) hcode (tb.code.keeps I.bk) tabAt ok found bm fun ctv g tk up big => ?_
    exact h g.objs.size d _ ctv H _ (I.kept fun b o e => Heap.get?_push_of_some _ (up b o e)) (.inl ⟨rfl, hd⟩) ⟨ps, hP, ok, old⟩ (Heap.get?_push_size _ rfl) (I.hok.fresh big) (off_stack I big)
  | none =>
    refine PySem.W.kla_makeFunction (mg := X.mg) (closure_ok hfree) I.ok.glob (I.mod.glob.keeps I.bk) hcode (tb.code.keeps I.bk) tabAt ok found tb.gP bm fun d ctv g tk up low high isRec row => ?_
    obtain ⟨d', oc, vs, t, e, hoc, hvs, hname⟩ := isRec
    cases e
    have big : s.heap.objs.size ≤ g.objs.size := by omega
    have free : H d = none := I.hok.fresh low
    have J := inv_table (t' := tk) (more := #[rawInt pos.line, rawInt pos.col, .ref d]) (h' := g.push (PySem.W.kla_obj "<lambda>" (X.env.qual ++ "<lambda>") params body scope (cloFrom X.env.cells scope.names []) ((X.mg "__name__").getD .none) d ctv)) I hP
      (fun b o nb e => Heap.get?_push_of_some _ (up b o nb e)) (Heap.get?_push_of_some _ row) low ⟨oc, vs, t, Heap.get?_push_of_some _ hoc, hvs, hname⟩
    have Pd : P ≠ d := fun z => by rw [← z, hP] at free; cases free
    have list3 : (ps ++ #[rawInt pos.line, rawInt pos.col, .ref d]).toList = ps.toList ++ [rawInt pos.line, rawInt pos.col, .ref d] := by simp
    refine h g.objs.size d _ ctv _ _ J (.inr ⟨free, _, rfl⟩) ⟨_, by rw [upd_ne Pd, upd_same], by rw [list3]; exact PySem.TriplesOk_snoc _ _ _ _ ok, fun p' cv hcv => ?_⟩ (Heap.get?_push_size _ rfl) ?_ (off_stack I big)
    · rw [list3] at hcv
      rcases among_app _ ok hcv with z | z
      · obtain ⟨c0, e1, e2⟩ := old p' cv z
        refine ⟨c0, e1, ?_⟩
        rw [upd_ne (fun y => by rw [y, free] at e2; cases e2), upd_ne (fun y => codeO_ne ps (Option.some.inj (e2.symm.trans (by rw [y]; exact hP))))]
        exact e2
      · exact ⟨d, z, upd_same⟩
    · have gd : g.objs.size ≠ d := Nat.ne_of_gt high
      have gP : g.objs.size ≠ P := fun z => Nat.not_lt_of_le big (z ▸ Heap.lt_size tabAt)
      rw [upd_ne gd, upd_ne gP]
      exact I.hok.fresh big
end
end FS

-- part FsRl
set_option Elab.async false
set_option linter.all false
set_option maxRecDepth 100000
set_option maxHeartbeats 4000000
/-! sorted by length, then by the items. -/
namespace FS
open PySem PySem.Spec PyProof.Rows L2 LamX

section
variable {P : Program} {w : World} {A : Around} {s : Shared}
/-- lambda p: (len(p), p), called with a tuple -/
theorem turn_len {q p : Str} {q1 q2 q3 q4 q5 : Pos} {ctx : Nat} {lsc : Scope} {cl : List (Str × Addr)} {pm ctv v : Value} {c' f : Addr} {ds : List D} {mg mb : Str → Option Value} {apos : Pos}
    (ho : s.heap.get? f = some (PySem.W.kla_obj "<lambda>" q { posonlyargs := [], args := [{ arg := p, annotation := none, pos := apos }], vararg := none, kwonlyargs := [], kw_defaults := [], kwarg := none, defaults := [] } (.Tuple [.Call (.Name "len" q1) [.Name p q2] [] q3, .Name p q4] ctx q5) lsc cl pm c' ctv))
    (hcd : s.heap.CodeRec (.ref c') q) (hd : A.depth < recursionLimit) (hk : lsc.kind = .function) (hco : lsc.isCoroutine = false) (hge : lsc.isGenerator = false) (hp : lsc.names.lookup p = some .local) (hl : lsc.names.lookup ("len" : Str) = some .globalImplicit)
    (hnc : ∀ x ∈ lsc.names, x.2 ≠ .cell) (hdb : (p == ("__debug__" : Str)) = false) (hcld : (p == ("__classdict__" : Str)) = false) (hg : s.heap.Ns mainGlobals mg) (hm : mg "len" = none) (hb : s.heap.Ns builtinsNs mb) (hbl : mb "len" = some (.builtin "len")) (lim : s.heap.NoLimit)
    (hv : Reads s.heap v (.tuple ds) []) (hz : ds.length ≤ sizeLine) :
    wpAny (model P w) A (call (.ref f) [v]) (PySem.W.KeyPure (.tuple [.int ds.length, .tuple ds]) s) (fun _ _ => False) s := by
  refine wpAny_call ?_
  refine codeAny_mono (R := fun r s' => ∃ u, r = .ok (.ret u) ∧ PySem.W.KeyPure (.tuple [.int ds.length, .tuple ds]) s u s') ?_ fun r s' hr => ?_
  · refine PySem.W.kla_callFunE hd ho rfl hco hge rfl hcd ?_
    have hbind : bindArgs (PySem.W.kla_fn "<lambda>" q { posonlyargs := [], args := [{ arg := p, annotation := none, pos := apos }], vararg := none, kwonlyargs := [], kw_defaults := [], kwarg := none, defaults := [] } (.Tuple [.Call (.Name "len" q1) [.Name p q2] [] q3, .Name p q4] ctx q5) lsc cl pm (.ref c') ctv) ⟨[v], []⟩ = pure [(p, v)] := by
      have hl : ([(p, v)] : List (Str × Value)).lookup p = some v := by simp [List.lookup]
      unfold bindArgs
      simp [PySem.W.kla_fn, seqItems?, hl]
      rfl
    rw [hbind]
    refine wpAny_pure (wpAny_newFunctionEnv hnc (fun y hy => ?_) (fun h₁ hns hsb => ⟨lim.fresh _ hsb, ?_⟩) hk)
    · rw [List.mem_singleton.mp hy]
      exact hp
    · have kp : ∀ b o, s.heap.get? b = some o → h₁.get? b = some o := fun b o e => hsb.extBut b o (Nat.ne_of_lt (Heap.lt_size e)) (Heap.get?_push_of_some _ e)
      have hpv : ([(p, v)] : List (Str × Value)).reverse.lookup p = some v := by simp [List.lookup]
      cases hv with
      | @tuple a o vs n _ _ h1 h2 h3 h4 =>
        have hsz : vs.size = ds.length := by simpa using SeqAt.ReadsAll.length _ _ _ h4
        have line := line63
        refine PySem.W.kla_codeExpr (wpAny_Tuple_spliced (Calls.spliced_cons ?_))
        refine wpAny_Call_Name_kw (Calls.Name_function_global hk hl (Calls.loadGlobal_builtin (hg.keeps kp) hm (hb.keeps kp) hbl ?_))
        refine PyProof.Rows.callWith_builtin1 (Calls.spliced_cons (wpAny_Name (wpAny_loadName_local hk hp hns hpv (Calls.spliced_nil ?_)) hdb))
        refine len_tuple (items := vs) ⟨o, kp _ _ h1, h2, n, h3⟩ (by rw [hsz]; omega) ?_
        refine Calls.spliced_cons (wpAny_Name (wpAny_loadName_local hk hp hns hpv (Calls.spliced_nil ⟨show 2 ≤ sizeLine by decide, ?_⟩)) hdb)
        refine ⟨_, rfl, _, _, rfl, fun b o e => Heap.get?_push_of_some _ (kp b o e), ?_⟩
        have item : ∀ u : Obj, Reads (h₁.push u) (.ref a) (.tuple ds) [] := fun u => PyProof.Rows.Reads.keeps (fun b o e => Heap.get?_push_of_some _ (kp b o e)) (Reads.tuple h1 h2 h3 h4)
        refine Reads.tuple (as := [] ++ ([] ++ [])) (Heap.get?_push_size _ rfl) rfl rfl (ReadsAll.cons ?_ (ReadsAll.cons (item _) ReadsAll.nil))
        rw [hsz]
        exact Reads.int _ _
  · obtain ⟨u, rfl, k⟩ := hr
    exact k
end
end FS

-- part FsRl2
set_option Elab.async false
set_option linter.all false
set_option maxRecDepth 100000
set_option maxHeartbeats 4000000
/-! sorted by length, then by the items: as a rule. -/
namespace FS
open PySem PySem.Spec PyProof.Rows L2 LamX PySem.W

/-- a lambda made: the cup, all that is tracked, and the other tables stay -/
theorem lam_step {ca : Addr} {T : List (Addr × Str)} {F H H1 : Hp} {c : Cup} {P c' : Addr} {q : Str} (r : Step ca T F H c F H) (fca : Fca ca T F) (hm : (P, q) ∈ T) (hu : ∀ p ∈ T, p.1 = P → p.2 = q) (L : LamHp P q H c' H1) (t : TabS H1 P q) : Step ca T F H c F H1 := by
  rcases L with ⟨rfl, _⟩ | ⟨nC, qs, rfl⟩
  · exact r
  · obtain ⟨ps, hP, _⟩ := r.tabs _ hm
    have nPc : P ≠ c' := fun z => by rw [z, nC] at hP; cases hP
    refine ⟨fun a o na nt e => ?_, fun a ps' na e => ?_, .refl _, fun a o e => ?_, fun a o e => .inl e, ?_, fun p hp => ?_⟩
    · rw [upd_ne (ne_of_none e nC), upd_ne (fun z => by
        rw [z, hP] at e
        exact nt _ (Option.some.inj e).symm)]
      exact e
    · by_cases hb : a = P
      · exact ⟨qs, by rw [hb, upd_ne nPc, upd_same]⟩
      · exact ⟨ps', by rw [upd_ne (ne_of_none e nC), upd_ne hb]; exact e⟩
    · have e2 := r.fh a o e
      rw [upd_ne (ne_of_none e2 nC), upd_ne (fun z => by
        rw [z, fca.2 _ hm] at e
        cases e)]
      exact e2
    · have e2 := r.cup
      rw [upd_ne (ne_of_none e2 nC), upd_ne (fun z => by
        rw [z, hP] at e2
        cases e2)]
      exact e2
    · by_cases hb : p.1 = P
      · rw [hu p hp hb, hb]
        exact t
      · obtain ⟨ps', a1, a2, a3⟩ := r.tabs p hp
        refine ⟨ps', by rw [upd_ne (ne_of_none a1 nC), upd_ne hb]; exact a1, a2, fun p' cv hcv => ?_⟩
        obtain ⟨c0, e1, e2⟩ := a3 p' cv hcv
        refine ⟨c0, e1, ?_⟩
        rw [upd_ne (ne_of_none e2 nC), upd_ne (fun z => by
          rw [z, hP] at e2
          exact codeO_ne ps (Option.some.inj e2).symm)]
        exact e2
theorem rp_mem {ca : Addr} {fa : Nat → Addr} {F : Hp} : ∀ {vs : List V} {ds : List D} {d : D}, RpAll ca fa F vs ds → d ∈ ds → ∃ v, v ∈ vs ∧ Rp ca fa F v d
  | _, _, _, .cons r t, h => by
    rcases List.mem_cons.mp h with rfl | h
    · exact ⟨_, List.mem_cons_self, r⟩
    · obtain ⟨v, h1, h2⟩ := rp_mem t h
      exact ⟨v, List.mem_cons_of_mem _ h1, h2⟩
theorem rds_ints {h : Heap} : ∀ {xs : List D} {vs : List Value} {as : List Addr}, ReadsAll h vs xs as → (xs.all fun d => (intOf d).isSome) = true → as = []
  | _, _, _, .nil, _ => rfl
  | d :: ds, v :: vs, _, .cons r t, e => by
    rw [List.all_cons] at e
    obtain ⟨e1, e2⟩ := and2 e
    have := rds_ints t e2
    subst this
    cases d with
    | int i =>
      cases r
      rfl
    | _ => cases e1
theorem rds_tup {h : Heap} {d : D} {v : Value} {as : List Addr} (r : Reads h v d as) (e : isIntTup d = true) : as = [] := by
  cases d with
  | tuple ds =>
    cases r with
    | tuple h1 h2 h3 h4 => exact rds_ints h4 e
  | _ => cases e
theorem intOf_some {d : D} (h : (intOf d).isSome = true) : ∃ i, d = .int i := by
  cases d with
  | int i => exact ⟨i, rfl⟩
  | _ => cases h
theorem ints_eq : ∀ {ds : List D}, (ds.all fun d => (intOf d).isSome) = true → ∃ ns : List Int, ds = ns.map .int
  | [], _ => ⟨[], rfl⟩
  | d :: ds, e => by
    rw [List.all_cons] at e
    obtain ⟨e1, e2⟩ := and2 e
    obtain ⟨i, rfl⟩ := intOf_some e1
    obtain ⟨ns, rfl⟩ := ints_eq e2
    exact ⟨i :: ns, rfl⟩
theorem intTup_is {d : D} (h : isIntTup d = true) : ∃ ns : List Int, d = .tuple (ns.map .int) := by
  cases d with
  | tuple ds =>
    obtain ⟨ns, rfl⟩ := ints_eq h
    exact ⟨ns, rfl⟩
  | _ => cases h
theorem lay_ints : ∀ ns : List Int, PyData.canLayAll0 (ns.map .int) = true
  | [] => rfl
  | n :: ns => by
    simp only [List.map_cons, PyData.canLayAll0, PyData.canLay0, Bool.true_and]
    exact lay_ints ns
theorem dep_ints : ∀ ns : List Int, PyData.depthAll (ns.map .int) ≤ 0
  | [] => by simp [PyData.depthAll]
  | n :: ns => by
    have := dep_ints ns
    simp only [List.map_cons, PyData.depthAll, PyData.depth]
    omega
theorem shp_tup {d : D} (h : isIntTup d = true) : SeqAt.shaped d = true ∧ d.depth ≤ 1 := by
  obtain ⟨ns, rfl⟩ := intTup_is h
  have := dep_ints ns
  have e : (PyData.tuple (ns.map .int)).depth ≤ 1 := by
    simp only [PyData.depth]
    omega
  refine ⟨?_, e⟩
  unfold SeqAt.shaped
  rw [Bool.and_eq_true, decide_eq_true_eq]
  exact ⟨by simp only [PyData.canLay0]; exact lay_ints ns, by omega⟩
theorem klen_alike {a b : D} (ha : isIntTup a = true) (hb : isIntTup b = true) : PySem.W.alike (kLen a) (kLen b) = true := by
  obtain ⟨xs, rfl⟩ := intTup_is ha
  obtain ⟨ys, rfl⟩ := intTup_is hb
  simp [kLen, PySem.W.alike, PySem.W.alikeAll, PySem.W.alike_ints]
theorem klen_depth {a : D} (ha : isIntTup a = true) : (kLen a).depth ≤ 2 := by
  obtain ⟨xs, rfl⟩ := intTup_is ha
  have h2 := (shp_tup (d := .tuple (xs.map .int)) ha).2
  simp only [kLen, PyData.depth, PyData.depthAll] at h2 ⊢
  omega
theorem plN_cd {x : Str} (h : plN x = true) : (x == ("__classdict__" : Str)) = false := by
  unfold plN at h
  simp only [Bool.and_eq_true, Bool.not_eq_true'] at h
  exact h.1.1.2
section
variable {C : Tx} {g : Gd} {n : Nat} {call : Nat → List D → M D} {W : WX} {X : Cx}
theorem s_lensort {x key : Str} {l lam : Expr} {p p2 pos : Pos} {f : En → M D} (hs : SOk C g n call W X) (hx : x = "sorted") (hg : glB X.env.scope x = true) (hk : key = "key") (ha : PE X l (tL g X.K W f)) (hns : notStar l = true) (hl : lamLen lam = true) (hlam : C.lam = true) :
    PE X (.Call (.Name x p) [l] [⟨some key, lam, p2⟩] pos) (tE g X.K W fun ρ => M.bnd (f ρ) fun x => M.opt (lenSort x)) := by
  subst hx hk
  unfold lamLen at hl
  split at hl
  case h_2 => cases hl
  rename_i prm apos ln q1 p1 q2 q3 p2' q4 ctx q5 lsc lpos
  simp only [Bool.and_eq_true, decide_eq_true_eq, Bool.not_eq_true', List.all_eq_true, Bool.or_eq_true] at hl
  obtain ⟨⟨⟨⟨⟨⟨⟨⟨⟨⟨hln, hp1⟩, hp2⟩, hpl⟩, hpne⟩, hkind⟩, hco⟩, hge⟩, hlp⟩, hll⟩, hall⟩ := hl
  subst hln hp1 hp2
  obtain ⟨cd, P, TB, hcode, hm, hu⟩ := hs.lam hlam
  have hnl : ∀ y ∈ lsc.names, y.2 ≠ .cell ∧ y.2 ≠ .free := by
    intro y hy
    rcases hall y hy with z | z <;> rw [z] <;> refine ⟨?_, ?_⟩ <;> intro z2 <;> cases z2
  refine ⟨fun pins s σ H Q I h => ?_⟩
  obtain ⟨F, ρ, c, gs, r⟩ := h
  refine wpAny_Call_Name_kw (ld_blt I (gl_is hg) (hs.co.free _ (by decide)) rfl ?_)
  refine PyProof.Rows.callWith_kw (thn ((pa_cons ha pa_nil (star_cons hns)).run pos pins s σ H (fun vs H1 => ∃ v F1 c1 ds, vs = [v] ∧ GS g F1 ρ c1 σ H1 ∧ Lp g.ca g.fa F1 H1 v (.list ds) ∧ ds.all isIntTup = true ∧ ∀ v F' H', Step g.ca g.T F1 H1 c1 F' H' → Rp g.ca g.fa F' v (.list (ds.mergeSort (PySem.W.dataLe false kLen))) → Q v H') I
    ⟨F, ρ, c, gs, (Res.bind r).imp fun d c1 r1 v F1 H1 s1 l1 => ?_⟩) fun us s1 ⟨vs, H1, I1, r1, q1⟩ => ?_) (by rw [star_cons hns]; rfl) (by rw [star_cons hns]; rfl) rfl rfl
  · obtain ⟨d', e, r2⟩ := Res.opt r1
    unfold lenSort at e
    split at e
    case h_2 => cases e
    rename_i xs
    split at e
    case isFalse => cases e
    rename_i hint
    cases e
    exact ⟨v, F1, c1, xs, rfl, gs.step s1, l1, hint, fun v F' H' st rp => r2 v F' H' (s1.trans st) rp⟩
  obtain ⟨v, F1, c1, ds, rfl, gs1, l1, hint, q⟩ := q1
  obtain ⟨a, vs, rfl, h1, h2, h3⟩ := lp_lst gs1.fh l1
  obtain ⟨u, rfl, ru⟩ := vals1 r1
  obtain rfl : u = Value.ref a := ru
  obtain ⟨ps, hP, ok, old⟩ := gs1.st.tabs _ hm
  refine PyProof.Rows.kws_cons (lam_made I1 TB hcode rfl hP ok old rfl (fun y hy e => absurd e (hnl y hy).2) fun fL c' pm ctv H2 s2 I2 hp tab hf hfn hfst => ?_)
  refine PyProof.Rows.kws_nil ?_
  have st2 := lam_step gs1.refl gs1.fca hm hu hp tab
  have gs2 := gs1.step st2
  have h1' : H2 a = some (.lst vs) := by
    have : a ≠ g.ca ∨ a = g.ca := by
      by_cases z : a = g.ca
      · exact .inr z
      · exact .inl z
    rcases this with z | z
    · exact st2.ext a _ z (fun ps z => by cases z) h1
    · subst z
      rw [st2.cup, ← gs1.st.cup]
      exact h1
  have hc' : H2 c' = some (CodeO c' (X.env.qual ++ "<lambda>")) := by
    rcases hp with ⟨rfl, z⟩ | ⟨_, qs, rfl⟩
    · exact z
    · exact upd_same
  obtain ⟨its, rv, hlst, hz⟩ := I2.list (SqL.of (K := X.K) h1')
  have hsh : ∀ d ∈ ds, SeqAt.shaped d = true := fun d hd => (shp_tup (List.all_eq_true.mp hint d hd)).1
  obtain ⟨k1, k2⟩ := rp_each I2 st2.fh h3 rv hsh
  have hlen := h3.length
  obtain ⟨mb, hb1, hb2⟩ := I2.mod.blt
  have kk : EachIs (fun u d => (∃ x, RelV x u ∧ Rp g.ca g.fa F1 x d) ∧ Reads s2.heap u d [] ∧ isIntTup d = true) its ds := by
    have both : ∀ {us : List Value} {ds : List D}, EachIs (fun u d => ∃ x, RelV x u ∧ Rp g.ca g.fa F1 x d) us ds → EachIs (fun v d => ∃ as, Reads s2.heap v d as) us ds → ds.all isIntTup = true → EachIs (fun u d => (∃ x, RelV x u ∧ Rp g.ca g.fa F1 x d) ∧ Reads s2.heap u d [] ∧ isIntTup d = true) us ds := by
      intro us ds a b e
      induction a with
      | nil => exact .nil
      | cons r t ih =>
        cases b with
        | cons r2 t2 =>
          rw [List.all_cons] at e
          obtain ⟨e1, e2⟩ := and2 e
          obtain ⟨as, r2⟩ := r2
          have := rds_tup r2 e1
          subst this
          exact .cons ⟨r, r2, e1⟩ (ih t2 e2)
    exact both k1 k2 hint
  have hco' : s2.heap.CodeRec (.ref c') (X.env.qual ++ "<lambda>") := by
    obtain ⟨⟨oc, vs', t, hoc, hdc, hvc⟩, _, _⟩ := I2.hok c' _ hc'
    exact ⟨c', oc, vs', t, rfl, hoc, hdc, hvc⟩
  have un : X.A.units + 64 < cLine := hs.co.room.units
  have hmem : ∀ d ∈ ds, isIntTup d = true := List.all_eq_true.mp hint
  refine sorted_key_data (b := false) (bs := ds) kLen hlst.isList kk (fun d hd d' hd' => ?_) ?_ (by omega) (fun d hd => ?_) (ksk_s1 _ _) (fun _ => ksk_l1 _ _) (fun _ => ksk_t1 _ _) (fun v d hR hd h tk kp => ?_) fun out c3 h' tk kp hn hD hl eo => ?_
  · obtain ⟨x, hx, rfl⟩ := List.mem_map.mp hd
    obtain ⟨y, hy, rfl⟩ := List.mem_map.mp hd'
    exact klen_alike (hmem x hx) (hmem y hy)
  · refine .inl fun d hd => ?_
    obtain ⟨x, hx, rfl⟩ := List.mem_map.mp hd
    obtain ⟨ns, rfl⟩ := intTup_is (hmem x hx)
    exact ⟨_, _, rfl⟩
  · have := klen_depth (hmem d hd)
    omega
  · obtain ⟨_, r, e⟩ := hR
    obtain ⟨ns, rfl⟩ := intTup_is e
    have kz : (PyData.tuple (ns.map .int)) ∈ ds := hd
    have hz : (ns.map PyData.int).length ≤ sizeLine := by
      obtain ⟨x, hx, rx⟩ := rp_mem h3 hd
      cases rx with
      | tup _ hl r => rw [← r.length]; exact hl
    have e2 : kLen (PyData.tuple (ns.map .int)) = .tuple [.int (ns.map PyData.int).length, .tuple (ns.map .int)] := rfl
    rw [e2]
    exact turn_len (s := { s2 with heap := h, toks := tk }) (kp _ _ hf) (hco'.keeps kp) (hs.co.room.depth) hkind hco hge hlp hll (fun y hy => (hnl y hy).1) (plN_db hpl) (plN_cd hpl) ((I2.mod.glob.keeps I2.bk).keeps kp) (hs.co.free _ (by decide)) ((hb1.keeps I2.bk).keeps kp) (by rw [hb2 _ (by decide)]; rfl) (I2.nolimit.keeps kp) (PyProof.Rows.Reads.keeps kp r) hz
  · obtain ⟨zs, g1, g2⟩ := each_rp (eo.mono fun _ _ h => h.1)
    have hzs : zs.length ≤ sizeLine := by rw [g2.length, List.length_mergeSort]; omega
    have gr := Grow.one (F := F1) (H := H2) (o := .lst zs) st2.fh (I2.hok.fresh (Nat.le_succ _) : H2 (s2.heap.objs.size + 1) = none)
    refine ⟨.ref (s2.heap.objs.size + 1), upd H2 (s2.heap.objs.size + 1) (.lst zs), I2.laid (t' := tk) (o := .lst zs) (fun b o hb => kp b o hb) (Nat.le_succ _) ⟨hzs, out, c3, g1, hD⟩, rfl, ?_⟩
    exact q _ _ _ (st2.grow gr) (.lst upd_same hzs (g2.mono gr.ff))
end
end FS

-- part FsStm2
set_option Elab.async false
set_option linter.all false
set_option maxRecDepth 100000
set_option maxHeartbeats 4000000
/-! All statements. -/
namespace FS
open PySem PySem.Spec PyProof.Rows L2

section
variable {C : Tx} {g : Gd} {n : Nat} {call : Nat → List D → M D} {W : WX} {X : Cx}
theorem PS_or {st : Stmt} {t u : TS} (a : PS X st t) (b : PS X st u) : PS X st (fun D σ H => t D σ H ∨ u D σ H) := ⟨fun pins s σ H D I h => by
  rcases h with h | h
  · exact a.run pins s σ H D I h
  · exact b.run pins s σ H D I h⟩
theorem s_set {i : Nat} {e : E} {y : Str} {v : Expr} {py pos : Pos} (hs : SOk C g n call W X) (hst : stB X.N X.env.scope i y = true) (ht : trE C X.N X.env.scope e v = true) : PS X (.Assign [.Name y py] v pos) (tSt g X.K W (evS call (.set i e))) :=
  (s_asg hs hst ht (sE e hs.co ht) fun σ H Q q => tE_tO q).imp fun D σ H q => by
    obtain ⟨F, ρ, c, gs, r⟩ := q
    exact ⟨F, ρ, c, gs, (ResS.bind gs r).imp fun d c1 r1 v F1 H1 s1 l1 => r1 _ F1 H1 ((gs.step s1).da i l1) s1.ff⟩
theorem s_own {i : Nat} {e : E} {y : Str} {v : Expr} {py pos : Pos} (hs : SOk C g n call W X) (hst : stB X.N X.env.scope i y = true) (hf : isFresh e = true) (ht : trE C X.N X.env.scope e v = true) : PS X (.Assign [.Name y py] v pos) (tSt g X.K W (evS call (.own i e))) :=
  (s_asg hs hst ht (sFresh hs.co hf ht) fun σ H Q q => tO_f q).imp fun D σ H q => by
    obtain ⟨F, ρ, c, gs, r⟩ := q
    exact ⟨F, ρ, c, gs, (ResS.bind gs r).imp fun d c1 r1 a F1 H1 s1 hn hf hc o => r1 _ F1 H1 (gs.own s1 hn hf hc o i) s1.ff⟩
theorem s_expr {e : E} {v : Expr} {pos : Pos} (hs : SOk C g n call W X) (ht : trE C X.N X.env.scope e v = true) (hn : notComp v = true) : PS X (.Expr v pos) (tSt g X.K W (evS call (.expr e))) :=
  (ps_expr (sE e hs.co ht) (swp v _ _ _ hn)).imp fun D σ H q => by
    obtain ⟨F, ρ, c, gs, r⟩ := q
    exact ⟨F, ρ, c, gs, (ResS.bind gs r).imp fun d c1 r1 v F1 H1 s1 l1 => r1 _ F1 H1 (gs.step s1) s1.ff⟩

/-! several at once -/
inductive OAll (g : Gd) (F H : Hp) : (Addr → Prop) → List Bool → List V → List D → Prop
  | nil {P : Addr → Prop} : OAll g F H P [] [] []
  | da {P : Addr → Prop} {os : List Bool} {v : V} {vs : List V} {d : D} {ds : List D} : Rp g.ca g.fa F v d → OAll g F H P os vs ds → OAll g F H P (false :: os) (v :: vs) (d :: ds)
  | ow {P : Addr → Prop} {os : List Bool} {a : Addr} {vs : List V} {d : D} {ds : List D} : P a → F a = none → a ≠ g.ca → g.He a = none → OwAt g.ca g.fa F H a d → OAll g F H (fun x => P x ∧ x ≠ a) os vs ds → OAll g F H P (true :: os) (.ref a :: vs) (d :: ds)
theorem OAll.mono {F H : Hp} : ∀ {P P' : Addr → Prop} {os : List Bool} {vs : List V} {ds : List D}, OAll g F H P os vs ds → (∀ x, P x → P' x) → OAll g F H P' os vs ds
  | _, _, _, _, _, .nil, _ => .nil
  | _, _, _, _, _, .da r t, h => .da r (t.mono h)
  | _, _, _, _, _, .ow p f n e o t, h => .ow (h _ p) f n e o (t.mono fun x q => ⟨h _ q.1, q.2⟩)
def tAO (g : Gd) (K : PySem.W.Frag) (W : WX) (os : List Bool) (f : En → M (List D)) : TA := fun σ H Q => ∃ F ρ c, GS g F ρ c σ H ∧ Res g K W F σ H (f ρ c) fun ds c' => ∀ vs F' H', Step g.ca g.T F H c' F' H' → OAll g F' H' (fun x => H x = none) os vs ds → Q vs H'
theorem sOs : ∀ {es : Es} {os : List Bool} {xs : List Expr}, COk C g n call W X → frs es os = true → trEs C X.N X.env.scope es xs = true → PA X xs (tAO g X.K W os (evFs call es os))
  | .nil, [], [], hc, hf, h => pa_nil.imp fun σ H Q q => by
    obtain ⟨F, ρ, c, gs, r⟩ := q
    exact r [] F H gs.refl .nil
  | .nil, [], _ :: _, hc, hf, h => Bool.noConfusion h
  | .nil, _ :: _, _, hc, hf, h => Bool.noConfusion hf
  | .cons _ _, [], _, hc, hf, h => Bool.noConfusion hf
  | .cons _ _, _ :: _, [], hc, hf, h => Bool.noConfusion h
  | .cons e es, false :: os, x :: xs, hc, hf, h => by
    refine (pa_cons (sE e hc (and2 h).1) (sOs (es := es) hc (and2 hf).2 (and2 h).2) (star_cons (tr_star (and2 h).1))).imp fun σ H Q q => ?_
    obtain ⟨F, ρ, c, gs, r⟩ := q
    refine ⟨F, ρ, c, gs, (Res.bind r).imp fun d c1 r1 v F1 H1 s1 l1 => ?_⟩
    refine ⟨F1, ρ, c1, gs.step s1, (Res.bind (Res.back r1 s1 fun _ _ z => z)).imp fun ds c2 r2 vs F2 H2 s2 l2 => ?_⟩
    exact r2 _ F2 H2 (s1.trans s2) (.da (l1.mono s2.ff) (l2.mono fun x q => s_none s1 q))
  | .cons e es, true :: os, x :: xs, hc, hf, h => by
    have hfr : isFresh e = true := by
      have := (and2 hf).1
      simpa using this
    refine (pa_cons (sFresh hc hfr (and2 h).1) (sOs (es := es) hc (and2 hf).2 (and2 h).2) (star_cons (tr_star (and2 h).1))).imp fun σ H Q q => ?_
    obtain ⟨F, ρ, c, gs, r⟩ := q
    refine ⟨F, ρ, c, gs, (Res.bind r).imp fun d c1 r1 a F1 H1 s1 hn hf1 hca o1 => ?_⟩
    refine ⟨F1, ρ, c1, gs.step s1, (Res.bind (Res.back r1 s1 fun _ _ z => z)).imp fun ds c2 r2 vs F2 H2 s2 l2 => ?_⟩
    obtain ⟨u, hu, pl⟩ := o1.pl
    have st := s2.stays hca hu pl hf1
    refine r2 _ F2 H2 (s1.trans s2) (.ow hn st.2 hca (s_none gs.st hn) (o1.keep s2.ff fun w hw => by rw [hu] at hw; cases hw; exact st.1) (l2.mono fun x q => ⟨s_none s1 q, fun z => by rw [z, hu] at q; cases q⟩))
def Apart (ρ : En) (σ : SV) (P : Addr → Prop) : Prop := ∀ (j : Nat) e b, ρ[j]? = some (.ow e) → σ[j]? = some (some (.ref b)) → ¬ P b
theorem GS.own' {F H : Hp} {ρ : En} {c : Cup} {σ : SV} (y : GS g F ρ c σ H) {a : Addr} {d : D} (hf : F a = none) (hc : a ≠ g.ca) (he : g.He a = none) (o : OwAt g.ca g.fa F H a d) (i : Nat) (apart : ∀ (j : Nat) e b, ρ[j]? = some (.ow e) → σ[j]? = some (some (.ref b)) → b ≠ a) : GS g F (ρ.set i (.ow d)) c (σ.set i (some (.ref a))) H := by
  refine ⟨y.st, y.fca, fun j s' e => ?_, fun j k d1 e1 b hjk h1 h2 h3 h4 => ?_⟩
  · rcases set_get e with ⟨rfl, rfl, hl⟩ | ⟨hne, e⟩
    · obtain ⟨o', h1, h2⟩ := y.sl i _ (List.getElem?_eq_getElem hl)
      exact ⟨some (.ref a), by rw [List.getElem?_set_self (get_lt h1)], a, rfl, hf, hc, he, o⟩
    · obtain ⟨o', h1, h2⟩ := y.sl j s' e
      exact ⟨o', by rw [List.getElem?_set_ne hne]; exact h1, h2⟩
  · rcases set_get h1 with ⟨rfl, q, hl⟩ | ⟨n1, h1⟩
    · rcases set_get h2 with ⟨rfl, q2, hl2⟩ | ⟨n2, h2⟩
      · exact hjk rfl
      · rw [List.getElem?_set_ne n2] at h4
        rcases set_get h3 with ⟨_, q3, _⟩ | ⟨n3, _⟩
        · cases q3
          exact apart k _ _ h2 h4 rfl
        · exact n3 rfl
    · rw [List.getElem?_set_ne n1] at h3
      rcases set_get h2 with ⟨rfl, q2, hl2⟩ | ⟨n2, h2⟩
      · rcases set_get h4 with ⟨_, q3, _⟩ | ⟨n3, _⟩
        · cases q3
          exact apart j _ _ h1 h3 rfl
        · exact n3 rfl
      · rw [List.getElem?_set_ne n2] at h4
        exact y.dis j k d1 e1 b hjk h1 h2 h3 h4
theorem Apart.da {ρ : En} {σ : SV} {P : Addr → Prop} (h : Apart ρ σ P) (i : Nat) (d : D) (v : V) : Apart (ρ.set i (.da d)) (σ.set i (some v)) P := fun j e b h1 h2 => by
  rcases set_get h1 with ⟨rfl, q, hl⟩ | ⟨n1, h1⟩
  · cases q
  · rw [List.getElem?_set_ne n1] at h2; exact h j e b h1 h2
theorem Apart.ow {ρ : En} {σ : SV} {P : Addr → Prop} (h : Apart ρ σ P) (i : Nat) (d : D) (a : Addr) : Apart (ρ.set i (.ow d)) (σ.set i (some (.ref a))) (fun x => P x ∧ x ≠ a) := fun j e b h1 h2 hp => by
  rcases set_get h1 with ⟨rfl, q, hl⟩ | ⟨n1, h1⟩
  · rcases set_get h2 with ⟨_, q2, _⟩ | ⟨n2, _⟩
    · cases q2; exact hp.2 rfl
    · exact n2 rfl
  · rw [List.getElem?_set_ne n1] at h2; exact h j e b h1 h2 hp.1
theorem GS.setO {F H : Hp} {c : Cup} : ∀ {is : List Nat} {os : List Bool} {vs : List V} {ds : List D} {P : Addr → Prop} {ρ : En} {σ : SV}, GS g F ρ c σ H → Apart ρ σ P → OAll g F H P os vs ds → GS g F (setAllO is os ds ρ) c (setV is vs σ) H
  | [], _, _, _, _, _, _, x, _, _ => by
    unfold setAllO setV; exact x
  | _ :: _, _, _, _, _, _, _, x, _, .nil => x
  | i :: is, _, _, _, P, _, _, x, ap, .da r t => GS.setO (is := is) (x.da i r) (ap.da i _ _) t
  | i :: is, _, _, _, P, _, _, x, ap, .ow p f n e o t => GS.setO (is := is) (x.own' f n e o i fun j e' b h1 h2 z => ap j e' b h1 h2 (by rw [z]; exact p)) (ap.ow i _ _) t
theorem GS.apart {F H : Hp} {ρ : En} {c : Cup} {σ : SV} (x : GS g F ρ c σ H) : Apart ρ σ (fun a => H a = none) := fun j e b h1 h2 hb => by
  obtain ⟨o', h3, b', h4, h5, h6, h7, h8⟩ := x.sl j _ h1
  rw [h2] at h3; cases h3; cases h4
  obtain ⟨u, hu⟩ := h8.there
  rw [hb] at hu; cases hu
def nmF (env : PySem.Env) (l : Nat) : Expr → Option Str := fun t => match t with
  | .Name id pos => if (env.kindOf id == some .local && pos.line == l) = true then some id else none
  | _ => none
theorem ifn {α : Type} {c : Prop} [Decidable c] {a b : α} (h : ¬ c → b = a) : (if c then a else b) = a := by
  split
  · rfl
  · exact h ‹_›
theorem nmF_less {env : PySem.Env} {L : Nat} : ∀ {ts : List Expr}, ts.any (nonLoc env.scope) = true → (List.filterMap (nmF env L) ts).length < ts.length
  | t :: ts, h => by
    rw [List.any_cons, Bool.or_eq_true] at h
    have le : (List.filterMap (nmF env L) ts).length ≤ ts.length := List.length_filterMap_le _ _
    rw [List.filterMap_cons]
    rcases h with h | h
    · have e : nmF env L t = none := by
        cases t <;> first | exact Bool.noConfusion h | skip
        rename_i x pos
        have h : env.scope.names.lookup x ≠ some .local := of_decide_eq_true h
        have k : env.kindOf x = env.scope.names.lookup x := rfl
        show (if (env.kindOf x == some .local && pos.line == L) = true then some x else none) = none
        rw [if_neg]
        intro z
        rw [Bool.and_eq_true] at z
        exact h (k ▸ eq_of_beq z.1)
      rw [e]
      exact Nat.lt_succ_of_le le
    · have := nmF_less (L := L) h
      cases nmF env L t with
      | none => exact Nat.lt_succ_of_lt this
      | some y => exact Nat.succ_lt_succ this
theorem sw_none2 {env : PySem.Env} {ts vs : List Expr} {k k2 : Nat} {p p2 : Pos} (h : ts.any (nonLoc env.scope) = true) : swappedStores [.Tuple ts k p] (.Tuple vs k2 p2) env = pure none := by
  unfold swappedStores
  refine ifn fun _ => ?_
  refine ifn fun _ => ?_
  refine if_pos ?_
  show ((List.filterMap (nmF env _) ts).length != ts.length || _) = true
  have := nmF_less (env := env) (L := (ts.head?.map (·.pos.line)).getD 0) h
  rw [Bool.or_eq_true]
  refine .inl ?_
  rw [bne_iff_ne]
  exact Nat.ne_of_lt this
theorem sw_none {env : PySem.Env} {ts : List Expr} {k : Nat} {p : Pos} {v : Expr} (h : unpOk env.scope ts v = true) : swappedStores [.Tuple ts k p] v env = pure none := by
  cases v <;> first | rfl | exact sw_none2 h
theorem s_unp {tg : Tg} {e : E} {ts : List Expr} {k : Nat} {p pos : Pos} {v : Expr} (hs : SOk C g n call W X) (htg : tgB X.N X.env.scope tg (.Tuple ts k p) = true) (ht : trE C X.N X.env.scope e v = true) (hn : unpOk X.env.scope ts v = true) : PS X (.Assign [.Tuple ts k p] v pos) (tSt g X.K W (evS call (.unp tg e))) := by
  have hw : swapsWithSole [.Tuple ts k p] v pos.line X.env = pure false := by cases v <;> rfl
  refine (ps_asg (sE e hs.co ht) (s_tg hs.co.calm hs.co.nd hs.st htg) hw (sw_none hn)).imp fun D σ H q => ?_
  obtain ⟨F, ρ, c, gs, r⟩ := q
  refine ⟨F, ρ, c, gs, (ResS.bind gs r).imp fun d c1 r1 v F1 H1 s1 l1 => ?_⟩
  cases e1 : setTg tg d ρ with
  | none => rw [e1] at r1; exact r1.elim
  | some ρ' =>
    rw [e1] at r1
    exact tgSet (gs.step s1) l1 e1 fun σ' hg _ => r1 _ F1 H1 (hg F1 c1 H1 (.refl _) (gs.step s1)) s1.ff
theorem all2 {F H : Hp} {P : Addr → Prop} {o1 o2 : Bool} {vs : List V} {ds : List D} (h : OAll g F H P [o1, o2] vs ds) : ∃ v w, vs = [v, w] := by
  cases h with
  | da r t => cases t with
    | da r2 t2 => cases t2; exact ⟨_, _, rfl⟩
    | ow p f n e o t2 => cases t2; exact ⟨_, _, rfl⟩
  | ow p f n e o t => cases t with
    | da r2 t2 => cases t2; exact ⟨_, _, rfl⟩
    | ow p f n e o t2 => cases t2; exact ⟨_, _, rfl⟩
theorem all3 {F H : Hp} {P : Addr → Prop} {o1 o2 o3 : Bool} {vs : List V} {ds : List D} (h : OAll g F H P [o1, o2, o3] vs ds) : ∃ u v w, vs = [u, v, w] := by
  cases h with
  | da r t => obtain ⟨v, w, rfl⟩ := all2 t; exact ⟨_, _, _, rfl⟩
  | ow p f n e o t => obtain ⟨v, w, rfl⟩ := all2 t; exact ⟨_, _, _, rfl⟩
theorem frs_len : ∀ {es : Es} {os : List Bool}, frs es os = true → os.length = lenEs es
  | .nil, [], _ => rfl
  | .nil, _ :: _, h => Bool.noConfusion h
  | .cons _ _, [], h => Bool.noConfusion h
  | .cons e es, o :: os, h => by
    show os.length + 1 = lenEs es + 1
    rw [frs_len (and2 h).2]
theorem trs_len {N : List Str} {sc : Scope} : ∀ {es : Es} {xs : List Expr}, trEs C N sc es xs = true → xs.length = lenEs es
  | .nil, [], _ => rfl
  | .nil, _ :: _, h => Bool.noConfusion h
  | .cons _ _, [], h => Bool.noConfusion h
  | .cons e es, x :: xs, h => by
    show xs.length + 1 = lenEs es + 1
    rw [trs_len (and2 h).2]
theorem kf {x : Str} (h : X.env.scope.names.lookup x = some .local) : X.env.kindOf x = some .local := h
theorem star_any2 {vs : List Expr} (h : vs.all notStar = true) : (vs.any fun x => match x with | .Starred .. => true | _ => false) = false := by
  induction vs with
  | nil => rfl
  | cons v vs ih =>
    rw [List.all_cons, Bool.and_eq_true] at h
    rw [List.any_cons, ih h.2, Bool.or_false]
    have := h.1
    cases v <;> first | rfl | exact Bool.noConfusion this
theorem dups2 {x y : Str} (h : x ≠ y) : [x, y].eraseDups = [x, y] := by
  have : (y == x) = false := beq_eq_false_iff_ne.mpr fun e => h e.symm
  simp [List.eraseDups_cons, this]
theorem dups3 {x y z : Str} (h : x ≠ y) (h2 : x ≠ z) (h3 : y ≠ z) : [x, y, z].eraseDups = [x, y, z] := by
  have a : (y == x) = false := beq_eq_false_iff_ne.mpr fun e => h e.symm
  have b : (z == x) = false := beq_eq_false_iff_ne.mpr fun e => h2 e.symm
  have c : (z == y) = false := beq_eq_false_iff_ne.mpr fun e => h3 e.symm
  simp [List.eraseDups_cons, a, b, c]
theorem sw2 {x y : Str} {px py pt : Pos} {kt k2 : Nat} {pt2 : Pos} {a b : Expr} (hk : X.env.scope.kind = .function) (hx : X.env.scope.names.lookup x = some .local) (hy : X.env.scope.names.lookup y = some .local) (hl : (px.line == py.line) = true) (hne : x ≠ y) (hs : ([a, b] : List Expr).all notStar = true)
    (hc : ([a, b] : List Expr).all (constantsAlone 8) = false) (hf : ([a, b] : List Expr).all (foldedForSure 8) = false) : swappedStores [.Tuple [.Name x px, .Name y py] kt pt] (.Tuple [a, b] k2 pt2) X.env = pure (some [x, y]) := by
  have bk : X.env.blockKind = .function := by unfold Env.blockKind; rw [hk]; rfl
  have kx : X.env.kindOf x = some .local := hx
  have ky : X.env.kindOf y = some .local := hy
  have hl2 : py.line = px.line := (eq_of_beq hl).symm
  have st := star_any2 hs
  have nm : List.filterMap (nmF X.env px.line) [Expr.Name x px, .Name y py] = [x, y] := by
    simp [nmF, kx, ky, hl2]
  unfold swappedStores
  simp only [bk]
  refine Eq.trans (if_neg (fun z => Bool.noConfusion z)) ?_
  refine Eq.trans (if_neg (fun z => Bool.noConfusion (st.symm.trans z))) ?_
  show (if ((List.filterMap (nmF X.env px.line) [Expr.Name x px, .Name y py]).length != 2 || (List.filterMap (nmF X.env px.line) [Expr.Name x px, .Name y py]).eraseDups.length != (List.filterMap (nmF X.env px.line) [Expr.Name x px, .Name y py]).length) = true then (pure none : Sem (Option (List Str))) else if (([a, b] : List Expr).all (foldedForSure 8)) = true then pure none else
    (if (([a, b] : List Expr).all (constantsAlone 8)) = true then (unsupported "assign.tuple-of-constant-expressions:order-of-the-stores" >>= fun _ => pure (some (List.filterMap (nmF X.env px.line) [Expr.Name x px, .Name y py]))) else pure (some (List.filterMap (nmF X.env px.line) [Expr.Name x px, .Name y py])))) = _
  rw [nm, dups2 hne, if_neg (fun z => Bool.noConfusion z), if_neg (by rw [hf]; decide), if_neg (by rw [hc]; decide)]
theorem sw3 {x y z : Str} {px py pz pt : Pos} {kt k2 : Nat} {pt2 : Pos} {a b c : Expr} (hk : X.env.scope.kind = .function) (hx : X.env.scope.names.lookup x = some .local) (hy : X.env.scope.names.lookup y = some .local) (hz : X.env.scope.names.lookup z = some .local) (hl : (px.line == py.line) = true) (hl' : (px.line == pz.line) = true) (hne : x ≠ y) (hne2 : x ≠ z) (hne3 : y ≠ z) (hs : ([a, b, c] : List Expr).all notStar = true)
    (hc : ([a, b, c] : List Expr).all (constantsAlone 8) = false) (hf : ([a, b, c] : List Expr).all (foldedForSure 8) = false) : swappedStores [.Tuple [.Name x px, .Name y py, .Name z pz] kt pt] (.Tuple [a, b, c] k2 pt2) X.env = pure (some [x, y, z]) := by
  have bk : X.env.blockKind = .function := by unfold Env.blockKind; rw [hk]; rfl
  have kx : X.env.kindOf x = some .local := hx
  have ky : X.env.kindOf y = some .local := hy
  have kz : X.env.kindOf z = some .local := hz
  have hl2 : py.line = px.line := (eq_of_beq hl).symm
  have hl3 : pz.line = px.line := (eq_of_beq hl').symm
  have st := star_any2 hs
  have nm : List.filterMap (nmF X.env px.line) [Expr.Name x px, .Name y py, .Name z pz] = [x, y, z] := by
    simp [nmF, kx, ky, kz, hl2, hl3]
  unfold swappedStores
  simp only [bk]
  refine Eq.trans (if_neg (fun z => Bool.noConfusion z)) ?_
  refine Eq.trans (if_neg (fun z => Bool.noConfusion (st.symm.trans z))) ?_
  show (if ((List.filterMap (nmF X.env px.line) [Expr.Name x px, .Name y py, .Name z pz]).length != 3 || (List.filterMap (nmF X.env px.line) [Expr.Name x px, .Name y py, .Name z pz]).eraseDups.length != (List.filterMap (nmF X.env px.line) [Expr.Name x px, .Name y py, .Name z pz]).length) = true then (pure none : Sem (Option (List Str))) else if (([a, b, c] : List Expr).all (foldedForSure 8)) = true then pure none else
    (if (([a, b, c] : List Expr).all (constantsAlone 8)) = true then (unsupported "assign.tuple-of-constant-expressions:order-of-the-stores" >>= fun _ => pure (some (List.filterMap (nmF X.env px.line) [Expr.Name x px, .Name y py, .Name z pz]))) else pure (some (List.filterMap (nmF X.env px.line) [Expr.Name x px, .Name y py, .Name z pz])))) = _
  rw [nm, dups3 hne hne2 hne3, if_neg (fun z => Bool.noConfusion z), if_neg (by rw [hf]; decide), if_neg (by rw [hc]; decide)]
theorem ne_of_ix {i j : Nat} {x y : Str} (hN : X.N.Nodup) (hi : X.N[i]? = some x) (hj : X.N[j]? = some y) (h : i ≠ j) : x ≠ y := fun e => by
  subst e
  obtain ⟨h1, e1⟩ := List.getElem?_eq_some_iff.mp hi
  obtain ⟨h2, e2⟩ := List.getElem?_eq_some_iff.mp hj
  have pw := List.pairwise_iff_getElem.mp hN
  rcases Nat.lt_or_gt_of_ne h with q | q
  · exact pw i j h1 h2 q (e1.trans e2.symm)
  · exact pw j i h2 h1 q (e2.trans e1.symm)
theorem nb {b : Bool} (h : (!b) = true) : b = false := by cases b <;> first | rfl | exact Bool.noConfusion h
theorem s_par2 {i j : Nat} {es : Es} {os : List Bool} {x y : Str} {px py pt pos : Pos} {kt k2 : Nat} {pt2 : Pos} {vs : List Expr} (hs : SOk C g n call W X) (hi : stB X.N X.env.scope i x = true) (hj : stB X.N X.env.scope j y = true) (hij : i ≠ j) (hf : frs es os = true) (ht : trEs C X.N X.env.scope es vs = true)
    (hx : X.env.scope.names.lookup x = some .local) (hy : X.env.scope.names.lookup y = some .local) (hl : (px.line == py.line) = true) (hlen : vs.length = 2) (hc : (!(vs.all (constantsAlone 8))) = true) (hd : (!(vs.all (foldedForSure 8))) = true) :
    PS X (.Assign [.Tuple [.Name x px, .Name y py] kt pt] (.Tuple vs k2 pt2) pos) (tSt g X.K W (evS call (.par [i, j] es os))) := by
  match vs, hlen with
  | [a, b], _ =>
    have hos : os.length = 2 := by rw [frs_len hf, ← trs_len ht]; rfl
    match os, hos with
    | [o1, o2], _ =>
      have n1 := (stB_of hi).1
      have n2 := (stB_of hj).1
      refine (ps_par hs.co.calm hs.co.nd n1 n2 hij hx hy (sOs hs.co hf ht) (sw2 hs.co.kind hx hy hl (ne_of_ix hs.co.nd n1 n2 hij) (trs_star ht) (nb hc) (nb hd))).imp fun D σ H q => ?_
      obtain ⟨F, ρ, c, gs, r⟩ := q
      refine ⟨F, ρ, c, gs, (ResS.bind gs r).imp fun ds c1 r1 vs F1 H1 s1 l1 => ?_⟩
      obtain ⟨v, w, rfl⟩ := all2 l1
      exact ⟨v, w, rfl, r1 _ F1 H1 (GS.setO (is := [i, j]) (gs.step s1) gs.apart l1) s1.ff⟩
theorem s_par3 {i j l : Nat} {es : Es} {os : List Bool} {x y z : Str} {px py pz pt pos : Pos} {kt k2 : Nat} {pt2 : Pos} {vs : List Expr} (hs : SOk C g n call W X) (hi : stB X.N X.env.scope i x = true) (hj : stB X.N X.env.scope j y = true) (hk : stB X.N X.env.scope l z = true) (hij : i ≠ j) (hil : i ≠ l) (hjl : j ≠ l) (hf : frs es os = true)
    (ht : trEs C X.N X.env.scope es vs = true) (hx : X.env.scope.names.lookup x = some .local) (hy : X.env.scope.names.lookup y = some .local) (hz : X.env.scope.names.lookup z = some .local) (hl : (px.line == py.line) = true) (hl2 : (px.line == pz.line) = true) (hlen : vs.length = 3) (hc : (!(vs.all (constantsAlone 8))) = true)
    (hd : (!(vs.all (foldedForSure 8))) = true) : PS X (.Assign [.Tuple [.Name x px, .Name y py, .Name z pz] kt pt] (.Tuple vs k2 pt2) pos) (tSt g X.K W (evS call (.par [i, j, l] es os))) := by
  match vs, hlen with
  | [a, b, c], _ =>
    have hos : os.length = 3 := by rw [frs_len hf, ← trs_len ht]; rfl
    match os, hos with
    | [o1, o2, o3], _ =>
      have n1 := (stB_of hi).1
      have n2 := (stB_of hj).1
      have n3 := (stB_of hk).1
      refine (ps_par3 hs.co.calm hs.co.nd n1 n2 n3 hij hil hjl hx hy hz (sOs hs.co hf ht) (sw3 hs.co.kind hx hy hz hl hl2 (ne_of_ix hs.co.nd n1 n2 hij) (ne_of_ix hs.co.nd n1 n3 hil) (ne_of_ix hs.co.nd n2 n3 hjl) (trs_star ht) (nb hc) (nb hd))).imp fun D σ H q => ?_
      obtain ⟨F, ρ, c, gs, r⟩ := q
      refine ⟨F, ρ, c, gs, (ResS.bind gs r).imp fun ds c1 r1 vs F1 H1 s1 l1 => ?_⟩
      obtain ⟨u, v, w, rfl⟩ := all3 l1
      exact ⟨u, v, w, rfl, r1 _ F1 H1 (GS.setO (is := [i, j, l]) (gs.step s1) gs.apart l1) s1.ff⟩

/-! += -/
def ipA : TIp := fun x y H Q => ipI (fun i j => i + j) x y H Q ∨ rExt2 x y H Q
theorem ip_A : PIp X .Add ipA := by
  intro pins s σ H x y v u Q I rx ry h
  rcases h with h | h
  · exact ip_add pins s σ H x y v u Q I rx ry h
  · exact iop_ext pins s σ H x y v u Q I rx ry h
theorem set_same {α : Type} {xs : List α} {i : Nat} {a : α} (h : xs[i]? = some a) : xs.set i a = xs := by
  apply List.ext_getElem?
  intro j
  by_cases e : i = j
  · subst e; rw [List.getElem?_set_self (get_lt h), h]
  · rw [List.getElem?_set_ne e]
theorem s_aug {i : Nat} {o : BO} {e : E} {y : Str} {p : Operator} {v : Expr} {py pos : Pos} (hs : SOk C g n call W X) (hst : stB X.N X.env.scope i y = true) (ha : augOk o = true) (ho : boOk o p = true) (ht : trE C X.N X.env.scope e v = true) : PS X (.AugAssign (.Name y py) p v pos) (tSt g X.K W (evS call (.aug i o e))) := by
  obtain ⟨h1, h2⟩ := stB_of hst
  obtain ⟨h3, h4⟩ := hs.st y h2
  have hv := s_lon (W := W) (sE e hs.co ht) ht
  have split : ∀ {F : Hp} {ρ : En} {c : Cup} {σ : SV} {H : Hp} {D : Ends} {ti : TIp}, GS g F ρ c σ H → ResS g X.K W F (evS call (.aug i o e) ρ c) D →
      (∀ x y d F1 H1, Lp g.ca g.fa F1 H1 y d → ∀ z Q, augI o x d = some z → Q (.int z) H1 → ti (.int x) y H1 Q) →
      (∀ xs y d F1 H1 a vs, Sub F1 H1 → H1 a = some (.lst vs) → vs.length ≤ sizeLine → RpAll g.ca g.fa F1 vs xs → Lp g.ca g.fa F1 H1 y d → ∀ zs Q, augL o xs d = some zs → (∀ ws, ws.length ≤ sizeLine → RpAll g.ca g.fa F1 ws zs → Q (.ref a) (upd H1 a (.lst ws))) → ti (.ref a) y H1 Q) →
      tAug i (tL g X.K W (evL call e)) ti D σ H := fun {F ρ c σ H D ti} gs r kI kL => by
    cases e0 : ρ[i]? with
    | none => rw [show evS call (.aug i o e) ρ = M.err from by show (match ρ[i]? with | some (.da (.int x)) => _ | some (.ow (.list xs)) => _ | _ => M.err) = _; rw [e0]] at r; exact r.elim
    | some s =>
      obtain ⟨o1, h5, h6⟩ := gs.sl i s e0
      cases s with
      | no => rw [show evS call (.aug i o e) ρ = M.err from by show (match ρ[i]? with | some (.da (.int x)) => _ | some (.ow (.list xs)) => _ | _ => M.err) = _; rw [e0]] at r; exact r.elim
      | da d =>
        cases d with
        | int x =>
          rw [show evS call (.aug i o e) ρ = M.bnd (evL call e ρ) fun y => M.bnd (M.opt (augI o x y)) fun z => M.ret (.nx (ρ.set i (.da (.int z)))) from by show (match ρ[i]? with | some (.da (.int x)) => _ | some (.ow (.list xs)) => _ | _ => M.err) = _; rw [e0]] at r
          obtain ⟨v, rfl, rv⟩ := h6
          cases rv
          refine ⟨_, h5, F, ρ, c, gs, (ResS.bind gs r).imp fun d c1 r1 y F1 H1 s1 l1 => ?_⟩
          obtain ⟨z, e2, r2⟩ := Res.opt (ResS.bind (gs.step s1) (r1.base s1.ff))
          exact kI x y d F1 H1 l1 z _ e2 (r2 _ F1 H1 ((gs.step s1).da i (.int z)) (.refl _))
        | _ => rw [show evS call (.aug i o e) ρ = M.err from by show (match ρ[i]? with | some (.da (.int x)) => _ | some (.ow (.list xs)) => _ | _ => M.err) = _; rw [e0]] at r; exact r.elim
      | ow d =>
        cases d with
        | list xs =>
          rw [show evS call (.aug i o e) ρ = M.bnd (evL call e ρ) fun y => M.bnd (M.opt (augL o xs y)) fun zs => M.ret (.nx (ρ.set i (.ow (.list zs)))) from by show (match ρ[i]? with | some (.da (.int x)) => _ | some (.ow (.list xs)) => _ | _ => M.err) = _; rw [e0]] at r
          obtain ⟨a, rfl, h7, h8, h9, h10⟩ := h6
          refine ⟨_, h5, F, ρ, c, gs, (ResS.bind gs r).imp fun d c1 r1 y F1 H1 s1 l1 => ?_⟩
          have gs1 := gs.step s1
          obtain ⟨zs, e2, r2⟩ := Res.opt (ResS.bind gs1 (r1.base s1.ff))
          obtain ⟨o2, k1, k2⟩ := gs1.sl i _ e0
          rw [h5] at k1; cases k1
          obtain ⟨a', ea, k3, k4, k5, k6⟩ := k2
          cases ea
          cases k6 with
          | lst q l rr =>
            refine kL xs y d F1 H1 a _ s1.fh q l rr l1 zs _ e2 fun ws hw rw' => ?_
            rw [set_same h5]
            exact r2 _ F1 _ (gs1.mut e0 h5 (.lst upd_same hw rw')) (.refl _)
        | _ => rw [show evS call (.aug i o e) ρ = M.err from by show (match ρ[i]? with | some (.da (.int x)) => _ | some (.ow (.list xs)) => _ | _ => M.err) = _; rw [e0]] at r; exact r.elim
  cases o with
  | add =>
    cases p with
    | Add =>
      refine (ps_aug hs.co.nd h1 h3 hv ip_A h4).imp fun D σ H q => ?_
      obtain ⟨F, ρ, c, gs, r⟩ := q
      refine split gs r (fun x y d F1 H1 l1 z Q e2 q => ?_) (fun xs y d F1 H1 a vs fh q l rr l1 zs Q e2 k => ?_)
      · cases d with
        | int j => cases e2; cases lp_int l1; exact .inl ⟨_, _, rfl, rfl, q⟩
        | _ => cases e2
      · cases d with
        | list ys =>
          have e2 : (if xs.length + ys.length ≤ sizeLine then some (xs ++ ys) else none) = some zs := e2
          by_cases hz : xs.length + ys.length ≤ sizeLine
          · rw [if_pos hz] at e2; cases e2
            obtain ⟨b, ws, rfl, e3, l3, q3⟩ := lp_lst fh l1
            have a1 := rr.length
            have a2 := q3.length
            exact .inr ⟨a, b, vs, ws, rfl, rfl, q, e3, by omega, k _ (by rw [List.length_append]; omega) (rr.append q3)⟩
          · rw [if_neg hz] at e2; cases e2
        | _ => cases e2
    | _ => exact Bool.noConfusion ho
  | sub =>
    cases p with
    | Sub =>
      refine (ps_aug hs.co.nd h1 h3 hv ip_sub h4).imp fun D σ H q => ?_
      obtain ⟨F, ρ, c, gs, r⟩ := q
      refine split gs r (fun x y d F1 H1 l1 z Q e2 q => ?_) (fun xs y d F1 H1 a vs fh q l rr l1 zs Q e2 k => ?_)
      · cases d with
        | int j => cases e2; cases lp_int l1; exact ⟨_, _, rfl, rfl, q⟩
        | _ => cases e2
      · cases e2
    | _ => exact Bool.noConfusion ho
  | _ => exact Bool.noConfusion ha

/-! lists and dicts changed -/
theorem s_app {i : Nat} {e : E} {y m : Str} {v : Expr} {p ap cp pos : Pos} (hs : SOk C g n call W X) (hb : nmB X.N X.env.scope i y = true) (hm : m = "append") (ht : trE C X.N X.env.scope e v = true) (hl : (ap.endLine == cp.line) = true) :
    PS X (.Expr (.Call (.Attribute (.Name y p) m ap) [v] [] cp) pos) (tSt g X.K W (evS call (.app i e))) := by
  subst hm
  have hst := tr_star ht
  have few : ((backTo cp (starEach [v] X.env)).all (fun x => !x.1) && (backToKw cp (keywordEach [] X.env)).all (fun x => x.1.isSome) && decide (([v] : List Expr).length + ([] : List Keyword).length + (if ([] : List Keyword).isEmpty then 0 else 1) < 30)) = true := by
    rw [star_cons hst]; rfl
  refine (ps_expr (pe_bm PySem.F.plainAttrs_list PySem.F.slot_list_append PySem.F.type_list_append mt_append (e_var hb) (pa_cons (sE (W := W) e hs.co ht) pa_nil (star_cons hst)) rfl few hl (star_cons hst) rfl) rfl).imp fun D σ H q => ?_
  obtain ⟨F, ρ, c, gs, r⟩ := q
  cases e0 : ρ[i]? with
  | none => rw [show evS call (.app i e) ρ = M.err from by show (match ρ[i]? with | some (.ow (.list xs)) => _ | _ => M.err) = _; rw [e0]] at r; exact r.elim
  | some s =>
    obtain ⟨o1, h5, h6⟩ := gs.sl i s e0
    cases s with
    | ow d =>
      cases d with
      | list xs =>
        rw [show evS call (.app i e) ρ = M.bnd (evE call e ρ) fun x => if xs.length < sizeLine then M.ret (.nx (ρ.set i (.ow (.list (xs ++ [x]))))) else M.err from by show (match ρ[i]? with | some (.ow (.list xs)) => _ | _ => M.err) = _; rw [e0]] at r
        obtain ⟨a, rfl, h7, h8, h9, h10⟩ := h6
        have hq : ∃ vs, H a = some (.lst vs) := by cases h10 with | lst q l rr => exact ⟨_, q⟩
        obtain ⟨vs0, hq⟩ := hq
        refine ⟨_, h5, .inl ⟨rfl, _, SqL.of hq⟩, F, ρ, c, gs, (ResS.bind gs r).imp fun d c1 r1 v F1 H1 s1 l1 => ?_⟩
        by_cases hz : xs.length < sizeLine
        · rw [if_pos hz] at r1
          have gs1 := gs.step s1
          obtain ⟨o2, k1, k2⟩ := gs1.sl i _ e0
          rw [h5] at k1; cases k1
          obtain ⟨a', ea, k3, k4, k5, k6⟩ := k2
          cases ea
          cases k6 with
          | lst q l rr =>
            have hl2 := rr.length
            exact ⟨a, _, v, rfl, rfl, q, by omega, r1 _ F1 _ (gs1.mut e0 h5 (.lst upd_same (by rw [List.length_append]; show _ + 1 ≤ _; omega) (rr.snoc l1))) s1.ff⟩
        · rw [if_neg hz] at r1; exact r1.elim
      | _ => rw [show evS call (.app i e) ρ = M.err from by show (match ρ[i]? with | some (.ow (.list xs)) => _ | _ => M.err) = _; rw [e0]] at r; exact r.elim
    | _ => rw [show evS call (.app i e) ρ = M.err from by show (match ρ[i]? with | some (.ow (.list xs)) => _ | _ => M.err) = _; rw [e0]] at r; exact r.elim
theorem swS (o i v : Expr) (p pos : Pos) (l : Nat) (env : PySem.Env) : swapsWith v (some (.Subscript o i p)) l env = pure false := by cases v <;> rfl
theorem s_put {i : Nat} {k e : E} {y : Str} {ix v : Expr} {p p2 pos : Pos} (hs : SOk C g n call W X) (hb : nmB X.N X.env.scope i y = true) (hk : trE C X.N X.env.scope k ix = true) (hn : notSlice ix = true) (ht : trE C X.N X.env.scope e v = true) :
    PS X (.Assign [.Subscript (.Name y p) ix p2] v pos) (tSt g X.K W (evS call (.put i k e))) := by
  have asg : ∀ u : Value, assign (.Subscript (.Name y p) ix p2) X.env u = (do
      let ov ← holding [u] (eval (.Name y p) X.env)
      let iv ← holding [u, ov] (eval ix X.env)
      standAt p2
      holding [u, ov, iv] (setItem ov iv u)
      release [u, ov, iv] []) := fun u => by cases ix <;> first | rfl | exact Bool.noConfusion hn
  have sw : swapsWithSole [.Subscript (.Name y p) ix p2] v pos.line X.env = pure false := swS (.Name y p) ix v p2 pos pos.line X.env
  have A := ps_asg (pos := pos) (sE (W := W) e hs.co ht) (pg_sub (e_var hb) (sE (W := W) k hs.co hk) set_list asg) sw rfl rfl
  have B := ps_dput (pos := pos) (units1 hs.co) (e_var hb) (sE (W := W) k hs.co hk) (sE (W := W) e hs.co ht) (swS (.Name y p) ix v p2 pos pos.line X.env)
  refine (PS_or A B).imp fun D σ H q => ?_
  obtain ⟨F, ρ, c, gs, r⟩ := q
  have bad : ∀ {s : Option Sl}, ρ[i]? = s → (∀ d, s ≠ some (.ow d)) → evS call (.put i k e) ρ = M.err := fun {s} h1 h2 => by
    show (match ρ[i]? with | some (.ow d) => _ | _ => M.err) = _
    rw [h1]
    cases s with
    | none => rfl
    | some s => cases s <;> first | rfl | exact absurd rfl (h2 _)
  cases e0 : ρ[i]? with
  | none => rw [bad e0 (fun d h => by cases h)] at r; exact r.elim
  | some s =>
    obtain ⟨o1, h5, h6⟩ := gs.sl i s e0
    cases s with
    | no => rw [bad e0 (fun d h => by cases h)] at r; exact r.elim
    | da d => rw [bad e0 (fun d h => by cases h)] at r; exact r.elim
    | ow d =>
      rw [show evS call (.put i k e) ρ = M.bnd (evE call e ρ) fun x => M.bnd (evE call k ρ) fun y => M.bnd (M.opt (storeD d y x)) fun d' => M.ret (.nx (ρ.set i (.ow d'))) from by show (match ρ[i]? with | some (.ow d) => _ | _ => M.err) = _; rw [e0]] at r
      obtain ⟨a, rfl, h7, h8, h9, h10⟩ := h6
      cases h10 with
      | @lst vs0 xs q0 l0 r0 =>
        left
        refine ⟨F, ρ, c, gs, (ResS.bind gs r).imp fun dx c1 r1 v F1 H1 s1 l1 => ⟨_, h5, ?_⟩⟩
        have gs1 := gs.step s1
        refine ⟨F1, ρ, c1, gs1, (ResS.bind gs1 (r1.base s1.ff)).imp fun dy c2 r2 w F2 H2 s2 l2 => ?_⟩
        have gs2 := gs1.step s2
        obtain ⟨d', e3, r3⟩ := Res.opt (ResS.bind gs2 (r2.base s2.ff))
        obtain ⟨o2, k1, k2⟩ := gs2.sl i _ e0
        rw [h5] at k1; cases k1
        obtain ⟨a', ea, k3, k4, k5, k6⟩ := k2
        cases ea
        cases k6 with
        | lst q l rr =>
          cases dy with
          | int j =>
            cases l2
            have e3 : ((ixN xs.length j).map fun m => PyData.list (xs.set m dx)) = some d' := e3
            cases hx : ixN xs.length j with
            | none => rw [hx] at e3; cases e3
            | some m =>
              rw [hx] at e3; cases e3
              exact ⟨a, _, j, m, rfl, rfl, q, by rw [rr.length]; exact hx, r3 _ F2 _ (gs2.mut e0 h5 (.lst upd_same (by rw [List.length_set]; exact l) (RpAll.set (l1.mono s2.ff) m rr))) (.refl _)⟩
          | _ => cases e3
      | @dK kvs ds q0 r0 =>
        right
        refine ⟨F, ρ, c, gs, (ResS.bind gs r).imp fun dx c1 r1 v F1 H1 s1 l1 => ⟨_, h5, ?_⟩⟩
        have gs1 := gs.step s1
        refine ⟨F1, ρ, c1, gs1, (ResS.bind gs1 (r1.base s1.ff)).imp fun dy c2 r2 w F2 H2 s2 l2 => ?_⟩
        have gs2 := gs1.step s2
        obtain ⟨d', e3, r3⟩ := Res.opt (ResS.bind gs2 (r2.base s2.ff))
        obtain ⟨o2, k1, k2⟩ := gs2.sl i _ e0
        rw [h5] at k1; cases k1
        obtain ⟨a', ea, k3, k4, k5, k6⟩ := k2
        cases ea
        have at' : DAt g.ca g.fa false F2 H2 a ds := by cases k6 with | dK q rr => exact ⟨_, q, rr⟩
        have e3 : (if keyFor false dy = true ∧ ds.length < sizeLine then some (PyData.dict ((.none, .bool false) :: putD dy dx ds)) else none) = some d' := by
          cases dy <;> exact e3
        by_cases hz : keyFor false dy = true ∧ ds.length < sizeLine
        · rw [if_pos hz] at e3; cases e3
          obtain ⟨u, dp, pl, at2⟩ := at'.put s2.fh hz.1 l2 (l1.mono s2.ff) hz.2
          exact ⟨a, _, rfl, dp, r3 _ F2 _ (gs2.mut e0 h5 at2.ow) (.refl _)⟩
        · rw [if_neg hz] at e3; cases e3
      | @dT kvs ds q0 r0 =>
        right
        refine ⟨F, ρ, c, gs, (ResS.bind gs r).imp fun dx c1 r1 v F1 H1 s1 l1 => ⟨_, h5, ?_⟩⟩
        have gs1 := gs.step s1
        refine ⟨F1, ρ, c1, gs1, (ResS.bind gs1 (r1.base s1.ff)).imp fun dy c2 r2 w F2 H2 s2 l2 => ?_⟩
        have gs2 := gs1.step s2
        obtain ⟨d', e3, r3⟩ := Res.opt (ResS.bind gs2 (r2.base s2.ff))
        obtain ⟨o2, k1, k2⟩ := gs2.sl i _ e0
        rw [h5] at k1; cases k1
        obtain ⟨a', ea, k3, k4, k5, k6⟩ := k2
        cases ea
        have at' : DAt g.ca g.fa true F2 H2 a ds := by cases k6 with | dT q rr => exact ⟨_, q, rr⟩
        have e3 : (if keyFor true dy = true ∧ ds.length < sizeLine then some (PyData.dict ((.none, .bool true) :: putD dy dx ds)) else none) = some d' := by
          cases dy <;> exact e3
        by_cases hz : keyFor true dy = true ∧ ds.length < sizeLine
        · rw [if_pos hz] at e3; cases e3
          obtain ⟨u, dp, pl, at2⟩ := at'.put s2.fh hz.1 l2 (l1.mono s2.ff) hz.2
          exact ⟨a, _, rfl, dp, r3 _ F2 _ (gs2.mut e0 h5 at2.ow) (.refl _)⟩
        · rw [if_neg hz] at e3; cases e3
theorem s_cups {i : Nat} {k : Bool} {e : E} {y : Str} {j : Int} {m : Nat} {v : Expr} {p p1 p2 pos : Pos} (hs : SOk C g n call W X) (hb : nmB X.N X.env.scope i y = true) (hj : j = if k then 1 else 0) (ht : trE C X.N X.env.scope e v = true) :
    PS X (.Assign [.Subscript (.Name y p) (.Constant (.int j) m p1) p2] v pos) (tSt g X.K W (evS call (.cups i k e))) := by
  have sw : swapsWithSole [.Subscript (.Name y p) (.Constant (.int j) m p1) p2] v pos.line X.env = pure false := swS (.Name y p) (.Constant (.int j) m p1) v p2 pos pos.line X.env
  refine (ps_asg (pos := pos) (sE (W := W) e hs.co ht) (pg_sub (e_var hb) (pe_int (i := j)) set_list) sw rfl rfl).imp fun D σ H q => ?_
  obtain ⟨F, ρ, c, gs, r⟩ := q
  have r : ResS g X.K W F ((if isCup ρ[i]? then M.bnd (evE call e ρ) fun x => M.bnd (M.opt (intOf x)) fun n => M.bnd (setCup k n) fun _ => M.ret (.nx ρ) else M.err) c) D := r
  by_cases hc : isCup ρ[i]? = true
  · rw [if_pos hc] at r
    refine ⟨F, ρ, c, gs, (ResS.bind gs r).imp fun d c1 r1 v F1 H1 s1 l1 => ?_⟩
    have gs1 := gs.step s1
    obtain ⟨z, e1, r2⟩ := Res.opt (ResS.bind gs1 (r1.base s1.ff))
    obtain ⟨o, h1, v', h2, h3⟩ := gs1.sl i _ (isCup_of hc)
    rw [h2] at h1
    have hv : v' = .ref g.ca := by cases h3; rfl
    subst hv
    refine ⟨_, h1, g.ca, [.int c1.1, .int c1.2], j, if k then 1 else 0, rfl, rfl, gs1.st.cup, by subst hj; cases k <;> rfl, ?_⟩
    cases d with
    | int z' =>
      cases e1; cases l1
      have r3 : ResS g X.K W F1 (.ok (.nx ρ) (if k then (c1.1, z) else (z, c1.2))) D := r2
      have := r3 _ F1 _ (gs1.turnCup (c' := if k then (c1.1, z) else (z, c1.2))) (.refl _)
      cases k <;> exact this
    | _ => cases e1
  · rw [if_neg hc] at r; exact r.elim

/-! the flow -/
theorem st_ite {ec : E} {a b : Ss} {t : Expr} {p q : List Stmt} {pos : Pos} (hc : PT X t (tT g X.K W (evT call ec))) (ha : PSs X p (tSt g X.K W (evSs call a))) (hb : PSs X q (tSt g X.K W (evSs call b))) : PS X (.If t p q pos) (tSt g X.K W (evS call (.ite ec a b))) := (ps_if hc ha hb).imp fun D σ H q => by
  obtain ⟨F, ρ, c, gs, r⟩ := q
  refine ⟨F, ρ, c, gs, (ResS.bind gs r).imp fun k c1 r1 F1 H1 s1 => ?_⟩
  cases k with
  | true => exact ⟨F1, ρ, c1, gs.step s1, r1.base s1.ff⟩
  | false => exact ⟨F1, ρ, c1, gs.step s1, r1.base s1.ff⟩
theorem s_ret {e : E} {v : Expr} {pos : Pos} (hs : SOk C g n call W X) (ht : trE C X.N X.env.scope e v = true) : PS X (.Return (some v) pos) (tSt g X.K W (evS call (.ret e))) := by
  have gen : (∀ i, e ≠ .var i) → PS X (.Return (some v) pos) (tSt g X.K W (evS call (.ret e))) := fun hv => by
    refine (ps_ret (sE (W := W) e hs.co ht)).imp fun D σ H q => ?_
    obtain ⟨F, ρ, c, gs, r⟩ := q
    have r : ResS g X.K W F (M.bnd (evE call e ρ) (fun d => M.ret (.rt d)) c) D := by
      cases e <;> first | exact r | exact absurd rfl (hv _)
    exact ⟨F, ρ, c, gs, (ResS.bind gs r).imp fun d c1 r1 v F1 H1 s1 l1 => r1 v F1 H1 (gs.st.trans s1) l1⟩
  cases e with
  | var i =>
    cases v with
    | Name y p =>
      refine (ps_ret (e_var ht)).imp fun D σ H q => ?_
      obtain ⟨F, ρ, c, gs, r⟩ := q
      have r : ResS g X.K W F ((match ρ[i]? with
        | some (.da d) => M.ret (.rt d)
        | some (.ow d) => M.ret (.rt d)
        | _ => M.err : M Fl) c) D := r
      cases e0 : ρ[i]? with
      | none => rw [e0] at r; exact r.elim
      | some s =>
        rw [e0] at r
        obtain ⟨o, h1, h2⟩ := gs.sl i s e0
        cases s with
        | no => exact r.elim
        | da d =>
          obtain ⟨w, h3, h4⟩ := h2
          rw [h3] at h1
          exact ⟨w, h1, r w F H gs.st h4⟩
        | ow d =>
          obtain ⟨a, rfl, h4, h5, h6, h7⟩ := h2
          obtain ⟨u, hu, rp⟩ := h7.rp h4
          exact ⟨_, h1, r _ _ H (gs.st.frz h6 h4 hu) rp⟩
    | _ => exact Bool.noConfusion ht
  | _ => exact gen fun i z => E.noConfusion z
theorem st_for {tg : Tg} {it : FS.It} {body : Ss} {t iter : Expr} {p : List Stmt} {pos : Pos} (hs : SOk C g n call W X) (htg : tgB X.N X.env.scope tg t = true) (hok : itOk it t = true) (hit : trIt C X.N X.env.scope it iter = true) (hb : PSs X p (tSt g X.K W (evSs call body))) :
    PS X (.For t iter p [] pos) (tSt g X.K W (evS call (.for tg it body))) := by
  refine (ps_for hs.po hs.co.calm (sItF (W := W) it hs.co hok hit) (s_tg hs.co.calm hs.co.nd hs.st htg) hb (folded (it_notSet hit))).imp fun D σ H q => ?_
  obtain ⟨F, ρ, c, gs, r⟩ := q
  refine ⟨F, ρ, c, gs, (ResS.bind gs r).imp fun xs c1 r1 J F1 H1 s1 wk hz => ?_⟩
  refine ⟨fun i m σ H => i ≤ xs.length ∧ m = xs.length - i ∧ ∃ F' ρ' c', GS g F' ρ' c' σ H ∧ Sub F1 F' ∧ ResS g X.K W F1 (forL (evSs call body) tg (xs.drop i) ρ' c') D,
    ⟨xs.length, Nat.zero_le _, rfl, F1, ρ, c1, gs.step s1, .refl _, r1.base s1.ff⟩, ?_⟩
  rintro i m σ2 H2 ⟨hi, rfl, F2, ρ2, c2, gs2, f2, r2⟩
  obtain ⟨wk1, wk2⟩ := wk F2 H2 ⟨f2, gs2.fh⟩
  by_cases hlt : i < xs.length
  · right
    obtain ⟨go, yl⟩ := wk1 i _ (List.getElem?_eq_getElem hlt)
    rw [drop_cons hlt] at r2
    refine ⟨go, fun σ' H' => i + 1 ≤ xs.length ∧ ∃ F' ρ' c', GS g F' ρ' c' σ' H' ∧ Sub F1 F' ∧ ResS g X.K W F1 (forL (evSs call body) tg (xs.drop (i + 1)) ρ' c') D, fun σ' H' h => ⟨_, by omega, h.1, rfl, h.2⟩, fun x H' hy => ?_⟩
    obtain ⟨F3, w3, r3⟩ := yl x H' hy
    have gs3 := gs2.step (w3.step gs2.st.cup gs2.st.tabs)
    have r2 : ResS g X.K W F1 ((match setTg tg xs[i] ρ2 with
      | none => M.err
      | some ρ' => M.bnd (evSs call body ρ') fun f => match f with
        | .nx ρ3 => forL (evSs call body) tg (xs.drop (i + 1)) ρ3
        | .ct ρ3 => forL (evSs call body) tg (xs.drop (i + 1)) ρ3
        | .bk ρ3 => M.ret (.nx ρ3)
        | .rt d => M.ret (.rt d) : M Fl) c2) D := r2
    cases e1 : setTg tg xs[i] ρ2 with
    | none => rw [e1] at r2; exact r2.elim
    | some ρ' =>
      rw [e1] at r2
      refine tgSet gs3 r3 e1 fun σ3 hg _ => ⟨F3, ρ', c2, hg F3 c2 H' (.refl _) gs3, ?_⟩
      have r2 : ResS g X.K W F1 (M.bnd (evSs call body ρ') (fun f => match f with
        | .nx ρ3 => forL (evSs call body) tg (xs.drop (i + 1)) ρ3
        | .ct ρ3 => forL (evSs call body) tg (xs.drop (i + 1)) ρ3
        | .bk ρ3 => M.ret (.nx ρ3)
        | .rt d => M.ret (.rt d)) c2) D := r2
      have f3 : Sub F1 F3 := f2.trans w3.ff
      unfold M.bnd at r2
      cases e2 : evSs call body ρ' c2 with
      | err => rw [e2] at r2; exact r2.elim
      | exc x c3 => rw [e2] at r2; exact r2
      | ok fl c3 =>
        rw [e2] at r2
        cases fl with
        | nx ρ4 => exact fun σ4 F4 H4 gs4 f4 => ⟨hlt, F4, ρ4, c3, gs4, f3.trans f4, r2⟩
        | ct ρ4 => exact fun σ4 F4 H4 gs4 f4 => ⟨hlt, F4, ρ4, c3, gs4, f3.trans f4, r2⟩
        | bk ρ4 => exact fun σ4 F4 H4 gs4 f4 => r2 σ4 F4 H4 gs4 (f3.trans f4)
        | rt d => exact r2
  · left
    have he : i = xs.length := by omega
    subst he
    rw [List.drop_length] at r2
    exact ⟨wk2, r2 σ2 F2 H2 gs2 f2⟩
theorem st_whl {ec : E} {body : Ss} {t : Expr} {p : List Stmt} {pos : Pos} (hs : SOk C g n call W X) (hc : PT X t (tT g X.K W (evT call ec))) (hb : PSs X p (tSt g X.K W (evSs call body))) : PS X (.While t p [] pos) (tSt g X.K W (evS call (.whl ec body))) := by
  refine (ps_while hs.po hc hb).imp fun D σ H q => ?_
  obtain ⟨F, ρ, c, gs, r⟩ := q
  refine ⟨fun m σ H => ∃ F' ρ' c', GS g F' ρ' c' σ H ∧ Sub F F' ∧ ResS g X.K W F (whlL (evT call ec) (evSs call body) m ρ' c') D, ⟨whlMax, F, ρ, c, gs, .refl _, r⟩, ?_⟩
  rintro m σ2 H2 ⟨F2, ρ2, c2, gs2, f2, r2⟩
  cases m with
  | zero => exact r2.elim
  | succ m =>
    have r2 : ResS g X.K W F (M.bnd (evT call ec ρ2) (fun b => if b then M.bnd (evSs call body ρ2) fun f => match f with
      | .nx ρ3 => whlL (evT call ec) (evSs call body) m ρ3
      | .ct ρ3 => whlL (evT call ec) (evSs call body) m ρ3
      | .bk ρ3 => M.ret (.nx ρ3)
      | .rt d => M.ret (.rt d)
      else M.ret (.nx ρ2)) c2) D := r2
    refine ⟨F2, ρ2, c2, gs2, (ResS.bind gs2 r2).imp fun b c3 r3 F3 H3 s3 => ?_⟩
    cases b with
    | false => exact r3 σ2 F3 H3 (gs2.step s3) (f2.trans s3.ff)
    | true =>
      refine ⟨fun σ' H' => ∃ F' ρ' c', GS g F' ρ' c' σ' H' ∧ Sub F F' ∧ ResS g X.K W F (whlL (evT call ec) (evSs call body) m ρ' c') D, fun σ' H' h => ⟨m, Nat.lt_succ_self _, h⟩, F3, ρ2, c3, gs2.step s3, ?_⟩
      have r3 : ResS g X.K W F (M.bnd (evSs call body ρ2) (fun f => match f with
        | .nx ρ3 => whlL (evT call ec) (evSs call body) m ρ3
        | .ct ρ3 => whlL (evT call ec) (evSs call body) m ρ3
        | .bk ρ3 => M.ret (.nx ρ3)
        | .rt d => M.ret (.rt d)) c3) D := r3
      have f3 : Sub F F3 := f2.trans s3.ff
      unfold M.bnd at r3
      cases e2 : evSs call body ρ2 c3 with
      | err => rw [e2] at r3; exact r3.elim
      | exc x c4 => rw [e2] at r3; exact r3
      | ok fl c4 =>
        rw [e2] at r3
        cases fl with
        | nx ρ4 => exact fun σ4 F4 H4 gs4 f4 => ⟨F4, ρ4, c4, gs4, f3.trans f4, r3⟩
        | ct ρ4 => exact fun σ4 F4 H4 gs4 f4 => ⟨F4, ρ4, c4, gs4, f3.trans f4, r3⟩
        | bk ρ4 => exact fun σ4 F4 H4 gs4 f4 => r3 σ4 F4 H4 gs4 (f3.trans f4)
        | rt d => exact r3
/-- return sorted(xs, key=lambda x: (len(x), x)) -/
theorem s_retlen {a : E} {x : Str} {l lam : Expr} {key : Str} {p p2 pos pos2 : Pos} (hs : SOk C g n call W X) (hx : x = "sorted") (hg : glB X.env.scope x = true) (hk : key = "key") (ht : trE C X.N X.env.scope a l = true) (hl : lamLen lam = true) (hlam : C.lam = true) :
    PS X (.Return (some (.Call (.Name x p) [l] [⟨some key, lam, p2⟩] pos)) pos2) (tSt g X.K W (evS call (.retlen a))) := by
  refine (ps_ret (s_lensort hs hx hg hk (s_lon (sE a hs.co ht) ht) (tr_star ht) hl hlam)).imp fun D σ H q => ?_
  obtain ⟨F, ρ, c, gs, r⟩ := q
  have r : ResS g X.K W F (M.bnd (evL call a ρ) (fun x => M.bnd (M.opt (lenSort x)) fun d => M.ret (.rt d)) c) D := r
  refine ⟨F, ρ, c, gs, Res.bindI ((ResS.bind gs r).imp fun d c1 r1 => ?_)⟩
  cases e : lenSort d with
  | none => rw [e] at r1; exact r1.elim
  | some y =>
    rw [e] at r1
    exact fun v F1 H1 s1 l1 => r1 v F1 H1 (gs.st.trans s1) l1
theorem cons_tr {N : List Str} {sc : Scope} {s : S} {ss : Ss} {sts : List Stmt} (h : trSs C N sc (.cons s ss) sts = true) : (∃ i, s = .frz i ∧ trSs C N sc ss sts = true) ∨ ∃ st rest, sts = st :: rest ∧ trS C N sc s st = true ∧ trSs C N sc ss rest = true := by
  cases s with
  | frz i => exact .inl ⟨i, rfl, h⟩
  | _ =>
    cases sts with
    | nil => exact Bool.noConfusion h
    | cons st rest => exact .inr ⟨st, rest, rfl, (and2 h).1, (and2 h).2⟩
theorem frz_no {i : Nat} {ss : Ss} {ρ : En} (h : ∀ d, ρ[i]? ≠ some (.ow d)) : evSs call (.cons (.frz i) ss) ρ = evSs call ss ρ := by
  show (M.bnd (match ρ[i]? with
    | some (.ow d) => M.ret (Fl.nx (ρ.set i (.da d)))
    | _ => M.ret (Fl.nx ρ)) fun (f : Fl) => (match f with
    | Fl.nx ρ' => evSs call ss ρ'
    | f => M.ret f : M Fl)) = _
  cases e : ρ[i]? with
  | none => rfl
  | some s =>
    cases s with
    | ow d => exact absurd e (h d)
    | _ => rfl
theorem frz_ow {i : Nat} {ss : Ss} {ρ : En} {d : D} (h : ρ[i]? = some (.ow d)) : evSs call (.cons (.frz i) ss) ρ = evSs call ss (ρ.set i (.da d)) := by
  show (M.bnd (match ρ[i]? with
    | some (.ow d) => M.ret (Fl.nx (ρ.set i (.da d)))
    | _ => M.ret (Fl.nx ρ)) fun (f : Fl) => (match f with
    | Fl.nx ρ' => evSs call ss ρ'
    | f => M.ret f : M Fl)) = _
  rw [h]; rfl
mutual
theorem sS : ∀ (s : S) {st : Stmt}, SOk C g n call W X → trS C X.N X.env.scope s st = true → PS X st (tSt g X.K W (evS call s))
  | .expr e, st, hs, h => by
    cases st with
    | Expr v pos => exact s_expr hs (and2 h).1 (and2 h).2
    | _ => exact Bool.noConfusion h
  | .set i e, st, hs, h => by
    cases st with
    | Assign ts v pos =>
      match ts, h with
      | [.Name y p], h => exact s_set hs (and2 h).1 (and2 h).2
    | _ => exact Bool.noConfusion h
  | .own i e, st, hs, h => by
    cases st with
    | Assign ts v pos =>
      match ts, h with
      | [.Name y p], h => exact s_own hs (and2 (and2 h).1).1 (and2 (and2 h).1).2 (and2 h).2
    | _ => exact Bool.noConfusion h
  | .par is es os, st, hs, h => by
    cases st with
    | Assign ts v pos =>
      match is, ts, v, h with
      | [i, j], [.Tuple [.Name x px, .Name y py] kt pt], .Tuple vs k2 pt2, h =>
        have h : (stB X.N X.env.scope i x && stB X.N X.env.scope j y && decide (i ≠ j) && frs es os && trEs C X.N X.env.scope es vs && decide (X.env.scope.names.lookup x = some .local) && decide (X.env.scope.names.lookup y = some .local)
          && (px.line == py.line) && decide (vs.length = 2) && !(vs.all (constantsAlone 8)) && !(vs.all (foldedForSure 8))) = true := h
        have a1 := and2 h
        have a2 := and2 a1.1
        have a3 := and2 a2.1
        have a4 := and2 a3.1
        have a5 := and2 a4.1
        have a6 := and2 a5.1
        have a7 := and2 a6.1
        have a8 := and2 a7.1
        have a9 := and2 a8.1
        have b1 := and2 a9.1
        exact s_par2 hs b1.1 b1.2 (dt a9.2) a8.2 a7.2 (dt a6.2) (dt a5.2) a4.2 (dt a3.2) a2.2 a1.2
      | [i, j, k], [.Tuple [.Name x px, .Name y py, .Name z pz] kt pt], .Tuple vs k2 pt2, h =>
        have h : (stB X.N X.env.scope i x && stB X.N X.env.scope j y && stB X.N X.env.scope k z && decide (i ≠ j) && decide (i ≠ k) && decide (j ≠ k) && frs es os && trEs C X.N X.env.scope es vs && decide (X.env.scope.names.lookup x = some .local)
          && decide (X.env.scope.names.lookup y = some .local) && decide (X.env.scope.names.lookup z = some .local) && (px.line == py.line) && (px.line == pz.line) && decide (vs.length = 3) && !(vs.all (constantsAlone 8)) && !(vs.all (foldedForSure 8))) = true := h
        have a1 := and2 h
        have a2 := and2 a1.1
        have a3 := and2 a2.1
        have a4 := and2 a3.1
        have a5 := and2 a4.1
        have a6 := and2 a5.1
        have a7 := and2 a6.1
        have a8 := and2 a7.1
        have a9 := and2 a8.1
        have b1 := and2 a9.1
        have b2 := and2 b1.1
        have b3 := and2 b2.1
        have b4 := and2 b3.1
        have b5 := and2 b4.1
        have b6 := and2 b5.1
        exact s_par3 hs b6.1 b6.2 b5.2 (dt b4.2) (dt b3.2) (dt b2.2) b1.2 a9.2 (dt a8.2) (dt a7.2) (dt a6.2) a5.2 a4.2 (dt a3.2) a2.2 a1.2
    | _ => exact (show False by revert h; cases is with | nil => exact fun h => Bool.noConfusion h | cons a l => cases l with | nil => exact fun h => Bool.noConfusion h | cons b l => cases l with | nil => exact fun h => Bool.noConfusion h | cons c l => cases l <;> exact fun h => Bool.noConfusion h).elim
  | .unp tg e, st, hs, h => by
    cases st with
    | Assign ts v pos =>
      match ts, h with
      | [.Tuple xs k p], h => exact s_unp hs (and2 (and2 h).1).1 (and2 (and2 h).1).2 (and2 h).2
    | _ => exact Bool.noConfusion h
  | .aug i o e, st, hs, h => by
    cases st with
    | AugAssign t p v pos =>
      cases t with
      | Name y p1 =>
        have h1 := and2 h
        have h2 := and2 h1.1
        have h3 := and2 h2.1
        exact s_aug hs h3.1 h3.2 h2.2 h1.2
      | _ => exact Bool.noConfusion h
    | _ => exact Bool.noConfusion h
  | .app i e, st, hs, h => by
    cases st with
    | Expr v pos =>
      cases v with
      | Call f xs ks cp =>
        cases f with
        | Attribute o m ap =>
          cases o with
          | Name y p =>
            match xs, ks, h with
            | [v], [], h =>
              have h1 := and2 h
              have h2 := and2 h1.1
              have h3 := and2 h2.1
              exact s_app hs h3.1 (dt h3.2) h2.2 h1.2
          | _ => exact Bool.noConfusion h
        | _ => exact Bool.noConfusion h
      | _ => exact Bool.noConfusion h
    | _ => exact Bool.noConfusion h
  | .put i k e, st, hs, h => by
    cases st with
    | Assign ts v pos =>
      match ts, h with
      | [.Subscript (.Name y p) ix p2], h =>
        have h1 := and2 h
        have h2 := and2 h1.1
        have h3 := and2 h2.1
        exact s_put hs h3.1 h3.2 h2.2 h1.2
    | _ => exact Bool.noConfusion h
  | .cups i k e, st, hs, h => by
    cases st with
    | Assign ts v pos =>
      match ts, h with
      | [.Subscript (.Name y p) (.Constant (.int j) m p1) p2], h =>
        have h1 := and2 h
        have h2 := and2 h1.1
        exact s_cups hs h2.1 (dt h2.2) h1.2
    | _ => exact Bool.noConfusion h
  | .ite c a b, st, hs, h => by
    cases st with
    | If t p q pos =>
      have h : (teB c && trE C X.N X.env.scope c t && trSs C X.N X.env.scope a p && trSs C X.N X.env.scope b q) = true := h
      have h1 := and2 h
      have h2 := and2 h1.1
      have h3 := and2 h2.1
      exact st_ite (sT c hs.co h3.1 h3.2) (sSs a hs h2.2) (sSs b hs h1.2)
    | _ => exact Bool.noConfusion h
  | .for tg it body, st, hs, h => by
    cases st with
    | For t iter p el pos =>
      cases el with
      | nil =>
        have h : (tgB X.N X.env.scope tg t && itOk it t && trIt C X.N X.env.scope it iter && trSs C X.N X.env.scope body p) = true := h
        have h1 := and2 h
        have h2 := and2 h1.1
        have h3 := and2 h2.1
        exact st_for hs h3.1 h3.2 h2.2 (sSs body hs h1.2)
      | cons _ _ => exact Bool.noConfusion h
    | _ => exact Bool.noConfusion h
  | .whl c body, st, hs, h => by
    cases st with
    | While t p el pos =>
      cases el with
      | nil =>
        have h : (teB c && trE C X.N X.env.scope c t && trSs C X.N X.env.scope body p) = true := h
        have h1 := and2 h
        have h2 := and2 h1.1
        exact st_whl hs (sT c hs.co h2.1 h2.2) (sSs body hs h1.2)
      | cons _ _ => exact Bool.noConfusion h
    | _ => exact Bool.noConfusion h
  | .ret e, st, hs, h => by
    cases st with
    | Return v pos =>
      cases v with
      | some v => exact s_ret hs h
      | none => exact Bool.noConfusion h
    | _ => exact Bool.noConfusion h
  | .retN, st, hs, h => by
    cases st with
    | Return v pos =>
      cases v with
      | some v => exact Bool.noConfusion h
      | none =>
        refine ps_retN.imp fun D σ H q => ?_
        obtain ⟨F, ρ, c, gs, r⟩ := q
        exact r .non F H gs.st .non
    | _ => exact Bool.noConfusion h
  | .retlen a, st, hs, h => by
    cases st with
    | Return v pos =>
      match v, h with
      | some (.Call (.Name x p) [l] [⟨some key, lam, p2⟩] pos2), h =>
        have h : (decide (x = "sorted") && glB X.env.scope x && decide (key = "key") && trE C X.N X.env.scope a l && lamLen lam && C.lam) = true := h
        have h0 := and2 h
        have h1 := and2 h0.1
        have h2 := and2 h1.1
        have h3 := and2 h2.1
        have h4 := and2 h3.1
        exact s_retlen hs (dt h4.1) h4.2 (dt h3.2) h2.2 h1.2 h0.2
    | _ => exact Bool.noConfusion h
  | .pass, st, hs, h => by
    cases st with
    | Pass p =>
      refine ps_pass.imp fun D σ H q => ?_
      obtain ⟨F, ρ, c, gs, r⟩ := q
      exact r σ F H gs (.refl _)
    | _ => exact Bool.noConfusion h
  | .brk, st, hs, h => by
    cases st with
    | Break p =>
      refine ps_break.imp fun D σ H q => ?_
      obtain ⟨F, ρ, c, gs, r⟩ := q
      exact r σ F H gs (.refl _)
    | _ => exact Bool.noConfusion h
  | .cont, st, hs, h => by
    cases st with
    | Continue p =>
      refine ps_continue.imp fun D σ H q => ?_
      obtain ⟨F, ρ, c, gs, r⟩ := q
      exact r σ F H gs (.refl _)
    | _ => exact Bool.noConfusion h
  | .never, st, hs, h => ps_never.imp fun D σ H q => by
    obtain ⟨F, ρ, c, gs, r⟩ := q
    exact r
  | .frz i, st, hs, h => by
    cases st <;> exact Bool.noConfusion h
theorem sSs : ∀ (ss : Ss) {sts : List Stmt}, SOk C g n call W X → trSs C X.N X.env.scope ss sts = true → PSs X sts (tSt g X.K W (evSs call ss))
  | .nil, sts, hs, h => by
    cases sts with
    | nil =>
      refine pss_nil.imp fun D σ H q => ?_
      obtain ⟨F, ρ, c, gs, r⟩ := q
      exact r σ F H gs (.refl _)
    | cons _ _ => exact Bool.noConfusion h
  | .cons s ss, sts, hs, h => by
    rcases cons_tr h with ⟨i, e, h2⟩ | ⟨st, rest, e, h1, h2⟩
    · have k := sSs ss hs h2
      subst e
      refine k.imp fun D σ H q => ?_
      obtain ⟨F, ρ, c, gs, r⟩ := q
      cases e0 : ρ[i]? with
      | none => exact ⟨F, ρ, c, gs, by rw [frz_no (fun d z => by rw [e0] at z; cases z)] at r; exact r⟩
      | some s =>
        cases s with
        | ow d =>
          obtain ⟨F', gs', f'⟩ := gs.frz e0
          exact ⟨F', _, c, gs', ResS.base (by rw [frz_ow e0] at r; exact r) f'⟩
        | _ => exact ⟨F, ρ, c, gs, by rw [frz_no (fun d z => by rw [e0] at z; cases z)] at r; exact r⟩
    · have k1 := sS s hs h1
      have k2 := sSs ss hs h2
      subst e
      refine (pss_cons k1 k2).imp fun D σ H q => ?_
      obtain ⟨F, ρ, c, gs, r⟩ := q
      refine ⟨F, ρ, c, gs, ?_⟩
      have r : ResS g X.K W F (M.bnd (evS call s ρ) (fun f => match f with
        | .nx ρ' => evSs call ss ρ'
        | f => M.ret f) c) D := r
      unfold M.bnd at r
      cases e2 : evS call s ρ c with
      | err => rw [e2] at r; exact r.elim
      | exc x c3 => rw [e2] at r; exact r
      | ok fl c3 =>
        rw [e2] at r
        cases fl with
        | nx ρ4 => exact fun σ4 F4 H4 gs4 f4 => ⟨F4, ρ4, c3, gs4, r.base f4⟩
        | ct ρ4 => exact r
        | bk ρ4 => exact r
        | rt d => exact r
end
end
end FS

-- part FsDef
set_option Elab.async false
set_option linter.all false
set_option maxRecDepth 100000
set_option maxHeartbeats 4000000
/-! Defs: a table of them, run with fuel; that each keeps its promise. -/
namespace FS
open PySem PySem.Spec PyProof.Rows L2

structure Df where
  np : Nat
  nn : Nat
  ss : Ss
def endF : Fl → M D
  | .nx _ => M.ret .none
  | .rt d => M.ret d
  | _ => M.err
def entry (nn : Nat) (ds : List D) : En := ds.map .da ++ List.replicate (nn - ds.length) .no
def run (tab : List Df) : Nat → Nat → List D → M D
  | 0, _, _ => M.err
  | k + 1, i, ds => match tab[i]? with
    | some d => if ds.length = d.np then M.bnd (evSs (run tab k) d.ss (entry d.nn ds)) endF else M.err
    | none => M.err

/-- a def's code object and table, where it makes a lambda -/
def LamAt (mg : Str → Option Value) (base : Heap) (T : List (Addr × Str)) (qual : Str) (fd : FuncData) : Prop := ∃ c Pt, LamX.TabB base mg c Pt ∧ fd.code = .ref c ∧ (Pt, qual ++ ".<locals>." ++ "<lambda>") ∈ T ∧ ∀ p ∈ T, p.1 = Pt → p.2 = qual ++ ".<locals>." ++ "<lambda>"
/-- what is known of a def -/
structure DOk (K : PySem.W.Frag) (mg : Str → Option Value) (base : Heap) (C : Tx) (T : List (Addr × Str)) (f : Addr) (x : Str) (d : Df) : Prop where
  at_ : mg x = some (.ref f)
  ex : ∃ fd x' qual params body sc N ps lam, d.np = ps.length ∧ d.nn = N.length ∧ FunD K x' qual params body sc [] [] f fd ∧ FnScope N ps sc ∧ Binds K fd ps [] ∧ trSs { C with lam := lam } N sc d.ss body = true ∧ (lam = true → LamAt mg base T qual fd)
/-- what is known of the module -/
structure MOk (K : PySem.W.Frag) (mg : Str → Option Value) (base : Heap) (C : Tx) (T : List (Addr × Str)) (fa : Nat → Addr) (tab : List Df) : Prop where
  defs : ∀ i x, C.fn[i]? = some x → ∃ d, tab[i]? = some d ∧ DOk K mg base C T (fa i) x d
  gl : ∀ p ∈ C.gl, ∃ u, mg p.1 = some u ∧ glIs u p.2
  free : ∀ x ∈ bNames, mg x = none
section
variable {P : Program} {w : World} {K : PySem.W.Frag} {mg : Str → Option Value} {base : Heap}
theorem _root_.L2.FunD.okc {x qual : Str} {params : Arguments} {body : List Stmt} {scope : Scope} {dvs : List V} {kws : List (Str × V)} {f : Addr} {fd : FuncData} {CX : CXT} {N ps : List Str} {k : Nat} {sp : Sp} (F : FunD K x qual params body scope dvs kws f fd) (S : FnScope N ps scope) (len : ∀ vs H Q E, sp vs H Q E → vs.length = ps.length)
    (hbody : ∀ (cdv : Value) (A : Around) (outer : List Env) (s : Shared) (H : Hp) (vs : List V) (Q : VK) (E : XK), fd.code = cdv → Room k (A.deeper (envOfC qual scope s.heap.objs.size f cdv)) → sp vs H Q E →
      ∃ t, PSs (cxOf CX P w K mg base N qual scope f cdv A outer s H E) body t ∧ t { nx := fun _ H' => Q .non H', rt := Q } (L2.start N vs) H) : FnOk P w K mg base CX (k + 1) f fd ps sp := by
  obtain ⟨oc, od, dV, kV, doc, pm, an, cdv, ct, osl, rfl, lk, hcd, _, _⟩ := F.ex
  exact fn_of lk hcd S len fun A outer s H vs Q E hr hsp => hbody cdv A outer s H vs Q E rfl hr hsp
theorem rp_len {ca : Addr} {fa : Nat → Addr} {F : Hp} : ∀ {vs : List V} {ds : List D}, RpAll ca fa F vs ds → vs.length = ds.length
  | _, _, .nil => rfl
  | _, _, .cons _ r => congrArg Nat.succ (rp_len r)
theorem rp_get {ca : Addr} {fa : Nat → Addr} {F : Hp} : ∀ {vs : List V} {ds : List D} {i : Nat} {d : D}, RpAll ca fa F vs ds → ds[i]? = some d → ∃ v, vs[i]? = some v ∧ Rp ca fa F v d
  | _, _, 0, _, .cons r _, e => by
    cases e
    exact ⟨_, rfl, r⟩
  | _, _, i + 1, _, .cons _ r, e => rp_get (i := i) r e
/-- the names' values at a def's entry -/
theorem gs_entry {ca : Addr} {fa : Nat → Addr} {T : List (Addr × Str)} {F H : Hp} {c : Cup} {vs : List V} {ds : List D} {N : List Str} (s : Step ca T F H c F H) (fca : Fca ca T F) (r : RpAll ca fa F vs ds) : GS ⟨ca, fa, T, F, H⟩ F (entry N.length ds) c (L2.start N vs) H where
  st := s
  fca := fca
  sl := fun i sl e => by
    unfold entry at e
    unfold L2.start
    by_cases hi : i < ds.length
    · rw [List.getElem?_append_left (by simpa using hi), List.getElem?_map] at e
      cases h : ds[i]? with
      | none => rw [h] at e; cases e
      | some d =>
        rw [h] at e
        cases e
        obtain ⟨v, h1, h2⟩ := rp_get r h
        refine ⟨some v, ?_, v, rfl, h2⟩
        rw [List.getElem?_append_left (by rw [List.length_map, rp_len r]; exact hi), List.getElem?_map, h1]
        rfl
    · have hi : ds.length ≤ i := Nat.le_of_not_lt hi
      rw [List.getElem?_append_right (by rw [List.length_map]; exact hi), List.getElem?_replicate] at e
      split at e
      · rename_i hlt
        cases e
        refine ⟨none, ?_, trivial⟩
        rw [List.getElem?_append_right (by rw [List.length_map, rp_len r]; exact hi), List.getElem?_replicate, List.length_map, rp_len r]
        rw [List.length_map] at hlt
        rw [if_pos hlt]
      · cases e
  dis := fun i j d e a _ h => by
    unfold entry at h
    exfalso
    have h := List.mem_of_getElem? h
    rcases List.mem_append.mp h with z | z
    · obtain ⟨_, _, z⟩ := List.mem_map.mp z
      cases z
    · have z := List.eq_of_mem_replicate z
      cases z
theorem run_len {tab : List Df} {k i : Nat} {ds : List D} {c : Cup} {d : Df} (h : tab[i]? = some d) (n : ds.length ≠ d.np) : run tab (k + 1) i ds c = .err := by
  show (match tab[i]? with
    | some d => if ds.length = d.np then M.bnd (evSs (run tab k) d.ss (entry d.nn ds)) endF else M.err
    | none => M.err) c = _
  rw [h]
  show (if ds.length = d.np then _ else M.err : M D) c = _
  rw [if_neg n]
  rfl
theorem run_eq {tab : List Df} {k i : Nat} {ds : List D} {d : Df} (h : tab[i]? = some d) (n : ds.length = d.np) : run tab (k + 1) i ds = M.bnd (evSs (run tab k) d.ss (entry d.nn ds)) endF := by
  show (match tab[i]? with
    | some d => if ds.length = d.np then M.bnd (evSs (run tab k) d.ss (entry d.nn ds)) endF else M.err
    | none => M.err) = _
  rw [h]
  show (if ds.length = d.np then _ else M.err : M D) = _
  rw [if_pos n]
theorem cok {C : Tx} {T : List (Addr × Str)} {ca : Addr} {fa : Nat → Addr} {tab : List Df} {N ps : List Str} {qual : Str} {sc : Scope} {f : Addr} {cdv : Value} {A : Around} {outer : List Env} {s : Shared} {H F He : Hp} {E : XK} {k : Nat} {lam : Bool} {fd : FuncData} (m : MOk K mg base C T fa tab)
    (ih : ∀ i x, C.fn[i]? = some x → ∃ fd ps, mg x = some (.ref (fa i)) ∧ PySem.W.keepIn K (.ref (fa i)) = true ∧ FnOk P w K mg base (L2.CX P w) k (fa i) fd ps (spF ca fa T K (run tab k) i) ∧ Binds K fd ps []) (S : FnScope N ps sc) (hcd : fd.code = cdv)
    (hr : Room k (A.deeper (envOfC qual sc s.heap.objs.size f cdv))) (hlam : lam = true → LamAt mg base T qual fd) :
    SOk { C with lam := lam } ⟨ca, fa, T, F, He⟩ k (run tab k) (fun cls d _ H => E cls d H) (cxOf (L2.CX P w) P w K mg base N qual sc f cdv A outer s H E) where
  co := {
    calm := rfl
    nd := S.nd
    kind := S.kind
    room := hr
    tk := takes_of rfl rfl rfl rfl
    gl := m.gl
    free := m.free
    fns := fun i x h => ih i x h }
  po := passes_of rfl
  st := fun x h => ⟨h, .inl rfl⟩
  lam := fun h => by
    obtain ⟨c, Pt, h1, h2, h3⟩ := hlam h
    exact ⟨c, Pt, h1, hcd.symm.trans h2, h3⟩
/-- every def keeps its promise -/
theorem fns_ok {C : Tx} {T : List (Addr × Str)} {ca : Addr} {fa : Nat → Addr} {tab : List Df} (m : MOk K mg base C T fa tab) : ∀ k i x, C.fn[i]? = some x →
    ∃ fd ps, mg x = some (.ref (fa i)) ∧ PySem.W.keepIn K (.ref (fa i)) = true ∧ FnOk P w K mg base (L2.CX P w) k (fa i) fd ps (spF ca fa T K (run tab k) i) ∧ Binds K fd ps []
  | 0, i, x, h => by
    obtain ⟨d, h1, h2⟩ := m.defs i x h
    obtain ⟨fd, x', qual, params, body, sc, N, ps, lam, e1, e2, hF, hS, hB, _, _⟩ := h2.ex
    refine ⟨fd, ps, h2.at_, hF.kp, ⟨fun vs H Q E q => ?_, fun A outer s H args us vs Q E _ _ _ _ q => ?_⟩, hB⟩
    · obtain ⟨F, ds, c, _, _, _, q⟩ := q
      exact q.elim
    · obtain ⟨F, ds, c, _, _, _, q⟩ := q
      exact q.elim
  | k + 1, i, x, h => by
    obtain ⟨d, h1, h2⟩ := m.defs i x h
    obtain ⟨fd, x', qual, params, body, sc, N, ps, lam, e1, e2, hF, hS, hB, htr, hlam⟩ := h2.ex
    refine ⟨fd, ps, h2.at_, hF.kp, ?_, hB⟩
    refine hF.okc hS (fun vs H Q E q => ?_) fun cdv A outer s H vs Q E hcd hr q => ?_
    · obtain ⟨F, ds, c, st, fca, r, q⟩ := q
      rw [rp_len r, ← e1]
      refine Classical.byContradiction fun n => ?_
      rw [run_len h1 n] at q
      exact q.elim
    · obtain ⟨F, ds, c, st, fca, r, q⟩ := q
      have so := cok (P := P) (w := w) (F := F) (H := H) (He := H) (E := E) (A := A) (outer := outer) (s := s) (f := fa i) m (fns_ok (ca := ca) m k) hS hcd hr hlam
      refine ⟨_, sSs d.ss so htr, F, entry N.length ds, c, gs_entry st fca r, ?_⟩
      by_cases n : ds.length = d.np
      · rw [run_eq h1 n, e2] at q
        unfold M.bnd at q
        cases e : evSs (run tab k) d.ss (entry N.length ds) c with
        | err => rw [e] at q; exact q.elim
        | exc y c' => rw [e] at q; exact fun cls dx σ F' H' s' z => q cls dx F' H' s' z
        | ok fl c' =>
          rw [e] at q
          cases fl with
          | nx ρ => exact fun σ F' H' gs' _ => q .non F' H' gs'.st .non
          | rt d => exact fun v F' H' s' z => q v F' H' s' z
          | bk ρ => exact q.elim
          | ct ρ => exact q.elim
      · rw [run_len h1 n] at q
        exact q.elim
end
end FS

-- part FsLaw
set_option Elab.async false
set_option linter.all false
set_option maxRecDepth 100000
set_option maxHeartbeats 4000000
/-! A law's def: the cup is made, then all goes by the evaluator. -/
namespace FS
open PySem PySem.Spec PyProof.Rows L2

/-- the numbers of a law's cup -/
structure CupC where
  q : Int
  a : Int
  b : Int
  m : Int
  e : Int
def cellOf (ns : List Int) : Int := (ns ++ [0]).headD 0
def cellA (ns : List Int) : Int := if cellOf ns < 0 then -cellOf ns else cellOf ns
def cupOf (k : CupC) (ns : List Int) : Cup := (if (10 : Int) ^ 18 ≤ cellA ns then cellA ns / k.q else 0, (cellA ns * k.a + k.b) % k.m + k.e)
def CupC.ok (k : CupC) : Bool := decide (0 < k.q) && decide (k.q < 1073741824) && decide (-(2 ^ 64) < k.a) && decide (k.a < 2 ^ 64) && decide (0 < k.m)

section
variable (ca : Addr) (fa : Nat → Addr)
/-- read with what is known of the names -/
def tW (A : SV → Hp → Prop) (d : D) : TE := fun σ H Q => A σ H ∧ ∃ F, Sub F H ∧ VQ ca fa F H d Q
def MonoA (A : SV → Hp → Prop) : Prop := ∀ σ H H', Sub H H' → A σ H → A σ H'
end
section
variable {X : Cx} {ca : Addr} {fa : Nat → Addr} {A : SV → Hp → Prop} {x y : Expr} {d e z : D} {pos : Pos}
theorem w_int {i : Int} {k : Nat} : PE X (.Constant (.int i) k pos) (tW ca fa A (.int i)) := pe_int.imp fun σ H Q q => by
  obtain ⟨ha, F, fh, k⟩ := q
  exact k.here fh (.int i)
theorem w_var {i : Nat} {n : Str} {j : Int} (hv : PE X (.Name n pos) (tVar i)) (h : ∀ σ H, A σ H → σ[i]? = some (some (.int j))) : PE X (.Name n pos) (tW ca fa A (.int j)) := hv.imp fun σ H Q q => by
  obtain ⟨ha, F, fh, k⟩ := q
  exact ⟨_, h σ H ha, k.here fh (.int j)⟩
theorem w_two {r : D → D → Option D} (m : MonoA A) (he : r d e = some z) {σ : SV} {H : Hp} {Q : VK} (q : tW ca fa A z σ H Q) : tOp (rV ca fa r) (tW ca fa A d) (tW ca fa A e) σ H Q := by
  obtain ⟨ha, F, fh, k⟩ := q
  exact ⟨ha, F, fh, fun v F1 H1 g1 r1 => ⟨m _ _ _ g1.ext ha, F1, g1.fh, fun w F2 H2 g2 r2 => ⟨F2, d, e, z, g2.fh, .rp (r1.mono g2.ff), .rp r2, he, fun u F3 H3 g3 r3 => k u F3 H3 (g1.trans (g2.trans g3)) r3⟩⟩⟩
theorem w_bin {op : Operator} {r : D → D → Option D} (ho : OpR X (binaryOp op) (rV ca fa r)) (m : MonoA A) (hx : PE X x (tW ca fa A d)) (hy : PE X y (tW ca fa A e)) (he : r d e = some z) : PE X (.BinOp x op y pos) (tW ca fa A z) :=
  (pe_op ho hx hy).imp fun _ _ _ q => w_two m he q
theorem w_cmp {op : CmpOp} {r : D → D → Option D} {b : Bool} (ho : OpR X (compareOp op) (rV ca fa r)) (m : MonoA A) (hx : PE X x (tW ca fa A d)) (hy : PE X y (tW ca fa A e)) (he : r d e = some (.bool b)) (hm : behindInMarks op y = false) :
    PT X (.Compare x [op] [y] pos) (fun σ H Q => A σ H ∧ ∃ F, Sub F H ∧ ∀ F' H', Grow F H F' H' → Q b H') := (pt_cmpR ho hx hy hm).imp fun σ H Q q => by
  obtain ⟨ha, F, fh, k⟩ := q
  exact w_two m he ⟨ha, F, fh, fun v F' H' g rp => by
    cases rp
    exact ⟨b, rfl, k F' H' g⟩⟩
theorem w_ite {c : Expr} {b : Bool} (m : MonoA A) (hc : PT X c (fun σ H Q => A σ H ∧ ∃ F, Sub F H ∧ ∀ F' H', Grow F H F' H' → Q b H')) (hx : PE X x (tW ca fa A d)) (hy : PE X y (tW ca fa A e)) : PE X (.IfExp c x y pos) (tW ca fa A (if b then d else e)) := (pe_ifExp hc hx hy).imp fun σ H Q q => by
  obtain ⟨ha, F, fh, k⟩ := q
  refine ⟨ha, F, fh, fun F1 H1 g1 => ?_⟩
  cases b with
  | true => exact ⟨m _ _ _ g1.ext ha, F1, g1.fh, fun v F2 H2 g2 rp => k v F2 H2 (g1.trans g2) rp⟩
  | false => exact ⟨m _ _ _ g1.ext ha, F1, g1.fh, fun v F2 H2 g2 rp => k v F2 H2 (g1.trans g2) rp⟩
theorem w_cb {r : List D → Option D} (he : r [d] = some z) {σ : SV} {H : Hp} {Q : VK} (q : tW ca fa A z σ H Q) : tCB (rVs ca fa r) (tCons (tW ca fa A d) tNil) σ H Q := by
  obtain ⟨ha, F, fh, k⟩ := q
  exact ⟨ha, F, fh, fun v F1 H1 g1 r1 => ⟨F1, [d], z, g1.fh, .cons (.rp r1) .nil, he, fun u F2 H2 g2 r2 => k u F2 H2 (g1.trans g2) r2⟩⟩
theorem w_one (hs : notStar x = true) (hx : PE X x (tW ca fa A d)) : PE X (.List [x] pos) (tW ca fa A (.list [d])) := (pe_lst (pa_cons hx pa_nil (star_cons hs))).imp fun σ H Q q => by
  obtain ⟨ha, F, fh, k⟩ := q
  refine ⟨ha, F, fh, fun v F1 H1 g1 r1 => ⟨show 1 ≤ sizeLine by decide, fun p hp => ?_⟩⟩
  exact k _ _ _ (g1.trans (.one g1.fh hp)) (.lst upd_same (show 1 ≤ sizeLine by decide) (.cons (r1.mono (Sub.upd (g1.fh.none hp))) .nil))

/-! the cup's def -/
def aCell (z : Int) : SV → Hp → Prop := fun σ _ => σ[1]? = some (some (.int z))
theorem mCell {z : Int} : MonoA (aCell z) := fun _ _ _ _ h => h
theorem sql_ext {K : PySem.W.Frag} {H H' : Hp} {a : Addr} {xs : List V} (h : SqL K H a xs) (e : Sub H H') : SqL K H' a xs := by
  rcases h with h | h
  · rcases h with h | ⟨o, h⟩
    · exact .inl (.inl (e _ _ h))
    · exact .inl (.inr ⟨o, e _ _ h⟩)
  · exact .inr h
def aScr (K : PySem.W.Frag) (a : Addr) (ns : List Int) : SV → Hp → Prop := fun σ H => σ[0]? = some (some (.ref a)) ∧ SqL K H a (ns.map V.int)
theorem mScr {K : PySem.W.Frag} {a : Addr} {ns : List Int} : MonoA (aScr K a ns) := fun _ _ _ s h => ⟨h.1, sql_ext h.2 s⟩
theorem rp_allI {ca : Addr} {fa : Nat → Addr} {F : Hp} : ∀ ns : List Int, RpAll ca fa F (ns.map V.int) (ns.map PyData.int)
  | [] => .nil
  | n :: ns => .cons (.int n) (rp_allI ns)
theorem at0 (ns : List Int) : idxD (.list (ns.map PyData.int ++ [.int 0])) (.int 0) = some (.int (cellOf ns)) := by
  cases ns with
  | nil => rfl
  | cons n ns =>
    show (ixN ((n :: ns).map PyData.int ++ [PyData.int 0]).length 0).bind _ = _
    unfold ixN
    rw [if_pos (by decide), if_pos (by rw [List.length_append, List.length_map]; simp only [List.length_cons]; omega)]
    rfl
/-- what the cup's def promises -/
def spCup (k : CupC) (K : PySem.W.Frag) : Sp := fun vs H Q _ => ∃ (a : Addr) (ns : List Int), vs = [.ref a] ∧ SqL K H a (ns.map V.int) ∧ ns.length < sizeLine ∧ ∀ p H', H p = none → Sub H H' → H' p = some (.lst [.int (cupOf k ns).1, .int (cupOf k ns).2]) → Q (.ref p) H'
section
variable {P : Program} {w : World} {K : PySem.W.Frag} {mg : Str → Option Value} {base : Heap}
theorem cup_ok {k : CupC} {x qual : Str} {params : Arguments} {body : List Stmt} {sc : Scope} {f : Addr} {fd : FuncData} {p1 p2 p3 p4 p5 p6 p7 p8 p9 p10 p11 p12 q1 q2 q3 q4 q5 q6 q7 q8 q9 q10 q11 q12 q13 q14 q15 q16 q17 q18 q19 q20 q21 q22 q23 : Pos} {n1 n2 n3 n4 n5 n6 n7 n8 n9 n10 : Nat}
    (F : FunD K x qual params body sc [] [] f fd) (S : FnScope ["script", "cell"] ["script"] sc) (hk : k.ok = true) (free : ∀ x ∈ bNames, mg x = none)
    (hb : body = [.Assign [.Name "cell" p1] (.Call (.Name "abs" p2) [.Subscript (.BinOp (.Call (.Name "list" p3) [.Name "script" p4] [] p5) .Add (.List [.Constant (.int 0) n1 p6] p7) p8) (.Constant (.int 0) n2 p9) p10] [] p11) p12,
      .Return (some (.List [.IfExp (.Compare (.Name "cell" q1) [.GtE] [.BinOp (.Constant (.int 10) n3 q2) .Pow (.Constant (.int 18) n4 q3) q4] q5) (.BinOp (.Name "cell" q6) .FloorDiv (.Constant (.int k.q) n5 q7) q8) (.Constant (.int 0) n6 q9) q10,
        .BinOp (.BinOp (.Call (.Name "int" q11) [.BinOp (.BinOp (.Name "cell" q12) .Mult (.Constant (.int k.a) n7 q13) q14) .Add (.Constant (.int k.b) n8 q15) q16] [] q17) .Mod (.Constant (.int k.m) n9 q18) q19) .Add (.Constant (.int k.e) n10 q20) q21] q22)) q23])
    (hn : (glB sc "abs" && glB sc "list" && glB sc "int" && stB ["script", "cell"] sc 1 "cell" && nmB ["script", "cell"] sc 1 "cell" && nmB ["script", "cell"] sc 0 "script") = true) : FnOk P w K mg base (L2.CX P w) 1 f fd ["script"] (spCup k K) := by
  subst hb
  obtain ⟨hn, hscr⟩ := and2 hn
  obtain ⟨hn, hcl⟩ := and2 hn
  obtain ⟨hn, hst⟩ := and2 hn
  obtain ⟨hn, hgi⟩ := and2 hn
  obtain ⟨hga, hgl⟩ := and2 hn
  refine F.okc S (fun vs H Q E q => ?_) fun cdv A outer s H vs Q E hcd hr q => ?_
  · obtain ⟨a, ns, rfl, _⟩ := q
    rfl
  obtain ⟨a, ns, rfl, hs, hl, hq⟩ := q
  have hok := hk
  unfold CupC.ok at hok
  simp only [Bool.and_eq_true, decide_eq_true_eq] at hok
  obtain ⟨⟨⟨⟨k1, k2⟩, k3⟩, k4⟩, k5⟩ := hok
  have un : (A.deeper (envOfC qual sc s.heap.objs.size f cdv)).units + 64 < cLine := hr.units
  have fr : ∀ {y : Str}, y ∈ bNames → mg y = none := fun h => free _ h
  generalize hX : cxOf (L2.CX P w) P w K mg base (["script", "cell"] : List Str) qual sc f cdv A outer s H E = X
  have eN : X.N = (["script", "cell"] : List Str) := by rw [← hX]; rfl
  have eS : X.env.scope = sc := by rw [← hX]; rfl
  have eM : X.mg = mg := by rw [← hX]; rfl
  have eK : X.K = K := by rw [← hX]; rfl
  have eC : X.calm = true := by rw [← hX]; rfl
  have eF : X.fn = fun _ => true := by rw [← hX]; rfl
  have vS : PE X (.Name "script" p4) (tVar 0) := e_var (by rw [eN, eS]; exact hscr)
  have vC : ∀ p, PE X (.Name "cell" p) (tW 0 (fun _ => 0) (aCell (cellA ns)) (.int (cellA ns))) := fun p => w_var (i := 1) (e_var (by rw [eN, eS]; exact hcl)) fun _ _ h => h
  have gl : ∀ {y : Str}, glB sc y = true → Gl X y := fun h => gl_is (by rw [eS]; exact h)
  have h1 : PE X (.Call (.Name "list" p3) [.Name "script" p4] [] p5) (tW 0 (fun _ => 0) (aScr K a ns) (.list (ns.map PyData.int))) := (pe_callTy call_list_of (gl hgl) (by rw [eM]; exact fr (by decide)) rfl (pa_cons vS pa_nil)).imp fun σ H Q q => by
    obtain ⟨⟨a1, a2⟩, F, fh, kk⟩ := q
    refine ⟨.ref a, a1, a, ns.map V.int, rfl, .inl (by rw [eK]; exact a2), fun l hl => ?_⟩
    have hz : (ns.map V.int).length ≤ sizeLine := by rw [List.length_map]; omega
    exact kk _ _ _ (.one fh hl) (.lst upd_same hz (rp_allI ns))
  have hz : (ns.map PyData.int).length + [PyData.int 0].length ≤ sizeLine := by rw [List.length_map]; exact hl
  have h2 := w_bin (X := X) (ca := 0) (fa := fun _ => 0) (pos := p8) (r := addD) r_add mScr h1 (w_one (pos := p7) rfl (w_int (i := 0) (k := n1) (pos := p6))) (if_pos hz)
  have h3 : PE X (.Subscript (.BinOp (.Call (.Name "list" p3) [.Name "script" p4] [] p5) .Add (.List [.Constant (.int 0) n1 p6] p7) p8) (.Constant (.int 0) n2 p9) p10) (tW 0 (fun _ => 0) (aScr K a ns) (.int (cellOf ns))) :=
    (pe_idx (by rw [← hX]; exact Nat.lt_of_le_of_lt (Nat.le_add_right _ 63) un) h2 (w_int (i := 0) (k := n2) (pos := p9)) (plainIx rfl)).imp fun _ _ _ q => w_two mScr (at0 ns) q
  have h4 : PE X (.Call (.Name "abs" p2) [_] [] p11) (tW 0 (fun _ => 0) (aScr K a ns) (.int (cellA ns))) := (pe_callB c_abs (gl hga) (by rw [eM]; exact fr (by decide)) rfl (pa_cons h3 pa_nil)).imp fun _ _ _ q => w_cb rfl q
  have m := mCell (z := cellA ns)
  have p18 : powD (.int 10) (.int 18) = some (.int (10 ^ 18)) := by
    show (if (0 : Int) ≤ 18 ∧ (18 : Int) ≤ 1000000 ∧ (10 : Int).natAbs < 2 ^ 64 then some (PyData.int (10 ^ (18 : Int).toNat)) else none) = _
    rw [if_pos (by decide)]
    rfl
  have c1 := w_bin (X := X) (ca := 0) (fa := fun _ => 0) (pos := q4) (r := powD) (z := .int (10 ^ 18)) r_pow m (w_int (i := 10) (k := n3) (pos := q2)) (w_int (i := 18) (k := n4) (pos := q3)) p18
  have c2 := w_cmp (X := X) (ca := 0) (fa := fun _ => 0) (pos := q5) (b := decide ((10 : Int) ^ 18 ≤ cellA ns)) r_ge m (vC q1) c1 rfl rfl
  have c3 := w_bin (X := X) (ca := 0) (fa := fun _ => 0) (pos := q8) (r := fdivD) r_fdiv m (vC q6) (w_int (i := k.q) (k := n5) (pos := q7)) (if_pos ⟨k1, k2⟩)
  have c4 := w_ite (X := X) (ca := 0) (fa := fun _ => 0) (pos := q10) m c2 c3 (w_int (i := 0) (k := n6) (pos := q9))
  have e4 : (if decide ((10 : Int) ^ 18 ≤ cellA ns) = true then PyData.int (cellA ns / k.q) else PyData.int 0) = PyData.int (cupOf k ns).1 := by
    unfold cupOf
    by_cases z : (10 : Int) ^ 18 ≤ cellA ns
    · rw [if_pos (decide_eq_true z)]
      show _ = PyData.int (if _ then _ else _)
      rw [if_pos z]
    · rw [if_neg (by rw [decide_eq_false z]; exact Bool.false_ne_true)]
      show _ = PyData.int (if _ then _ else _)
      rw [if_neg z]
  rw [e4] at c4
  have c5 := w_bin (X := X) (ca := 0) (fa := fun _ => 0) (pos := q14) (r := mulB) r_mul m (vC q12) (w_int (i := k.a) (k := n7) (pos := q13)) (if_pos (decide_eq_true (.inr ⟨k3, k4⟩)))
  have c6 := w_bin (X := X) (ca := 0) (fa := fun _ => 0) (pos := q16) (r := addD) r_add m c5 (w_int (i := k.b) (k := n8) (pos := q15)) rfl
  have c7 : PE X (.Call (.Name "int" q11) [_] [] q17) (tW 0 (fun _ => 0) (aCell (cellA ns)) (.int (cellA ns * k.a + k.b))) := (pe_callTy c_int (gl hgi) (by rw [eM]; exact fr (by decide)) rfl (pa_cons c6 pa_nil)).imp fun _ _ _ q => w_cb rfl q
  have c8 := w_bin (X := X) (ca := 0) (fa := fun _ => 0) (pos := q19) (r := modD) r_mod m c7 (w_int (i := k.m) (k := n9) (pos := q18)) (if_pos k5)
  have c9 : PE X _ (tW 0 (fun _ => 0) (aCell (cellA ns)) (.int (cupOf k ns).2)) := w_bin (X := X) (ca := 0) (fa := fun _ => 0) (pos := q21) (r := addD) r_add m c8 (w_int (i := k.e) (k := n10) (pos := q20)) rfl
  have hl2 := stB_of hst
  refine ⟨_, pss_cons (ps_set (i := 1) (by rw [eN]; exact S.nd) (by rw [eN]; exact hl2.1) (by rw [eS]; exact hl2.2) h4 rfl (.inl (by rw [eF]))) (pss_one (ps_ret (pe_lst (pa_cons c4 (pa_cons c9 pa_nil))))), ?_⟩
  refine ⟨⟨rfl, hs⟩, fun _ => none, (fun _ _ z => by cases z), fun v F1 H1 g1 r1 => ?_⟩
  cases r1
  refine ⟨rfl, F1, g1.fh, fun v F2 H2 g2 r2 => ?_⟩
  cases r2
  refine ⟨rfl, F2, g2.fh, fun v F3 H3 g3 r3 => ?_⟩
  cases r3
  have g := g1.trans (g2.trans g3)
  exact ⟨show 2 ≤ sizeLine by decide, fun p hp => hq p _ (g.ext.none hp) (g.ext.trans (Sub.upd hp)) upd_same⟩

/-- what a law promises -/
def spLaw (T : List (Addr × Str)) (K : PySem.W.Frag) : Sp := fun vs H Q _ => ∃ (a : Addr) (ns : List Int), vs = [.ref a] ∧ ns.length ≤ 63 ∧ (∀ p ∈ T, H p.1 = some (.tbl #[])) ∧ SqL K H a (ns.map V.int) ∧ ∀ H', Q (.bl true) H'
def lawEn (n : Nat) : En := (List.replicate n Sl.no).set 1 (.da cupD)
theorem gs_law {p : Addr} {fa : Nat → Addr} {T : List (Addr × Str)} {H : Hp} {c : Cup} {N : List Str} {vs : List V} (hv : vs.length ≤ N.length) (hp : H p = some (.lst [.int c.1, .int c.2])) (ht : LamX.Tabs T H) : GS ⟨p, fa, T, fun _ => none, H⟩ (fun _ => none) (lawEn N.length) c ((L2.start N vs).set 1 (some (.ref p))) H where
  st := {
    ext := fun _ _ _ _ e => e
    tb := fun _ ps _ e => ⟨ps, e⟩
    ff := .refl _
    fh := fun _ _ e => by cases e
    new := fun _ _ e => .inl e
    cup := hp
    tabs := ht }
  fca := ⟨rfl, fun _ _ => rfl⟩
  sl := fun i s e => by
    have ll : (L2.start N vs).length = N.length := by
      unfold L2.start
      rw [List.length_append, List.length_map, List.length_replicate]
      omega
    rcases set_get e with ⟨rfl, rfl, hl⟩ | ⟨hne, e⟩
    · exact ⟨some (.ref p), List.getElem?_set_self (by rw [ll]; rw [List.length_replicate] at hl; exact hl), _, rfl, .cup⟩
    · rw [List.getElem?_replicate] at e
      split at e
      · rename_i h
        cases e
        rw [List.getElem?_set_ne hne]
        rw [← ll] at h
        exact ⟨_, List.getElem?_eq_getElem h, trivial⟩
      · cases e
  dis := fun i j d e a _ h => by
    rcases set_get h with ⟨rfl, z, hl⟩ | ⟨hne, h⟩
    · cases z
    · rw [List.getElem?_replicate] at h
      split at h <;> cases h
theorem law_ok {k : CupC} {C : Tx} {T : List (Addr × Str)} {fa : Nat → Addr} {tab : List Df} {x qual : Str} {params : Arguments} {body rest : List Stmt} {sc : Scope} {N : List Str} {f fc : Addr} {fd fdc : FuncData} {lam : Bool} {ss : Ss} {n : Nat} {p1 p2 p3 p4 p5 : Pos} (m : MOk K mg base C T fa tab)
    (F : FunD K x qual params body sc [] [] f fd) (S : FnScope N ["script"] sc) (hb : body = .Assign [.Name "cup" p1] (.Call (.Name "_law_cup" p2) [.Name "script" p3] [] p4) p5 :: rest) (hn : (stB N sc 1 "cup" && nmB N sc 0 "script" && glB sc "_law_cup") = true) (htr : trSs { C with lam := lam } N sc ss rest = true)
    (hlam : lam = true → LamAt mg base T qual fd) (h1 : mg "_law_cup" = some (.ref fc)) (h2 : PySem.W.keepIn K (.ref fc) = true) (h3 : FnOk P w K mg base (L2.CX P w) 1 fc fdc ["script"] (spCup k K)) (h4 : Binds K fdc ["script"] [])
    (hl : ∀ ns : List Int, ns.length ≤ 63 → ∃ c', M.bnd (evSs (run tab (n + 1)) ss (lawEn N.length)) endF (cupOf k ns) = .ok (.bool true) c') : FnOk P w K mg base (L2.CX P w) (n + 2) f fd ["script"] (spLaw T K) := by
  subst hb
  obtain ⟨hn, hg⟩ := and2 hn
  obtain ⟨hst, hsc⟩ := and2 hn
  refine F.okc S (fun vs H Q E q => ?_) fun cdv A outer s H vs Q E hcd hr q => ?_
  · obtain ⟨a, ns, rfl, _⟩ := q
    rfl
  obtain ⟨a, ns, rfl, hlen, hT, hs, hq⟩ := q
  have so := fun ca He => cok (P := P) (w := w) (ca := ca) (F := fun _ => none) (H := H) (He := He) (E := E) (A := A) (outer := outer) (s := s) (f := f) m (fns_ok (ca := ca) m (n + 1)) S hcd hr hlam
  have tk := (so 0 H).co.tk
  have hst2 := stB_of hst
  have hloc := (so 0 H).st _ hst2.2
  have b1 := ps_set (pos := p5) (pos' := p1) (i := 1) (so 0 H).co.nd hst2.1 hloc.1 (pe_callSD (p := p2) (pos := p4) (h3.mono (Nat.succ_le_succ (Nat.zero_le n))) (so 0 H).co.room (gl_is hg) h1 h2 h4 .nil (passAt tk) (pa_cons (e_var (pos := p3) hsc) pa_nil)) rfl hloc.2
  have b2 : PSs (cxOf (L2.CX P w) P w K mg base N qual sc f cdv A outer s H E) rest (fun D σ H1 => ∃ ca He, tSt ⟨ca, fa, T, fun _ => none, He⟩ K (fun cls d _ H => E cls d H) (evSs (run tab (n + 1)) ss) D σ H1) :=
    ⟨fun pins s1 σ H1 D I ⟨ca, He, q⟩ => (sSs ss (so ca He) htr).run pins s1 σ H1 D I q⟩
  refine ⟨_, pss_cons b1 b2, .ref a, rfl, a, ns, rfl, hs, Nat.lt_of_le_of_lt hlen (by decide), fun p H1 hp e1 hc => ?_⟩
  have hN : 1 ≤ N.length := by
    have := congrArg List.length S.pre
    rw [List.length_take] at this
    have : min 1 N.length = 1 := this
    omega
  refine ⟨p, H1, fun _ => none, lawEn N.length, cupOf k ns, gs_law hN hc fun q hq => (LamX.TabS.nil (hT q hq)).ext e1, ?_⟩
  obtain ⟨c', hr⟩ := hl ns hlen
  unfold M.bnd at hr
  cases e : evSs (run tab (n + 1)) ss (lawEn N.length) (cupOf k ns) with
  | err => rw [e] at hr; cases hr
  | exc y c1 => rw [e] at hr; cases hr
  | ok fl c1 =>
    rw [e] at hr
    cases fl with
    | nx ρ => cases hr
    | bk ρ => cases hr
    | ct ρ => cases hr
    | rt d =>
      have hd : d = .bool true := by cases hr; rfl
      subst hd
      intro v F' H' s' rp
      cases rp
      exact hq H'
end
end
end FS

-- part FsHead
set_option Elab.async false
set_option linter.all false
set_option maxRecDepth 100000
set_option maxHeartbeats 4000000
/-! A law's end: from the head's facts, by tables. -/
namespace FS
open PySem PySem.Spec PyProof.Rows L2

structure Row where
  d : He.DefD
  ps : List Str
  N : List Str
  lam : Bool
  ss : Ss
structure Prog where
  rows : List Row
  gl : List (Str × D)
  cup : He.DefD
  law : Row
  k : CupC
def scB (N ps : List Str) (sc : Scope) : Bool := decide (sc.kind = .function) && !sc.isCoroutine && !sc.isGenerator && decide N.Nodup && decide (N.take ps.length = ps) && (ps.all fun x => decide (sc.names.lookup x = some .local) || decide (sc.names.lookup x = some .cell)) && sc.names.all fun y => decide (y.2 ≠ .free)
theorem scB_ok {N ps : List Str} {sc : Scope} (h : scB N ps sc = true) : FnScope N ps sc := by
  obtain ⟨h, h7⟩ := and2 h
  obtain ⟨h, h6⟩ := and2 h
  obtain ⟨h, h5⟩ := and2 h
  obtain ⟨h, h4⟩ := and2 h
  obtain ⟨h, h3⟩ := and2 h
  obtain ⟨h1, h2⟩ := and2 h
  refine ⟨of_decide_eq_true h1, by simpa using h2, by simpa using h3, of_decide_eq_true h4, of_decide_eq_true h5, fun x hx => ?_, fun y hy => of_decide_eq_true (List.all_eq_true.mp h7 y hy)⟩
  have := List.all_eq_true.mp h6 x hx
  simp only [Bool.or_eq_true, decide_eq_true_eq] at this
  exact this
def plainD (d : He.DefD) : Bool := d.at_.2.isNone && d.dfl.isEmpty && d.kwd.isEmpty
def Row.chk (C : Tx) (r : Row) : Bool := plainD r.d && scB r.N r.ps r.d.scope && trSs { C with lam := r.lam } r.N r.d.scope r.ss r.d.body
def BindP (ps : List Str) (d : He.DefD) : Prop := ∀ (kV doc pm : Value) (an : Option Addr) (cdv ct : Value) (us : List Value), us.length = ps.length → bindArgs (PySem.W.fnOf d.name d.qual d.params d.body d.scope .none kV doc pm an cdv ct) ⟨us, []⟩ = pure (ps.zip us)
def BindAll : List Row → Prop
  | [] => True
  | r :: rs => BindP r.ps r.d ∧ BindAll rs
theorem BindAll.of : ∀ {rs : List Row} {r : Row}, BindAll rs → r ∈ rs → BindP r.ps r.d
  | _ :: _, _, h, .head _ => h.1
  | _ :: _, _, h, .tail _ m => BindAll.of h.2 m
def glFa (p : Str × D) : He.Fa := match p.2 with
  | .int i => .int p.1 i
  | .str z => .str p.1 z
  | _ => .free p.1
def glB2 (p : Str × D) : Bool := match p.2 with
  | .int _ => true
  | .str _ => true
  | _ => false
namespace Prog
variable (p : Prog)
def C : Tx := ⟨p.rows.map (·.d.at_.1), p.gl, false⟩
def tab : List Df := p.rows.map fun r => ⟨r.ps.length, r.N.length, r.ss⟩
def fn : List He.DefD := p.rows.map (·.d) ++ [p.cup, p.law.d]
def fa : List He.Fa := p.rows.map (fun r => .glo r.d.at_.1) ++ (bNames.map .free ++ (p.gl.map glFa ++ [.glo p.cup.at_.1, .glo p.law.d.at_.1]))
def lams : List Row := (p.rows ++ [p.law]).filter (·.lam)
def tf : List He.Defn := p.lams.map (·.d.at_)
def ex (K : PySem.W.Frag) : Bool := decide (p.tf.map fun q => (He.cT K q).2).Nodup
def T (K : PySem.W.Frag) : List (Addr × Str) := p.lams.map fun r => ((He.cT K r.d.at_).2, r.d.qual ++ ".<locals>." ++ "<lambda>")
def ad (K : PySem.W.Frag) (i : Nat) : Addr := match p.rows[i]? with
  | some r => He.fAd K r.d.at_
  | none => 0
def chk : Bool := (p.rows.all fun r => r.chk p.C) && p.gl.all glB2 && plainD p.cup && scB ["script", "cell"] ["script"] p.cup.scope && plainD p.law.d && scB p.law.N ["script"] p.law.d.scope && trSs { p.C with lam := p.law.lam } p.law.N p.law.d.scope p.law.ss p.law.d.body.tail
  && (stB p.law.N p.law.d.scope 1 "cup" && nmB p.law.N p.law.d.scope 0 "script" && glB p.law.d.scope "_law_cup") && decide (p.cup.at_.1 = "_law_cup") && p.k.ok
  && (glB p.cup.scope "abs" && glB p.cup.scope "list" && glB p.cup.scope "int" && stB ["script", "cell"] p.cup.scope 1 "cell" && nmB ["script", "cell"] p.cup.scope 1 "cell" && nmB ["script", "cell"] p.cup.scope 0 "script")
end Prog
theorem uniq_of {α β γ : Type} {f : α → β} {q : α → γ} : ∀ {L : List α}, (L.map f).Nodup → ∀ {a b : α}, a ∈ L → b ∈ L → f a = f b → q a = q b
  | x :: L, h, a, b, ha, hb, e => by
    rw [List.map_cons, List.nodup_cons] at h
    rcases List.mem_cons.mp ha with rfl | ha'
    · rcases List.mem_cons.mp hb with rfl | hb'
      · rfl
      · exact absurd (e ▸ List.mem_map_of_mem hb') h.1
    · rcases List.mem_cons.mp hb with rfl | hb'
      · exact absurd (e ▸ List.mem_map_of_mem ha') h.1
      · exact uniq_of h.2 ha' hb' e
section
variable {p : Prog} {P : Program} {w : World} {K : PySem.W.Frag} {mg : Str → Option Value} {base h : Heap}
theorem at_ok {d : He.DefD} {fd : FuncData} (X : K.In base) (G : base.Ns mainGlobals mg) (hp : plainD d = true) (hg : (He.Fa.glo d.at_.1).ok K = true) (F : FunD K d.name d.qual d.params d.body d.scope (d.dvs K) (d.kws K) (He.fAd K d.at_) fd) :
    mg d.at_.1 = some (.ref (He.fAd K d.at_)) ∧ FunD K d.name d.qual d.params d.body d.scope [] [] (He.fAd K d.at_) fd := by
  obtain ⟨h, h3⟩ := and2 hp
  obtain ⟨h1, h2⟩ := and2 h
  obtain ⟨⟨x, o⟩, nm, ql, pr, bd, sc, dfl, kwd⟩ := d
  cases o with
  | some _ => cases h1
  | none =>
    cases dfl with
    | cons _ _ => cases h2
    | nil =>
      cases kwd with
      | cons _ _ => cases h3
      | nil => exact ⟨He.glo_ok X G hg, F⟩
theorem lam_at {r : Row} {fd : FuncData} {f : Addr} (hr : r ∈ p.lams) (hf : f = He.fAd K r.d.at_) (F : FunD K r.d.name r.d.qual r.d.params r.d.body r.d.scope [] [] f fd) (hex : p.ex K = true) (tb : ∀ q ∈ p.tf.map (He.cT K), LamX.TabB base mg q.1 q.2) : LamAt mg base (p.T K) r.d.qual fd := by
  subst hf
  obtain ⟨oc, od, dV, kV, doc, pm, an, cdv, ct, osl, rfl, lk, hcd, _, _⟩ := F.ex
  obtain ⟨c, rfl⟩ := He.codeIn_ref hcd
  have e := He.codeOf_eq lk (c := c) rfl
  have t1 := tb (He.cT K r.d.at_) (List.mem_map_of_mem (List.mem_map_of_mem hr))
  refine ⟨c, (He.cT K r.d.at_).2, by rw [← e]; exact t1, rfl, List.mem_map_of_mem (f := fun r : Row => ((He.cT K r.d.at_).2, r.d.qual ++ ".<locals>." ++ "<lambda>")) hr, fun q hq e1 => ?_⟩
  obtain ⟨r', hr', rfl⟩ := List.mem_map.mp hq
  have nd : (p.lams.map fun r => (He.cT K r.d.at_).2).Nodup := by
    have := of_decide_eq_true hex
    unfold Prog.tf at this
    rw [List.map_map] at this
    exact this
  exact uniq_of (q := fun r : Row => r.d.qual ++ ".<locals>." ++ "<lambda>") nd hr' hr e1
theorem mok (hchk : p.chk = true) (hb : BindAll p.rows) (X : K.In base) (G : base.Ns mainGlobals mg) (c : He.SaysD p.fa p.fn K) (hex : p.ex K = true) (tb : ∀ q ∈ p.tf.map (He.cT K), LamX.TabB base mg q.1 q.2) : MOk K mg base p.C (p.T K) (p.ad K) p.tab where
  defs := fun i x hx => by
    obtain ⟨hchk, _⟩ := and2 hchk
    obtain ⟨hchk, _⟩ := and2 hchk
    obtain ⟨hchk, _⟩ := and2 hchk
    obtain ⟨hchk, _⟩ := and2 hchk
    obtain ⟨hchk, _⟩ := and2 hchk
    obtain ⟨hchk, _⟩ := and2 hchk
    obtain ⟨hchk, _⟩ := and2 hchk
    obtain ⟨hchk, _⟩ := and2 hchk
    obtain ⟨hchk, _⟩ := and2 hchk
    obtain ⟨hchk, _⟩ := and2 hchk
    have hx : (p.rows.map (·.d.at_.1))[i]? = some x := hx
    rw [List.getElem?_map] at hx
    cases hr : p.rows[i]? with
    | none => rw [hr] at hx; cases hx
    | some r =>
      rw [hr] at hx
      cases hx
      have hm := List.mem_of_getElem? hr
      have hk := List.all_eq_true.mp hchk r hm
      obtain ⟨hk, k3⟩ := and2 hk
      obtain ⟨k1, k2⟩ := and2 hk
      have ea : p.ad K i = He.fAd K r.d.at_ := by
        unfold Prog.ad
        rw [hr]
      obtain ⟨fd, F⟩ := c.defs (d := r.d) (List.mem_append_left _ (List.mem_map_of_mem (f := fun r : Row => r.d) hm))
      obtain ⟨a1, a2⟩ := at_ok X G k1 (c.facts (List.mem_append_left _ (List.mem_map_of_mem (f := fun r : Row => He.Fa.glo r.d.at_.1) hm))) F
      refine ⟨⟨r.ps.length, r.N.length, r.ss⟩, ?_, ?_⟩
      · unfold Prog.tab
        rw [List.getElem?_map, hr]
        rfl
      · refine ⟨by rw [ea]; exact a1, fd, r.d.name, r.d.qual, r.d.params, r.d.body, r.d.scope, r.N, r.ps, r.lam, rfl, rfl, by rw [ea]; exact a2, scB_ok k2, a2.bindsN (hb.of hm), k3, fun hl => ?_⟩
        exact lam_at (List.mem_filter.mpr ⟨List.mem_append_left _ hm, hl⟩) rfl a2 hex tb
  gl := fun q hq => by
    obtain ⟨hchk, _⟩ := and2 hchk
    obtain ⟨hchk, _⟩ := and2 hchk
    obtain ⟨hchk, _⟩ := and2 hchk
    obtain ⟨hchk, _⟩ := and2 hchk
    obtain ⟨hchk, _⟩ := and2 hchk
    obtain ⟨hchk, _⟩ := and2 hchk
    obtain ⟨hchk, _⟩ := and2 hchk
    obtain ⟨hchk, _⟩ := and2 hchk
    obtain ⟨hchk, _⟩ := and2 hchk
    have g1 := List.all_eq_true.mp (and2 hchk).2 q hq
    have g2 := c.facts (f := glFa q) (List.mem_append_right _ (List.mem_append_right _ (List.mem_append_left _ (List.mem_map_of_mem hq))))
    obtain ⟨x, d⟩ := q
    cases d with
    | int i =>
      obtain ⟨t, e⟩ := He.int_ok X G (x := x) (i := i) g2
      exact ⟨_, e, t, rfl⟩
    | str z =>
      obtain ⟨t, e⟩ := He.str_ok X G (x := x) (z := z) g2
      exact ⟨_, e, t, rfl⟩
    | _ => cases g1
  free := fun x hx => He.free_ok X G (c.facts (List.mem_append_right _ (List.mem_append_left _ (List.mem_map_of_mem hx))))
/-- the cup's text -/
def cupChk (k : CupC) : List Stmt → Bool
  | [.Assign [.Name x1 _] (.Call (.Name x2 _) [.Subscript (.BinOp (.Call (.Name x3 _) [.Name x4 _] [] _) .Add (.List [.Constant (.int i1) _ _] _) _) (.Constant (.int i2) _ _) _] [] _) _,
      .Return (some (.List [.IfExp (.Compare (.Name x5 _) [.GtE] [.BinOp (.Constant (.int i3) _ _) .Pow (.Constant (.int i4) _ _) _] _) (.BinOp (.Name x6 _) .FloorDiv (.Constant (.int i5) _ _) _) (.Constant (.int i6) _ _) _,
        .BinOp (.BinOp (.Call (.Name x7 _) [.BinOp (.BinOp (.Name x8 _) .Mult (.Constant (.int i7) _ _) _) .Add (.Constant (.int i8) _ _) _] [] _) .Mod (.Constant (.int i9) _ _) _) .Add (.Constant (.int i10) _ _) _] _)) _] =>
    decide (x1 = "cell") && decide (x2 = "abs") && decide (x3 = "list") && decide (x4 = "script") && decide (x5 = "cell") && decide (x6 = "cell") && decide (x7 = "int") && decide (x8 = "cell")
      && decide (i1 = 0) && decide (i2 = 0) && decide (i3 = 10) && decide (i4 = 18) && decide (i5 = k.q) && decide (i6 = 0) && decide (i7 = k.a) && decide (i8 = k.b) && decide (i9 = k.m) && decide (i10 = k.e)
  | _ => false
/-- the law's first row -/
def lawChk : List Stmt → Bool
  | .Assign [.Name x1 _] (.Call (.Name x2 _) [.Name x3 _] [] _) _ :: _ => decide (x1 = "cup") && decide (x2 = "_law_cup") && decide (x3 = "script")
  | _ => false
theorem cupChk_ok {k : CupC} {body : List Stmt} (h : cupChk k body = true) : ∃ (p1 p2 p3 p4 p5 p6 p7 p8 p9 p10 p11 p12 q1 q2 q3 q4 q5 q6 q7 q8 q9 q10 q11 q12 q13 q14 q15 q16 q17 q18 q19 q20 q21 q22 q23 : Pos) (n1 n2 n3 n4 n5 n6 n7 n8 n9 n10 : Nat),
    body = [.Assign [.Name "cell" p1] (.Call (.Name "abs" p2) [.Subscript (.BinOp (.Call (.Name "list" p3) [.Name "script" p4] [] p5) .Add (.List [.Constant (.int 0) n1 p6] p7) p8) (.Constant (.int 0) n2 p9) p10] [] p11) p12,
      .Return (some (.List [.IfExp (.Compare (.Name "cell" q1) [.GtE] [.BinOp (.Constant (.int 10) n3 q2) .Pow (.Constant (.int 18) n4 q3) q4] q5) (.BinOp (.Name "cell" q6) .FloorDiv (.Constant (.int k.q) n5 q7) q8) (.Constant (.int 0) n6 q9) q10,
        .BinOp (.BinOp (.Call (.Name "int" q11) [.BinOp (.BinOp (.Name "cell" q12) .Mult (.Constant (.int k.a) n7 q13) q14) .Add (.Constant (.int k.b) n8 q15) q16] [] q17) .Mod (.Constant (.int k.m) n9 q18) q19) .Add (.Constant (.int k.e) n10 q20) q21] q22)) q23] := by
  unfold cupChk at h
  split at h
  case h_2 => cases h
  simp only [Bool.and_eq_true, decide_eq_true_eq] at h
  obtain ⟨⟨⟨⟨⟨⟨⟨⟨⟨⟨⟨⟨⟨⟨⟨⟨⟨h1, h2⟩, h3⟩, h4⟩, h5⟩, h6⟩, h7⟩, h8⟩, h9⟩, h10⟩, h11⟩, h12⟩, h13⟩, h14⟩, h15⟩, h16⟩, h17⟩, h18⟩ := h
  subst h1 h2 h3 h4 h5 h6 h7 h8 h9 h10 h11 h12 h13 h14 h15 h16 h17 h18
  exact ⟨_, _, _, _, _, _, _, _, _, _, _, _, _, _, _, _, _, _, _, _, _, _, _, _, _, _, _, _, _, _, _, _, _, _, _, _, _, _, _, _, _, _, _, _, _, rfl⟩
theorem lawChk_ok {body : List Stmt} (h : lawChk body = true) : ∃ r1 r2 r3 r4 r5 : Pos, body = .Assign [.Name "cup" r1] (.Call (.Name "_law_cup" r2) [.Name "script" r3] [] r4) r5 :: body.tail := by
  unfold lawChk at h
  split at h
  case h_2 => cases h
  simp only [Bool.and_eq_true, decide_eq_true_eq] at h
  obtain ⟨⟨h1, h2⟩, h3⟩ := h
  subst h1 h2 h3
  exact ⟨_, _, _, _, _, rfl⟩
/-- the law, from the head's facts and the evaluated law -/
theorem law_end {l : PySem.W.OpenLaw} {n m : Nat} (hcc : cupChk p.k p.cup.body = true) (hlc : lawChk p.law.d.body = true)
    (hchk : p.chk = true) (hb : BindAll p.rows) (hbl : BindP ["script"] p.law.d) (hbc : BindP ["script"] p.cup) (hm : m ≤ 63)
    (hl : ∀ ns : List Int, ns.length ≤ 63 → ∃ c', M.bnd (evSs (run p.tab (n + 1)) p.law.ss (lawEn p.law.N.length)) endF (cupOf p.k ns) = .ok (.bool true) c')
    {f : Addr} (Y : (He.hookX 4 p.fa p.fn [] p.tf p.ex).says w h) (G : h.Ns mainGlobals mg) (hmg : mg p.law.d.at_.1 = some (.ref f)) : ∃ K : PySem.W.Frag, K.In h ∧ LamX.LawAtS l w K (L2.CX l.prog w) (n + 2) m "script" mg f h := by
  obtain ⟨p1, p2, p3, p4, p5, p6, p7, p8, p9, p10, p11, p12, q1, q2, q3, q4, q5, q6, q7, q8, q9, q10, q11, q12, q13, q14, q15, q16, q17, q18, q19, q20, q21, q22, q23, n1, n2, n3, n4, n5, n6, n7, n8, n9, n10, hcb⟩ := cupChk_ok hcc
  obtain ⟨r1, r2, r3, r4, r5, hlb⟩ := lawChk_ok hlc
  obtain ⟨K, X, Y⟩ := Y
  have c := Y.t.d
  refine ⟨K, X, ?_⟩
  obtain ⟨fdl, Fl⟩ := c.defs (d := p.law.d) (List.mem_append_right _ (List.mem_cons_of_mem _ List.mem_cons_self))
  obtain ⟨fdc, Fc⟩ := c.defs (d := p.cup) (List.mem_append_right _ List.mem_cons_self)
  have gl1 := c.facts (f := .glo p.law.d.at_.1) (List.mem_append_right _ (List.mem_append_right _ (List.mem_append_right _ (List.mem_cons_of_mem _ List.mem_cons_self))))
  have gl2 := c.facts (f := .glo p.cup.at_.1) (List.mem_append_right _ (List.mem_append_right _ (List.mem_append_right _ List.mem_cons_self)))
  have hc := hchk
  obtain ⟨hc, c11⟩ := and2 hc
  obtain ⟨hc, c10⟩ := and2 hc
  obtain ⟨hc, c9⟩ := and2 hc
  obtain ⟨hc, c8⟩ := and2 hc
  obtain ⟨hc, c7⟩ := and2 hc
  obtain ⟨hc, c6⟩ := and2 hc
  obtain ⟨hc, c5⟩ := and2 hc
  obtain ⟨hc, c4⟩ := and2 hc
  obtain ⟨hc, c3⟩ := and2 hc
  obtain ⟨a1, a2⟩ := at_ok X G c5 gl1 Fl
  have ef : f = He.fAd K p.law.d.at_ := by
    have := hmg.symm.trans a1
    cases this
    rfl
  have hbind := FunD.bindsA (ps := ["script"]) a2 hbl
  refine ⟨fdl, p.tf.map (He.cT K), spLaw (p.T K) K, fun q hq => ?_, fun q hq => ?_, fun q hq => ?_, fun s v => hbind s [v] rfl, fun H a ns hlen _ hT hS => ?_, fun base X G tb => ?_⟩
  · obtain ⟨q', hq', rfl⟩ := List.mem_map.mp hq
    exact Y.empty q' hq'
  · obtain ⟨q', hq', rfl⟩ := List.mem_map.mp hq
    exact Y.out q' hq'
  · obtain ⟨q', hq', rfl⟩ := List.mem_map.mp hq
    exact PySem.W.codeHd_of_K X (Y.hd q' hq')
  · refine ⟨a, ns, rfl, Nat.le_trans hlen hm, fun q hq => ?_, hS, fun _ => rfl⟩
    obtain ⟨r, hr, rfl⟩ := List.mem_map.mp hq
    exact hT (He.cT K r.d.at_) (List.mem_map_of_mem (List.mem_map_of_mem hr))
  · obtain ⟨a1, a2⟩ := at_ok X G c5 gl1 Fl
    obtain ⟨b1, b2⟩ := at_ok X G c3 gl2 Fc
    have M := mok hchk hb X G c Y.more tb
    have hcn : p.cup.at_.1 = "_law_cup" := of_decide_eq_true c9
    rw [hcn] at b1
    rw [ef]
    exact law_ok M a2 (scB_ok c6) hlb c8 c7 (fun hl => lam_at (List.mem_filter.mpr ⟨List.mem_append_right _ List.mem_cons_self, hl⟩) rfl a2 Y.more tb) b1 b2.kp (cup_ok b2 (scB_ok c4) c10 M.free hcb c11) (b2.bindsN hbc) hl
end
end FS

-- part FtBody
set_option Elab.async false
set_option linter.all false
/-! The texts of the defs, each a function of the numbers of those that it calls. -/
namespace FS
open PySem
def b_is_whole : Ss := (.cons (.ret (.and (.cons (.isi "int" (.var 0)) (.cons (.not (.isi "bool" (.var 0))) .nil)))) .nil)
def b_fits_whole (c_is_whole : Nat) : Ss := (.cons (.ret (.and (.cons (.call c_is_whole (.cons (.var 0) .nil)) (.cons (.chn .le .le (.var 1) (.var 0) (.var 2)) .nil)))) .nil)
def b_is_tuple_of : Ss := (.cons (.ret (.and (.cons (.isi "tuple" (.var 0)) (.cons (.chn .le .le (.var 1) (.bi .len (.cons (.var 0) .nil)) (.var 2)) .nil)))) .nil)
def b_is_rising : Ss := (.cons (.ret (.bi .all (.cons (.comp [("one", 1), ("other", 2)] (.tup [1, 2]) (.zip (.var 0) (.slc (.var 0) (.cons (.int 1) .nil) .nil)) .nil (.cmp .lt (.var 1) (.var 2))) .nil))) .nil)
def b_fits_name : Ss := (.cons (.ite (.or (.cons (.not (.isi "str" (.var 0))) (.cons (.not (.chn .le .le (.int 1) (.bi .len (.cons (.var 0) .nil)) (.gc "NAME" (.int 12)))) (.cons (.cmp .nin (.idx (.var 0) (.int 0)) (.gc "LETTERS" (.str "abcdefghijklmnopqrstuvwxyz"))) .nil)))) (.cons (.ret (.bl false)) .nil) .nil) (.cons (.ret (.bi .all (.cons (.comp [("sign", 1)] (.one 1) (.val (.var 0)) .nil (.cmp .isin (.var 1) (.bop .add (.gc "LETTERS" (.str "abcdefghijklmnopqrstuvwxyz")) (.gc "DIGITS" (.str "0123456789"))))) .nil))) .nil))
def b_fits_names (c_is_tuple_of c_fits_name : Nat) : Ss := (.cons (.ite (.or (.cons (.not (.call c_is_tuple_of (.cons (.var 0) (.cons (.int 0) (.cons (.var 1) .nil))))) (.cons (.not (.bi .all (.cons (.comp [("name", 2)] (.one 2) (.val (.var 0)) .nil (.call c_fits_name (.cons (.var 2) .nil))) .nil))) .nil))) (.cons (.ret (.bl false)) .nil) .nil) (.cons (.ret (.cmp .eq (.lenset (.var 0)) (.bi .len (.cons (.var 0) .nil)))) .nil))
def b_fits_set (c_is_tuple_of c_fits_whole c_is_rising : Nat) : Ss := (.cons (.ret (.and (.cons (.call c_is_tuple_of (.cons (.var 0) (.cons (.int 0) (.cons (.var 1) .nil)))) (.cons (.bi .all (.cons (.comp [("one", 2)] (.one 2) (.val (.var 0)) .nil (.call c_fits_whole (.cons (.var 2) (.cons (.int 0) (.cons (.bop .sub (.var 1) (.int 1)) .nil))))) .nil)) (.cons (.call c_is_rising (.cons (.var 0) .nil)) .nil))))) .nil)
def b_union_in : Ss := (.cons (.ret (.bi .tuple (.cons (.srtset (.bop .add (.var 0) (.var 1))) .nil))) .nil)
def b_common_in : Ss := (.cons (.ret (.bi .tuple (.cons (.comp [("item", 2)] (.one 2) (.val (.var 0)) (.cons (.cmp .isin (.var 2) (.var 1)) .nil) (.var 2)) .nil))) .nil)
def b_less_in : Ss := (.cons (.ret (.bi .tuple (.cons (.comp [("item", 2)] (.one 2) (.val (.var 0)) (.cons (.cmp .nin (.var 2) (.var 1)) .nil) (.var 2)) .nil))) .nil)
def b_all_in : Ss := (.cons (.ret (.bi .tuple (.cons (.listrng (.cons (.var 0) .nil)) .nil))) .nil)
def b_sets_in_l0 : Ss := (.cons (.set 1 (.bop .add (.var 1) (.comp [("row", 3)] (.one 3) (.val (.var 1)) .nil (.bop .add (.var 3) (.tup (.cons (.var 2) .nil)))))) .nil)
def b_sets_in : Ss := (.cons (.set 1 (.lst (.cons (.tup .nil) .nil))) (.cons (.for (.one 2) (.rng (.cons (.var 0) .nil)) b_sets_in_l0) (.cons (.retlen (.var 1)) .nil)))
def b_fits_family (c_is_tuple_of c_fits_set c_is_rising : Nat) : Ss := (.cons (.ite (.or (.cons (.not (.call c_is_tuple_of (.cons (.var 1) (.cons (.int 0) (.cons (.gc "SETS" (.int 256)) .nil))))) (.cons (.not (.bi .all (.cons (.comp [("own", 2)] (.one 2) (.val (.var 1)) .nil (.call c_fits_set (.cons (.var 2) (.cons (.var 0) .nil)))) .nil))) .nil))) (.cons (.ret (.bl false)) .nil) .nil) (.cons (.ret (.call c_is_rising (.cons (.var 1) .nil))) .nil))
def b_swap_in_l0 (c_union_in c_less_in : Nat) : Ss := (.cons (.ite (.cmp .isin (.call c_union_in (.cons (.call c_less_in (.cons (.var 1) (.cons (.tup (.cons (.var 3) .nil)) .nil))) (.cons (.tup (.cons (.var 4) .nil)) .nil))) (.var 0)) (.cons (.ret (.var 4)) .nil) .nil) .nil)
def b_swap_in (c_union_in c_less_in : Nat) : Ss := (.cons (.for (.one 4) (.val (.call c_less_in (.cons (.var 2) (.cons (.var 1) .nil)))) (b_swap_in_l0 c_union_in c_less_in)) (.cons (.ret .non) .nil))
def b_break_in_l2 (c_swap_in : Nat) : Ss := (.cons (.ite (.cmp .is (.call c_swap_in (.cons (.var 1) (.cons (.var 3) (.cons (.var 4) (.cons (.var 5) .nil))))) .non) (.cons (.ret (.tup (.cons (.var 3) (.cons (.var 4) (.cons (.var 5) .nil))))) .nil) .nil) .nil)
def b_break_in_l1 (c_swap_in c_less_in : Nat) : Ss := (.cons (.for (.one 5) (.val (.call c_less_in (.cons (.var 3) (.cons (.var 4) .nil)))) (b_break_in_l2 c_swap_in)) .nil)
def b_break_in_l0 (c_swap_in c_less_in : Nat) : Ss := (.cons (.for (.one 4) (.val (.var 0)) (b_break_in_l1 c_swap_in c_less_in)) .nil)
def b_break_in (c_swap_in c_less_in : Nat) : Ss := (.cons (.set 1 (.dcomp true [("own", 2)] (.one 2) (.val (.var 0)) .nil (.var 2) (.bl true))) (.cons (.for (.one 3) (.val (.var 0)) (b_break_in_l0 c_swap_in c_less_in)) (.cons (.ret .non) .nil)))
def b_unlike_in : Ss := (.cons (.set 1 (.comp [("own", 2)] (.one 2) (.val (.var 0)) (.cons (.cmp .ne (.bi .len (.cons (.var 2) .nil)) (.bi .len (.cons (.idx (.var 0) (.int 0)) .nil))) .nil) (.var 2))) (.cons (.ret (.ite (.cmp .ne (.var 1) (.lst .nil)) (.idx (.var 1) (.int 0)) .non)) .nil))
def b_is_bases_in (c_unlike_in c_break_in : Nat) : Ss := (.cons (.ret (.and (.cons (.cmp .ne (.var 0) (.tup .nil)) (.cons (.cmp .is (.call c_unlike_in (.cons (.var 0) .nil)) .non) (.cons (.cmp .is (.call c_break_in (.cons (.var 0) .nil)) .non) .nil))))) .nil)
def b_fits_system (c_is_tuple_of c_fits_names c_is_rising c_fits_family c_is_bases_in : Nat) : Ss := (.cons (.ite (.or (.cons (.not (.call c_is_tuple_of (.cons (.var 0) (.cons (.int 2) (.cons (.int 2) .nil))))) (.cons (.not (.call c_fits_names (.cons (.idx (.var 0) (.int 0)) (.cons (.gc "THINGS" (.int 8)) .nil)))) (.cons (.cmp .eq (.idx (.var 0) (.int 0)) (.tup .nil)) (.cons (.not (.call c_is_rising (.cons (.idx (.var 0) (.int 0)) .nil))) .nil))))) (.cons (.ret (.bl false)) .nil) .nil) (.cons (.ret (.and (.cons (.call c_fits_family (.cons (.bi .len (.cons (.idx (.var 0) (.int 0)) .nil)) (.cons (.idx (.var 0) (.int 1)) .nil))) (.cons (.cmp .le (.bi .len (.cons (.idx (.var 0) (.int 1)) .nil)) (.gc "BASES" (.int 70))) (.cons (.call c_is_bases_in (.cons (.idx (.var 0) (.int 1)) .nil)) .nil))))) .nil))
def b_need_system (c_fits_system : Nat) : Ss := (.cons (.ite (.not (.call c_fits_system (.cons (.var 0) .nil))) (.cons .never .nil) .nil) .nil)
def b_things_in : Ss := (.cons (.ret (.bi .len (.cons (.idx (.var 0) (.int 0)) .nil))) .nil)
def b_rank_in (c_common_in : Nat) : Ss := (.cons (.ret (.bi .max (.cons (.comp [("base", 2)] (.one 2) (.val (.idx (.var 0) (.int 1))) .nil (.bi .len (.cons (.call c_common_in (.cons (.var 1) (.cons (.var 2) .nil))) .nil))) .nil))) .nil)
def b_is_free_in (c_rank_in : Nat) : Ss := (.cons (.ret (.cmp .eq (.call c_rank_in (.cons (.var 0) (.cons (.var 1) .nil))) (.bi .len (.cons (.var 1) .nil)))) .nil)
def b_is_circuit_in (c_is_free_in c_less_in : Nat) : Ss := (.cons (.ite (.call c_is_free_in (.cons (.var 0) (.cons (.var 1) .nil))) (.cons (.ret (.bl false)) .nil) .nil) (.cons (.ret (.bi .all (.cons (.comp [("one", 2)] (.one 2) (.val (.var 1)) .nil (.call c_is_free_in (.cons (.var 0) (.cons (.call c_less_in (.cons (.var 1) (.cons (.tup (.cons (.var 2) .nil)) .nil))) .nil)))) .nil))) .nil))
def b_need_things (c_need_system c_fits_set c_things_in : Nat) : Ss := (.cons (.expr (.call c_need_system (.cons (.var 0) .nil))) (.cons (.ite (.not (.call c_fits_set (.cons (.var 1) (.cons (.call c_things_in (.cons (.var 0) .nil)) .nil)))) (.cons .never .nil) .nil) .nil))
def b_is_system (c_fits_system : Nat) : Ss := (.cons (.ret (.call c_fits_system (.cons (.var 0) .nil))) .nil)
def b_sizes_of (c_need_system c_things_in : Nat) : Ss := (.cons (.expr (.call c_need_system (.cons (.var 0) .nil))) (.cons (.ret (.tup (.cons (.call c_things_in (.cons (.var 0) .nil)) (.cons (.bi .len (.cons (.idx (.idx (.var 0) (.int 1)) (.int 0)) .nil)) (.cons (.bi .len (.cons (.idx (.var 0) (.int 1)) .nil)) .nil))))) .nil))
def b_loose_of (c_need_system c_things_in : Nat) : Ss := (.cons (.expr (.call c_need_system (.cons (.var 0) .nil))) (.cons (.ret (.bi .tuple (.cons (.comp [("one", 1)] (.one 1) (.rng (.cons (.call c_things_in (.cons (.var 0) .nil)) .nil)) (.cons (.not (.bi .any (.cons (.comp [("base", 2)] (.one 2) (.val (.idx (.var 0) (.int 1))) .nil (.cmp .isin (.var 1) (.var 2))) .nil))) .nil) (.var 1)) .nil))) .nil))
def b_needed_of (c_need_system c_things_in : Nat) : Ss := (.cons (.expr (.call c_need_system (.cons (.var 0) .nil))) (.cons (.ret (.bi .tuple (.cons (.comp [("one", 1)] (.one 1) (.rng (.cons (.call c_things_in (.cons (.var 0) .nil)) .nil)) (.cons (.bi .all (.cons (.comp [("base", 2)] (.one 2) (.val (.idx (.var 0) (.int 1))) .nil (.cmp .isin (.var 1) (.var 2))) .nil)) .nil) (.var 1)) .nil))) .nil))
def b_alike_lots_l0 (c_is_free_in c_union_in : Nat) : Ss := (.cons (.app 3 (.bi .tuple (.cons (.comp [("own", 4)] (.one 4) (.val (.var 1)) (.cons (.or (.cons (.cmp .eq (.var 4) (.var 2)) (.cons (.not (.call c_is_free_in (.cons (.var 0) (.cons (.call c_union_in (.cons (.tup (.cons (.var 2) .nil)) (.cons (.tup (.cons (.var 4) .nil)) .nil))) .nil)))) .nil))) .nil) (.var 4)) .nil))) .nil)
def b_alike_lots (c_need_system c_things_in c_is_free_in c_union_in : Nat) : Ss := (.cons (.expr (.call c_need_system (.cons (.var 0) .nil))) (.cons (.set 1 (.comp [("one", 2)] (.one 2) (.rng (.cons (.call c_things_in (.cons (.var 0) .nil)) .nil)) (.cons (.call c_is_free_in (.cons (.var 0) (.cons (.tup (.cons (.var 2) .nil)) .nil))) .nil) (.var 2))) (.cons (.own 3 (.lst .nil)) (.cons (.for (.one 2) (.val (.var 1)) (b_alike_lots_l0 c_is_free_in c_union_in)) (.cons (.ret (.bi .tuple (.cons (.comp [("at", 5), ("lot", 6)] (.tup [5, 6]) (.enum (.var 3)) (.cons (.cmp .nin (.var 6) (.slc (.var 3) .nil (.cons (.var 5) .nil))) .nil) (.var 6)) .nil))) .nil)))))
def b_circuits_in (c_sets_in c_things_in c_is_circuit_in : Nat) : Ss := (.cons (.ret (.comp [("own", 1)] (.one 1) (.val (.call c_sets_in (.cons (.call c_things_in (.cons (.var 0) .nil)) .nil))) (.cons (.call c_is_circuit_in (.cons (.var 0) (.cons (.var 1) .nil))) .nil) (.var 1))) .nil)
def b_dual_in (c_all_in c_things_in c_less_in : Nat) : Ss := (.cons (.set 1 (.call c_all_in (.cons (.call c_things_in (.cons (.var 0) .nil)) .nil))) (.cons (.ret (.tup (.cons (.idx (.var 0) (.int 0)) (.cons (.bi .tuple (.cons (.srt (.comp [("base", 2)] (.one 2) (.val (.idx (.var 0) (.int 1))) .nil (.call c_less_in (.cons (.var 1) (.cons (.var 2) .nil))))) .nil)) .nil)))) .nil))
def b_rest_in (c_less_in c_all_in c_things_in : Nat) : Ss := (.cons (.ret (.call c_less_in (.cons (.call c_all_in (.cons (.call c_things_in (.cons (.var 0) .nil)) .nil)) (.cons (.var 1) .nil)))) .nil)
def b_dual_of (c_need_system c_dual_in : Nat) : Ss := (.cons (.expr (.call c_need_system (.cons (.var 0) .nil))) (.cons (.ret (.call c_dual_in (.cons (.var 0) .nil))) .nil))
def b_is_dual (c_need_system c_dual_in : Nat) : Ss := (.cons (.expr (.call c_need_system (.cons (.var 0) .nil))) (.cons (.expr (.call c_need_system (.cons (.var 1) .nil))) (.cons (.ret (.cmp .eq (.call c_dual_in (.cons (.var 0) .nil)) (.var 1))) .nil)))
def b_dual_circuits (c_need_system c_circuits_in c_dual_in : Nat) : Ss := (.cons (.expr (.call c_need_system (.cons (.var 0) .nil))) (.cons (.ret (.bi .tuple (.cons (.call c_circuits_in (.cons (.call c_dual_in (.cons (.var 0) .nil)) .nil)) .nil))) .nil))
def b_dual_rank (c_need_things c_rank_in c_rest_in : Nat) : Ss := (.cons (.expr (.call c_need_things (.cons (.var 0) (.cons (.var 1) .nil)))) (.cons (.ret (.bop .add (.bop .sub (.bi .len (.cons (.var 1) .nil)) (.bi .len (.cons (.idx (.idx (.var 0) (.int 1)) (.int 0)) .nil))) (.call c_rank_in (.cons (.var 0) (.cons (.call c_rest_in (.cons (.var 0) (.cons (.var 1) .nil))) .nil))))) .nil))
def b_lines_of (c_need_system c_alike_lots c_dual_in : Nat) : Ss := (.cons (.expr (.call c_need_system (.cons (.var 0) .nil))) (.cons (.ret (.call c_alike_lots (.cons (.call c_dual_in (.cons (.var 0) .nil)) .nil))) .nil))
def b_own_dual (c_need_system c_dual_in : Nat) : Ss := (.cons (.expr (.call c_need_system (.cons (.var 0) .nil))) (.cons (.ret (.cmp .eq (.call c_dual_in (.cons (.var 0) .nil)) (.var 0))) .nil))
def b_least_cut (c_need_system c_circuits_in c_dual_in : Nat) : Ss := (.cons (.expr (.call c_need_system (.cons (.var 0) .nil))) (.cons (.set 1 (.call c_circuits_in (.cons (.call c_dual_in (.cons (.var 0) .nil)) .nil))) (.cons (.ret (.ite (.cmp .ne (.var 1) (.lst .nil)) (.idx (.var 1) (.int 0)) .non)) .nil)))
def b_law_roll (k0 k1 k2 k3 k4 k5 : Int) : Ss := (.cons (.ite (.cmp .gt (.cupi 0 false) (.int 0)) (.cons (.set 2 (.bop .mod (.bi .int (.cons (.cupi 0 false) .nil)) (.var 1))) (.cons (.cups 0 false (.bop .fdiv (.cupi 0 false) (.var 1))) (.cons (.ret (.var 2)) .nil))) .nil) (.cons (.cups 0 true (.bop .mod (.bi .int (.cons (.bop .add (.bop .mul (.cupi 0 true) (.int k0)) (.int k1)) .nil)) (.int k2))) (.cons (.set 3 (.bop .mod (.bi .int (.cons (.bop .mul (.cupi 0 true) (.bop .add (.cupi 0 true) (.int k3))) .nil)) (.int k4))) (.cons (.ret (.bop .mod (.bi .int (.cons (.bop .fdiv (.var 3) (.int k5)) .nil)) (.var 1))) .nil))))
def b_law_some (c__law_roll : Nat) : Ss := (.cons (.ret (.idx (.var 1) (.call c__law_roll (.cons (.var 0) (.cons (.bi .len (.cons (.var 1) .nil)) .nil))))) .nil)
def b_law_same (c__law_same : Nat) : Ss := (.cons (.ite (.isi "tuple" (.var 1)) (.cons (.ite (.or (.cons (.not (.isi "tuple" (.var 0))) (.cons (.cmp .ne (.bi .len (.cons (.var 0) .nil)) (.bi .len (.cons (.var 1) .nil))) .nil))) (.cons (.ret (.bl false)) .nil) .nil) (.cons (.ret (.bi .all (.cons (.comp [("at", 2)] (.one 2) (.rng (.cons (.bi .len (.cons (.var 1) .nil)) .nil)) .nil (.call c__law_same (.cons (.idx (.var 0) (.var 2)) (.cons (.idx (.var 1) (.var 2)) .nil)))) .nil))) .nil)) .nil) (.cons (.ite (.isi "list" (.var 1)) (.cons (.ret (.and (.cons (.isi "list" (.var 0)) (.cons (.call c__law_same (.cons (.bi .tuple (.cons (.var 0) .nil)) (.cons (.bi .tuple (.cons (.var 1) .nil)) .nil))) .nil)))) .nil) .nil) (.cons (.ite (.cmp .is (.var 1) .non) (.cons (.ret (.cmp .is (.var 0) .non)) .nil) .nil) (.cons (.ite (.isi "bool" (.var 1)) (.cons (.ret (.ite (.var 1) (.cmp .is (.var 0) (.bl true)) (.cmp .is (.var 0) (.bl false)))) .nil) .nil) (.cons (.ite (.isi "int" (.var 1)) (.cons (.ret (.and (.cons (.isi "int" (.var 0)) (.cons (.not (.isi "bool" (.var 0))) (.cons (.cmp .eq (.bi .int (.cons (.var 0) .nil)) (.var 1)) .nil))))) .nil) .nil) (.cons (.ret (.and (.cons (.isi "str" (.var 0)) (.cons (.cmp .eq (.bi .str (.cons (.var 0) .nil)) (.var 1)) .nil)))) .nil))))))
def b_law_things (c__law_some : Nat) : Ss := (.cons (.ret (.slc (.call c__law_some (.cons (.var 0) (.cons (.lst (.cons (.tup (.cons (.str "ant") (.cons (.str "bee") (.cons (.str "cow") (.cons (.str "dog") (.cons (.str "eel") (.cons (.str "fox") (.cons (.str "gnu") (.cons (.str "hen") .nil))))))))) (.cons (.tup (.cons (.str "a") (.cons (.str "a1") (.cons (.str "b") (.cons (.str "c2") (.cons (.str "d") (.cons (.str "dd") (.cons (.str "e") (.cons (.str "f") .nil))))))))) .nil))) .nil))) .nil (.cons (.var 1) .nil))) .nil)
def b_law_sets_l0 : Ss := (.cons (.set 1 (.bop .add (.var 1) (.comp [("row", 3)] (.one 3) (.val (.var 1)) .nil (.bop .add (.var 3) (.tup (.cons (.var 2) .nil)))))) .nil)
def b_law_sets : Ss := (.cons (.set 1 (.lst (.cons (.tup .nil) .nil))) (.cons (.for (.one 2) (.rng (.cons (.var 0) .nil)) b_law_sets_l0) (.cons (.ret (.comp [("size", 4), ("row", 3)] (.tup [4, 3]) (.val (.srt (.comp [("row", 3)] (.one 3) (.val (.var 1)) .nil (.tup (.cons (.bi .len (.cons (.var 3) .nil)) (.cons (.var 3) .nil)))))) .nil (.var 3))) .nil)))
def b_law_within : Ss := (.cons (.ret (.cmp .eq (.comp [("item", 2)] (.one 2) (.val (.var 0)) (.cons (.cmp .nin (.var 2) (.var 1)) .nil) (.var 2)) (.lst .nil))) .nil)
def b_law_common : Ss := (.cons (.ret (.bi .tuple (.cons (.comp [("item", 2)] (.one 2) (.val (.var 0)) (.cons (.cmp .isin (.var 2) (.var 1)) .nil) (.var 2)) .nil))) .nil)
def b_law_less : Ss := (.cons (.ret (.bi .tuple (.cons (.comp [("item", 2)] (.one 2) (.val (.var 0)) (.cons (.cmp .nin (.var 2) (.var 1)) .nil) (.var 2)) .nil))) .nil)
def b_law_tops : Ss := (.cons (.set 1 (.bi .max (.cons (.comp [("own", 2)] (.one 2) (.val (.var 0)) .nil (.bi .len (.cons (.var 2) .nil))) .nil))) (.cons (.ret (.bi .tuple (.cons (.srtset (.comp [("own", 2)] (.one 2) (.val (.var 0)) (.cons (.cmp .eq (.bi .len (.cons (.var 2) .nil)) (.var 1)) .nil) (.var 2))) .nil))) .nil))
def b_law_no_ring_l1 : Ss := (.cons (.put 2 (.var 9) (.var 8)) .nil)
def b_law_no_ring_l0 : Ss := (.cons (.unp (.tup [4, 5]) (.idx (.var 0) (.var 3))) (.cons (.par [6, 7] (.cons (.get2 (.var 2) (.var 4) (.tup (.cons (.var 4) .nil))) (.cons (.get2 (.var 2) (.var 5) (.tup (.cons (.var 5) .nil))) .nil)) [false, false]) (.cons (.ite (.cmp .isin (.var 5) (.var 6)) (.cons (.ret (.bl false)) .nil) .nil) (.cons (.set 8 (.bop .add (.var 6) (.var 7))) (.cons (.for (.one 9) (.val (.var 8)) b_law_no_ring_l1) .nil)))))
def b_law_no_ring : Ss := (.cons (.own 2 (.dct false)) (.cons (.for (.one 3) (.val (.var 1)) b_law_no_ring_l0) (.cons (.ret (.bl true)) .nil)))
def b_law_no_sum_l0 : Ss := (.cons (.set 4 (.comp [("sum_of", 5)] (.one 5) (.val (.var 2)) .nil (.bi .tuple (.cons (.comp [("own", 6), ("other", 7)] (.tup [6, 7]) (.zip (.var 5) (.idx (.var 0) (.var 3))) .nil (.bop .mod (.bi .int (.cons (.bop .add (.var 6) (.var 7)) .nil)) (.int 2))) .nil)))) (.cons (.ite (.cmp .ne (.comp [("sum_of", 5)] (.one 5) (.val (.var 4)) (.cons (.cmp .nin (.int 1) (.var 5)) .nil) (.var 5)) (.lst .nil)) (.cons (.ret (.bl false)) .nil) .nil) (.cons (.set 2 (.bop .add (.var 2) (.var 4))) .nil)))
def b_law_no_sum : Ss := (.cons (.set 2 (.ite (.cmp .ne (.var 0) (.lst .nil)) (.lst (.cons (.bop .mul (.tup (.cons (.int 0) .nil)) (.bi .len (.cons (.idx (.var 0) (.int 0)) .nil))) .nil)) (.lst (.cons (.tup .nil) .nil)))) (.cons (.for (.one 3) (.val (.var 1)) b_law_no_sum_l0) (.cons (.ret (.bl true)) .nil)))
def b_law_bases (c__law_sets c__law_roll c__law_tops c__law_no_ring c__law_no_sum c__law_less : Nat) : Ss := (.cons (.par [2, 3] (.cons (.call c__law_sets (.cons (.var 1) .nil)) (.cons (.call c__law_roll (.cons (.var 0) (.cons (.int 6) .nil))) .nil)) [false, false]) (.cons (.ite (.cmp .eq (.var 3) (.int 0)) (.cons (.set 4 (.call c__law_roll (.cons (.var 0) (.cons (.bop .add (.var 1) (.int 1)) .nil)))) (.cons (.ret (.call c__law_tops (.cons (.comp [("own", 5)] (.one 5) (.val (.var 2)) (.cons (.cmp .le (.bi .len (.cons (.var 5) .nil)) (.var 4)) .nil) (.var 5)) .nil))) .nil)) .nil) (.cons (.ite (.cmp .eq (.var 3) (.int 1)) (.cons (.set 6 (.bop .add (.int 2) (.call c__law_roll (.cons (.var 0) (.cons (.int 3) .nil))))) (.cons (.set 7 (.comp [("one", 8)] (.one 8) (.rng (.cons (.var 1) .nil)) .nil (.tup (.cons (.call c__law_roll (.cons (.var 0) (.cons (.var 6) .nil))) (.cons (.call c__law_roll (.cons (.var 0) (.cons (.var 6) .nil))) .nil))))) (.cons (.ret (.call c__law_tops (.cons (.comp [("own", 5)] (.one 5) (.val (.var 2)) (.cons (.call c__law_no_ring (.cons (.var 7) (.cons (.var 5) .nil))) .nil) (.var 5)) .nil))) .nil))) .nil) (.cons (.ite (.cmp .eq (.var 3) (.int 2)) (.cons (.set 9 (.bop .add (.int 1) (.call c__law_roll (.cons (.var 0) (.cons (.int 3) .nil))))) (.cons (.set 10 (.comp [("one", 8)] (.one 8) (.rng (.cons (.var 1) .nil)) .nil (.bi .tuple (.cons (.comp [("sign", 11)] (.one 11) (.rng (.cons (.var 9) .nil)) .nil (.call c__law_roll (.cons (.var 0) (.cons (.int 2) .nil)))) .nil)))) (.cons (.ret (.call c__law_tops (.cons (.comp [("own", 5)] (.one 5) (.val (.var 2)) (.cons (.call c__law_no_sum (.cons (.var 10) (.cons (.var 5) .nil))) .nil) (.var 5)) .nil))) .nil))) .nil) (.cons (.set 12 (.comp [("one", 8)] (.one 8) (.rng (.cons (.var 1) .nil)) .nil (.call c__law_roll (.cons (.var 0) (.cons (.int 3) .nil))))) (.cons (.set 13 (.lst (.cons (.call c__law_roll (.cons (.var 0) (.cons (.int 3) .nil))) (.cons (.call c__law_roll (.cons (.var 0) (.cons (.int 3) .nil))) (.cons (.bop .add (.int 1) (.call c__law_roll (.cons (.var 0) (.cons (.int 2) .nil)))) .nil))))) (.cons (.set 14 (.comp [("own", 5)] (.one 5) (.val (.var 2)) (.cons (.cmp .eq (.comp [("lot", 15)] (.one 15) (.val (.tup (.cons (.int 0) (.cons (.int 1) (.cons (.int 2) .nil))))) (.cons (.cmp .gt (.bi .len (.cons (.comp [("one", 8)] (.one 8) (.val (.var 5)) (.cons (.cmp .eq (.idx (.var 12) (.var 8)) (.var 15)) .nil) (.var 8)) .nil)) (.idx (.var 13) (.var 15))) .nil) (.var 15)) (.lst .nil)) .nil) (.var 5))) (.cons (.ite (.cmp .eq (.var 3) (.int 3)) (.cons (.ret (.call c__law_tops (.cons (.var 14) .nil))) .nil) .nil) (.cons (.ite (.cmp .eq (.var 3) (.int 4)) (.cons (.set 4 (.bi .max (.cons (.int 0) (.cons (.bop .sub (.bi .max (.cons (.comp [("own", 5)] (.one 5) (.val (.var 14)) .nil (.bi .len (.cons (.var 5) .nil))) .nil)) (.int 1)) .nil)))) (.cons (.ret (.call c__law_tops (.cons (.comp [("own", 5)] (.one 5) (.val (.var 14)) (.cons (.cmp .le (.bi .len (.cons (.var 5) .nil)) (.var 4)) .nil) (.var 5)) .nil))) .nil)) .nil) (.cons (.set 16 (.tuprng (.cons (.var 1) .nil))) (.cons (.ret (.bi .tuple (.cons (.srt (.comp [("own", 5)] (.one 5) (.val (.call c__law_tops (.cons (.var 14) .nil))) .nil (.call c__law_less (.cons (.var 16) (.cons (.var 5) .nil))))) .nil))) .nil)))))))))))
def b_law_system_of (c__law_things c__law_bases : Nat) : Ss := (.cons (.ret (.tup (.cons (.call c__law_things (.cons (.var 0) (.cons (.var 1) .nil))) (.cons (.call c__law_bases (.cons (.var 0) (.cons (.var 1) .nil))) .nil)))) .nil)
def b_law_system (c__law_system_of c__law_roll : Nat) : Ss := (.cons (.ret (.call c__law_system_of (.cons (.var 0) (.cons (.bop .add (.int 1) (.call c__law_roll (.cons (.var 0) (.cons (.int 6) .nil)))) .nil)))) .nil)
def b_law_rank (c__law_common : Nat) : Ss := (.cons (.ret (.bi .max (.cons (.comp [("base", 2)] (.one 2) (.val (.idx (.var 0) (.int 1))) .nil (.bi .len (.cons (.call c__law_common (.cons (.var 1) (.cons (.var 2) .nil))) .nil))) .nil))) .nil)
def b_law_free (c__law_within : Nat) : Ss := (.cons (.ret (.cmp .ne (.comp [("base", 2)] (.one 2) (.val (.idx (.var 0) (.int 1))) (.cons (.call c__law_within (.cons (.var 1) (.cons (.var 2) .nil))) .nil) (.var 2)) (.lst .nil))) .nil)
def b_law_circuits_l0 (c__law_free c__law_within : Nat) : Ss := (.cons (.ite (.and (.cons (.not (.call c__law_free (.cons (.var 0) (.cons (.var 2) .nil)))) (.cons (.cmp .eq (.comp [("part", 3)] (.one 3) (.val (.var 1)) (.cons (.call c__law_within (.cons (.var 3) (.cons (.var 2) .nil))) .nil) (.var 3)) (.lst .nil)) .nil))) (.cons (.app 1 (.var 2)) .nil) .nil) .nil)
def b_law_circuits (c__law_free c__law_within c__law_sets : Nat) : Ss := (.cons (.own 1 (.lst .nil)) (.cons (.for (.one 2) (.val (.call c__law_sets (.cons (.bi .len (.cons (.idx (.var 0) (.int 0)) .nil)) .nil))) (b_law_circuits_l0 c__law_free c__law_within)) (.cons (.ret (.var 1)) .nil)))
def b_law_dual (c__law_less : Nat) : Ss := (.cons (.set 1 (.tuprng (.cons (.bi .len (.cons (.idx (.var 0) (.int 0)) .nil)) .nil))) (.cons (.ret (.tup (.cons (.idx (.var 0) (.int 0)) (.cons (.bi .tuple (.cons (.srt (.comp [("base", 2)] (.one 2) (.val (.idx (.var 0) (.int 1))) .nil (.call c__law_less (.cons (.var 1) (.cons (.var 2) .nil))))) .nil)) .nil)))) .nil))
def b_rank_of (c_need_things c_rank_in : Nat) : Ss := (.cons (.expr (.call c_need_things (.cons (.var 0) (.cons (.var 1) .nil)))) (.cons (.ret (.call c_rank_in (.cons (.var 0) (.cons (.var 1) .nil)))) .nil))
def b_law_both : Ss := (.cons (.ret (.bi .tuple (.cons (.srtset (.bop .add (.bi .list (.cons (.var 0) .nil)) (.bi .list (.cons (.var 1) .nil)))) .nil))) .nil)
def b_law_set (c__law_roll : Nat) : Ss := (.cons (.ret (.bi .tuple (.cons (.comp [("one", 2)] (.one 2) (.rng (.cons (.var 1) .nil)) (.cons (.cmp .eq (.call c__law_roll (.cons (.var 0) (.cons (.int 2) .nil))) (.int 0)) .nil) (.var 2)) .nil))) .nil)
def b_free_in (c_sets_in c_things_in c_is_free_in : Nat) : Ss := (.cons (.ret (.comp [("own", 1)] (.one 1) (.val (.call c_sets_in (.cons (.call c_things_in (.cons (.var 0) .nil)) .nil))) (.cons (.call c_is_free_in (.cons (.var 0) (.cons (.var 1) .nil))) .nil) (.var 1))) .nil)
def b_free_sets (c_need_system c_free_in : Nat) : Ss := (.cons (.expr (.call c_need_system (.cons (.var 0) .nil))) (.cons (.ret (.bi .tuple (.cons (.call c_free_in (.cons (.var 0) .nil)) .nil))) .nil))
def b_closure_in (c_rank_in c_things_in c_union_in : Nat) : Ss := (.cons (.set 2 (.call c_rank_in (.cons (.var 0) (.cons (.var 1) .nil)))) (.cons (.ret (.bi .tuple (.cons (.comp [("one", 3)] (.one 3) (.rng (.cons (.call c_things_in (.cons (.var 0) .nil)) .nil)) (.cons (.cmp .eq (.call c_rank_in (.cons (.var 0) (.cons (.call c_union_in (.cons (.var 1) (.cons (.tup (.cons (.var 3) .nil)) .nil))) .nil))) (.var 2)) .nil) (.var 3)) .nil))) .nil))
def b_is_flat_in (c_closure_in : Nat) : Ss := (.cons (.ret (.cmp .eq (.call c_closure_in (.cons (.var 0) (.cons (.var 1) .nil))) (.var 1))) .nil)
def b_is_free (c_need_things c_is_free_in : Nat) : Ss := (.cons (.expr (.call c_need_things (.cons (.var 0) (.cons (.var 1) .nil)))) (.cons (.ret (.call c_is_free_in (.cons (.var 0) (.cons (.var 1) .nil)))) .nil))
def b_plain_rank (c_need_system c_sets_in c_things_in : Nat) : Ss := (.cons (.expr (.call c_need_system (.cons (.var 0) .nil))) (.cons (.set 1 (.bi .len (.cons (.idx (.idx (.var 0) (.int 1)) (.int 0)) .nil))) (.cons (.ret (.ite (.cmp .eq (.bi .len (.cons (.idx (.var 0) (.int 1)) .nil)) (.bi .len (.cons (.comp [("own", 2)] (.one 2) (.val (.call c_sets_in (.cons (.call c_things_in (.cons (.var 0) .nil)) .nil))) (.cons (.cmp .eq (.bi .len (.cons (.var 2) .nil)) (.var 1)) .nil) (.int 1)) .nil))) (.var 1) .non)) .nil)))
def b_short_in (c_less_in : Nat) : Ss := (.cons (.set 1 (.comp2 [("base", 2), ("one", 3)] (.one 2) (.val (.idx (.var 0) (.int 1))) .nil [3] (.one 3) (.val (.var 2)) .nil (.call c_less_in (.cons (.var 2) (.cons (.tup (.cons (.var 3) .nil)) .nil))))) (.cons (.ret (.tup (.cons (.idx (.var 0) (.int 0)) (.cons (.bi .tuple (.cons (.srtset (.var 1)) .nil)) .nil)))) .nil))
def b_cut_short (c_need_system c_short_in : Nat) : Ss := (.cons (.expr (.call c_need_system (.cons (.var 0) .nil))) (.cons (.ite (.cmp .eq (.idx (.var 0) (.int 1)) (.tup (.cons (.tup .nil) .nil))) (.cons .never .nil) .nil) (.cons (.ret (.call c_short_in (.cons (.var 0) .nil))) .nil)))
def b_made_longer (c_need_system c_things_in c_dual_in c_short_in : Nat) : Ss := (.cons (.expr (.call c_need_system (.cons (.var 0) .nil))) (.cons (.ite (.cmp .eq (.bi .len (.cons (.idx (.idx (.var 0) (.int 1)) (.int 0)) .nil)) (.call c_things_in (.cons (.var 0) .nil))) (.cons .never .nil) .nil) (.cons (.ret (.call c_dual_in (.cons (.call c_short_in (.cons (.call c_dual_in (.cons (.var 0) .nil)) .nil)) .nil))) .nil)))
def b_is_short_of (c_need_system c_short_in : Nat) : Ss := (.cons (.expr (.call c_need_system (.cons (.var 0) .nil))) (.cons (.expr (.call c_need_system (.cons (.var 1) .nil))) (.cons (.ret (.and (.cons (.cmp .ne (.idx (.var 1) (.int 1)) (.tup (.cons (.tup .nil) .nil))) (.cons (.cmp .eq (.call c_short_in (.cons (.var 1) .nil)) (.var 0)) .nil)))) .nil)))
def b_law_short (c__law_tops c__law_sets c__law_free : Nat) : Ss := (.cons (.set 1 (.bi .len (.cons (.idx (.idx (.var 0) (.int 1)) (.int 0)) .nil))) (.cons (.ret (.tup (.cons (.idx (.var 0) (.int 0)) (.cons (.call c__law_tops (.cons (.comp [("own", 2)] (.one 2) (.val (.call c__law_sets (.cons (.bi .len (.cons (.idx (.var 0) (.int 0)) .nil)) .nil))) (.cons (.and (.cons (.cmp .lt (.bi .len (.cons (.var 2) .nil)) (.var 1)) (.cons (.call c__law_free (.cons (.var 0) (.cons (.var 2) .nil))) .nil))) .nil) (.var 2)) .nil)) .nil)))) .nil))
def b_need_two (c_need_system : Nat) : Ss := (.cons (.expr (.call c_need_system (.cons (.var 0) .nil))) (.cons (.expr (.call c_need_system (.cons (.var 1) .nil))) (.cons (.ite (.cmp .ne (.idx (.var 0) (.int 0)) (.idx (.var 1) (.int 0))) (.cons .never .nil) .nil) .nil)))
def b_other_flats (c_sets_in c_things_in c_is_flat_in : Nat) : Ss := (.cons (.set 2 (.comp [("own", 3)] (.one 3) (.val (.call c_sets_in (.cons (.call c_things_in (.cons (.var 0) .nil)) .nil))) (.cons (.call c_is_flat_in (.cons (.var 1) (.cons (.var 3) .nil))) .nil) (.var 3))) (.cons (.ret (.comp [("own", 3)] (.one 3) (.val (.var 2)) (.cons (.not (.call c_is_flat_in (.cons (.var 0) (.cons (.var 3) .nil)))) .nil) (.var 3))) .nil))
def b_other_free (c_sets_in c_things_in c_is_free_in : Nat) : Ss := (.cons (.ret (.comp [("own", 2)] (.one 2) (.val (.call c_sets_in (.cons (.call c_things_in (.cons (.var 0) .nil)) .nil))) (.cons (.and (.cons (.call c_is_free_in (.cons (.var 1) (.cons (.var 2) .nil))) (.cons (.not (.call c_is_free_in (.cons (.var 0) (.cons (.var 2) .nil)))) .nil))) .nil) (.var 2))) .nil)
def b_is_coarser (c_need_two c_other_flats : Nat) : Ss := (.cons (.expr (.call c_need_two (.cons (.var 0) (.cons (.var 1) .nil)))) (.cons (.ret (.cmp .eq (.call c_other_flats (.cons (.var 0) (.cons (.var 1) .nil))) (.lst .nil))) .nil))
def b_is_weaker (c_need_two c_other_free : Nat) : Ss := (.cons (.expr (.call c_need_two (.cons (.var 0) (.cons (.var 1) .nil)))) (.cons (.ret (.cmp .eq (.call c_other_free (.cons (.var 0) (.cons (.var 1) .nil))) (.lst .nil))) .nil))
def b_is_one_of (c_fits_set c_things_in : Nat) : Ss := (.cons (.ret (.and (.cons (.call c_fits_set (.cons (.var 1) (.cons (.call c_things_in (.cons (.var 0) .nil)) .nil))) (.cons (.cmp .isin (.var 1) (.var 2)) .nil)))) .nil)
def b_weaker_paper (c_need_two c_other_free : Nat) : Ss := (.cons (.expr (.call c_need_two (.cons (.var 0) (.cons (.var 1) .nil)))) (.cons (.set 2 (.call c_other_free (.cons (.var 0) (.cons (.var 1) .nil)))) (.cons (.ret (.ite (.cmp .ne (.var 2) (.lst .nil)) (.tup (.cons (.str "set") (.cons (.idx (.var 2) (.int 0)) .nil))) (.tup (.cons (.str "free") .nil)))) .nil)))
def b_is_weaker_paper (c_need_two c_is_tuple_of c_other_free c_is_one_of : Nat) : Ss := (.cons (.expr (.call c_need_two (.cons (.var 0) (.cons (.var 1) .nil)))) (.cons (.ite (.or (.cons (.not (.call c_is_tuple_of (.cons (.var 2) (.cons (.int 1) (.cons (.int 2) .nil))))) (.cons (.not (.isi "str" (.idx (.var 2) (.int 0)))) .nil))) (.cons (.ret (.bl false)) .nil) .nil) (.cons (.ite (.cmp .eq (.idx (.var 2) (.int 0)) (.str "free")) (.cons (.ret (.and (.cons (.cmp .eq (.bi .len (.cons (.var 2) .nil)) (.int 1)) (.cons (.cmp .eq (.call c_other_free (.cons (.var 0) (.cons (.var 1) .nil))) (.lst .nil)) .nil)))) .nil) .nil) (.cons (.ret (.and (.cons (.cmp .eq (.idx (.var 2) (.int 0)) (.str "set")) (.cons (.cmp .eq (.bi .len (.cons (.var 2) .nil)) (.int 2)) (.cons (.call c_is_one_of (.cons (.var 0) (.cons (.idx (.var 2) (.int 1)) (.cons (.call c_other_free (.cons (.var 0) (.cons (.var 1) .nil))) .nil)))) .nil))))) .nil))))
def b_order_word (c_need_two c_other_free : Nat) : Ss := (.cons (.expr (.call c_need_two (.cons (.var 0) (.cons (.var 1) .nil)))) (.cons (.ite (.cmp .eq (.var 0) (.var 1)) (.cons (.ret (.str "same")) .nil) .nil) (.cons (.ite (.cmp .eq (.call c_other_free (.cons (.var 0) (.cons (.var 1) .nil))) (.lst .nil)) (.cons (.ret (.str "greater")) .nil) .nil) (.cons (.ret (.ite (.cmp .eq (.call c_other_free (.cons (.var 1) (.cons (.var 0) .nil))) (.lst .nil)) (.str "less") (.str "apart"))) .nil))))
def b_law_pair (c__law_system c__law_bases : Nat) : Ss := (.cons (.set 1 (.call c__law_system (.cons (.var 0) .nil))) (.cons (.ret (.tup (.cons (.var 1) (.cons (.tup (.cons (.idx (.var 1) (.int 0)) (.cons (.call c__law_bases (.cons (.var 0) (.cons (.bi .len (.cons (.idx (.var 1) (.int 0)) .nil)) .nil))) .nil))) .nil)))) .nil))
def b_law_drawn_in (c__law_rank c__law_tops c__law_sets c__law_both : Nat) : Ss := (.cons (.set 2 (.call c__law_rank (.cons (.var 0) (.cons (.var 1) .nil)))) (.cons (.ret (.tup (.cons (.idx (.var 0) (.int 0)) (.cons (.call c__law_tops (.cons (.comp [("own", 3)] (.one 3) (.val (.call c__law_sets (.cons (.bi .len (.cons (.idx (.var 0) (.int 0)) .nil)) .nil))) (.cons (.cmp .eq (.bop .sub (.call c__law_rank (.cons (.var 0) (.cons (.call c__law_both (.cons (.var 3) (.cons (.var 1) .nil))) .nil))) (.var 2)) (.bi .len (.cons (.var 3) .nil))) .nil) (.var 3)) .nil)) .nil)))) .nil))
def b_law_coarse_pair (c__law_system c__law_drawn_in c__law_set c__law_roll c__law_bases c__law_some c__law_short : Nat) : Ss := (.cons (.set 1 (.call c__law_system (.cons (.var 0) .nil))) (.cons (.par [2, 3] (.cons (.bi .len (.cons (.idx (.var 1) (.int 0)) .nil)) (.cons (.bi .len (.cons (.idx (.idx (.var 1) (.int 1)) (.int 0)) .nil)) .nil)) [false, false]) (.cons (.set 4 (.lst (.cons (.call c__law_drawn_in (.cons (.var 1) (.cons (.call c__law_set (.cons (.var 0) (.cons (.var 2) .nil))) .nil))) (.cons (.call c__law_drawn_in (.cons (.var 1) (.cons (.tup (.cons (.call c__law_roll (.cons (.var 0) (.cons (.var 2) .nil))) .nil)) .nil))) (.cons (.tup (.cons (.idx (.var 1) (.int 0)) (.cons (.call c__law_bases (.cons (.var 0) (.cons (.var 2) .nil))) .nil))) (.cons (.var 1) .nil)))))) (.cons (.ret (.tup (.cons (.var 1) (.cons (.call c__law_some (.cons (.var 0) (.cons (.bop .add (.var 4) (.ite (.cmp .gt (.var 3) (.int 0)) (.lst (.cons (.call c__law_short (.cons (.var 1) .nil)) .nil)) (.lst .nil))) .nil))) .nil)))) .nil))))
end FS

-- part FtCore
set_option Elab.async false
set_option linter.all false
set_option maxRecDepth 100000
set_option maxHeartbeats 4000000
/-! The plain side: rules for reading the evaluator. -/
namespace FS
open PySem

/-! ### the monad -/
@[simp] theorem bnd_ret {α β : Type} (a : α) (f : α → M β) : M.bnd (M.ret a) f = f a := rfl
@[simp] theorem bnd_err {α β : Type} (f : α → M β) : M.bnd M.err f = M.err := rfl
@[simp] theorem bnd_raise {α β : Type} (x : Exc) (f : α → M β) : M.bnd (M.raise x) f = M.raise x := rfl
@[simp] theorem opt_some {α : Type} (a : α) : M.opt (some a) = M.ret a := rfl
@[simp] theorem opt_none {α : Type} : M.opt (none : Option α) = M.err := rfl
@[simp] theorem nox_ret {α : Type} (a : α) : M.nox (M.ret a) = M.ret a := rfl
@[simp] theorem bnd_assoc {α β γ : Type} (m : M α) (f : α → M β) (g : β → M γ) : M.bnd (M.bnd m f) g = M.bnd m fun a => M.bnd (f a) g := by
  funext c
  unfold M.bnd
  cases m c <;> rfl
theorem bnd_eta {α : Type} (m : M α) : M.bnd m M.ret = m := by
  funext c
  unfold M.bnd
  cases m c <;> rfl
@[simp] theorem ite_bnd {α β : Type} (p : Prop) [Decidable p] (a b : M α) (f : α → M β) : M.bnd (if p then a else b) f = if p then M.bnd a f else M.bnd b f := by
  split <;> rfl
/-! comprehensions over any items -/
def compA {α β : Type} (f : α → M (Option β)) : List α → M (List β)
  | [] => M.ret []
  | x :: xs => M.bnd (f x) fun o => M.bnd (compA f xs) fun r => M.ret (match o with
    | some y => y :: r
    | none => r)
theorem compL_A (f : D → M (Option D)) : ∀ xs : List D, compL f xs = compA f xs
  | [] => rfl
  | x :: xs => by
    show M.bnd _ _ = M.bnd _ _
    rw [compL_A f xs]
    congr 1
    funext o
    congr 1
    funext r
    cases o <;> rfl
@[simp] theorem compL_map {α : Type} (f : D → M (Option D)) (g : α → D) : ∀ xs : List α, compL f (xs.map g) = compA (fun x => f (g x)) xs
  | [] => rfl
  | x :: xs => by
    show M.bnd _ _ = M.bnd _ _
    rw [compL_map f g xs]
    congr 1
    funext o
    congr 1
    funext r
    cases o <;> rfl
theorem compA_cong {α β : Type} {f g : α → M (Option β)} : ∀ {xs : List α}, (∀ x ∈ xs, f x = g x) → compA f xs = compA g xs
  | [], _ => rfl
  | x :: xs, h => by
    show M.bnd _ _ = M.bnd _ _
    rw [h x List.mem_cons_self, compA_cong fun y hy => h y (List.mem_cons_of_mem _ hy)]
@[simp] theorem compA_ret {α β : Type} (f : α → Option β) : ∀ xs : List α, compA (fun x => M.ret (f x)) xs = M.ret (xs.filterMap f)
  | [] => rfl
  | x :: xs => by
    show M.bnd _ _ = _
    rw [compA_ret f xs]
    show M.ret _ = _
    rw [List.filterMap_cons]
    cases f x <;> rfl
@[simp] theorem fm_if {α β : Type} (p : α → Prop) [DecidablePred p] (h : α → β) (xs : List α) : xs.filterMap (fun x => if p x then some (h x) else none) = (xs.filter fun x => decide (p x)).map h := by
  induction xs with
  | nil => rfl
  | cons x xs ih => by_cases e : p x <;> simp [e, List.filter_cons, List.filterMap_cons, ih]
@[simp] theorem fm_ifn {α β : Type} (p : α → Prop) [DecidablePred p] (h : α → β) (xs : List α) : xs.filterMap (fun x => if p x then none else some (h x)) = (xs.filter fun x => !decide (p x)).map h := by
  induction xs with
  | nil => rfl
  | cons x xs ih => by_cases e : p x <;> simp [e, List.filter_cons, List.filterMap_cons, ih]
@[simp] theorem fm_some {α β : Type} (h : α → β) (xs : List α) : xs.filterMap (fun x => some (h x)) = xs.map h := by
  induction xs with
  | nil => rfl
  | cons x xs ih => simp [List.filterMap_cons, ih]
@[simp] theorem ret_ite {α : Type} (p : Prop) [Decidable p] (a b : α) : (if p then M.ret a else M.ret b) = M.ret (if p then a else b) := by
  split <;> rfl
@[simp] theorem bool_ite (p : Prop) [Decidable p] (a b : Bool) : (if p then PyData.bool a else PyData.bool b) = PyData.bool (if p then a else b) := by
  split <;> rfl

/-! ### sets of things: eight bits -/
abbrev B8 := BitVec 8
/-- the things of a set, ascending -/
def bits (m : B8) : List Nat := (List.range 8).filter fun i => m.getLsbD i
def pc (m : B8) : Nat := (bits m).length
def tupN (l : List Nat) : D := .tuple (l.map fun i => .int (i : Nat))
def enc (m : B8) : D := tupN (bits m)
def famT (l : List B8) : D := .tuple (l.map enc)
def famL (l : List B8) : D := .list (l.map enc)
def less (a b : B8) : B8 := a &&& ~~~b
def one (i : Nat) : B8 := BitVec.twoPow 8 i
def full (n : Nat) : B8 := BitVec.ofNat 8 (2 ^ n - 1)
theorem mem_bits {m : B8} {i : Nat} : i ∈ bits m ↔ m.getLsbD i = true := by
  unfold bits
  rw [List.mem_filter, List.mem_range]
  exact ⟨fun h => h.2, fun h => ⟨BitVec.lt_of_getLsbD h, h⟩⟩
theorem bits_and (a b : B8) : bits (a &&& b) = (bits a).filter fun i => b.getLsbD i := by
  unfold bits
  rw [List.filter_filter]
  congr 1
  funext i
  rw [BitVec.getLsbD_and, Bool.and_comm]
theorem bits_less (a b : B8) : bits (less a b) = (bits a).filter fun i => !b.getLsbD i := by
  unfold bits less
  rw [List.filter_filter]
  apply List.filter_congr
  intro i hi
  rw [List.mem_range] at hi
  rw [BitVec.getLsbD_and, BitVec.getLsbD_not, Bool.and_comm]
  simp [hi]
/-! ### what is met -/
theorem eqv_int (i j : Int) : PyData.eqv (.int i) (.int j) = (i == j) := by simp [PyData.eqv]
theorem memD_int (l : List Nat) (i : Nat) : memD (.int (i : Nat)) (l.map fun i => .int (i : Nat)) = l.contains i := by
  unfold memD
  rw [List.any_map]
  rw [Bool.eq_iff_iff]
  simp only [List.any_eq_true, Function.comp, eqv_int, beq_iff_eq, List.contains_iff_mem]
  exact ⟨fun ⟨x, h, e⟩ => by have : x = i := by omega
                             exact this ▸ h, fun h => ⟨i, h, rfl⟩⟩
theorem lay_tupN : ∀ l : List Nat, PyData.canLayAll0 (l.map fun i => .int (i : Nat)) = true
  | [] => rfl
  | n :: ns => by
    simp only [List.map_cons, PyData.canLayAll0, PyData.canLay0, Bool.true_and]
    exact lay_tupN ns
theorem dep_tupN : ∀ l : List Nat, PyData.depthAll (l.map fun i => .int (i : Nat)) = 0
  | [] => by simp [PyData.depthAll]
  | n :: ns => by
    simp only [List.map_cons, PyData.depthAll, PyData.depth, dep_tupN ns]
    rfl
theorem shp_of {d : D} (h1 : d.canLay0 = true) (h2 : d.depth ≤ 64) : SeqAt.shaped d = true := by
  unfold SeqAt.shaped
  simp [h1, h2]
@[simp] theorem shp_int (i : Int) : SeqAt.shaped (.int i) = true := shp_of (by simp [PyData.canLay0]) (by simp [PyData.depth])
@[simp] theorem shp_tupN (l : List Nat) : SeqAt.shaped (tupN l) = true := shp_of (by simp only [tupN, PyData.canLay0]; exact lay_tupN l) (by simp only [tupN, PyData.depth, dep_tupN]; omega)
@[simp] theorem shp_enc (m : B8) : SeqAt.shaped (enc m) = true := shp_tupN _
theorem in_tupN (l : List Nat) (i : Nat) : inD (.int (i : Nat)) (tupN l) = some (.bool (l.contains i)) := by
  have h := shp_tupN l
  unfold tupN at h
  simp [inD, inC, inB, tupN, h, memD_int]
theorem contains_bits (m : B8) (i : Nat) : (bits m).contains i = m.getLsbD i := by
  rw [Bool.eq_iff_iff, List.contains_iff_mem, mem_bits]
@[simp] theorem in_enc (m : B8) (i : Nat) : inD (.int (i : Nat)) (enc m) = some (.bool (m.getLsbD i)) := by
  rw [enc, in_tupN, contains_bits]
@[simp] theorem nin_enc (m : B8) (i : Nat) : ninD (.int (i : Nat)) (enc m) = some (.bool (!m.getLsbD i)) := by
  have h := in_enc m i
  unfold inD at h
  unfold ninD
  cases e : inC (.int (i : Nat)) (enc m) with
  | none => rw [e] at h; cases h
  | some b =>
    rw [e] at h
    simp only [Option.map_some, Option.some.injEq, PyData.bool.injEq] at h
    rw [h]; rfl
/-- .. as numbers below eight -/
def bitsF (m : B8) : List (Fin 8) := (List.finRange 8).filter fun i => m.getLsbD i.val
theorem bits_F (m : B8) : bits m = (bitsF m).map fun i => i.val := by
  have e : List.range 8 = (List.finRange 8).map fun i => i.val := by decide
  unfold bits bitsF
  rw [e, List.filter_map]
  rfl
theorem mem_bitsF {m : B8} {i : Fin 8} : i ∈ bitsF m ↔ m.getLsbD i.val = true := by
  unfold bitsF
  rw [List.mem_filter]
  exact ⟨fun h => h.2, fun h => ⟨List.mem_finRange i, h⟩⟩
def tupF (l : List (Fin 8)) : D := .tuple (l.map fun i => .int (i.val : Nat))
theorem enc_F (m : B8) : enc m = tupF (bitsF m) := by
  unfold enc tupN tupF
  rw [bits_F, List.map_map]
  rfl
@[simp] theorem items_enc (m : B8) : itemsD (enc m) = some ((bitsF m).map fun i => .int (i.val : Nat)) := by
  rw [enc_F]; rfl
@[simp] theorem items_famT (l : List B8) : itemsD (famT l) = some (l.map enc) := rfl
@[simp] theorem items_famL (l : List B8) : itemsD (famL l) = some (l.map enc) := rfl
end FS

-- part FtOps
set_option Elab.async false
set_option linter.all false
set_option maxRecDepth 100000
set_option maxHeartbeats 4000000
/-! What the operations give over sets, families, numbers. -/
namespace FS
open PySem

/-! ### reading -/
section
variable (call : Nat → List D → M D) (ρ : En)
@[simp] theorem evE_var (i : Nat) : evE call (.var i) ρ = match ρ[i]? with
    | some (.da d) => M.ret d
    | _ => M.err := rfl
@[simp] theorem evE_int (i : Int) : evE call (.int i) ρ = M.ret (.int i) := rfl
@[simp] theorem evE_str (i : Str) : evE call (.str i) ρ = M.ret (.str i) := rfl
@[simp] theorem evE_bl (b : Bool) : evE call (.bl b) ρ = M.ret (.bool b) := rfl
@[simp] theorem evE_non : evE call .non ρ = M.ret .none := rfl
@[simp] theorem evE_gc (x : Str) (d : D) : evE call (.gc x d) ρ = M.ret d := rfl
@[simp] theorem evE_fnv (i : Nat) : evE call (.fnv i) ρ = M.ret (fnD i) := rfl
@[simp] theorem evE_bop (o : BO) (a b : E) : evE call (.bop o a b) ρ = M.bnd (evL call a ρ) fun x => M.bnd (evL call b ρ) fun y => M.opt (boD o x y) := rfl
@[simp] theorem evE_neg (a : E) : evE call (.neg a) ρ = M.bnd (evE call a ρ) fun x => M.opt ((intOf x).map fun i => .int (-i)) := rfl
@[simp] theorem evE_not (a : E) : evE call (.not a) ρ = M.bnd (evT call a ρ) fun b => M.ret (.bool (!b)) := rfl
@[simp] theorem evE_and (es : Es) : evE call (.and es) ρ = evAnd call es ρ := rfl
@[simp] theorem evE_or (es : Es) : evE call (.or es) ρ = evOr call es ρ := rfl
@[simp] theorem evE_cmp (o : CO) (a b : E) : evE call (.cmp o a b) ρ = M.bnd (evL call a ρ) fun x => M.bnd (evL call b ρ) fun y => M.opt (coD o x y) := rfl
def boolO : D → Option Bool
  | .bool k => some k
  | _ => none
@[simp] theorem boolO_b (b : Bool) : boolO (.bool b) = some b := rfl
@[simp] theorem evE_chn (o p : CO) (a b c : E) : evE call (.chn o p a b c) ρ = M.bnd (evL call a ρ) fun x => M.bnd (evL call b ρ) fun y => M.bnd (M.opt ((coD o x y).bind boolO)) fun k => if k then M.bnd (evL call c ρ) fun z => M.opt (coD p y z) else M.ret (.bool false) := rfl
@[simp] theorem evE_ite (c a b : E) : evE call (.ite c a b) ρ = M.bnd (evT call c ρ) fun k => if k then evE call a ρ else evE call b ρ := rfl
@[simp] theorem evE_tup (es : Es) : evE call (.tup es) ρ = M.bnd (evEs call es ρ) fun ds => if ds.length ≤ sizeLine then M.ret (.tuple ds) else M.err := rfl
@[simp] theorem evE_lst (es : Es) : evE call (.lst es) ρ = M.bnd (evEs call es ρ) fun ds => if ds.length ≤ sizeLine then M.ret (.list ds) else M.err := rfl
@[simp] theorem evE_dct (t : Bool) : evE call (.dct t) ρ = M.ret (.dict [(.none, .bool t)]) := rfl
@[simp] theorem evE_idx (a i : E) : evE call (.idx a i) ρ = M.bnd (evL call a ρ) fun x => M.bnd (evL call i ρ) fun y => M.opt (idxD x y) := rfl
@[simp] theorem evE_slc (a : E) (lo hi : Es) : evE call (.slc a lo hi) ρ = M.bnd (evL call a ρ) fun x => M.bnd (evO call lo ρ) fun l => M.bnd (evO call hi ρ) fun h => M.opt (slcD x l h) := rfl
def revD : D → Option D
  | .list xs => some (.list xs.reverse)
  | _ => none
@[simp] theorem revD_l (xs : List D) : revD (.list xs) = some (.list xs.reverse) := rfl
@[simp] theorem evE_rev (a : E) : evE call (.rev a) ρ = M.bnd (evL call a ρ) fun x => M.opt (revD x) := by
  show M.bnd _ _ = _
  congr 1
  funext x
  cases x <;> rfl
@[simp] theorem evE_cupi (i : Nat) (k : Bool) : evE call (.cupi i k) ρ = if isCup ρ[i]? then getCup k else M.err := rfl
@[simp] theorem evE_call (i : Nat) (es : Es) : evE call (.call i es) ρ = M.bnd (evEs call es ρ) fun ds => call i ds := rfl
@[simp] theorem evE_bi (b : BI) (es : Es) : evE call (.bi b es) ρ = M.bnd (evLs call es ρ) fun ds => M.opt (biD b ds) := rfl
@[simp] theorem evE_isi (T : String) (a : E) : evE call (.isi T a) ρ = M.bnd (evL call a ρ) fun x => M.opt (isiD T x) := rfl
@[simp] theorem evE_get2 (a k d : E) : evE call (.get2 a k d) ρ = M.bnd (evL call a ρ) fun x => M.bnd (M.opt (kindD x)) fun _ => M.bnd (evL call k ρ) fun y => M.bnd (evE call d ρ) fun z => M.opt ((dgetD x y).map fun o => o.getD z) := rfl
/-- one turn of a list's comprehension -/
def stepA (tg : Tg) (vs : List (Str × Nat)) (cs : Es) (el : E) (x : D) : M (Option D) := match setTg tg x (wipeE ρ (vs.map (·.2))) with
  | none => M.err
  | some ρ' => M.bnd (evTs call cs ρ') fun b => if b then M.bnd (evE call el ρ') fun y => M.ret (some y) else M.ret none
def stepO {β : Type} (o : Option En) (k : En → M β) : M β := match o with
  | none => M.err
  | some ρ' => k ρ'
@[simp] theorem stepO_s {β : Type} (ρ' : En) (k : En → M β) : stepO (some ρ') k = k ρ' := rfl
@[simp] theorem stepA_eq (tg : Tg) (vs : List (Str × Nat)) (cs : Es) (el : E) (x : D) : stepA call ρ tg vs cs el x = stepO (setTg tg x (wipeE ρ (vs.map (·.2)))) fun ρ' => M.bnd (evTs call cs ρ') fun b => if b then M.bnd (evE call el ρ') fun y => M.ret (some y) else M.ret none := by
  unfold stepA
  cases setTg tg x (wipeE ρ (vs.map (·.2))) <;> rfl
@[simp] theorem intOf_i (i : Int) : intOf (.int i) = some i := rfl
@[simp] theorem evE_comp (vs : List (Str × Nat)) (tg : Tg) (it : It) (cs : Es) (el : E) : evE call (.comp vs tg it cs el) ρ = M.bnd (evIt call true it ρ) fun xs => M.bnd (M.nox (compL (stepA call ρ tg vs cs el) xs)) fun ds => M.ret (.list ds) := rfl
def stepDc (t : Bool) (tg : Tg) (vs : List (Str × Nat)) (cs : Es) (k v : E) (x : D) : M (Option D) := match setTg tg x (wipeE ρ (vs.map (·.2))) with
      | none => M.err
      | some ρ' => M.bnd (evTs call cs ρ') fun b => if b then M.bnd (evE call k ρ') fun y => M.bnd (evE call v ρ') fun z => if keyFor t y then M.ret (some (.tuple [y, z])) else M.err else M.ret none
@[simp] theorem stepDc_eq (t : Bool) (tg : Tg) (vs : List (Str × Nat)) (cs : Es) (k v : E) (x : D) : stepDc call ρ t tg vs cs k v x = stepO (setTg tg x (wipeE ρ (vs.map (·.2)))) fun ρ' => M.bnd (evTs call cs ρ') fun b => if b then M.bnd (evE call k ρ') fun y => M.bnd (evE call v ρ') fun z => if keyFor t y then M.ret (some (.tuple [y, z])) else M.err else M.ret none := by
  unfold stepDc
  cases setTg tg x (wipeE ρ (vs.map (·.2))) <;> rfl
@[simp] theorem evE_dcomp (t : Bool) (vs : List (Str × Nat)) (tg : Tg) (it : It) (cs : Es) (k v : E) : evE call (.dcomp t vs tg it cs k v) ρ = M.bnd (evIt call true it ρ) fun xs => M.bnd (M.nox (compL (stepDc call ρ t tg vs cs k v) xs)) fun ds => M.ret (.dict ((.none, .bool t) :: ds.foldl putP [])) := rfl
def srtO : D → Option D
  | .list xs => (srtD xs).map PyData.list
  | _ => none
@[simp] theorem evE_srt (a : E) : evE call (.srt a) ρ = M.bnd (evL call a ρ) fun x => M.opt (srtO x) := by
  show M.bnd _ _ = _
  congr 1
  funext x
  cases x with
  | list xs =>
    show M.bnd _ _ = M.opt ((srtD xs).map PyData.list)
    cases srtD xs <;> rfl
  | _ => rfl
def srtsetO (x : D) : Option D := (setItems x).bind fun xs => if setOk xs then some (.list ((dedup xs).mergeSort (W.dataLe false id))) else none
@[simp] theorem evE_srtset (a : E) : evE call (.srtset a) ρ = M.bnd (evL call a ρ) fun x => M.opt (srtsetO x) := by
  show M.bnd _ _ = _
  congr 1
  funext x
  unfold srtsetO
  cases setItems x with
  | none => rfl
  | some xs =>
    show (if setOk xs = true then _ else _) = M.opt (if setOk xs = true then _ else _)
    cases setOk xs <;> rfl
def lensetO (x : D) : Option D := (setItems x).bind fun xs => if setOk xs then some (.int (dedup xs).length) else none
@[simp] theorem evE_lenset (a : E) : evE call (.lenset a) ρ = M.bnd (evL call a ρ) fun x => M.opt (lensetO x) := by
  show M.bnd _ _ = _
  congr 1
  funext x
  unfold lensetO
  cases setItems x with
  | none => rfl
  | some xs =>
    show (if setOk xs = true then _ else _) = M.opt (if setOk xs = true then _ else _)
    cases setOk xs <;> rfl
@[simp] theorem evE_listrng (es : Es) : evE call (.listrng es) ρ = M.bnd (evLs call es ρ) fun ds => M.opt ((rngD ds).map PyData.list) := by
  show M.bnd _ _ = _
  congr 1
  funext ds
  cases rngD ds <;> rfl
@[simp] theorem evE_tuprng (es : Es) : evE call (.tuprng es) ρ = M.bnd (evLs call es ρ) fun ds => M.opt ((rngD ds).map PyData.tuple) := by
  show M.bnd _ _ = _
  congr 1
  funext ds
  cases rngD ds <;> rfl
@[simp] theorem evAnd_1 (e : E) : evAnd call (.cons e .nil) ρ = evE call e ρ := rfl
@[simp] theorem evAnd_2 (e e2 : E) (es : Es) : evAnd call (.cons e (.cons e2 es)) ρ = M.bnd (evE call e ρ) fun x => M.bnd (M.opt (truD x)) fun b => if b then evAnd call (.cons e2 es) ρ else M.ret x := rfl
@[simp] theorem evOr_1 (e : E) : evOr call (.cons e .nil) ρ = evE call e ρ := rfl
@[simp] theorem evOr_2 (e e2 : E) (es : Es) : evOr call (.cons e (.cons e2 es)) ρ = M.bnd (evE call e ρ) fun x => M.bnd (M.opt (truD x)) fun b => if b then M.ret x else evOr call (.cons e2 es) ρ := rfl
@[simp] theorem evTs_0 : evTs call .nil ρ = M.ret true := rfl
@[simp] theorem evTs_1 (e : E) : evTs call (.cons e .nil) ρ = evT call e ρ := rfl
@[simp] theorem evEs_0 : evEs call .nil ρ = M.ret [] := rfl
@[simp] theorem evEs_1 (e : E) (es : Es) : evEs call (.cons e es) ρ = M.bnd (evE call e ρ) fun x => M.bnd (evEs call es ρ) fun xs => M.ret (x :: xs) := rfl
@[simp] theorem evLs_0 : evLs call .nil ρ = M.ret [] := rfl
@[simp] theorem evLs_1 (e : E) (es : Es) : evLs call (.cons e es) ρ = M.bnd (evL call e ρ) fun x => M.bnd (evLs call es ρ) fun xs => M.ret (x :: xs) := rfl
@[simp] theorem evO_0 : evO call .nil ρ = M.ret none := rfl
@[simp] theorem evO_1 (e : E) : evO call (.cons e .nil) ρ = M.bnd (evE call e ρ) fun x => M.opt ((intOf x).map some) := rfl
@[simp] theorem evIt_valT (e : E) : evIt call true (.val e) ρ = M.bnd (evL call e ρ) fun x => M.opt (itemsD x) := rfl
@[simp] theorem evIt_valF (e : E) : evIt call false (.val e) ρ = M.bnd (evE call e ρ) fun x => M.opt (itemsD x) := rfl
@[simp] theorem evIt_rng (l : Bool) (es : Es) : evIt call l (.rng es) ρ = M.bnd (evLs call es ρ) fun ds => M.opt (rngD ds) := rfl
def enumO : D → Option (List D)
  | .list xs => some ((List.range xs.length).zip xs |>.map fun p => .tuple [.int (p.1 : Nat), p.2])
  | _ => none
@[simp] theorem evIt_enumT (e : E) : evIt call true (.enum e) ρ = M.bnd (evL call e ρ) fun x => M.opt (enumO x) := by
  show M.bnd _ _ = _
  congr 1
  funext x
  cases x <;> rfl
@[simp] theorem evIt_enumF (e : E) : evIt call false (.enum e) ρ = M.bnd (evE call e ρ) fun x => M.opt (enumO x) := by
  show M.bnd _ _ = _
  congr 1
  funext x
  cases x <;> rfl
def zipO : D → D → Option (List D)
  | .list xs, .list ys => some ((xs.zip ys).map fun p => .tuple [p.1, p.2])
  | .tuple xs, .tuple ys => some ((xs.zip ys).map fun p => .tuple [p.1, p.2])
  | _, _ => none
@[simp] theorem evIt_zipT (a b : E) : evIt call true (.zip a b) ρ = M.bnd (evL call a ρ) fun x => M.bnd (evL call b ρ) fun y => M.opt (zipO x y) := by
  show M.bnd _ _ = _
  congr 1
  funext x
  show M.bnd _ _ = _
  congr 1
  funext y
  cases x <;> cases y <;> rfl
@[simp] theorem evIt_zipF (a b : E) : evIt call false (.zip a b) ρ = M.bnd (evE call a ρ) fun x => M.bnd (evE call b ρ) fun y => M.opt (zipO x y) := by
  show M.bnd _ _ = _
  congr 1
  funext x
  show M.bnd _ _ = _
  congr 1
  funext y
  cases x <;> cases y <;> rfl
def getL : Option Sl → M D
  | some (.da d) => M.ret d
  | some (.ow d) => M.ret d
  | _ => M.err
@[simp] theorem getL_da (d : D) : getL (some (.da d)) = M.ret d := rfl
@[simp] theorem getL_ow (d : D) : getL (some (.ow d)) = M.ret d := rfl
@[simp] theorem evL_var (i : Nat) : evL call (.var i) ρ = getL ρ[i]? := by
  show (match ρ[i]? with
    | some (.da d) => M.ret d
    | some (.ow d) => M.ret d
    | _ => M.err) = _
  cases ρ[i]? with
  | none => rfl
  | some s => cases s <;> rfl
@[simp] theorem evL_int (i : Int) : evL call (.int i) ρ = M.ret (.int i) := rfl
@[simp] theorem evL_str (i : Str) : evL call (.str i) ρ = M.ret (.str i) := rfl
@[simp] theorem evL_bl (b : Bool) : evL call (.bl b) ρ = M.ret (.bool b) := rfl
@[simp] theorem evL_non : evL call .non ρ = M.ret .none := rfl
@[simp] theorem evL_gc (x : Str) (d : D) : evL call (.gc x d) ρ = M.ret d := rfl
@[simp] theorem evL_bop (o : BO) (a b : E) : evL call (.bop o a b) ρ = evE call (.bop o a b) ρ := rfl
@[simp] theorem evL_neg (a : E) : evL call (.neg a) ρ = evE call (.neg a) ρ := rfl
@[simp] theorem evL_not (a : E) : evL call (.not a) ρ = evE call (.not a) ρ := rfl
@[simp] theorem evL_and (es : Es) : evL call (.and es) ρ = evE call (.and es) ρ := rfl
@[simp] theorem evL_or (es : Es) : evL call (.or es) ρ = evE call (.or es) ρ := rfl
@[simp] theorem evL_cmp (o : CO) (a b : E) : evL call (.cmp o a b) ρ = evE call (.cmp o a b) ρ := rfl
@[simp] theorem evL_chn (o p : CO) (a b c : E) : evL call (.chn o p a b c) ρ = evE call (.chn o p a b c) ρ := rfl
@[simp] theorem evL_ite (c a b : E) : evL call (.ite c a b) ρ = evE call (.ite c a b) ρ := rfl
@[simp] theorem evL_tup (es : Es) : evL call (.tup es) ρ = evE call (.tup es) ρ := rfl
@[simp] theorem evL_lst (es : Es) : evL call (.lst es) ρ = evE call (.lst es) ρ := rfl
@[simp] theorem evL_dct (t : Bool) : evL call (.dct t) ρ = evE call (.dct t) ρ := rfl
@[simp] theorem evL_idx (a i : E) : evL call (.idx a i) ρ = evE call (.idx a i) ρ := rfl
@[simp] theorem evL_slc (a : E) (lo hi : Es) : evL call (.slc a lo hi) ρ = evE call (.slc a lo hi) ρ := rfl
@[simp] theorem evL_rev (a : E) : evL call (.rev a) ρ = evE call (.rev a) ρ := rfl
@[simp] theorem evL_cupi (i : Nat) (k : Bool) : evL call (.cupi i k) ρ = evE call (.cupi i k) ρ := rfl
@[simp] theorem evL_call (i : Nat) (es : Es) : evL call (.call i es) ρ = evE call (.call i es) ρ := rfl
@[simp] theorem evL_bi (b : BI) (es : Es) : evL call (.bi b es) ρ = evE call (.bi b es) ρ := rfl
@[simp] theorem evL_isi (T : String) (a : E) : evL call (.isi T a) ρ = evE call (.isi T a) ρ := rfl
@[simp] theorem evL_get2 (a k d : E) : evL call (.get2 a k d) ρ = evE call (.get2 a k d) ρ := rfl
@[simp] theorem evL_comp (vs : List (Str × Nat)) (tg : Tg) (it : It) (cs : Es) (el : E) : evL call (.comp vs tg it cs el) ρ = evE call (.comp vs tg it cs el) ρ := rfl
@[simp] theorem evL_comp2 (vs : List (Str × Nat)) (tg : Tg) (it : It) (cs : Es) (v1 : List Nat) (tg1 : Tg) (it1 : It) (cs1 : Es) (el : E) : evL call (.comp2 vs tg it cs v1 tg1 it1 cs1 el) ρ = evE call (.comp2 vs tg it cs v1 tg1 it1 cs1 el) ρ := rfl
@[simp] theorem evL_dcomp (t : Bool) (vs : List (Str × Nat)) (tg : Tg) (it : It) (cs : Es) (k v : E) : evL call (.dcomp t vs tg it cs k v) ρ = evE call (.dcomp t vs tg it cs k v) ρ := rfl
@[simp] theorem evL_srt (a : E) : evL call (.srt a) ρ = evE call (.srt a) ρ := rfl
@[simp] theorem evL_srtset (a : E) : evL call (.srtset a) ρ = evE call (.srtset a) ρ := rfl
@[simp] theorem evL_lenset (a : E) : evL call (.lenset a) ρ = evE call (.lenset a) ρ := rfl
@[simp] theorem evL_listrng (es : Es) : evL call (.listrng es) ρ = evE call (.listrng es) ρ := rfl
@[simp] theorem evL_tuprng (es : Es) : evL call (.tuprng es) ρ = evE call (.tuprng es) ρ := rfl
@[simp] theorem evT_eq (e : E) : evT call e ρ = M.bnd (evL call e ρ) fun d => M.opt (truD d) := rfl
/-! statements -/
@[simp] theorem evSs_0 : evSs call .nil ρ = M.ret (.nx ρ) := rfl
/-- what follows a statement -/
def thenF (k : En → M Fl) : Fl → M Fl
  | .nx ρ => k ρ
  | f => M.ret f
@[simp] theorem thenF_nx (k : En → M Fl) (ρ : En) : thenF k (.nx ρ) = k ρ := rfl
@[simp] theorem thenF_rt (k : En → M Fl) (d : D) : thenF k (.rt d) = M.ret (.rt d) := rfl
@[simp] theorem thenF_bk (k : En → M Fl) (ρ : En) : thenF k (.bk ρ) = M.ret (.bk ρ) := rfl
@[simp] theorem thenF_ct (k : En → M Fl) (ρ : En) : thenF k (.ct ρ) = M.ret (.ct ρ) := rfl
@[simp] theorem thenF_ite (k : En → M Fl) (p : Prop) [Decidable p] (a b : Fl) : thenF k (if p then a else b) = if p then thenF k a else thenF k b := by
  split <;> rfl
@[simp] theorem rt_ite (p : Prop) [Decidable p] (a b : D) : (if p then Fl.rt a else Fl.rt b) = Fl.rt (if p then a else b) := by
  split <;> rfl
@[simp] theorem evSs_1 (s : S) (ss : Ss) : evSs call (.cons s ss) ρ = M.bnd (evS call s ρ) (thenF (evSs call ss)) := by
  show M.bnd _ _ = _
  congr 1
@[simp] theorem evS_expr (e : E) : evS call (.expr e) ρ = M.bnd (evE call e ρ) fun _ => M.ret (.nx ρ) := rfl
@[simp] theorem evS_set (i : Nat) (e : E) : evS call (.set i e) ρ = M.bnd (evE call e ρ) fun d => M.ret (.nx (ρ.set i (.da d))) := rfl
@[simp] theorem evS_own (i : Nat) (e : E) : evS call (.own i e) ρ = M.bnd (fO call e ρ) fun d => M.ret (.nx (ρ.set i (.ow d))) := rfl
@[simp] theorem fO_eq (e : E) : fO call e ρ = M.bnd (evE call e ρ) fun d => if isOwn d then M.ret d else M.err := rfl
@[simp] theorem evS_par (is : List Nat) (es : Es) (os : List Bool) : evS call (.par is es os) ρ = M.bnd (evFs call es os ρ) fun ds => M.ret (.nx (setAllO is os ds ρ)) := rfl
@[simp] theorem evFs_0 : evFs call .nil [] ρ = M.ret [] := rfl
@[simp] theorem evFs_1 (e : E) (es : Es) (os : List Bool) : evFs call (.cons e es) (true :: os) ρ = M.bnd (fO call e ρ) fun x => M.bnd (evFs call es os ρ) fun xs => M.ret (x :: xs) := rfl
@[simp] theorem evFs_2 (e : E) (es : Es) (os : List Bool) : evFs call (.cons e es) (false :: os) ρ = M.bnd (evE call e ρ) fun x => M.bnd (evFs call es os ρ) fun xs => M.ret (x :: xs) := rfl
def optF (o : Option En) : M Fl := match o with
  | some ρ => M.ret (.nx ρ)
  | none => M.err
@[simp] theorem optF_s (ρ : En) : optF (some ρ) = M.ret (.nx ρ) := rfl
@[simp] theorem evS_unp (tg : Tg) (e : E) : evS call (.unp tg e) ρ = M.bnd (evE call e ρ) fun d => optF (setTg tg d ρ) := by
  rfl
@[simp] theorem evS_ite (c : E) (a b : Ss) : evS call (.ite c a b) ρ = M.bnd (evT call c ρ) fun k => if k then evSs call a ρ else evSs call b ρ := rfl
@[simp] theorem evS_for (tg : Tg) (it : It) (body : Ss) : evS call (.for tg it body) ρ = M.bnd (evIt call false it ρ) fun xs => forL (evSs call body) tg xs ρ := rfl
@[simp] theorem evS_whl (c : E) (body : Ss) : evS call (.whl c body) ρ = whlL (evT call c) (evSs call body) whlMax ρ := rfl
@[simp] theorem evS_retN : evS call .retN ρ = M.ret (.rt .none) := rfl
@[simp] theorem evS_pass : evS call .pass ρ = M.ret (.nx ρ) := rfl
@[simp] theorem evS_brk : evS call .brk ρ = M.ret (.bk ρ) := rfl
@[simp] theorem evS_cont : evS call .cont ρ = M.ret (.ct ρ) := rfl
@[simp] theorem evS_never : evS call .never ρ = M.err := rfl
@[simp] theorem evS_retlen (a : E) : evS call (.retlen a) ρ = M.bnd (evL call a ρ) fun x => M.bnd (M.opt (lenSort x)) fun d => M.ret (.rt d) := rfl
@[simp] theorem evS_ret (e : E) : evS call (.ret e) ρ = M.bnd (evL call e ρ) fun d => M.ret (.rt d) := by
  cases e with
  | var i =>
    rw [evL_var]
    show (match ρ[i]? with
      | some (.da d) => M.ret (.rt d)
      | some (.ow d) => M.ret (.rt d)
      | _ => M.err : M Fl) = _
    cases ρ[i]? with
    | none => rfl
    | some s => cases s <;> rfl
  | _ => rfl
def frzF (ρ : En) (i : Nat) : Option Sl → En
  | some (.ow d) => ρ.set i (.da d)
  | _ => ρ
@[simp] theorem frzF_ow (i : Nat) (d : D) : frzF ρ i (some (.ow d)) = ρ.set i (.da d) := rfl
@[simp] theorem frzF_da (i : Nat) (d : D) : frzF ρ i (some (.da d)) = ρ := rfl
@[simp] theorem frzF_no (i : Nat) : frzF ρ i (some .no) = ρ := rfl
@[simp] theorem evS_frz (i : Nat) : evS call (.frz i) ρ = M.ret (.nx (frzF ρ i ρ[i]?)) := by
  show (match ρ[i]? with
    | some (.ow d) => M.ret (.nx (ρ.set i (.da d)))
    | _ => M.ret (.nx ρ) : M Fl) = _
  cases ρ[i]? with
  | none => rfl
  | some s => cases s <;> rfl
def appF (ρ : En) (i : Nat) (o : Option Sl) (m : M D) : M Fl := match o with
  | some (.ow (.list xs)) => M.bnd m fun x => if xs.length < sizeLine then M.ret (.nx (ρ.set i (.ow (.list (xs ++ [x]))))) else M.err
  | _ => M.err
@[simp] theorem appF_l (i : Nat) (xs : List D) (m : M D) : appF ρ i (some (.ow (.list xs))) m = M.bnd m fun x => if xs.length < sizeLine then M.ret (.nx (ρ.set i (.ow (.list (xs ++ [x]))))) else M.err := rfl
@[simp] theorem evS_app (i : Nat) (e : E) : evS call (.app i e) ρ = appF ρ i ρ[i]? (evE call e ρ) := by
  show (match ρ[i]? with
    | some (.ow (.list xs)) => M.bnd (evE call e ρ) fun x => if xs.length < sizeLine then M.ret (.nx (ρ.set i (.ow (.list (xs ++ [x]))))) else M.err
    | _ => M.err : M Fl) = _
  cases ρ[i]? with
  | none => rfl
  | some s => 
    cases s with
    | ow d => cases d <;> rfl
    | _ => rfl
def putF (ρ : En) (i : Nat) (o : Option Sl) (m : M D) (mk : M D) : M Fl := match o with
  | some (.ow d) => M.bnd m fun x => M.bnd mk fun y => M.bnd (M.opt (storeD d y x)) fun d' => M.ret (.nx (ρ.set i (.ow d')))
  | _ => M.err
@[simp] theorem putF_o (i : Nat) (d : D) (m mk : M D) : putF ρ i (some (.ow d)) m mk = M.bnd m fun x => M.bnd mk fun y => M.bnd (M.opt (storeD d y x)) fun d' => M.ret (.nx (ρ.set i (.ow d'))) := rfl
@[simp] theorem evS_put (i : Nat) (k e : E) : evS call (.put i k e) ρ = putF ρ i ρ[i]? (evE call e ρ) (evE call k ρ) := by
  show (match ρ[i]? with
    | some (.ow d) => M.bnd (evE call e ρ) fun x => M.bnd (evE call k ρ) fun y => M.bnd (M.opt (storeD d y x)) fun d' => M.ret (.nx (ρ.set i (.ow d')))
    | _ => M.err : M Fl) = _
  cases ρ[i]? with
  | none => rfl
  | some s => cases s <;> rfl
def augF (ρ : En) (i : Nat) (o : BO) (s : Option Sl) (m : M D) : M Fl := match s with
    | some (.da (.int x)) => M.bnd m fun y => M.bnd (M.opt (augI o x y)) fun z => M.ret (.nx (ρ.set i (.da (.int z))))
    | some (.ow (.list xs)) => M.bnd m fun y => M.bnd (M.opt (augL o xs y)) fun zs => M.ret (.nx (ρ.set i (.ow (.list zs))))
    | _ => M.err
@[simp] theorem augF_i (i : Nat) (o : BO) (x : Int) (m : M D) : augF ρ i o (some (.da (.int x))) m = M.bnd m fun y => M.bnd (M.opt (augI o x y)) fun z => M.ret (.nx (ρ.set i (.da (.int z)))) := rfl
@[simp] theorem augF_l (i : Nat) (o : BO) (xs : List D) (m : M D) : augF ρ i o (some (.ow (.list xs))) m = M.bnd m fun y => M.bnd (M.opt (augL o xs y)) fun zs => M.ret (.nx (ρ.set i (.ow (.list zs)))) := rfl
@[simp] theorem evS_aug (i : Nat) (o : BO) (e : E) : evS call (.aug i o e) ρ = augF ρ i o ρ[i]? (evL call e ρ) := by
  show (match ρ[i]? with
    | some (.da (.int x)) => M.bnd (evL call e ρ) fun y => M.bnd (M.opt (augI o x y)) fun z => M.ret (.nx (ρ.set i (.da (.int z))))
    | some (.ow (.list xs)) => M.bnd (evL call e ρ) fun y => M.bnd (M.opt (augL o xs y)) fun zs => M.ret (.nx (ρ.set i (.ow (.list zs))))
    | _ => M.err : M Fl) = _
  cases ρ[i]? with
  | none => rfl
  | some s =>
    cases s with
    | no => rfl
    | da d => cases d <;> rfl
    | ow d => cases d <;> rfl
@[simp] theorem evS_cups (i : Nat) (k : Bool) (e : E) : evS call (.cups i k e) ρ = if isCup ρ[i]? then M.bnd (evE call e ρ) fun x => M.bnd (M.opt (intOf x)) fun n => M.bnd (setCup k n) fun _ => M.ret (.nx ρ) else M.err := rfl
end
end FS

-- part FtSet
set_option Elab.async false
set_option linter.all false
set_option maxRecDepth 100000
set_option maxHeartbeats 4000000
/-! What the operations give over sets, families, numbers. -/
namespace FS
open PySem

@[simp] theorem boD_add (x y : D) : boD .add x y = addD x y := rfl
@[simp] theorem boD_sub (x y : D) : boD .sub x y = subD x y := rfl
@[simp] theorem boD_mul (x y : D) : boD .mul x y = mulB x y := rfl
@[simp] theorem boD_fdiv (x y : D) : boD .fdiv x y = fdivD x y := rfl
@[simp] theorem boD_mod (x y : D) : boD .mod x y = modD x y := rfl
@[simp] theorem boD_pow (x y : D) : boD .pow x y = powD x y := rfl
@[simp] theorem coD_eq (x y : D) : coD .eq x y = eqD x y := rfl
@[simp] theorem coD_ne (x y : D) : coD .ne x y = neD x y := rfl
@[simp] theorem coD_lt (x y : D) : coD .lt x y = ltD x y := rfl
@[simp] theorem coD_le (x y : D) : coD .le x y = leD x y := rfl
@[simp] theorem coD_gt (x y : D) : coD .gt x y = gtD x y := rfl
@[simp] theorem coD_ge (x y : D) : coD .ge x y = geD x y := rfl
@[simp] theorem coD_in (x y : D) : coD .isin x y = inD x y := rfl
@[simp] theorem coD_nin (x y : D) : coD .nin x y = ninD x y := rfl
@[simp] theorem coD_is (x y : D) : coD .is x y = isD x y := rfl
@[simp] theorem coD_isn (x y : D) : coD .isn x y = isnD x y := rfl
@[simp] theorem biD_len (x : List D) : biD .len x = lenD x := rfl
@[simp] theorem biD_list (x : List D) : biD .list x = listD x := rfl
@[simp] theorem biD_tuple (x : List D) : biD .tuple x = tupleD x := rfl
@[simp] theorem biD_sum (x : List D) : biD .sum x = sumD x := rfl
@[simp] theorem biD_max (x : List D) : biD .max x = maxD x := rfl
@[simp] theorem biD_min (x : List D) : biD .min x = minD x := rfl
@[simp] theorem biD_any (x : List D) : biD .any x = anyD x := rfl
@[simp] theorem biD_all (x : List D) : biD .all x = allD x := rfl
@[simp] theorem biD_abs (x : List D) : biD .abs x = absD x := rfl
@[simp] theorem biD_int (x : List D) : biD .int x = intD x := rfl
@[simp] theorem biD_str (x : List D) : biD .str x = strD x := rfl
/-! the names' slots -/
@[simp] theorem setTg_one (i : Nat) (x : D) (ρ : En) : setTg (.one i) x ρ = some (ρ.set i (.da x)) := rfl
@[simp] theorem setTg_two (i j : Nat) (x y : D) (ρ : En) : setTg (.tup [i, j]) (.tuple [x, y]) ρ = some ((ρ.set i (.da x)).set j (.da y)) := rfl
@[simp] theorem setTg_three (i j k : Nat) (x y z : D) (ρ : En) : setTg (.tup [i, j, k]) (.tuple [x, y, z]) ρ = some (((ρ.set i (.da x)).set j (.da y)).set k (.da z)) := rfl
@[simp] theorem wipe0 (ρ : En) : wipeE ρ [] = ρ := rfl
@[simp] theorem wipe1 (ρ : En) (v : Nat) (vs : List Nat) : wipeE ρ (v :: vs) = (wipeE ρ vs).set v .no := rfl
@[simp] theorem setAllO_0 (ρ : En) : setAllO [] [] [] ρ = ρ := rfl
@[simp] theorem setAllO_1 (i : Nat) (is : List Nat) (o : Bool) (os : List Bool) (x : D) (xs : List D) (ρ : En) : setAllO (i :: is) (o :: os) (x :: xs) ρ = setAllO is os xs (ρ.set i (if o then .ow x else .da x)) := rfl
/-! truth, numbers -/
@[simp] theorem truD_b (b : Bool) : truD (.bool b) = some b := rfl
@[simp] theorem truD_n : truD .none = some false := rfl
@[simp] theorem addI (i j : Int) : addD (.int i) (.int j) = some (.int (i + j)) := rfl
@[simp] theorem subI (i j : Int) : subD (.int i) (.int j) = some (.int (i - j)) := rfl
theorem shaped_of {d : D} (h1 : d.canLay0 = true) (h2 : d.depth ≤ 64) : SeqAt.shaped d = true := shp_of h1 h2
@[simp] theorem shp_none : SeqAt.shaped .none = true := shp_of (by simp [PyData.canLay0]) (by simp [PyData.depth])
@[simp] theorem shp_bool (b : Bool) : SeqAt.shaped (.bool b) = true := shp_of (by simp [PyData.canLay0]) (by simp [PyData.depth])
theorem shp_str {x : Str} (h : PyData.strOk x = true) : SeqAt.shaped (.str x) = true := shp_of (by simp [PyData.canLay0, h]) (by simp [PyData.depth])
@[simp] theorem eqI (i j : Int) : eqD (.int i) (.int j) = some (.bool (decide (i = j))) := by
  simp only [eqD, shp_int, Bool.and_self, if_true, PyData.eqv, Option.some.injEq, PyData.bool.injEq]
  rw [Bool.eq_iff_iff]; simp
@[simp] theorem neI (i j : Int) : neD (.int i) (.int j) = some (.bool (decide (i ≠ j))) := by
  simp only [neD, shp_int, Bool.and_self, if_true, PyData.eqv, Option.some.injEq, PyData.bool.injEq]
  rw [Bool.eq_iff_iff]; simp
@[simp] theorem ltI (i j : Int) : ltD (.int i) (.int j) = some (.bool (decide (i < j))) := rfl
@[simp] theorem leI (i j : Int) : leD (.int i) (.int j) = some (.bool (decide (i ≤ j))) := rfl
@[simp] theorem gtI (i j : Int) : gtD (.int i) (.int j) = some (.bool (decide (j < i))) := rfl
@[simp] theorem geI (i j : Int) : geD (.int i) (.int j) = some (.bool (decide (j ≤ i))) := rfl
@[simp high] theorem eqNat (i j : Nat) : eqD (.int (i : Nat)) (.int (j : Nat)) = some (.bool (decide (i = j))) := by
  rw [eqI]; congr 2; rw [decide_eq_decide]; omega
@[simp high] theorem neNat (i j : Nat) : neD (.int (i : Nat)) (.int (j : Nat)) = some (.bool (decide (i ≠ j))) := by
  rw [neI]; congr 2; rw [decide_eq_decide]; omega
@[simp high] theorem ltNat (i j : Nat) : ltD (.int (i : Nat)) (.int (j : Nat)) = some (.bool (decide (i < j))) := by
  rw [ltI]; congr 2; rw [decide_eq_decide]; omega
@[simp high] theorem leNat (i j : Nat) : leD (.int (i : Nat)) (.int (j : Nat)) = some (.bool (decide (i ≤ j))) := by
  rw [leI]; congr 2; rw [decide_eq_decide]; omega
@[simp high] theorem gtNat (i j : Nat) : gtD (.int (i : Nat)) (.int (j : Nat)) = some (.bool (decide (j < i))) := by
  rw [gtI]; congr 2; rw [decide_eq_decide]; omega
@[simp high] theorem geNat (i j : Nat) : geD (.int (i : Nat)) (.int (j : Nat)) = some (.bool (decide (j ≤ i))) := by
  rw [geI]; congr 2; rw [decide_eq_decide]; omega
@[simp high] theorem addNat (i j : Nat) : addD (.int (i : Nat)) (.int (j : Nat)) = some (.int ((i + j : Nat) : Int)) := rfl
@[simp] theorem isI_none (i : Int) : isD (.int i) .none = some (.bool false) := rfl
@[simp] theorem isN_none : isD .none .none = some (.bool true) := rfl
@[simp] theorem isT_none (l : List D) : isD (.tuple l) .none = some (.bool false) := rfl
@[simp] theorem isB_none (b : Bool) : isD (.bool b) .none = some (.bool false) := rfl
@[simp] theorem isB_b (a b : Bool) : isD (.bool a) (.bool b) = some (.bool (decide (a = b))) := rfl
@[simp] theorem isnI_none (i : Int) : isnD (.int i) .none = some (.bool true) := rfl
@[simp] theorem isnN_none : isnD .none .none = some (.bool false) := rfl
@[simp] theorem isnT_none (l : List D) : isnD (.tuple l) .none = some (.bool true) := rfl
/-! lengths -/
@[simp] theorem len_list (l : List D) : lenD [.list l] = some (.int l.length) := rfl
@[simp] theorem len_tup (l : List D) : lenD [.tuple l] = some (.int l.length) := rfl
@[simp] theorem len_str (x : Str) : lenD [.str x] = some (.int x.length) := rfl
@[simp] theorem len_enc (m : B8) : lenD [enc m] = some (.int (pc m : Nat)) := by
  show some (PyData.int _) = _
  simp [pc]
@[simp] theorem len_famT (l : List B8) : lenD [famT l] = some (.int (l.length : Nat)) := by
  show some (PyData.int _) = _
  simp
@[simp] theorem len_famL (l : List B8) : lenD [famL l] = some (.int (l.length : Nat)) := by
  show some (PyData.int _) = _
  simp
/-! back to sets -/
@[simp] theorem tupN_bits (m : B8) : tupN (bits m) = enc m := rfl
@[simp] theorem tup_fins (l : List (Fin 8)) : PyData.tuple (l.map fun i : Fin 8 => .int (i.val : Int)) = tupF l := rfl
@[simp] theorem tupF_bits (m : B8) : tupF (bitsF m) = enc m := (enc_F m).symm
@[simp] theorem filterF_in (a b : B8) : (bitsF a).filter (fun i => b.getLsbD i.val) = bitsF (a &&& b) := by
  unfold bitsF
  rw [List.filter_filter]
  congr 1
  funext i
  rw [BitVec.getLsbD_and, Bool.and_comm]
@[simp] theorem filterF_nin (a b : B8) : (bitsF a).filter (fun i => !b.getLsbD i.val) = bitsF (less a b) := by
  unfold bitsF less
  rw [List.filter_filter]
  congr 1
  funext i
  rw [BitVec.getLsbD_and, BitVec.getLsbD_not, Bool.and_comm]
  simp [i.isLt]
@[simp] theorem filterF_in' (a b : B8) : (bitsF a).filter (fun i => b[i.val]) = bitsF (a &&& b) := by
  rw [← filterF_in]
  congr 1
@[simp] theorem filterF_nin' (a b : B8) : (bitsF a).filter (fun i => !b[i.val]) = bitsF (less a b) := by
  rw [← filterF_nin]
  congr 1
@[simp] theorem tup_nats (l : List Nat) : PyData.tuple (l.map fun i : Nat => .int (i : Int)) = tupN l := rfl
@[simp] theorem tuple_nats (l : List Nat) : tupleD [.list (l.map fun i => .int (i : Nat))] = some (tupN l) := rfl
@[simp] theorem tuple_list (l : List D) : tupleD [.list l] = some (.tuple l) := rfl
@[simp] theorem tuple_famL (l : List B8) : tupleD [famL l] = some (famT l) := rfl
@[simp] theorem list_enc (m : B8) : listD [enc m] = some (.list ((bitsF m).map fun i => .int (i.val : Nat))) := by
  rw [enc_F]; rfl
@[simp] theorem list_famT (l : List B8) : listD [famT l] = some (famL l) := rfl
@[simp] theorem fam_list0 (l : List B8) : PyData.list (l.map enc) = famL l := rfl
@[simp] theorem fam_tup0 (l : List B8) : PyData.tuple (l.map enc) = famT l := rfl
@[simp] theorem fam_list {α : Type} (f : α → B8) (l : List α) : PyData.list (l.map fun x => enc (f x)) = famL (l.map f) := by
  unfold famL
  rw [List.map_map]; rfl
@[simp] theorem fam_tup {α : Type} (f : α → B8) (l : List α) : PyData.tuple (l.map fun x => enc (f x)) = famT (l.map f) := by
  unfold famT
  rw [List.map_map]; rfl
@[simp] theorem filter_in (a b : B8) : (bits a).filter (fun i => b.getLsbD i) = bits (a &&& b) := (bits_and a b).symm
@[simp] theorem filter_nin (a b : B8) : (bits a).filter (fun i => !b.getLsbD i) = bits (less a b) := (bits_less a b).symm
@[simp] theorem items_list (xs : List D) : itemsD (.list xs) = some xs := rfl
@[simp] theorem items_tuple (xs : List D) : itemsD (.tuple xs) = some xs := rfl
@[simp] theorem own_list (xs : List D) : isOwn (.list xs) = true := rfl
@[simp] theorem own_famL (l : List B8) : isOwn (famL l) = true := rfl
@[simp] theorem appF_fam (ρ : En) (i : Nat) (l : List B8) (m : M D) : appF ρ i (some (.ow (famL l))) m = M.bnd m fun x => if l.length < 16777216 then M.ret (.nx (ρ.set i (.ow (.list (l.map enc ++ [x]))))) else M.err := by
  show M.bnd m _ = M.bnd m _
  congr 1
  funext x
  show (if (l.map enc).length < sizeLine then _ else _) = _
  rw [List.length_map, show sizeLine = 16777216 by decide]
@[simp] theorem fam_snoc (l : List B8) (m : B8) : PyData.list (l.map enc ++ [enc m]) = famL (l ++ [m]) := by
  unfold famL
  rw [List.map_append]
  rfl
/-! all and any, max -/
theorem boolsOf_map {α : Type} (p : α → Bool) : ∀ l : List α, boolsOf (l.map fun x => .bool (p x)) = some (l.map p)
  | [] => rfl
  | x :: l => by
    show (boolsOf (l.map _)).map _ = _
    rw [boolsOf_map p l]; rfl
@[simp] theorem all_map {α : Type} (p : α → Bool) (l : List α) : allD [.list (l.map fun x => .bool (p x))] = some (.bool (l.all p)) := by
  show (boolsOf _).map _ = _
  rw [boolsOf_map]
  simp
@[simp] theorem any_map {α : Type} (p : α → Bool) (l : List α) : anyD [.list (l.map fun x => .bool (p x))] = some (.bool (l.any p)) := by
  show (boolsOf _).map _ = _
  rw [boolsOf_map]
  simp
def maxN (l : List Nat) : Nat := l.foldr max 0
theorem intsOf_map {α : Type} (p : α → Int) : ∀ l : List α, intsOf (l.map fun x => .int (p x)) = some (l.map p)
  | [] => rfl
  | x :: l => by
    show (intsOf (l.map _)).map _ = _
    rw [intsOf_map p l]; rfl
theorem maxI_nat : ∀ (l : List Nat), l ≠ [] → maxI (l.map fun n : Nat => (n : Int)) = some (maxN l : Nat)
  | [n], _ => by simp [maxI, maxN]
  | n :: m :: l, _ => by
    have h := maxI_nat (m :: l) (by simp)
    show (match maxI _ with
      | none => some _
      | some k => some (if k ≤ _ then _ else k)) = _
    rw [h]
    show some _ = some _
    congr 1
    show _ = ((max n (maxN (m :: l)) : Nat) : Int)
    simp only []
    split <;> omega
theorem max_map {α : Type} (p : α → Nat) (l : List α) (h : l ≠ []) : maxD [.list (l.map fun x => .int (p x : Nat))] = some (.int (maxN (l.map p) : Nat)) := by
  show ((intsOf _).bind _) = _
  rw [intsOf_map (fun x => (p x : Int))]
  show (maxI _).map _ = _
  have e : l.map (fun x => (p x : Int)) = (l.map p).map fun n : Nat => (n : Int) := by rw [List.map_map]; rfl
  rw [e, maxI_nat _ (fun z => h (List.map_eq_nil_iff.mp z))]
  rfl
theorem sum_cast : ∀ l : List Nat, (l.map fun x : Nat => (x : Int)).sum = (l.sum : Nat)
  | [] => rfl
  | x :: l => by
    rw [List.map_cons, List.sum_cons, List.sum_cons, sum_cast l]
    omega
theorem sum_map {α : Type} (p : α → Nat) (l : List α) : sumD [.list (l.map fun x => .int (p x : Nat))] = some (.int ((l.map p).sum : Nat)) := by
  show (intsOf _).map _ = _
  rw [intsOf_map (fun x => (p x : Int))]
  show some _ = some _
  have e : l.map (fun x => (p x : Int)) = (l.map p).map fun n : Nat => (n : Int) := by rw [List.map_map]; rfl
  simp only [e, sum_cast]
/-! sizeLine -/
@[simp] theorem sizeLine_val : sizeLine = 16777216 := by decide

theorem size_ge {n : Nat} (h : n ≤ 1000000) : n ≤ sizeLine := Nat.le_trans h (by decide)
end FS

-- part FtSort
set_option Elab.async false
set_option linter.all false
set_option maxRecDepth 100000
set_option maxHeartbeats 4000000
/-! Orders, and what sorting gives. -/
namespace FS
open PySem PySem.W PyProof.Rows

/-- the order of tuples of numbers -/
def lexN : List Nat → List Nat → Bool
  | [], [] => false
  | [], _ :: _ => true
  | _ :: _, [] => false
  | x :: xs, y :: ys => decide (x < y) || (decide (x = y) && lexN xs ys)
def ltB (a b : B8) : Bool := lexN (bits a) (bits b)
def leB (a b : B8) : Bool := !ltB b a
theorem toks_tupN : ∀ xs ys : List Nat, PyProof.Rows.lexLt itemOrd (keyToksAll (xs.map fun i : Nat => PyData.int i)) (keyToksAll (ys.map fun i : Nat => PyData.int i)) = lexN xs ys
  | [], [] => by simp [keyToksAll, PyProof.Rows.lexLt, itemOrd, itemLt, lexN]
  | [], _ :: _ => by simp [keyToksAll, PyProof.Rows.lexLt, itemOrd, itemLt, lexN]
  | _ :: _, [] => by simp [keyToksAll, PyProof.Rows.lexLt, itemOrd, itemLt, lexN]
  | x :: xs, y :: ys => by
    have ih := toks_tupN xs ys
    simp only [List.map_cons, keyToksAll, keyToks, List.cons_append, List.nil_append, PyProof.Rows.lexLt, itemOrd, itemLt] at ih ⊢
    rw [ih]
    simp only [lexN, Int.lt_irrefl, decide_false, Bool.false_or, Bool.not_false, Bool.true_and, Int.ofNat_lt]
    by_cases h1 : x < y
    · simp [h1]
    · by_cases h2 : x = y
      · simp [h2]
      · have : y < x := by omega
        simp [h1, h2, this]
@[simp] theorem dlt_tupN (xs ys : List Nat) : dataLt (tupN xs) (tupN ys) = lexN xs ys := by
  unfold tupN
  rw [dataLt_tuple, toks_tupN]
theorem alikeAll_nats : ∀ xs ys : List Nat, alikeAll (xs.map fun i : Nat => PyData.int i) (ys.map fun i : Nat => PyData.int i) = true
  | [], _ => by simp [alikeAll]
  | _ :: _, [] => by simp [alikeAll]
  | x :: xs, y :: ys => by simp [alikeAll, alike, alikeAll_nats xs ys]
@[simp] theorem alike_tupN (xs ys : List Nat) : alike (tupN xs) (tupN ys) = true := by
  unfold tupN
  simp [alike, alikeAll_nats]
@[simp] theorem alike_enc (a b : B8) : alike (enc a) (enc b) = true := alike_tupN _ _
@[simp] theorem dlt_enc (a b : B8) : dataLt (enc a) (enc b) = ltB a b := dlt_tupN _ _
@[simp] theorem lt_enc (a b : B8) : ltD (enc a) (enc b) = some (.bool (ltB a b)) := by
  have h : ltD (enc a) (enc b) = if (SeqAt.shaped (enc a) && SeqAt.shaped (enc b) && W.alike (enc a) (enc b)) = true then some (.bool (W.dataLt (enc a) (enc b))) else none := rfl
  rw [h]
  simp
theorem dle_enc (a b : B8) : dataLe false id (enc a) (enc b) = leB a b := by
  show (!dataLt (enc b) (enc a)) = _
  rw [dlt_enc]; rfl
/-! the order's laws -/
theorem lexN_irr : ∀ x : List Nat, lexN x x = false
  | [] => rfl
  | x :: xs => by simp [lexN, lexN_irr xs]
theorem lexN_trans : ∀ {x y z : List Nat}, lexN x y = true → lexN y z = true → lexN x z = true
  | [], [], _, h, _ => by cases h
  | [], _ :: _, [], _, h => by cases h
  | [], _ :: _, _ :: _, _, _ => rfl
  | _ :: _, [], _, h, _ => by cases h
  | _ :: _, _ :: _, [], _, h => by cases h
  | a :: x, b :: y, c :: z, h1, h2 => by
    simp only [lexN, Bool.or_eq_true, Bool.and_eq_true, decide_eq_true_eq] at h1 h2 ⊢
    rcases h1 with h1 | ⟨h1, k1⟩
    · rcases h2 with h2 | ⟨h2, k2⟩
      · exact .inl (by omega)
      · exact .inl (by omega)
    · rcases h2 with h2 | ⟨h2, k2⟩
      · exact .inl (by omega)
      · exact .inr ⟨by omega, lexN_trans k1 k2⟩
theorem lexN_total : ∀ (x y : List Nat), lexN x y = false → lexN y x = false → x = y
  | [], [], _, _ => rfl
  | [], _ :: _, h, _ => by cases h
  | _ :: _, [], _, h => by cases h
  | a :: x, b :: y, h1, h2 => by
    simp only [lexN, Bool.or_eq_false_iff, Bool.and_eq_false_iff, decide_eq_false_iff_not] at h1 h2
    have e : a = b := by omega
    subst e
    rw [lexN_total x y (by simpa using h1.2) (by simpa using h2.2)]
theorem bits_inj {a b : B8} (h : bits a = bits b) : a = b := by
  apply BitVec.eq_of_getLsbD_eq
  intro i hi
  rw [Bool.eq_iff_iff, ← mem_bits, ← mem_bits, h]
theorem ltB_irr (a : B8) : ltB a a = false := lexN_irr _
theorem ltB_trans {a b c : B8} (h1 : ltB a b = true) (h2 : ltB b c = true) : ltB a c = true := lexN_trans h1 h2
theorem ltB_total {a b : B8} (h1 : ltB a b = false) (h2 : ltB b a = false) : a = b := bits_inj (lexN_total _ _ h1 h2)
theorem leB_trans (a b c : B8) (h1 : leB a b = true) (h2 : leB b c = true) : leB a c = true := by
  unfold leB at *
  simp only [Bool.not_eq_true'] at *
  cases e : ltB c a with
  | false => rfl
  | true =>
    cases e2 : ltB b c with
    | true => rw [ltB_trans e2 e] at h1; cases h1
    | false =>
      have := ltB_total e2 h2
      subst this
      rw [e] at h1; cases h1
theorem leB_total (a b : B8) : (leB a b || leB b a) = true := by
  unfold leB
  cases e : ltB b a with
  | false => rfl
  | true =>
    cases e2 : ltB a b with
    | false => rfl
    | true => 
      have := ltB_trans e e2
      rw [ltB_irr] at this; cases this
theorem leB_anti {a b : B8} (h1 : leB a b = true) (h2 : leB b a = true) : a = b := by
  unfold leB at *
  simp only [Bool.not_eq_true'] at *
  exact ltB_total h2 h1
/-- sorted sets -/
def sortB (l : List B8) : List B8 := l.mergeSort leB
theorem sortB_perm (l : List B8) : (sortB l).Perm l := List.mergeSort_perm l leB
theorem sortB_sorted (l : List B8) : (sortB l).Pairwise fun a b => leB a b = true := List.pairwise_mergeSort leB_trans leB_total l
@[simp] theorem mem_sortB {l : List B8} {a : B8} : a ∈ sortB l ↔ a ∈ l := (sortB_perm l).mem_iff
@[simp] theorem length_sortB (l : List B8) : (sortB l).length = l.length := (sortB_perm l).length_eq
/-- rising, without doubles -/
def Rising (l : List B8) : Prop := l.Pairwise fun a b => ltB a b = true
theorem Rising.nodup {l : List B8} (h : Rising l) : l.Nodup := List.Pairwise.imp (fun {a b} h e => by subst e; rw [ltB_irr] at h; cases h) h
theorem rising_sort {l : List B8} (h : l.Nodup) : Rising (sortB l) := by
  have h1 := sortB_sorted l
  have h2 : (sortB l).Nodup := (sortB_perm l).nodup_iff.mpr h
  unfold Rising
  refine (List.Pairwise.and h1 h2).imp fun {a b} ⟨k1, k2⟩ => ?_
  cases e : ltB a b with
  | true => rfl
  | false =>
    refine absurd ?_ k2
    unfold leB at k1
    exact ltB_total e (by simpa using k1)
/-- the same sets, both rising: one list -/
theorem rising_ext {l m : List B8} (hl : Rising l) (hm : Rising m) (h : ∀ a, a ∈ l ↔ a ∈ m) : l = m := by
  have p : l.Perm m := by
    rw [List.perm_ext_iff_of_nodup hl.nodup hm.nodup]
    exact h
  exact p.eq_of_pairwise (le := fun a b => leB a b = true) (fun a b _ _ h1 h2 => leB_anti h1 h2) (hl.imp fun {a b} h => by
    unfold leB
    cases e : ltB b a with
    | false => rfl
    | true => have := ltB_trans h e; rw [ltB_irr] at this; cases this) (hm.imp fun {a b} h => by
    unfold leB
    cases e : ltB b a with
    | false => rfl
    | true => have := ltB_trans h e; rw [ltB_irr] at this; cases this)
theorem rising_filter {l : List B8} (p : B8 → Bool) (h : Rising l) : Rising (l.filter p) := List.Pairwise.filter p h
theorem sort_rising {l : List B8} (h : Rising l) : sortB l = l := rising_ext (rising_sort h.nodup) h fun a => mem_sortB
/-! sorted, by the evaluator -/
@[simp] theorem noN_enc (m : B8) : isNoneD (enc m) = false := rfl
@[simp] theorem srt_famL (l : List B8) : srtO (famL l) = some (famL (sortB l)) := by
  show (srtD (l.map enc)).map PyData.list = _
  have h : ((l.map enc).all (fun a => (l.map enc).all fun b => W.alike a b) && (l.map enc).all fun a => SeqAt.shaped a && !isNoneD a) = true := by
    simp
  unfold srtD
  rw [h]
  show some (PyData.list _) = some (famL _)
  unfold famL sortB
  rw [List.map_mergeSort (r := leB) (s := dataLe false id) (f := enc) fun a _ b _ => (dle_enc a b).symm]
end FS

-- part FtSort2
set_option Elab.async false
set_option linter.all false
set_option maxRecDepth 100000
set_option maxHeartbeats 4000000
/-! Sets made of lists, sorted. -/
namespace FS
open PySem PySem.W PyProof.Rows

/-- the last of alike ones -/
def dd {α : Type} [DecidableEq α] : List α → List α
  | [] => []
  | x :: xs => if x ∈ dd xs then dd xs else x :: dd xs
theorem mem_dd {α : Type} [DecidableEq α] {a : α} : ∀ {l : List α}, a ∈ dd l ↔ a ∈ l
  | [] => Iff.rfl
  | x :: xs => by
    unfold dd
    split
    · rename_i h
      rw [mem_dd (l := xs), List.mem_cons]
      refine ⟨.inr, fun h2 => h2.elim (fun e => ?_) id⟩
      rw [e]
      exact mem_dd.mp h
    · rw [List.mem_cons, List.mem_cons, mem_dd (l := xs)]
theorem dd_nodup {α : Type} [DecidableEq α] : ∀ l : List α, (dd l).Nodup
  | [] => List.nodup_nil
  | x :: xs => by
    unfold dd
    split
    · exact dd_nodup xs
    · rename_i h
      exact List.nodup_cons.mpr ⟨h, dd_nodup xs⟩
theorem dd_id {α : Type} [DecidableEq α] : ∀ {l : List α}, l.Nodup → dd l = l
  | [], _ => rfl
  | x :: xs, h => by
    have h := List.nodup_cons.mp h
    unfold dd
    rw [dd_id h.2, if_neg h.1]
/-- the data's own doubles are the typed ones -/
theorem dedup_map {α : Type} [DecidableEq α] (f : α → D) (h : ∀ a b, PyData.eqv (f a) (f b) = decide (a = b)) : ∀ l : List α, dedup (l.map f) = (dd l).map f
  | [] => rfl
  | x :: xs => by
    show (if (dedup (xs.map f)).any (fun y => PyData.eqv y (f x)) then dedup (xs.map f) else f x :: dedup (xs.map f)) = _
    rw [dedup_map f h xs]
    have e : ((dd xs).map f).any (fun y => PyData.eqv y (f x)) = decide (x ∈ dd xs) := by
      rw [List.any_map, Bool.eq_iff_iff]
      simp only [List.any_eq_true, Function.comp, h, decide_eq_true_eq]
      exact ⟨fun ⟨y, h1, h2⟩ => h2 ▸ h1, fun h1 => ⟨x, h1, rfl⟩⟩
    rw [e, show dd (x :: xs) = if x ∈ dd xs then dd xs else x :: dd xs from rfl]
    by_cases h1 : x ∈ dd xs <;> simp [h1]
@[simp] theorem eqvAll_nats : ∀ a b : List Nat, PyData.eqvAll (a.map fun i : Nat => PyData.int i) (b.map fun i : Nat => PyData.int i) = decide (a = b)
  | [], [] => by simp [PyData.eqvAll]
  | [], _ :: _ => by simp [PyData.eqvAll]
  | _ :: _, [] => by simp [PyData.eqvAll]
  | x :: xs, y :: ys => by
    simp only [List.map_cons, PyData.eqvAll, PyData.eqv, eqvAll_nats xs ys]
    rw [Bool.eq_iff_iff]
    simp only [Bool.and_eq_true, beq_iff_eq, decide_eq_true_eq, List.cons.injEq]
    refine and_congr ?_ Iff.rfl
    omega
@[simp] theorem eqv_tupN (a b : List Nat) : PyData.eqv (tupN a) (tupN b) = decide (a = b) := by
  unfold tupN
  simp [PyData.eqv]
@[simp] theorem eqv_enc (a b : B8) : PyData.eqv (enc a) (enc b) = decide (a = b) := by
  unfold enc
  rw [eqv_tupN, Bool.eq_iff_iff, decide_eq_true_eq, decide_eq_true_eq]
  exact ⟨bits_inj, fun h => by rw [h]⟩
@[simp] theorem eqE (a b : B8) : eqD (enc a) (enc b) = some (.bool (decide (a = b))) := by simp [eqD]
@[simp] theorem neE (a b : B8) : neD (enc a) (enc b) = some (.bool (decide (a ≠ b))) := by
  simp [neD]
/-- a family of the sets of a list, sorted -/
def setB (l : List B8) : List B8 := sortB (dd l)
@[simp] theorem mem_setB {l : List B8} {a : B8} : a ∈ setB l ↔ a ∈ l := by
  unfold setB
  rw [mem_sortB, mem_dd]
theorem rising_set (l : List B8) : Rising (setB l) := rising_sort (dd_nodup l)
theorem set_nodup {l : List B8} (h : l.Nodup) : setB l = sortB l := by
  unfold setB
  rw [dd_id h]
theorem tup_ok (l : List B8) : (l.map enc).all isIntTup = true := by
  rw [List.all_map, List.all_eq_true]
  intro x _
  show ((bits x).map fun i : Nat => PyData.int i).all _ = true
  rw [List.all_map, List.all_eq_true]
  intro i _
  rfl
theorem setOk_fam {l : List B8} (h : l.length < 64) : setOk (l.map enc) = true := by
  unfold setOk
  rw [tup_ok]
  simp [h]
theorem srtset_L {l : List B8} (h : l.length < 64) : srtsetO (famL l) = some (famL (setB l)) := by
  show (if setOk (l.map enc) = true then some (PyData.list _) else none) = _
  rw [setOk_fam h, if_pos rfl, dedup_map enc eqv_enc]
  unfold famL setB sortB
  rw [List.map_mergeSort (r := leB) (s := dataLe false id) (f := enc) fun a _ b _ => (dle_enc a b).symm]
theorem srtset_T {l : List B8} (h : l.length < 64) : srtsetO (famT l) = some (famL (setB l)) := srtset_L h
theorem lenset_L {l : List B8} (h : l.length < 64) : lensetO (famL l) = some (.int ((dd l).length : Nat)) := by
  show (if setOk (l.map enc) = true then some (PyData.int _) else none) = _
  rw [setOk_fam h, if_pos rfl, dedup_map enc eqv_enc, List.length_map]
/-! numbers -/
theorem eqv_nat (a b : Nat) : PyData.eqv (.int a) (.int b) = decide (a = b) := by
  rw [eqv_int, Bool.eq_iff_iff]
  simp
  omega
def leN (a b : Nat) : Bool := decide (a ≤ b)
def setN (l : List Nat) : List Nat := (dd l).mergeSort leN
@[simp] theorem mem_setN {l : List Nat} {a : Nat} : a ∈ setN l ↔ a ∈ l := by
  unfold setN
  rw [(List.mergeSort_perm _ _).mem_iff, mem_dd]
theorem leN_trans (a b c : Nat) (h1 : leN a b = true) (h2 : leN b c = true) : leN a c = true := by
  unfold leN at *
  simp only [decide_eq_true_eq] at *
  omega
theorem leN_total (a b : Nat) : (leN a b || leN b a) = true := by
  unfold leN
  simp only [Bool.or_eq_true, decide_eq_true_eq]
  omega
theorem setN_asc (l : List Nat) : (setN l).Pairwise (· < ·) := by
  have h1 : (setN l).Pairwise fun a b => leN a b = true := List.pairwise_mergeSort leN_trans leN_total _
  have h2 : (setN l).Nodup := (List.mergeSort_perm (dd l) leN).nodup_iff.mpr (dd_nodup l)
  refine (List.Pairwise.and h1 h2).imp fun {a b} ⟨k1, k2⟩ => ?_
  unfold leN at k1
  simp only [decide_eq_true_eq] at k1
  omega
theorem asc_ext {l m : List Nat} (hl : l.Pairwise (· < ·)) (hm : m.Pairwise (· < ·)) (h : ∀ a, a ∈ l ↔ a ∈ m) : l = m := by
  have nd : ∀ {l : List Nat}, l.Pairwise (· < ·) → l.Nodup := fun h => h.imp fun {a b} h => Nat.ne_of_lt h
  have p : l.Perm m := by
    rw [List.perm_ext_iff_of_nodup (nd hl) (nd hm)]
    exact h
  exact p.eq_of_pairwise (le := (· < ·)) (fun a b _ _ h1 h2 => by omega) hl hm
theorem bits_asc (m : B8) : (bits m).Pairwise (· < ·) := by
  unfold bits
  exact List.Pairwise.filter _ List.pairwise_lt_range
theorem keysOf_nats : ∀ l : List Nat, (keysOf (l.map fun i : Nat => PyData.int i)).isSome = true
  | [] => rfl
  | x :: l => by
    have h := keysOf_nats l
    show (match keyOf (PyData.int x), keysOf (l.map fun i : Nat => PyData.int i) with
      | some k, some ks => some (k :: ks)
      | _, _ => none).isSome = true
    cases e : keysOf (l.map fun i : Nat => PyData.int i) with
    | none => rw [e] at h; cases h
    | some ks => rfl
theorem setOk_nats {l : List Nat} (h : l.length < 4000) : setOk (l.map fun i : Nat => PyData.int i) = true := by
  unfold setOk
  rw [keysOf_nats]
  have e : ∀ i : Nat, isNoneD (.int (i : Int)) = false := fun _ => rfl
  have e2 : ∀ i j : Int, W.alike (.int i) (.int j) = true := fun i j => by simp [alike]
  simp [h, e, e2]
theorem dle_nat (a b : Nat) : dataLe false id (PyData.int (a : Int)) (PyData.int (b : Int)) = leN a b := by
  show (!dataLt (.int b) (.int a)) = _
  rw [dataLt_int]
  unfold leN
  rw [Bool.eq_iff_iff]
  simp
theorem srtset_N {l : List Nat} (h : l.length < 4000) : srtsetO (tupN l) = some (.list ((setN l).map fun i : Nat => .int i)) := by
  show (if setOk (l.map fun i : Nat => PyData.int i) = true then some (PyData.list _) else none) = _
  rw [setOk_nats h, if_pos rfl, dedup_map (fun i : Nat => PyData.int i) eqv_nat]
  unfold setN
  rw [List.map_mergeSort (r := leN) (s := dataLe false id) (f := fun i : Nat => PyData.int i) fun a _ b _ => (dle_nat a b).symm]
theorem setN_or (a b : B8) : setN (bits a ++ bits b) = bits (a ||| b) := by
  refine asc_ext (setN_asc _) (bits_asc _) fun i => ?_
  rw [mem_setN, List.mem_append, mem_bits, mem_bits, mem_bits, BitVec.getLsbD_or, Bool.or_eq_true]
theorem pc_le (m : B8) : pc m ≤ 8 := by
  unfold pc bits
  exact Nat.le_trans (List.length_filter_le _ _) (by simp)
@[simp] theorem add_enc (a b : B8) : addD (enc a) (enc b) = some (tupN (bits a ++ bits b)) := by
  have h1 := pc_le a
  have h2 := pc_le b
  unfold pc at h1 h2
  show (if ((bits a).map fun i : Nat => PyData.int i).length + ((bits b).map fun i : Nat => PyData.int i).length ≤ sizeLine then some (PyData.tuple _) else none) = _
  rw [if_pos (size_ge (by simp only [List.length_map]; omega))]
  unfold tupN
  rw [List.map_append]
@[simp] theorem srtset_or (a b : B8) : srtsetO (tupN (bits a ++ bits b)) = some (.list ((bits (a ||| b)).map fun i : Nat => .int i)) := by
  have h1 := pc_le a
  have h2 := pc_le b
  unfold pc at h1 h2
  rw [srtset_N (by rw [List.length_append]; omega), setN_or]
end FS

-- part FtKinds
set_option Elab.async false
set_option linter.all false
set_option maxRecDepth 100000
set_option maxHeartbeats 4000000
/-! kinds.py, read. -/
namespace FS
open PySem PySem.W

/-! ### systems as data -/
structure Sys where
  nm : List Str
  B : List B8
def nmD (l : List Str) : D := .tuple (l.map .str)
namespace Sys
def n (S : Sys) : Nat := S.nm.length
def enc (S : Sys) : D := .tuple [nmD S.nm, famT S.B]
end Sys
@[simp] theorem idx_sys0 (S : Sys) : idxD S.enc (.int 0) = some (nmD S.nm) := rfl
@[simp] theorem idx_sys1 (S : Sys) : idxD S.enc (.int 1) = some (famT S.B) := rfl
@[simp] theorem len_nmD (l : List Str) : lenD [nmD l] = some (.int (l.length : Nat)) := by
  show some (PyData.int _) = _
  simp
theorem len_sysn (S : Sys) : lenD [nmD S.nm] = some (.int (S.n : Nat)) := len_nmD _
@[simp] theorem len_sys (S : Sys) : lenD [S.enc] = some (.int 2) := rfl
@[simp] theorem items_nmD (l : List Str) : itemsD (nmD l) = some (l.map .str) := rfl
/-! ### what class -/
@[simp] theorem isi_int (i : Int) : isiD "int" (.int i) = some (.bool true) := by simp [isiD, PyData.canLay0, isiB, tyN]
@[simp] theorem isi_int_b (i : Int) : isiD "bool" (.int i) = some (.bool false) := by simp [isiD, PyData.canLay0, isiB, tyN]
@[simp] theorem isi_int_t (i : Int) : isiD "tuple" (.int i) = some (.bool false) := by simp [isiD, PyData.canLay0, isiB, tyN]
@[simp] theorem isi_int_l (i : Int) : isiD "list" (.int i) = some (.bool false) := by simp [isiD, PyData.canLay0, isiB, tyN]
@[simp] theorem isi_bool_b (b : Bool) : isiD "bool" (.bool b) = some (.bool true) := by simp [isiD, PyData.canLay0, isiB, tyN]
@[simp] theorem isi_bool_t (b : Bool) : isiD "tuple" (.bool b) = some (.bool false) := by simp [isiD, PyData.canLay0, isiB, tyN]
@[simp] theorem isi_bool_l (b : Bool) : isiD "list" (.bool b) = some (.bool false) := by simp [isiD, PyData.canLay0, isiB, tyN]
theorem isi_tup {l : List D} (h : PyData.canLayAll0 l = true) : isiD "tuple" (.tuple l) = some (.bool true) := by simp [isiD, PyData.canLay0, isiB, tyN, h]
@[simp] theorem isi_enc (m : B8) : isiD "tuple" (enc m) = some (.bool true) := isi_tup (lay_tupN _)
theorem lay_fam : ∀ l : List B8, PyData.canLayAll0 (l.map enc) = true
  | [] => rfl
  | m :: l => by
    have : (enc m).canLay0 = true := by
      show (tupN _).canLay0 = true
      simp only [tupN, PyData.canLay0]
      exact lay_tupN _
    simp only [List.map_cons, PyData.canLayAll0, this, lay_fam l, Bool.and_self]
@[simp] theorem isi_famT (l : List B8) : isiD "tuple" (famT l) = some (.bool true) := isi_tup (lay_fam l)
def strsOk (l : List Str) : Bool := l.all fun x => PyData.strOk x
theorem lay_strsOk : ∀ {l : List Str}, strsOk l = true → PyData.canLayAll0 (l.map .str) = true
  | [], _ => rfl
  | m :: l, h => by
    unfold strsOk at h
    rw [List.all_cons, Bool.and_eq_true] at h
    simp only [List.map_cons, PyData.canLayAll0, PyData.canLay0, h.1, Bool.true_and]
    exact lay_strsOk h.2
theorem isi_nmD {l : List Str} (h : strsOk l = true) : isiD "tuple" (nmD l) = some (.bool true) := isi_tup (lay_strsOk h)
theorem isi_sys {S : Sys} (h : strsOk S.nm = true) : isiD "tuple" S.enc = some (.bool true) := isi_tup (by
  have h1 := lay_fam S.B
  have h2 := lay_strsOk h
  simp [PyData.canLayAll0, PyData.canLay0, nmD, famT, h1, h2, -fam_tup0, -fam_tup])
/-! ### zip, slices -/
theorem cut_drop {α : Type} (l : List α) (k : Nat) : cutD l (some (k : Int)) none = l.drop k := by
  unfold cutD
  rw [HT.sIx_nat, HT.sIx_none]
  by_cases h : k ≤ l.length
  · rw [Nat.min_eq_left h, List.take_of_length_le (by simp)]
  · rw [Nat.min_eq_right (by omega), List.drop_eq_nil_of_le (Nat.le_refl _), List.drop_eq_nil_of_le (by omega)]
    simp
theorem cut_take {α : Type} (l : List α) (k : Nat) : cutD l none (some (k : Int)) = l.take k := by
  unfold cutD
  rw [HT.sIx_nat, HT.sIx_none]
  simp only [List.drop_zero, Nat.sub_zero]
  by_cases h : k ≤ l.length
  · rw [Nat.min_eq_left h]
  · rw [Nat.min_eq_right (by omega), List.take_of_length_le (Nat.le_refl _), List.take_of_length_le (by omega)]
@[simp] theorem cut_one (l : List D) : cutD l (some 1) none = l.drop 1 := cut_drop l 1
@[simp] theorem slc_1 (l : List B8) : slcD (famT l) (some 1) none = some (famT l.tail) := by
  show some (PyData.tuple (cutD _ _ _)) = some (PyData.tuple _)
  rw [cut_one, List.drop_one, List.map_tail]
@[simp] theorem slcN_1 (l : List Str) : slcD (nmD l) (some 1) none = some (nmD l.tail) := by
  show some (PyData.tuple (cutD _ _ _)) = some (PyData.tuple _)
  rw [cut_one, List.drop_one, List.map_tail]
@[simp] theorem slcE_1 (l : List Nat) : slcD (tupN l) (some 1) none = some (tupN l.tail) := by
  show some (PyData.tuple (cutD _ _ _)) = some (PyData.tuple _)
  rw [cut_one, List.drop_one, List.map_tail]
theorem enc_tupN (m : B8) : enc m = tupN (bits m) := rfl
theorem zip_map2 {α β γ δ : Type} (f : α → γ) (g : β → δ) (l : List α) (m : List β) : (l.map f).zip (m.map g) = (l.zip m).map fun p => (f p.1, g p.2) := by
  rw [List.zip_map]
  rfl
@[simp] theorem zip_fam (l m : List B8) : zipO (famT l) (famT m) = some ((l.zip m).map fun p => .tuple [enc p.1, enc p.2]) := by
  show some (List.map _ _) = _
  rw [zip_map2, List.map_map]; rfl
@[simp] theorem zip_nm (l m : List Str) : zipO (nmD l) (nmD m) = some ((l.zip m).map fun p => .tuple [.str p.1, .str p.2]) := by
  show some (List.map _ _) = _
  rw [zip_map2, List.map_map]; rfl
@[simp] theorem zip_tupN (l m : List Nat) : zipO (tupN l) (tupN m) = some ((l.zip m).map fun p => .tuple [.int p.1, .int p.2]) := by
  show some (List.map _ _) = _
  rw [zip_map2, List.map_map]; rfl
/-! ### the defs -/
section
variable {call : Nat → List D → M D}
theorem L_is_whole (i : Int) : evSs call b_is_whole [.da (.int i)] = M.ret (.rt (.bool true)) := by
  simp [b_is_whole]
theorem L_fits_whole {c : Nat} (h : ∀ i : Int, call c [.int i] = M.ret (.bool true)) (x lo hi : Int) : evSs call (b_fits_whole c) [.da (.int x), .da (.int lo), .da (.int hi)] = M.ret (.rt (.bool (decide (lo ≤ x) && decide (x ≤ hi)))) := by
  simp [b_fits_whole, h]
theorem L_is_tuple_of_enc (m : B8) (lo hi : Int) : evSs call b_is_tuple_of [.da (enc m), .da (.int lo), .da (.int hi)] = M.ret (.rt (.bool (decide (lo ≤ pc m) && decide ((pc m : Int) ≤ hi)))) := by
  simp [b_is_tuple_of]
theorem L_common_in (a b : B8) : evSs call b_common_in [.da (enc a), .da (enc b), .no] = M.ret (.rt (enc (a &&& b))) := by
  simp [b_common_in]
theorem L_less_in (a b : B8) : evSs call b_less_in [.da (enc a), .da (enc b), .no] = M.ret (.rt (enc (less a b))) := by
  simp [b_less_in]
theorem L_union_in (a b : B8) : evSs call b_union_in [.da (enc a), .da (enc b)] = M.ret (.rt (enc (a ||| b))) := by
  simp [b_union_in]
theorem L_is_rising_fam (l : List B8) : evSs call b_is_rising [.da (famT l), .no, .no] = M.ret (.rt (.bool ((l.zip l.tail).all fun p => ltB p.1 p.2))) := by
  simp [b_is_rising]
end
end FS

-- part FtLoop
set_option Elab.async false
set_option linter.all false
set_option maxRecDepth 100000
set_option maxHeartbeats 4000000
/-! Loops. -/
namespace FS
open PySem PySem.W

/-- the slot behind a loop -/
def lastS {α : Type} (g : α → D) (s : Sl) : List α → Sl
  | [] => s
  | x :: xs => lastS g (.da (g x)) xs
theorem forL_nil (body : En → M Fl) (tg : Tg) (ρ : En) : forL body tg [] ρ = M.ret (.nx ρ) := rfl
def afterB (k : En → M Fl) : Fl → M Fl
  | .nx ρ => k ρ
  | .ct ρ => k ρ
  | .bk ρ => M.ret (.nx ρ)
  | .rt d => M.ret (.rt d)
theorem forL_cons (body : En → M Fl) (tg : Tg) (x : D) (xs : List D) (ρ : En) : forL body tg (x :: xs) ρ = stepO (setTg tg x ρ) fun ρ' => M.bnd (body ρ') (afterB (forL body tg xs)) := by
  show (match setTg tg x ρ with
    | none => M.err
    | some ρ' => M.bnd (body ρ') fun f => match f with
      | .nx ρ2 => forL body tg xs ρ2
      | .ct ρ2 => forL body tg xs ρ2
      | .bk ρ2 => M.ret (.nx ρ2)
      | .rt d => M.ret (.rt d)) = _
  cases setTg tg x ρ with
  | none => rfl
  | some ρ' =>
    show M.bnd _ _ = M.bnd _ _
    congr 1
/-- a loop that changes a state -/
theorem forL_st {α σ : Type} {body : En → M Fl} {i : Nat} {g : α → D} (st : σ → En) (step : σ → α → σ) : ∀ (xs : List α) (s : σ), (∀ s, ∀ x ∈ xs, body ((st s).set i (.da (g x))) = M.ret (.nx (st (step s x)))) → forL body (.one i) (xs.map g) (st s) = M.ret (.nx (st (xs.foldl step s)))
  | [], s, _ => rfl
  | x :: xs, s, h => by
    rw [List.map_cons, forL_cons, setTg_one, stepO_s, h s x List.mem_cons_self]
    show forL body _ _ _ = _
    rw [forL_st st step xs _ fun s y hy => h s y (List.mem_cons_of_mem _ hy)]
    try rfl
/-- .. under an invariant -/
theorem forL_inv {α σ : Type} {body : En → M Fl} {i : Nat} {g : α → D} (st : σ → En) (step : σ → α → σ) (I : σ → List α → Prop) : ∀ (xs : List α) (s : σ), I s xs → (∀ s x r, I s (x :: r) → I (step s x) r ∧ body ((st s).set i (.da (g x))) = M.ret (.nx (st (step s x)))) → forL body (.one i) (xs.map g) (st s) = M.ret (.nx (st (xs.foldl step s)))
  | [], s, _, _ => rfl
  | x :: xs, s, hi, h => by
    obtain ⟨h1, h2⟩ := h s x xs hi
    rw [List.map_cons, forL_cons, setTg_one, stepO_s, h2]
    show forL body _ _ _ = _
    rw [forL_inv st step I xs _ h1 h]
    try rfl
/-- a loop that looks for the first one -/
theorem forL_find {α : Type} {body : En → M Fl} {i : Nat} {g : α → D} (p : α → Bool) (f : α → D) : ∀ (xs : List α) (ρ : En) (s : Sl), ρ[i]? = some s → (∀ x ∈ xs, body (ρ.set i (.da (g x))) = M.ret (if p x = true then .rt (f x) else .nx (ρ.set i (.da (g x))))) →
    forL body (.one i) (xs.map g) ρ = M.ret (match xs.find? p with
      | some x => .rt (f x)
      | none => .nx (ρ.set i (lastS g s xs)))
  | [], ρ, s, e, _ => by
    show M.ret (Fl.nx ρ) = M.ret (Fl.nx (ρ.set i s))
    congr 2
    apply List.ext_getElem?
    intro j
    by_cases hj : i = j
    · subst hj
      have hl : i < ρ.length := by
        rcases Nat.lt_or_ge i ρ.length with h | h
        · exact h
        · rw [List.getElem?_eq_none h] at e; cases e
      rw [List.getElem?_set_self hl, e]
    · rw [List.getElem?_set_ne hj]
  | x :: xs, ρ, s, e, h => by
    have hl : i < ρ.length := by
      rcases Nat.lt_or_ge i ρ.length with h | h
      · exact h
      · rw [List.getElem?_eq_none h] at e; cases e
    have h1 := h x List.mem_cons_self
    rw [List.map_cons, forL_cons, setTg_one, stepO_s, h1, bnd_ret, List.find?_cons]
    cases hp : p x with
    | true => rfl
    | false =>
      show forL body _ _ _ = _
      rw [forL_find p f xs (ρ.set i (.da (g x))) (.da (g x)) (List.getElem?_set_self hl) fun y hy => by
        have := h y (List.mem_cons_of_mem _ hy)
        rw [List.set_set]
        exact this]
      cases xs.find? p with
      | some y => rfl
      | none =>
        show M.ret (Fl.nx _) = M.ret (Fl.nx _)
        rw [List.set_set]
        rfl
/-- a list of numbers -/
theorem rng_nat {n : Nat} (h : n ≤ 16777216) : rngD [.int (n : Nat)] = some ((List.range n).map fun i => .int (i : Nat)) := by
  show (if _ then some ((List.range (n : Int).toNat).map _) else none) = _
  rw [if_pos ⟨by omega, by omega⟩]
  simp
def rangeF (n : Nat) : List (Fin 8) := (List.finRange 8).filter fun i => decide (i.val < n)
theorem range_F {n : Nat} (h : n ≤ 8) : List.range n = (rangeF n).map fun i => i.val := by
  refine asc_ext List.pairwise_lt_range ?_ fun i => ?_
  · rw [List.pairwise_map]
    exact List.Pairwise.filter _ (by decide)
  · rw [List.mem_range, List.mem_map]
    unfold rangeF
    constructor
    · intro hi
      exact ⟨⟨i, by omega⟩, List.mem_filter.mpr ⟨List.mem_finRange _, decide_eq_true hi⟩, rfl⟩
    · rintro ⟨j, hj, rfl⟩
      exact of_decide_eq_true (List.mem_filter.mp hj).2
theorem mem_rangeF {n : Nat} {i : Fin 8} : i ∈ rangeF n ↔ i.val < n := by
  unfold rangeF
  rw [List.mem_filter]
  simp [List.mem_finRange]
theorem rng8 {n : Nat} (h : n ≤ 8) : rngD [.int (n : Nat)] = some ((rangeF n).map fun i => .int (i.val : Nat)) := by
  rw [rng_nat (by omega), range_F h, List.map_map]
  rfl
/-! bits of one, full -/
@[simp] theorem bit_one (i j : Nat) : (one i).getLsbD j = (decide (i < 8) && decide (i = j)) := by
  unfold one
  rw [BitVec.getLsbD_twoPow]
@[simp] theorem bit_less (a b : B8) (i : Nat) : (less a b).getLsbD i = (a.getLsbD i && !b.getLsbD i) := by
  unfold less
  rw [BitVec.getLsbD_and, BitVec.getLsbD_not]
  cases h : a.getLsbD i with
  | false => simp
  | true => 
    have := BitVec.lt_of_getLsbD h
    simp [this]
theorem bit_full {n : Nat} (h : n ≤ 8) (i : Nat) : (full n).getLsbD i = decide (i < n) := by
  unfold full
  rw [BitVec.getLsbD_ofNat, Nat.testBit_two_pow_sub_one]
  rw [Bool.eq_iff_iff]
  simp
  omega
theorem B8.ext {a b : B8} (h : ∀ i, a.getLsbD i = b.getLsbD i) : a = b := BitVec.eq_of_getLsbD_eq fun i _ => h i
theorem bits_one {i : Nat} (h : i < 8) : bits (one i) = [i] := by
  refine asc_ext (bits_asc _) (List.pairwise_singleton _ _) fun j => ?_
  rw [mem_bits, bit_one, List.mem_singleton]
  simp [h]
  exact eq_comm
theorem tup_one {i : Nat} (h : i < 8) : PyData.tuple [.int (i : Nat)] = enc (one i) := by
  rw [enc_tupN, bits_one h]; rfl
@[simp] theorem tup_oneF (i : Fin 8) : PyData.tuple [.int (i.val : Nat)] = enc (one i.val) := tup_one i.isLt
theorem bits_full {n : Nat} (h : n ≤ 8) : bits (full n) = List.range n := by
  refine asc_ext (bits_asc _) List.pairwise_lt_range fun j => ?_
  rw [mem_bits, bit_full h, List.mem_range]
  simp
theorem bitsF_full {n : Nat} (h : n ≤ 8) : bitsF (full n) = rangeF n := by
  unfold bitsF rangeF
  congr 1
  funext i
  rw [bit_full h]
theorem bits_lt {m : B8} {i : Nat} (h : i ∈ bits m) : i < 8 := BitVec.lt_of_getLsbD (mem_bits.mp h)
@[simp] theorem enc_zero : PyData.tuple [] = enc 0#8 := by
  rw [enc_tupN, show bits 0#8 = [] by decide]; rfl
@[simp] theorem bits_zero : bits 0#8 = [] := by decide
end FS

-- part FtSets
set_option Elab.async false
set_option linter.all false
set_option maxRecDepth 100000
set_option maxHeartbeats 4000000
/-! All sets of so many things, by size and then as tuples. -/
namespace FS
open PySem PySem.W PyProof.Rows

theorem forL_inv' {α σ : Type} {body : En → M Fl} {i : Nat} {g : α → D} (st : σ → En) (I : σ → List α → Prop) : ∀ (xs : List α) (s : σ), I s xs → (∀ s x r, I s (x :: r) → ∃ s', I s' r ∧ body ((st s).set i (.da (g x))) = M.ret (.nx (st s'))) →
    ∃ s', I s' [] ∧ forL body (.one i) (xs.map g) (st s) = M.ret (.nx (st s'))
  | [], s, hi, _ => ⟨s, hi, rfl⟩
  | x :: xs, s, hi, h => by
    obtain ⟨s1, h1, h2⟩ := h s x xs hi
    obtain ⟨s2, h3, h4⟩ := forL_inv' st I xs s1 h1 h
    refine ⟨s2, h3, ?_⟩
    rw [List.map_cons, forL_cons, setTg_one, stepO_s, h2]
    exact h4
def ltS (a b : B8) : Bool := decide (pc a < pc b) || (decide (pc a = pc b) && ltB a b)
def leS (a b : B8) : Bool := !ltS b a
theorem alikeAll_1 {x y : D} : alikeAll [x] [y] = alike x y := by simp [alikeAll]
theorem dlt_pair (p q : Int) (a b : B8) : dataLt (.tuple [.int p, enc a]) (.tuple [.int q, enc b]) = (decide (p < q) || (decide (p = q) && ltB a b)) := by
  rw [dataLt_tuple]
  by_cases h : p = q
  · subst h
    rw [dataLt_all_yes (by simp [alike]) (by simp [PyData.eqv])]
    by_cases h2 : a = b
    · subst h2
      rw [dataLt_all_yes (alike_enc a a) (by simp)]
      rw [ltB_irr]
      simp [keyToksAll, PyProof.Rows.lexLt, itemOrd, itemLt]
    · rw [dataLt_all_no (alike_enc a b) (by simp [h2]), dlt_enc]
      simp
  · rw [dataLt_all_no (by simp [alike]) (by simp [PyData.eqv, h]), dataLt_int]
    simp [h]
theorem klen_enc (a : B8) : kLen (enc a) = .tuple [.int (pc a : Nat), enc a] := by
  show PyData.tuple [.int ((bits a).map _).length, _] = _
  rw [List.length_map]; rfl
theorem dle_klen (a b : B8) : dataLe false kLen (enc a) (enc b) = leS a b := by
  show (!dataLt (kLen (enc b)) (kLen (enc a))) = _
  rw [klen_enc, klen_enc, dlt_pair]
  unfold leS ltS
  congr 2
  · rw [Bool.eq_iff_iff]; simp
  · congr 1
    rw [Bool.eq_iff_iff]; simp; omega
/-- sorted by size -/
def sortS (l : List B8) : List B8 := l.mergeSort leS
@[simp] theorem lenSort_famL (l : List B8) : lenSort (famL l) = some (famL (sortS l)) := by
  show (if (l.map enc).all isIntTup = true then some (PyData.list _) else none) = _
  rw [tup_ok, if_pos rfl]
  unfold famL sortS
  rw [List.map_mergeSort (r := leS) (s := dataLe false kLen) (f := enc) fun a _ b _ => (dle_klen a b).symm]
theorem ltS_irr (a : B8) : ltS a a = false := by simp [ltS, ltB_irr]
theorem ltS_trans {a b c : B8} (h1 : ltS a b = true) (h2 : ltS b c = true) : ltS a c = true := by
  unfold ltS at *
  simp only [Bool.or_eq_true, Bool.and_eq_true, decide_eq_true_eq] at *
  rcases h1 with h1 | ⟨h1, k1⟩ <;> rcases h2 with h2 | ⟨h2, k2⟩
  · exact .inl (by omega)
  · exact .inl (by omega)
  · exact .inl (by omega)
  · exact .inr ⟨by omega, ltB_trans k1 k2⟩
theorem ltS_total {a b : B8} (h1 : ltS a b = false) (h2 : ltS b a = false) : a = b := by
  unfold ltS at *
  simp only [Bool.or_eq_false_iff, Bool.and_eq_false_iff, decide_eq_false_iff_not] at *
  have e : pc a = pc b := by omega
  exact ltB_total (h1.2.resolve_left (fun z => z e)) (h2.2.resolve_left (fun z => z e.symm))
theorem leS_trans (a b c : B8) (h1 : leS a b = true) (h2 : leS b c = true) : leS a c = true := by
  unfold leS at *
  simp only [Bool.not_eq_true'] at *
  cases e : ltS c a with
  | false => rfl
  | true =>
    cases e2 : ltS b c with
    | true => rw [ltS_trans e2 e] at h1; cases h1
    | false =>
      have := ltS_total e2 h2
      subst this
      rw [e] at h1; cases h1
theorem leS_total (a b : B8) : (leS a b || leS b a) = true := by
  unfold leS
  cases e : ltS b a with
  | false => rfl
  | true =>
    cases e2 : ltS a b with
    | false => rfl
    | true =>
      have := ltS_trans e e2
      rw [ltS_irr] at this; cases this
theorem leS_anti {a b : B8} (h1 : leS a b = true) (h2 : leS b a = true) : a = b := by
  unfold leS at *
  simp only [Bool.not_eq_true'] at *
  exact ltS_total h2 h1
theorem sortS_perm (l : List B8) : (sortS l).Perm l := List.mergeSort_perm l leS
@[simp] theorem mem_sortS {l : List B8} {a : B8} : a ∈ sortS l ↔ a ∈ l := (sortS_perm l).mem_iff
/-- rising by size -/
def RisingS (l : List B8) : Prop := l.Pairwise fun a b => ltS a b = true
theorem RisingS.nodup {l : List B8} (h : RisingS l) : l.Nodup := List.Pairwise.imp (fun {a b} h e => by subst e; rw [ltS_irr] at h; cases h) h
theorem risingS_sort {l : List B8} (h : l.Nodup) : RisingS (sortS l) := by
  have h1 : (sortS l).Pairwise fun a b => leS a b = true := List.pairwise_mergeSort leS_trans leS_total l
  have h2 : (sortS l).Nodup := (sortS_perm l).nodup_iff.mpr h
  refine (List.Pairwise.and h1 h2).imp fun {a b} ⟨k1, k2⟩ => ?_
  cases e : ltS a b with
  | true => rfl
  | false =>
    refine absurd ?_ k2
    unfold leS at k1
    exact ltS_total e (by simpa using k1)
theorem leS_of {a b : B8} (h : ltS a b = true) : leS a b = true := by
  unfold leS
  cases e : ltS b a with
  | false => rfl
  | true => have := ltS_trans h e; rw [ltS_irr] at this; cases this
theorem risingS_ext {l m : List B8} (hl : RisingS l) (hm : RisingS m) (h : ∀ a, a ∈ l ↔ a ∈ m) : l = m := by
  have p : l.Perm m := by
    rw [List.perm_ext_iff_of_nodup hl.nodup hm.nodup]
    exact h
  exact p.eq_of_pairwise (le := fun a b => leS a b = true) (fun a b _ _ h1 h2 => leS_anti h1 h2) (hl.imp leS_of) (hm.imp leS_of)
/-! the rows, doubled thing by thing -/
def rowsT : Nat → List B8
  | 0 => [0]
  | k + 1 => rowsT k ++ (rowsT k).map fun m => m ||| one k
/-- a set is within the first n things -/
def inN (n : Nat) (m : B8) : Bool := (bits m).all fun i => decide (i < n)
theorem inN_iff {n : Nat} {m : B8} : inN n m = true ↔ ∀ i, m.getLsbD i = true → i < n := by
  unfold inN
  rw [List.all_eq_true]
  exact ⟨fun h i hi => of_decide_eq_true (h i (mem_bits.mpr hi)), fun h i hi => decide_eq_true (h i (mem_bits.mp hi))⟩
theorem mem_rowsT : ∀ {n : Nat}, n ≤ 8 → ∀ {m : B8}, m ∈ rowsT n ↔ inN n m = true
  | 0, _, m => by
    rw [inN_iff]
    show m ∈ [0] ↔ _
    rw [List.mem_singleton]
    refine ⟨fun h i hi => by subst h; simp at hi, fun h => B8.ext fun i => ?_⟩
    cases e : m.getLsbD i with
    | false => simp
    | true => exact absurd (h i e) (Nat.not_lt_zero i)
  | k + 1, hk, m => by
    show m ∈ rowsT k ++ (rowsT k).map _ ↔ _
    rw [List.mem_append, List.mem_map, inN_iff, mem_rowsT (by omega), inN_iff]
    constructor
    · rintro (h | ⟨x, hx, rfl⟩) i hi
      · exact Nat.lt_succ_of_lt (h i hi)
      · rw [mem_rowsT (by omega), inN_iff] at hx
        rw [BitVec.getLsbD_or, bit_one, Bool.or_eq_true] at hi
        rcases hi with hi | hi
        · exact Nat.lt_succ_of_lt (hx i hi)
        · simp at hi
          omega
    · intro h
      cases e : m.getLsbD k with
      | false =>
        refine .inl fun i hi => ?_
        have := h i hi
        have : i ≠ k := fun z => by subst z; rw [e] at hi; cases hi
        omega
      | true =>
        refine .inr ⟨less m (one k), ?_, ?_⟩
        · rw [mem_rowsT (by omega), inN_iff]
          intro i hi
          simp at hi
          have := h i hi.1
          omega
        · apply B8.ext
          intro i
          rw [BitVec.getLsbD_or, bit_less, bit_one]
          by_cases hi : k = i
          · subst hi
            have : k < 8 := by omega
            simp [e, this]
          · simp [hi]
theorem rowsT_nodup : ∀ {n : Nat}, n ≤ 8 → (rowsT n).Nodup
  | 0, _ => List.nodup_cons.mpr ⟨by simp, List.nodup_nil⟩
  | k + 1, hk => by
    have ih := rowsT_nodup (n := k) (by omega)
    have lt : ∀ m ∈ rowsT k, m.getLsbD k = false := fun m hm => by
      rw [mem_rowsT (by omega), inN_iff] at hm
      cases e : m.getLsbD k with
      | false => rfl
      | true => exact absurd (hm k e) (Nat.lt_irrefl k)
    show (rowsT k ++ (rowsT k).map _).Nodup
    rw [List.nodup_append]
    refine ⟨ih, ?_, fun a ha b hb e => ?_⟩
    · rw [List.Nodup, List.pairwise_map]
      refine List.Pairwise.imp_of_mem (fun {a b} ha hb h e => h (B8.ext fun i => ?_)) ih
      have h1 := congrArg (fun m : B8 => m.getLsbD i) e
      simp only [BitVec.getLsbD_or, bit_one] at h1
      by_cases hi : k = i
      · subst hi
        rw [lt a ha, lt b hb]
      · simpa [hi] using h1
    · obtain ⟨x, hx, rfl⟩ := List.mem_map.mp hb
      have h1 := lt a ha
      rw [e, BitVec.getLsbD_or, bit_one] at h1
      simp at h1
      omega
/-- all sets of n things -/
def allS (n : Nat) : List B8 := sortS (rowsT n)
theorem mem_allS {n : Nat} (h : n ≤ 8) {m : B8} : m ∈ allS n ↔ inN n m = true := by
  unfold allS
  rw [mem_sortS, mem_rowsT h]
theorem allS_rising {n : Nat} (h : n ≤ 8) : RisingS (allS n) := risingS_sort (rowsT_nodup h)
theorem rowsT_len : ∀ n : Nat, (rowsT n).length = 2 ^ n
  | 0 => rfl
  | k + 1 => by
    show (rowsT k ++ (rowsT k).map _).length = _
    rw [List.length_append, List.length_map, rowsT_len k, Nat.pow_succ]
    omega
theorem bits_snoc {m : B8} {k : Nat} (h : inN k m = true) (hk : k < 8) : bits m ++ [k] = bits (m ||| one k) := by
  rw [inN_iff] at h
  refine asc_ext ?_ (bits_asc _) fun i => ?_
  · rw [List.pairwise_append]
    refine ⟨bits_asc m, List.pairwise_singleton _ _, fun a ha b hb => ?_⟩
    rw [List.mem_singleton] at hb
    subst hb
    exact h a (mem_bits.mp ha)
  · rw [List.mem_append, mem_bits, List.mem_singleton, mem_bits, BitVec.getLsbD_or, bit_one, Bool.or_eq_true]
    refine or_congr Iff.rfl ?_
    simp
    omega
theorem add_snoc {m : B8} {k : Nat} (h : inN k m = true) (hk : k < 8) : addD (enc m) (.tuple [.int (k : Nat)]) = some (enc (m ||| one k)) := by
  rw [tup_one hk, add_enc, bits_one hk, bits_snoc h hk]; rfl
section
variable {call : Nat → List D → M D}
@[simp] theorem add_famL (l m : List B8) : addD (famL l) (famL m) = if l.length + m.length ≤ sizeLine then some (famL (l ++ m)) else none := by
  show (if (l.map enc).length + (m.map enc).length ≤ sizeLine then some (PyData.list _) else none) = _
  rw [List.length_map, List.length_map, ← List.map_append]; rfl
theorem compA_mem {α β : Type} {f : α → M (Option β)} {g : α → Option β} {xs : List α} (h : ∀ x ∈ xs, f x = M.ret (g x)) : compA f xs = M.ret (xs.filterMap g) := by
  rw [compA_cong h, compA_ret]
theorem compA_call {α β : Type} {f : α → M β} {g : α → β} {xs : List α} (h : ∀ x ∈ xs, f x = M.ret (g x)) : compA (fun x => M.bnd (f x) fun y => M.ret (some y)) xs = M.ret (xs.map g) := by
  rw [compA_mem (g := fun x => some (g x)) fun x hx => by rw [h x hx]; rfl, fm_some]
theorem rows_loop {body : En → M Fl} {st : List B8 × Sl → En} {n : Nat} {i : Nat} (hn : n ≤ 8) (h : ∀ k s, k < n → body ((st (rowsT k, s)).set i (.da (.int (k : Nat)))) = M.ret (.nx (st (rowsT (k + 1), .da (.int (k : Nat)))))) (s : Sl) :
    ∃ s', forL body (.one i) ((List.range n).map fun i => .int (i : Nat)) (st (rowsT 0, s)) = M.ret (.nx (st (rowsT n, s'))) := by
  obtain ⟨⟨r, s'⟩, h1, h2⟩ := forL_inv' (body := body) (i := i) (g := fun k : Nat => PyData.int (k : Nat)) st (fun s r => ∃ k, k ≤ n ∧ r = List.range' k (n - k) ∧ s.1 = rowsT k) (List.range n) (rowsT 0, s) ⟨0, Nat.zero_le _, by rw [List.range_eq_range']; rfl, rfl⟩ fun s x r ⟨k, h1, h2, h3⟩ => by
    have hk : k < n := by
      rcases Nat.lt_or_ge k n with z | z
      · exact z
      · rw [Nat.sub_eq_zero_of_le z] at h2; cases h2
    obtain ⟨m, hm⟩ : ∃ m, n - k = m + 1 := ⟨n - k - 1, by omega⟩
    rw [hm, List.range'_succ] at h2
    obtain ⟨e1, e2⟩ := List.cons.inj h2
    subst e1
    obtain ⟨r0, s0⟩ := s
    obtain rfl : r0 = rowsT x := h3
    exact ⟨(rowsT (x + 1), .da (.int (x : Nat))), ⟨x + 1, hk, by rw [e2]; congr 1; omega, rfl⟩, h x s0 hk⟩
  obtain ⟨k, h3, h4, h5⟩ := h1
  have : k = n := by
    rcases Nat.lt_or_ge k n with z | z
    · have h6 := congrArg List.length h4
      rw [List.length_range'] at h6
      simp at h6
      omega
    · omega
  subst this
  obtain rfl : r = rowsT k := h5
  exact ⟨s', h2⟩
@[simp] theorem list_nil1 : PyData.list [enc 0#8] = famL (rowsT 0) := rfl
theorem L_sets_in {n : Nat} (h : n ≤ 8) : evSs call b_sets_in [.da (.int (n : Nat)), .no, .no, .no] = M.ret (.rt (famL (allS n))) := by
  obtain ⟨s', e⟩ := rows_loop (body := evSs call b_sets_in_l0) (st := fun p => [.da (.int (n : Nat)), .da (famL p.1), p.2, .no]) (n := n) (i := 2) h (fun k s hk => by
    have h2 : compA (fun x => addD (enc x) (PyData.tuple [.int (k : Nat)]) |> M.opt |> fun m => M.bnd m fun y => M.ret (some y)) (rowsT k) = M.ret ((rowsT k).map fun m => enc (m ||| one k)) := by
      refine compA_call fun m hm => ?_
      rw [mem_rowsT (by omega)] at hm
      rw [add_snoc hm (by omega : k < 8)]; rfl
    have l := rowsT_len k
    have l2 : 2 ^ k ≤ 2 ^ 8 := Nat.pow_le_pow_right (by omega) (by omega)
    have sz : (rowsT k).length + (rowsT k).length ≤ 16777216 := by omega
    simp [b_sets_in_l0, h2, sz]
    rfl) .no
  simp [b_sets_in, rng_nat (by omega : n ≤ 16777216)]
  erw [e]
  simp [allS]
end
end FS

-- part FtNames
set_option Elab.async false
set_option linter.all false
set_option maxRecDepth 100000
set_option maxHeartbeats 4000000
/-! Names. -/
namespace FS
open PySem PySem.W PyProof.Rows

def letS : Str := "abcdefghijklmnopqrstuvwxyz"
def digS : Str := "0123456789"
def chars (x : Str) : List Nat := x.cps.toList
@[simp] theorem letS_eq : Str.ofString "abcdefghijklmnopqrstuvwxyz" = letS := rfl
@[simp] theorem digS_eq : Str.ofString "0123456789" = digS := rfl
def ldS : Str := "abcdefghijklmnopqrstuvwxyz0123456789"
/-- whether a text is a name -/
def nameB (x : Str) : Bool := decide (1 ≤ x.length) && decide (x.length ≤ 12) && decide ((chars x).headD 0 ∈ chars letS) && (chars x).all fun c => decide (c ∈ chars ldS)
def nameOk (x : Str) : Bool := PyData.strOk x && nameB x
@[simp] theorem inS (c : Nat) (z : Str) : inD (.str ⟨#[c]⟩) (.str z) = some (.bool (decide (c ∈ chars z))) := rfl
@[simp] theorem ninS (c : Nat) (z : Str) : ninD (.str ⟨#[c]⟩) (.str z) = some (.bool (!decide (c ∈ chars z))) := rfl
@[simp] theorem items_str (x : Str) : itemsD (.str x) = some ((chars x).map fun c => .str ⟨#[c]⟩) := rfl
@[simp] theorem addLD : addD (.str letS) (.str digS) = some (.str ldS) := by
  show (if letS.length + digS.length ≤ sizeLine then some (PyData.str (letS ++ digS)) else none) = _
  rw [if_pos (by decide +kernel), show letS ++ digS = ldS by decide +kernel]
theorem isi_str {x : Str} (h : PyData.strOk x = true) : isiD "str" (.str x) = some (.bool true) := by simp [isiD, PyData.canLay0, isiB, tyN, h]
theorem atI_nat {α : Type} (xs : List α) (n : Nat) : L2.atI xs (n : Int) = xs[n]? := by
  unfold L2.atI L2.ixN
  rw [if_pos (by omega)]
  by_cases h : n < xs.length
  · rw [if_pos (by omega)]
    simp
  · rw [if_neg (by omega), List.getElem?_eq_none (by omega)]
    rfl
theorem atI_0 {α : Type} (xs : List α) : L2.atI xs 0 = xs[0]? := atI_nat xs 0
theorem idx_str0 {x : Str} (h : chars x ≠ []) : idxD (.str x) (.int 0) = some (.str ⟨#[(chars x).headD 0]⟩) := by
  show (L2.atI (chars x) 0).map _ = _
  cases e : chars x with
  | nil => exact absurd e h
  | cons c r =>
    rw [atI_0]
    rfl
section
variable {call : Nat → List D → M D}
theorem L_fits_name {x : Str} (h : PyData.strOk x = true) : evSs call b_fits_name [.da (.str x), .no] = M.ret (.rt (.bool (nameB x))) := by
  have hl : (x.length : Nat) = (chars x).length := by
    show x.cps.size = x.cps.toList.length
    simp
  by_cases h1 : 1 ≤ x.length
  · have hne : chars x ≠ [] := fun z => by
      rw [hl, z] at h1
      simp at h1
    have e1 : (1 : Int) ≤ (x.length : Int) := by omega
    by_cases h2 : x.length ≤ 12
    · have e2 : (x.length : Int) ≤ 12 := by omega
      by_cases h3 : (chars x).headD 0 ∈ chars letS
      · simp only [nameB, h1, h2, h3]
        simp [b_fits_name, isi_str h, idx_str0 hne, e1, e2, h3, -List.headD_eq_head?_getD]
      · simp only [nameB, h1, h2, h3]
        simp [b_fits_name, isi_str h, idx_str0 hne, e1, e2, h3, -List.headD_eq_head?_getD]
    · have e2 : ¬ (x.length : Int) ≤ 12 := by omega
      simp only [nameB, h1, h2]
      simp [b_fits_name, isi_str h, e1, e2]
  · have e1 : ¬ (1 : Int) ≤ (x.length : Int) := by omega
    simp only [nameB, h1]
    simp [b_fits_name, isi_str h, e1]
/-! ascending names -/
theorem eqv_str (a b : Str) : PyData.eqv (.str a) (.str b) = decide (a = b) := by
  simp only [PyData.eqv]
  rw [Bool.eq_iff_iff]; simp
theorem keysOf_strs : ∀ l : List Str, (keysOf (l.map .str)).isSome = true
  | [] => rfl
  | x :: l => by
    have h := keysOf_strs l
    show (match keyOf (PyData.str x), keysOf (l.map .str) with
      | some k, some ks => some (k :: ks)
      | _, _ => none).isSome = true
    cases e : keysOf (l.map .str) with
    | none => rw [e] at h; cases h
    | some ks => rfl
theorem setOk_strs {l : List Str} (hs : strsOk l = true) (h : l.length < 4000) : setOk (l.map .str) = true := by
  unfold setOk
  rw [keysOf_strs]
  have e2 : ∀ i j : Str, W.alike (.str i) (.str j) = true := fun i j => by simp [alike]
  have e3 : (l.map PyData.str).all (fun a => SeqAt.shaped a && !isNoneD a) = true := by
    rw [List.all_map, List.all_eq_true]
    intro x hx
    have := List.all_eq_true.mp hs x hx
    simp [shp_str this]
    rfl
  rw [e3]
  simp [h, e2]
theorem lenset_nm {l : List Str} (hs : strsOk l = true) (h : l.length < 4000) : lensetO (nmD l) = some (.int ((dd l).length : Nat)) := by
  show (if setOk (l.map .str) = true then some (PyData.int _) else none) = _
  rw [setOk_strs hs h, if_pos rfl, dedup_map PyData.str eqv_str, List.length_map]
theorem lt_str {a b : Str} (ha : PyData.strOk a = true) (hb : PyData.strOk b = true) : ltD (.str a) (.str b) = some (.bool (decide (chars a < chars b))) := by
  have h : ltD (.str a) (.str b) = if (SeqAt.shaped (.str a) && SeqAt.shaped (.str b) && W.alike (.str a) (.str b)) = true then some (.bool (W.dataLt (.str a) (.str b))) else none := rfl
  rw [h, dataLt_str, shp_str ha, shp_str hb, show W.alike (.str a) (.str b) = true by simp [alike]]
  rfl
def ltT (a b : Str) : Bool := decide (chars a < chars b)
theorem L_is_rising_nm {l : List Str} (hs : strsOk l = true) : evSs call b_is_rising [.da (nmD l), .no, .no] = M.ret (.rt (.bool ((l.zip l.tail).all fun p => ltT p.1 p.2))) := by
  have hm : ∀ p ∈ l.zip l.tail, PyData.strOk p.1 = true ∧ PyData.strOk p.2 = true := fun p hp => by
    have h1 := (List.of_mem_zip hp).1
    have h2 := List.mem_of_mem_tail (List.of_mem_zip hp).2
    exact ⟨List.all_eq_true.mp hs _ h1, List.all_eq_true.mp hs _ h2⟩
  have e : compA (fun x : Str × Str => stepA call [.da (nmD l), .no, .no] (.tup [1, 2]) [("one", 1), ("other", 2)] .nil (.cmp .lt (.var 1) (.var 2)) (.tuple [.str x.1, .str x.2])) (l.zip l.tail) = M.ret ((l.zip l.tail).filterMap fun p => some (PyData.bool (ltT p.1 p.2))) := by
    refine compA_mem fun p hp => ?_
    obtain ⟨h1, h2⟩ := hm p hp
    simp [lt_str h1 h2, ltT]
  simp only [b_is_rising, evSs_1, evS_ret, evL_bi, evE_bi, evLs_1, evL_comp, evE_comp, evIt_zipT, evL_var, evL_slc, evE_slc, evO_1, evO_0, evE_int, List.getElem?_cons_zero, getL_da, bnd_ret, opt_some, intOf_i, Option.map_some, slcN_1, zip_nm, compL_map, e, nox_ret, fm_some, evLs_0, biD_all, all_map, thenF_rt]
theorem L_is_tuple_of_nm {l : List Str} (hs : strsOk l = true) (lo hi : Int) : evSs call b_is_tuple_of [.da (nmD l), .da (.int lo), .da (.int hi)] = M.ret (.rt (.bool (decide (lo ≤ l.length) && decide ((l.length : Int) ≤ hi)))) := by
  simp [b_is_tuple_of, isi_nmD hs]
theorem L_is_tuple_of_fam (l : List B8) (lo hi : Int) : evSs call b_is_tuple_of [.da (famT l), .da (.int lo), .da (.int hi)] = M.ret (.rt (.bool (decide (lo ≤ l.length) && decide ((l.length : Int) ≤ hi)))) := by
  simp [b_is_tuple_of]
theorem L_is_tuple_of_sys {S : Sys} (hs : strsOk S.nm = true) : evSs call b_is_tuple_of [.da S.enc, .da (.int 2), .da (.int 2)] = M.ret (.rt (.bool true)) := by
  simp [b_is_tuple_of, isi_sys hs]
theorem strsOk_of {l : List Str} (h : l.all nameOk = true) : strsOk l = true := by
  unfold strsOk
  rw [List.all_eq_true] at h ⊢
  intro x hx
  have := h x hx
  unfold nameOk at this
  rw [Bool.and_eq_true] at this
  exact this.1
theorem L_fits_names {ct cn : Nat} {l : List Str} (hs : strsOk l = true) (m : Nat) (hm : m ≤ 1000)
    (h1 : call ct [nmD l, .int 0, .int m] = M.ret (.bool (decide ((0 : Int) ≤ l.length) && decide ((l.length : Int) ≤ m)))) (h2 : ∀ x ∈ l, call cn [.str x] = M.ret (.bool (nameB x))) :
    evSs call (b_fits_names (c_is_tuple_of := ct) (c_fits_name := cn)) [.da (nmD l), .da (.int m), .no] = M.ret (.rt (.bool (decide (l.length ≤ m) && (l.all nameB && decide ((dd l).length = l.length))))) := by
  have e := compA_call h2
  by_cases hl : l.length ≤ m
  · have hl2 : (l.length : Int) ≤ m := by omega
    have h3 := lenset_nm hs (by omega : l.length < 4000)
    by_cases ha : l.all nameB = true
    · simp [b_fits_names, h1, hl, hl2, e, ha, h3]
    · have ha : l.all nameB = false := by simpa using ha
      simp [b_fits_names, h1, hl, hl2, e, ha]
  · have hl2 : ¬ (l.length : Int) ≤ m := by omega
    simp [b_fits_names, h1, hl, hl2]
end
end FS

-- part FtFits
set_option Elab.async false
set_option linter.all false
set_option maxRecDepth 100000
set_option maxHeartbeats 4000000
/-! fits_set, fits_family, the exchange, fits_system. -/
namespace FS
open PySem PySem.W PyProof.Rows

/-- a system, as the document says -/
structure Sys.Ok (S : Sys) : Prop where
  n1 : 1 ≤ S.n
  n8 : S.n ≤ 8
  nms : S.nm.all nameOk = true
  nma : S.nm.Pairwise fun x y => ltT x y = true
  ne : S.B ≠ []
  asc : Rising S.B
  sub : ∀ b ∈ S.B, inN S.n b = true
  most : S.B.length ≤ 70
  eqv : ∀ a ∈ S.B, ∀ b ∈ S.B, pc a = pc b
  exch : ∀ a ∈ S.B, ∀ b ∈ S.B, ∀ x, a.getLsbD x = true → b.getLsbD x = false → ∃ y, b.getLsbD y = true ∧ a.getLsbD y = false ∧ less a (one x) ||| one y ∈ S.B
/-- rising, link by link -/
theorem links_of {α : Type} {R : α → α → Bool} : ∀ {l : List α}, l.Pairwise (fun a b => R a b = true) → (l.zip l.tail).all (fun p => R p.1 p.2) = true
  | [], _ => rfl
  | [_], _ => rfl
  | a :: b :: l, h => by
    have h := List.pairwise_cons.mp h
    show ((a, b) :: (b :: l).zip l).all _ = true
    rw [List.all_cons, Bool.and_eq_true]
    exact ⟨h.1 b List.mem_cons_self, links_of h.2⟩
theorem pw_of_links {α : Type} {R : α → α → Bool} (tr : ∀ a b c, R a b = true → R b c = true → R a c = true) : ∀ {l : List α}, (l.zip l.tail).all (fun p => R p.1 p.2) = true → l.Pairwise (fun a b => R a b = true)
  | [], _ => .nil
  | [_], _ => List.pairwise_singleton _ _
  | a :: b :: l, h => by
    have h : ((a, b) :: (b :: l).zip l).all (fun p => R p.1 p.2) = true := h
    rw [List.all_cons, Bool.and_eq_true] at h
    have ih := pw_of_links tr (l := b :: l) h.2
    refine List.pairwise_cons.mpr ⟨fun c hc => ?_, ih⟩
    rcases List.mem_cons.mp hc with rfl | hc
    · exact h.1
    · exact tr _ _ _ h.1 ((List.pairwise_cons.mp ih).1 c hc)
theorem rising_links (l : List B8) : (l.zip l.tail).all (fun p => ltB p.1 p.2) = true ↔ Rising l := ⟨pw_of_links (R := ltB) (fun _ _ _ => ltB_trans), links_of⟩
theorem ltT_irr (a : Str) : ltT a a = false := by
  unfold ltT
  exact decide_eq_false (List.lt_irrefl _)
theorem nm_nodup {l : List Str} (h : l.Pairwise fun x y => ltT x y = true) : l.Nodup := h.imp fun {a b} h e => by subst e; rw [ltT_irr] at h; cases h
theorem inN_pc {n : Nat} {m : B8} (h : inN n m = true) : pc m ≤ n := by
  rw [inN_iff] at h
  have nd : (bits m).Nodup := (bits_asc m).imp fun {a b} h => Nat.ne_of_lt h
  have := nd.length_le_of_subset (l₂ := List.range n) fun i hi => List.mem_range.mpr (h i (mem_bits.mp hi))
  simpa [pc] using this
theorem bits_links (m : B8) : ((bits m).zip (bits m).tail).all (fun p => decide (p.1 < p.2)) = true := links_of ((bits_asc m).imp fun h => decide_eq_true h)
section
variable {call : Nat → List D → M D}
theorem L_is_rising_enc (m : B8) : evSs call b_is_rising [.da (enc m), .no, .no] = M.ret (.rt (.bool true)) := by
  have h := bits_links m
  simp only [b_is_rising, enc_tupN]
  simp [-tupN_bits] 
  rw [h]
theorem L_fits_set {ct cw cr : Nat} (m : B8) (n : Nat) (h1 : call ct [enc m, .int 0, .int n] = M.ret (.bool (decide ((0 : Int) ≤ pc m) && decide ((pc m : Int) ≤ n)))) (h2 : ∀ x lo hi : Int, call cw [.int x, .int lo, .int hi] = M.ret (.bool (decide (lo ≤ x) && decide (x ≤ hi)))) (h3 : call cr [enc m] = M.ret (.bool true)) :
    evSs call (b_fits_set (c_is_tuple_of := ct) (c_fits_whole := cw) (c_is_rising := cr)) [.da (enc m), .da (.int n), .no] = M.ret (.rt (.bool (inN n m))) := by
  have e : ∀ i : Nat, (decide ((0 : Int) ≤ i) && decide ((i : Int) ≤ (n : Int) - 1)) = decide (i < n) := fun i => by
    rw [Bool.eq_iff_iff]
    simp
    omega
  by_cases hp : pc m ≤ n
  · have hp2 : (pc m : Int) ≤ n := by omega
    have e2 : ((bitsF m).all fun i : Fin 8 => decide ((i.val : Int) ≤ (n : Int) - 1)) = inN n m := by
      unfold inN
      rw [bits_F, List.all_map]
      congr 1
      funext i
      have := e i.val
      simpa using this
    simp [b_fits_set, h1, h2, h3, hp2, e2]
  · have hp2 : ¬ (pc m : Int) ≤ n := by omega
    have : inN n m = false := by
      cases e : inN n m with
      | false => rfl
      | true => exact absurd (inN_pc e) hp
    simp [b_fits_set, h1, hp2, this]
theorem L_fits_family {ct cs cr : Nat} (l : List B8) (n : Nat) (h1 : call ct [famT l, .int 0, .int 256] = M.ret (.bool (decide ((0 : Int) ≤ l.length) && decide ((l.length : Int) ≤ 256)))) (h2 : ∀ m, call cs [enc m, .int n] = M.ret (.bool (inN n m))) (h3 : call cr [famT l] = M.ret (.bool ((l.zip l.tail).all fun p => ltB p.1 p.2))) :
    evSs call (b_fits_family (c_is_tuple_of := ct) (c_fits_set := cs) (c_is_rising := cr)) [.da (.int n), .da (famT l), .no] = M.ret (.rt (.bool (decide (l.length ≤ 256) && (l.all (inN n) && (l.zip l.tail).all fun p => ltB p.1 p.2)))) := by
  by_cases hp : l.length ≤ 256
  · have hp2 : (l.length : Int) ≤ 256 := by omega
    by_cases ha : l.all (inN n) = true
    · simp [b_fits_family, h1, h2, h3, hp, hp2, ha]
    · have ha : l.all (inN n) = false := by simpa using ha
      simp [b_fits_family, h1, h2, h3, hp, hp2, ha]
  · have hp2 : ¬ (l.length : Int) ≤ 256 := by omega
    simp [b_fits_family, h1, hp, hp2]
/-! the exchange -/
def dictB (l : List B8) : D := .dict ((.none, .bool true) :: l.map fun m => (enc m, .bool true))
theorem look_dictB (x : B8) : ∀ l : List B8, (lookD (enc x) (l.map fun m => (enc m, PyData.bool true))).isSome = decide (x ∈ l)
  | [] => rfl
  | m :: l => by
    show (if PyData.eqv (enc m) (enc x) then some _ else lookD _ _).isSome = _
    rw [eqv_enc]
    by_cases h : m = x
    · simp [h]
    · have h' : ¬ x = m := fun z => h z.symm
      simp [h, h', look_dictB x l]
theorem keyFor_enc (m : B8) : keyFor true (enc m) = true := keysOf_nats _
@[simp] theorem in_dictB (x : B8) (l : List B8) : inD (enc x) (dictB l) = some (.bool (decide (x ∈ l))) := by
  show ((if keyFor true (enc x) then some (lookD _ _) else none).map Option.isSome).map PyData.bool = _
  rw [keyFor_enc, if_pos rfl]
  show some (PyData.bool (lookD _ _).isSome) = _
  rw [look_dictB]
/-- what can stand for a thing -/
def swapF (l : List B8) (a b : B8) (t : Fin 8) : Option (Fin 8) := (bitsF (less b a)).find? fun y => decide (less a (one t.val) ||| one y.val ∈ l)
def optI : Option (Fin 8) → D
  | some y => .int (y.val : Nat)
  | none => .none
theorem L_swap_in {cl cu : Nat} (l : List B8) (a b : B8) (t : Fin 8) (h1 : ∀ a b, call cl [enc a, enc b] = M.ret (enc (less a b))) (h2 : ∀ a b, call cu [enc a, enc b] = M.ret (enc (a ||| b))) :
    evSs call (b_swap_in (c_less_in := cl) (c_union_in := cu)) [.da (dictB l), .da (enc a), .da (enc b), .da (.int t.val), .no] = M.ret (.rt (optI (swapF l a b t))) := by
  simp [b_swap_in, h1]
  rw [forL_find (ρ := [.da (dictB l), .da (enc a), .da (enc b), .da (.int t.val), .no]) (i := 4) (g := fun y : Fin 8 => PyData.int (y.val : Nat)) (fun y => decide (less a (one t.val) ||| one y.val ∈ l)) (fun y => .int (y.val : Nat)) (bitsF (less b a)) .no rfl fun y hy => by
    simp [b_swap_in_l0, h1, h2]]
  unfold swapF
  cases e : (bitsF (less b a)).find? fun y => decide (less a (one t.val) ||| one y.val ∈ l) with
  | none => simp [optI]
  | some y => simp [optI]
theorem idx_fam {l : List B8} {n : Nat} {m : B8} (h : l[n]? = some m) : idxD (famT l) (.int (n : Nat)) = some (enc m) := by
  show L2.atI (l.map enc) n = _
  rw [atI_nat, List.getElem?_map, h]; rfl
theorem idx_famL {l : List B8} {n : Nat} {m : B8} (h : l[n]? = some m) : idxD (famL l) (.int (n : Nat)) = some (enc m) := by
  show L2.atI (l.map enc) n = _
  rw [atI_nat, List.getElem?_map, h]; rfl
@[simp] theorem idx_fam0 (a : B8) (r : List B8) : idxD (famT (a :: r)) (.int 0) = some (enc a) := idx_fam (n := 0) rfl
@[simp] theorem idx_famL0 (a : B8) (r : List B8) : idxD (famL (a :: r)) (.int 0) = some (enc a) := idx_famL (n := 0) rfl
theorem idx_hd {l : List B8} (h : l ≠ []) : idxD (famT l) (.int 0) = some (enc (l.headD 0#8)) := by
  cases l with
  | nil => exact absurd rfl h
  | cons a r => simp
theorem shp_fam (l : List B8) : SeqAt.shaped (famT l) = true ∧ SeqAt.shaped (famL l) = true := by
  have d : ∀ l : List B8, PyData.depthAll (l.map enc) ≤ 1 := fun l => by
    induction l with
    | nil => simp [PyData.depthAll]
    | cons m l ih =>
      have : (enc m).depth ≤ 1 := by
        show (tupN _).depth ≤ 1
        simp only [tupN, PyData.depth, dep_tupN]
        omega
      simp only [List.map_cons, PyData.depthAll]
      omega
  have := d l
  refine ⟨shp_of (by simp only [famT, PyData.canLay0]; exact lay_fam l) (by simp only [famT, PyData.depth]; omega), shp_of (by simp only [famL, PyData.canLay0]; exact lay_fam l) (by simp only [famL, PyData.depth]; omega)⟩
@[simp] theorem shp_famT (l : List B8) : SeqAt.shaped (famT l) = true := (shp_fam l).1
@[simp] theorem shp_famL (l : List B8) : SeqAt.shaped (famL l) = true := (shp_fam l).2
theorem eqvAll_fam : ∀ a b : List B8, PyData.eqvAll (a.map enc) (b.map enc) = decide (a = b)
  | [], [] => by simp [PyData.eqvAll]
  | [], _ :: _ => by simp [PyData.eqvAll]
  | _ :: _, [] => by simp [PyData.eqvAll]
  | x :: xs, y :: ys => by
    simp only [List.map_cons, PyData.eqvAll, eqv_enc, eqvAll_fam xs ys]
    rw [Bool.eq_iff_iff]
    simp
@[simp] theorem eqv_famT (a b : List B8) : PyData.eqv (famT a) (famT b) = decide (a = b) := by
  unfold famT
  simp only [PyData.eqv, eqvAll_fam]
@[simp] theorem eqv_famL (a b : List B8) : PyData.eqv (famL a) (famL b) = decide (a = b) := by
  unfold famL
  simp only [PyData.eqv, eqvAll_fam]
@[simp] theorem eqFT (a b : List B8) : eqD (famT a) (famT b) = some (.bool (decide (a = b))) := by simp [eqD]
@[simp] theorem neFT (a b : List B8) : neD (famT a) (famT b) = some (.bool (decide (a ≠ b))) := by simp [neD]
@[simp] theorem eqFL (a b : List B8) : eqD (famL a) (famL b) = some (.bool (decide (a = b))) := by simp [eqD]
@[simp] theorem neFL (a b : List B8) : neD (famL a) (famL b) = some (.bool (decide (a ≠ b))) := by simp [neD]
@[simp] theorem eqFL0 (a : List B8) : eqD (famL a) (.list []) = some (.bool (decide (a = []))) := eqFL a []
@[simp] theorem neFL0 (a : List B8) : neD (famL a) (.list []) = some (.bool (decide (a ≠ []))) := neFL a []
@[simp] theorem eqFT0 (a : List B8) : eqD (famT a) (enc 0#8) = some (.bool (decide (a = []))) := eqFT a []
@[simp] theorem neFT0 (a : List B8) : neD (famT a) (enc 0#8) = some (.bool (decide (a ≠ []))) := neFT a []
@[simp] theorem eq_nn : eqD (.list []) (.list []) = some (.bool true) := eqFL [] []
@[simp] theorem ne_nn : neD (.list []) (.list []) = some (.bool false) := neFL [] []
/-- the first of a list, or None -/
def firstD : List B8 → D
  | [] => .none
  | c :: _ => enc c
def firstM (o : Option Sl) : M D := M.bnd (getL o) fun x => M.bnd (M.opt (neD x (.list []))) fun y => M.bnd (M.opt (truD y)) fun k => if k = true then M.bnd (getL o) fun x => M.opt (idxD x (.int 0)) else M.ret .none
@[simp high] theorem evE_first (ρ : En) (i : Nat) : evE call (.ite (.cmp .ne (.var i) (.lst .nil)) (.idx (.var i) (.int 0)) .non) ρ = firstM ρ[i]? := by
  simp [firstM]
theorem firstM_eq (l : List B8) : M.bnd (M.opt (neD (famL l) (.list []))) (fun y => M.bnd (M.opt (truD y)) fun k => if k = true then M.bnd (M.ret (famL l)) fun x => M.opt (idxD x (.int 0)) else M.ret .none) = M.ret (firstD l) := by
  cases l <;> simp [firstD]
@[simp] theorem firstM_da (l : List B8) : firstM (some (.da (famL l))) = M.ret (firstD l) := firstM_eq l
@[simp] theorem firstM_ow (l : List B8) : firstM (some (.ow (famL l))) = M.ret (firstD l) := firstM_eq l
theorem L_unlike_in {l : List B8} (hne : l ≠ []) (h : ∀ a ∈ l, ∀ b ∈ l, pc a = pc b) : evSs call b_unlike_in [.da (famT l), .no, .no] = M.ret (.rt .none) := by
  have e : l.filter (fun x => !decide (pc x = pc (l.headD 0#8))) = [] := by
    rw [List.filter_eq_nil_iff]
    intro x hx
    have : l.headD 0#8 ∈ l := by
      cases l with
      | nil => exact absurd rfl hne
      | cons a r => exact List.mem_cons_self
    simp [h x hx _ this]
  simp [b_unlike_in, idx_hd hne, -List.headD_eq_head?_getD, e, show PyData.list [] = famL [] from rfl, firstD]
theorem forL_any {α σ : Type} {body : En → M Fl} {i : Nat} {g : α → D} (st : σ → En) (xs : List α) (s : σ) (h : ∀ s, ∀ x ∈ xs, ∃ s', body ((st s).set i (.da (g x))) = M.ret (.nx (st s'))) : ∃ s', forL body (.one i) (xs.map g) (st s) = M.ret (.nx (st s')) := by
  obtain ⟨s', _, h2⟩ := forL_inv' (body := body) (i := i) (g := g) st (fun _ r => ∀ x ∈ r, x ∈ xs) xs s (fun x hx => hx) fun s x r hr => by
    obtain ⟨s', e⟩ := h s x (hr x List.mem_cons_self)
    exact ⟨s', fun y hy => hr y (List.mem_cons_of_mem _ hy), e⟩
  exact ⟨s', h2⟩
theorem putP_fam : ∀ (l acc : List B8), (acc ++ l).Nodup → (l.map fun m => PyData.tuple [enc m, .bool true]).foldl putP (acc.map fun m => (enc m, PyData.bool true)) = (acc ++ l).map fun m => (enc m, PyData.bool true)
  | [], acc, _ => by simp
  | m :: l, acc, h => by
    have hm : m ∉ acc := fun z => by
      rw [List.nodup_append] at h
      exact h.2.2 m z m List.mem_cons_self rfl
    have e : putD (enc m) (.bool true) (acc.map fun m => (enc m, PyData.bool true)) = (acc ++ [m]).map fun m => (enc m, PyData.bool true) := by
      unfold putD
      rw [if_neg]
      · simp
      · rw [List.any_map]
        intro z
        rw [List.any_eq_true] at z
        obtain ⟨x, hx, e⟩ := z
        simp at e
        exact hm (e ▸ hx)
    show (l.map _).foldl putP (putD (enc m) (.bool true) _) = _
    rw [e, putP_fam l (acc ++ [m]) (by simpa using h)]
    simp
theorem bnd_any {σ : Type} {st : σ → En} {m : M Fl} {k : Fl → M Fl} {r : M Fl} (h : ∃ s', m = M.ret (.nx (st s'))) (hk : ∀ s', k (.nx (st s')) = r) : M.bnd m k = r := by
  obtain ⟨s', rfl⟩ := h
  exact hk s'
theorem L_break_in {cl cs : Nat} {l : List B8} (hn : l.Nodup) (h1 : ∀ a b, call cl [enc a, enc b] = M.ret (enc (less a b))) (h2 : ∀ a b (t : Fin 8), call cs [dictB l, enc a, enc b, .int (t.val : Nat)] = M.ret (optI (swapF l a b t))) (h : ∀ a ∈ l, ∀ b ∈ l, ∀ t, t ∈ bitsF (less a b) → (swapF l a b t).isSome = true) :
    evSs call (b_break_in (c_swap_in := cs) (c_less_in := cl)) [.da (famT l), .no, .no, .no, .no, .no] = M.ret (.rt .none) := by
  have e := putP_fam l [] (by simpa using hn)
  simp at e
  have e2 : PyData.dict ((.none, .bool true) :: (l.map fun m => PyData.tuple [enc m, .bool true]).foldl putP []) = dictB l := by
    rw [e]; rfl
  simp [b_break_in, keyFor_enc, e2]
  refine bnd_any (forL_any (σ := Sl × Sl × Sl) (fun s => [.da (famT l), .da (dictB l), .no, s.1, s.2.1, s.2.2]) l (.no, .no, .no) ?_) fun s => by simp
  rintro ⟨s3, s4, s5⟩ a ha
  obtain ⟨⟨t4, t5⟩, e4⟩ := forL_any (body := evSs call (b_break_in_l1 (c_swap_in := cs) (c_less_in := cl))) (i := 4) (g := enc) (σ := Sl × Sl) (fun s => [.da (famT l), .da (dictB l), .no, .da (enc a), s.1, s.2]) l (s4, s5) (by
    rintro ⟨s4, s5⟩ b hb
    obtain ⟨t5, e5⟩ := forL_any (body := evSs call (b_break_in_l2 cs)) (i := 5) (g := fun i : Fin 8 => PyData.int i.val) (σ := Sl) (fun s => [.da (famT l), .da (dictB l), .no, .da (enc a), .da (enc b), s]) (bitsF (less a b)) s5 (by
      intro s5 t ht
      obtain ⟨y, hy⟩ := Option.isSome_iff_exists.mp (h a ha b hb t ht)
      refine ⟨.da (.int t.val), ?_⟩
      simp [b_break_in_l2, h2 a b t, hy, optI])
    refine ⟨(.da (enc b), t5), ?_⟩
    simp [b_break_in_l1, h1]
    erw [e5]
    simp)
  refine ⟨(.da (enc a), t4, t5), ?_⟩
  simp [b_break_in_l0]
  erw [e4]
  simp
end
end FS

-- part FtSys
set_option Elab.async false
set_option linter.all false
set_option maxRecDepth 100000
set_option maxHeartbeats 4000000
/-! systems.py: a system is one; rank, free, circuits. -/
namespace FS
open PySem PySem.W PyProof.Rows

theorem swapF_some {l : List B8} {a b : B8} {t : Fin 8} (h : ∃ y, b.getLsbD y = true ∧ a.getLsbD y = false ∧ less a (one t.val) ||| one y ∈ l) : (swapF l a b t).isSome = true := by
  obtain ⟨y, h1, h2, h3⟩ := h
  unfold swapF
  rw [List.find?_isSome]
  exact ⟨⟨y, BitVec.lt_of_getLsbD h1⟩, mem_bitsF.mpr (by simp [h1, h2]), decide_eq_true h3⟩
section
variable {call : Nat → List D → M D}
theorem L_is_bases_in {cu cb : Nat} {l : List B8} (hne : l ≠ []) (h1 : call cu [famT l] = M.ret .none) (h2 : call cb [famT l] = M.ret .none) : evSs call (b_is_bases_in (c_unlike_in := cu) (c_break_in := cb)) [.da (famT l)] = M.ret (.rt (.bool true)) := by
  simp [b_is_bases_in, h1, h2, hne]
theorem L_fits_system {ct cn cr cf cb : Nat} {S : Sys} (h : S.Ok) (h1 : call ct [S.enc, .int 2, .int 2] = M.ret (.bool true)) (h2 : call cn [nmD S.nm, .int 8] = M.ret (.bool (decide (S.nm.length ≤ 8) && (S.nm.all nameB && decide ((dd S.nm).length = S.nm.length)))))
    (h3 : call cr [nmD S.nm] = M.ret (.bool ((S.nm.zip S.nm.tail).all fun p => ltT p.1 p.2))) (h4 : call cf [.int (S.n : Nat), famT S.B] = M.ret (.bool (decide (S.B.length ≤ 256) && (S.B.all (inN S.n) && (S.B.zip S.B.tail).all fun p => ltB p.1 p.2)))) (h5 : call cb [famT S.B] = M.ret (.bool true)) :
    evSs call (b_fits_system (c_is_tuple_of := ct) (c_fits_names := cn) (c_is_rising := cr) (c_fits_family := cf) (c_is_bases_in := cb)) [.da S.enc] = M.ret (.rt (.bool true)) := by
  have e1 : S.nm.length ≤ 8 := h.n8
  have e2 : S.nm.all nameB = true := by
    rw [List.all_eq_true]
    intro x hx
    have := List.all_eq_true.mp h.nms x hx
    unfold nameOk at this
    rw [Bool.and_eq_true] at this
    exact this.2
  have e3 : (dd S.nm).length = S.nm.length := by rw [dd_id (nm_nodup h.nma)]
  have e4 : (S.nm.zip S.nm.tail).all (fun p => ltT p.1 p.2) = true := links_of h.nma
  have e5 : S.B.all (inN S.n) = true := List.all_eq_true.mpr h.sub
  have e6 := (rising_links S.B).mpr h.asc
  have e7 := h.most
  have e8 : S.B.length ≤ 256 := by omega
  have e9 : (S.B.length : Int) ≤ 70 := by omega
  have e10 : eqD (nmD S.nm) (enc 0#8) = some (.bool false) := by
    have hs := strsOk_of h.nms
    have hsh : SeqAt.shaped (nmD S.nm) = true := by
      refine shp_of (by simp only [nmD, PyData.canLay0]; exact lay_strsOk hs) ?_
      have : ∀ l : List Str, PyData.depthAll (l.map .str) = 0 := fun l => by
        induction l with
        | nil => simp [PyData.depthAll]
        | cons x l ih => simp [PyData.depthAll, PyData.depth, ih]
      simp only [nmD, PyData.depth, this]
      omega
    unfold eqD
    rw [hsh, shp_enc]
    have : S.nm ≠ [] := fun z => by
      have := h.n1
      unfold Sys.n at this
      rw [z] at this
      simp at this
    obtain ⟨x, r, e⟩ := List.exists_cons_of_ne_nil this
    rw [e, ← enc_zero]
    simp only [nmD, List.map_cons, PyData.eqv, PyData.eqvAll, Bool.and_self, if_true]
  have h4' : call cf [.int (S.nm.length : Nat), famT S.B] = M.ret (.bool true) := by
    rw [show (S.nm.length : Nat) = S.n from rfl, h4, e5, e6]
    simp [e8]
  rw [e2, decide_eq_true e1, decide_eq_true e3] at h2
  rw [e4] at h3
  simp [b_fits_system, h1, h2, h3, h4', h5, e9, e10]
theorem L_need_system {cf : Nat} {S : Sys} (h : call cf [S.enc] = M.ret (.bool true)) : evSs call (b_need_system (c_fits_system := cf)) [.da S.enc] = M.ret (.nx [.da S.enc]) := by
  simp [b_need_system, h]
theorem L_is_system {cf : Nat} {d : D} {b : Bool} (h : call cf [d] = M.ret (.bool b)) : evSs call (b_is_system (c_fits_system := cf)) [.da d] = M.ret (.rt (.bool b)) := by
  simp [b_is_system, h]
theorem L_things_in {S : Sys} : evSs call b_things_in [.da S.enc] = M.ret (.rt (.int (S.n : Nat))) := by
  simp [b_things_in, Sys.n]
/-- the rank of a set -/
def rk (S : Sys) (m : B8) : Nat := maxN (S.B.map fun b => pc (m &&& b))
def isFree (S : Sys) (m : B8) : Bool := decide (rk S m = pc m)
theorem L_rank_in {cc : Nat} {S : Sys} (hne : S.B ≠ []) (m : B8) (h : ∀ a b, call cc [enc a, enc b] = M.ret (enc (a &&& b))) : evSs call (b_rank_in (c_common_in := cc)) [.da S.enc, .da (enc m), .no] = M.ret (.rt (.int (rk S m : Nat))) := by
  simp [b_rank_in, h, max_map _ _ hne, rk]
theorem L_is_free_in {cr : Nat} {S : Sys} (m : B8) (h : call cr [S.enc, enc m] = M.ret (.int (rk S m : Nat))) : evSs call (b_is_free_in (c_rank_in := cr)) [.da S.enc, .da (enc m)] = M.ret (.rt (.bool (isFree S m))) := by
  simp [b_is_free_in, h, isFree]
/-- a circuit -/
def isCirc (S : Sys) (m : B8) : Bool := !isFree S m && (bitsF m).all fun i => isFree S (less m (one i.val))
theorem L_is_circuit_in {cf cl : Nat} {S : Sys} (m : B8) (h1 : ∀ m, call cf [S.enc, enc m] = M.ret (.bool (isFree S m))) (h2 : ∀ a b, call cl [enc a, enc b] = M.ret (enc (less a b))) : evSs call (b_is_circuit_in (c_is_free_in := cf) (c_less_in := cl)) [.da S.enc, .da (enc m), .no] = M.ret (.rt (.bool (isCirc S m))) := by
  cases hf : isFree S m with
  | true => simp [b_is_circuit_in, h1, hf, isCirc]
  | false => simp [b_is_circuit_in, h1, h2, hf, isCirc]
def circs (S : Sys) : List B8 := (allS S.n).filter (isCirc S)
theorem L_circuits_in {cs ct cc : Nat} {S : Sys} (h1 : call cs [.int (S.n : Nat)] = M.ret (famL (allS S.n))) (h2 : call ct [S.enc] = M.ret (.int (S.n : Nat))) (h3 : ∀ m, call cc [S.enc, enc m] = M.ret (.bool (isCirc S m))) : evSs call (b_circuits_in (c_sets_in := cs) (c_things_in := ct) (c_is_circuit_in := cc)) [.da S.enc, .no] = M.ret (.rt (famL (circs S))) := by
  simp [b_circuits_in, h1, h2, h3, circs]
end
end FS

-- part FtMat
set_option Elab.async false
set_option linter.all false
set_option maxRecDepth 100000
set_option maxHeartbeats 4000000
/-! Systems of free sets: the exchange, ranks, duals, circuits. -/
namespace FS

/-! ### sets -/
def Sb (a b : B8) : Prop := ∀ i, a.getLsbD i = true → b.getLsbD i = true
theorem Sb.refl (a : B8) : Sb a a := fun _ h => h
theorem Sb.trans {a b c : B8} (h : Sb a b) (k : Sb b c) : Sb a c := fun i x => k i (h i x)
theorem Sb.anti {a b : B8} (h : Sb a b) (k : Sb b a) : a = b := B8.ext fun i => by
  rw [Bool.eq_iff_iff]
  exact ⟨h i, k i⟩
theorem bit_or (a b : B8) (i : Nat) : (a ||| b).getLsbD i = (a.getLsbD i || b.getLsbD i) := BitVec.getLsbD_or
theorem bit_and (a b : B8) (i : Nat) : (a &&& b).getLsbD i = (a.getLsbD i && b.getLsbD i) := BitVec.getLsbD_and
theorem bit_lt {a : B8} {i : Nat} (h : a.getLsbD i = true) : i < 8 := BitVec.lt_of_getLsbD h
theorem sb_and (a b : B8) : Sb (a &&& b) a := fun i h => by
  rw [bit_and, Bool.and_eq_true] at h
  exact h.1
theorem sb_and2 (a b : B8) : Sb (a &&& b) b := fun i h => by
  rw [bit_and, Bool.and_eq_true] at h
  exact h.2
theorem sb_less (a b : B8) : Sb (less a b) a := fun i h => by
  rw [bit_less, Bool.and_eq_true] at h
  exact h.1
theorem sb_or1 (a b : B8) : Sb a (a ||| b) := fun i h => by rw [bit_or, h]; rfl
theorem sb_or2 (a b : B8) : Sb b (a ||| b) := fun i h => by rw [bit_or, h, Bool.or_true]
theorem len_filter (p : Nat → Bool) : ∀ l : List Nat, (l.filter p).length = (l.map fun i => (p i).toNat).sum
  | [] => rfl
  | x :: l => by
    rw [List.filter_cons, List.map_cons, List.sum_cons, ← len_filter p l]
    cases p x <;> simp <;> omega
theorem pc_sum (m : B8) : pc m = (m.getLsbD 0).toNat + (m.getLsbD 1).toNat + (m.getLsbD 2).toNat + (m.getLsbD 3).toNat + (m.getLsbD 4).toNat + (m.getLsbD 5).toNat + (m.getLsbD 6).toNat + (m.getLsbD 7).toNat := by
  unfold pc bits
  rw [len_filter, show List.range 8 = [0, 1, 2, 3, 4, 5, 6, 7] from rfl]
  simp only [List.map_cons, List.map_nil, List.sum_cons, List.sum_nil]
  omega
theorem toNat_or_and (x y : Bool) : (x || y).toNat + (x && y).toNat = x.toNat + y.toNat := by cases x <;> cases y <;> rfl
theorem toNat_less (x y : Bool) : (x && !y).toNat + (x && y).toNat = x.toNat := by cases x <;> cases y <;> rfl
theorem pc_or_and (a b : B8) : pc (a ||| b) + pc (a &&& b) = pc a + pc b := by
  have h := fun i => toNat_or_and (a.getLsbD i) (b.getLsbD i)
  simp only [pc_sum, bit_or, bit_and]
  have h0 := h 0; have h1 := h 1; have h2 := h 2; have h3 := h 3; have h4 := h 4; have h5 := h 5; have h6 := h 6; have h7 := h 7
  omega
theorem pc_less (a b : B8) : pc (less a b) + pc (a &&& b) = pc a := by
  have h := fun i => toNat_less (a.getLsbD i) (b.getLsbD i)
  simp only [pc_sum, bit_less, bit_and]
  have h0 := h 0; have h1 := h 1; have h2 := h 2; have h3 := h 3; have h4 := h 4; have h5 := h 5; have h6 := h 6; have h7 := h 7
  omega
theorem and_of_sb {a b : B8} (h : Sb a b) : a &&& b = a := B8.ext fun i => by
  rw [bit_and]
  cases e : a.getLsbD i with
  | false => rfl
  | true => rw [h i e]; rfl
theorem or_of_sb {a b : B8} (h : Sb a b) : a ||| b = b := B8.ext fun i => by
  rw [bit_or]
  cases e : a.getLsbD i with
  | false => rw [Bool.false_or]
  | true => rw [h i e]; rfl
theorem pc_mono {a b : B8} (h : Sb a b) : pc a ≤ pc b := by
  have := pc_less b a
  have e : b &&& a = a := by
    rw [BitVec.and_comm]
    exact and_of_sb h
  rw [e] at this
  omega
@[simp] theorem pc_zero : pc 0#8 = 0 := by decide
theorem pc_eq_zero {a : B8} : pc a = 0 ↔ a = 0#8 := by
  refine ⟨fun h => B8.ext fun i => ?_, fun h => by rw [h]; exact pc_zero⟩
  have hb : bits a = [] := List.eq_nil_of_length_eq_zero h
  cases e : a.getLsbD i with
  | false => simp
  | true =>
    have := mem_bits.mpr e
    rw [hb] at this
    cases this
theorem sb_eq {a b : B8} (h : Sb a b) (k : pc b ≤ pc a) : a = b := by
  refine h.anti fun i hi => ?_
  have h1 := pc_less b a
  have e : b &&& a = a := by
    rw [BitVec.and_comm]
    exact and_of_sb h
  rw [e] at h1
  have h2 : pc (less b a) = 0 := by omega
  rw [pc_eq_zero] at h2
  cases q : a.getLsbD i with
  | true => rfl
  | false =>
    have : (less b a).getLsbD i = true := by simp [hi, q]
    rw [h2] at this
    simp at this
theorem pc_one {i : Nat} (h : i < 8) : pc (one i) = 1 := by
  unfold pc
  rw [bits_one h]; rfl
theorem exists_bit {a : B8} (h : 0 < pc a) : ∃ i, a.getLsbD i = true := by
  cases e : bits a with
  | nil => 
    unfold pc at h
    rw [e] at h
    simp at h
  | cons i r => exact ⟨i, mem_bits.mp (by rw [e]; exact List.mem_cons_self)⟩
theorem and_sing {a : B8} {i : Nat} (h : a.getLsbD i = true) : a &&& one i = one i := by
  rw [BitVec.and_comm]
  refine and_of_sb fun j hj => ?_
  simp at hj
  rw [← hj.2]
  exact h
theorem pc_less_one {a : B8} {i : Nat} (h : a.getLsbD i = true) : pc (less a (one i)) + 1 = pc a := by
  have := pc_less a (one i)
  rw [and_sing h, pc_one (bit_lt h)] at this
  exact this
theorem pc_or_one {a : B8} {i : Nat} (hi : i < 8) (h : a.getLsbD i = false) : pc (a ||| one i) = pc a + 1 := by
  have h1 := pc_or_and a (one i)
  have h2 : a &&& one i = 0#8 := B8.ext fun j => by
    rw [bit_and, bit_one]
    by_cases e : i = j
    · subst e
      simp [h]
    · simp [e]
  rw [h2, pc_zero, pc_one hi] at h1
  exact h1
/-- one set within another with no more things: no room -/
theorem exists_in_not {a b : B8} (h : pc b < pc a) : ∃ i, a.getLsbD i = true ∧ b.getLsbD i = false := by
  have h1 := pc_less a b
  have h2 := pc_mono (sb_and2 a b)
  obtain ⟨i, hi⟩ := exists_bit (a := less a b) (by omega)
  simp at hi
  exact ⟨i, hi.1, hi.2⟩
end FS

-- part FtMat2
set_option Elab.async false
set_option linter.all false
set_option maxRecDepth 100000
set_option maxHeartbeats 4000000
/-! The exchange, free sets, ranks. -/
namespace FS

theorem maxN_le {l : List Nat} {n : Nat} (h : ∀ x ∈ l, x ≤ n) : maxN l ≤ n := by
  induction l with
  | nil => exact Nat.zero_le _
  | cons x l ih =>
    show max x (maxN l) ≤ n
    have := h x List.mem_cons_self
    have := ih fun y hy => h y (List.mem_cons_of_mem _ hy)
    omega
theorem le_maxN {l : List Nat} {x : Nat} (h : x ∈ l) : x ≤ maxN l := by
  induction l with
  | nil => cases h
  | cons y l ih =>
    show x ≤ max y (maxN l)
    rcases List.mem_cons.mp h with rfl | h
    · omega
    · have := ih h
      omega
theorem maxN_mem {l : List Nat} (h : l ≠ []) : maxN l ∈ l := by
  induction l with
  | nil => exact absurd rfl h
  | cons x l ih =>
    show max x (maxN l) ∈ _
    cases l with
    | nil => simp [maxN]
    | cons y l =>
      have := ih (by simp)
      by_cases hx : maxN (y :: l) ≤ x
      · rw [Nat.max_eq_left hx]; exact List.mem_cons_self
      · rw [Nat.max_eq_right (by omega)]; exact List.mem_cons_of_mem _ this
section
variable {S : Sys} {m x y a b : B8}
theorem rk_ge (h : b ∈ S.B) : pc (m &&& b) ≤ rk S m := le_maxN (List.mem_map_of_mem (f := fun b => pc (m &&& b)) h)
theorem rk_at (hne : S.B ≠ []) (m : B8) : ∃ b ∈ S.B, rk S m = pc (m &&& b) := by
  have := maxN_mem (l := S.B.map fun b => pc (m &&& b)) (by simpa using hne)
  obtain ⟨b, h1, h2⟩ := List.mem_map.mp this
  exact ⟨b, h1, h2.symm⟩
theorem rk_le (S : Sys) (m : B8) : rk S m ≤ pc m := maxN_le fun x hx => by
  obtain ⟨b, _, rfl⟩ := List.mem_map.mp hx
  exact pc_mono (sb_and m b)
theorem rk_mono (h : Sb x y) : rk S x ≤ rk S y := maxN_le fun z hz => by
  obtain ⟨b, hb, rfl⟩ := List.mem_map.mp hz
  refine Nat.le_trans (pc_mono fun i hi => ?_) (rk_ge hb)
  rw [bit_and, Bool.and_eq_true] at hi ⊢
  exact ⟨h i hi.1, hi.2⟩
/-- free: within a base -/
def Fr (S : Sys) (m : B8) : Prop := ∃ b ∈ S.B, Sb m b
theorem free_iff (hne : S.B ≠ []) : isFree S m = true ↔ Fr S m := by
  unfold isFree
  rw [decide_eq_true_eq]
  constructor
  · intro h
    obtain ⟨b, h1, h2⟩ := rk_at hne m
    refine ⟨b, h1, ?_⟩
    have : m &&& b = m := sb_eq (sb_and m b) (by omega)
    rw [← this]
    exact sb_and2 m b
  · rintro ⟨b, h1, h2⟩
    have := rk_ge (m := m) h1
    rw [and_of_sb h2] at this
    have := rk_le S m
    omega
theorem Fr.sub (h : Fr S y) (k : Sb x y) : Fr S x := by
  obtain ⟨b, h1, h2⟩ := h
  exact ⟨b, h1, k.trans h2⟩
/-- a free set is filled up from a base -/
theorem aug (ok : S.Ok) (hb : b ∈ S.B) (hm : Sb m b) (ha : a ∈ S.B) : ∃ c ∈ S.B, Sb m c ∧ Sb c (m ||| a) := by
  have key : ∀ n, ∀ b ∈ S.B, Sb m b → pc (less b (m ||| a)) ≤ n → ∃ c ∈ S.B, Sb m c ∧ Sb c (m ||| a) := by
    intro n
    induction n with
    | zero =>
      intro b hb hm h
      refine ⟨b, hb, hm, fun i hi => ?_⟩
      have h0 : less b (m ||| a) = 0#8 := pc_eq_zero.mp (by omega)
      cases e : (m ||| a).getLsbD i with
      | true => rfl
      | false =>
        have : (less b (m ||| a)).getLsbD i = true := by
          rw [bit_less, hi, e]; rfl
        rw [h0] at this
        simp at this
    | succ n ih =>
      intro b hb hm h
      by_cases h0 : pc (less b (m ||| a)) = 0
      · exact ih b hb hm (by omega)
      · obtain ⟨z, hz⟩ := exists_bit (a := less b (m ||| a)) (by omega)
        have hz' := hz
        rw [bit_less, bit_or, Bool.and_eq_true] at hz'
        obtain ⟨z1, z2⟩ := hz'
        simp only [Bool.not_eq_true', Bool.or_eq_false_iff] at z2
        obtain ⟨w, w1, w2, w3⟩ := ok.exch b hb a ha z z1 z2.2
        refine ih _ w3 (fun i hi => ?_) ?_
        · rw [bit_or, bit_less, bit_one, hm i hi]
          have : z ≠ i := fun e => by
            subst e
            rw [z2.1] at hi; cases hi
          simp [this]
        · have e : less (less b (one z) ||| one w) (m ||| a) = less (less b (m ||| a)) (one z) := B8.ext fun i => by
            simp only [bit_less, bit_or, bit_one]
            by_cases hw : w = i
            · subst hw
              simp [w1, w2]
            · simp only [hw, decide_false, Bool.and_false, Bool.or_false]
              cases b.getLsbD i <;> cases m.getLsbD i <;> cases a.getLsbD i <;> simp
          rw [e]
          have := pc_less_one hz
          omega
  exact key _ b hb hm (Nat.le_refl _)
/-- the exchange into a base -/
theorem exch_in (ok : S.Ok) (ha : a ∈ S.B) (hb : b ∈ S.B) {t : Nat} (h1 : b.getLsbD t = true) (h2 : a.getLsbD t = false) : ∃ s, a.getLsbD s = true ∧ b.getLsbD s = false ∧ less a (one s) ||| one t ∈ S.B := by
  have t8 := bit_lt h1
  obtain ⟨c, hc, c1, c2⟩ := aug ok hb (m := (a &&& b) ||| one t) (fun i hi => by
    rw [bit_or, bit_and, bit_one] at hi
    simp only [Bool.or_eq_true, Bool.and_eq_true, decide_eq_true_eq] at hi
    rcases hi with hi | hi
    · exact hi.2
    · exact hi.2 ▸ h1) ha
  have ct : c.getLsbD t = true := c1 t (by simp [bit_or, bit_one, t8])
  have e := ok.eqv a ha c hc
  have cs : Sb c (a ||| one t) := fun i hi => by
    have := c2 i hi
    rw [bit_or, bit_or, bit_and] at this
    rw [bit_or]
    cases h : a.getLsbD i <;> simp [h] at this ⊢
    exact this
  obtain ⟨s, s1, s2⟩ := exists_in_not (a := a) (b := less c (one t)) (by
    have := pc_less_one ct
    omega)
  have st : s ≠ t := fun z => by
    subst z
    rw [h2] at s1; cases s1
  have s3 : c.getLsbD s = false := by
    rw [bit_less, bit_one] at s2
    simpa [Ne.symm st] using s2
  refine ⟨s, s1, ?_, ?_⟩
  · cases h : b.getLsbD s with
    | false => rfl
    | true =>
      have := c1 s (by simp [bit_or, bit_and, s1, h])
      rw [s3] at this; cases this
  · have : c = less a (one s) ||| one t := by
      refine sb_eq (fun i hi => ?_) ?_
      · have h := cs i hi
        rw [bit_or, bit_one] at h
        rw [bit_or, bit_less, bit_one, bit_one]
        by_cases z : s = i
        · subst z
          rw [s3] at hi; cases hi
        · simp [z]
          simpa using h
      · have h3 := pc_less_one s1
        have h4 : pc (less a (one s) ||| one t) = pc (less a (one s)) + 1 := pc_or_one t8 (by simp [h2])
        omega
    rw [← this]
    exact hc
/-- a free set with fewer things can have one more of another one -/
theorem grow (ok : S.Ok) (hx : Fr S x) (hy : Fr S y) (h : pc x < pc y) : ∃ i, y.getLsbD i = true ∧ x.getLsbD i = false ∧ Fr S (x ||| one i) := by
  obtain ⟨b1, hb1, s1⟩ := hx
  obtain ⟨b2, hb2, s2⟩ := hy
  obtain ⟨c, hc, c1, c2⟩ := aug ok hb1 s1 hb2
  have e := ok.eqv c hc b2 hb2
  -- less c x has more things than less b2 y
  have h1 := pc_less c x
  have h2 := pc_less b2 y
  rw [BitVec.and_comm, and_of_sb c1] at h1
  rw [BitVec.and_comm, and_of_sb s2] at h2
  obtain ⟨i, i1, i2⟩ := exists_in_not (a := less c x) (b := less b2 y) (by omega)
  rw [bit_less, Bool.and_eq_true] at i1
  have i3 : x.getLsbD i = false := by simpa using i1.2
  have i4 : b2.getLsbD i = true := by
    have := c2 i i1.1
    rw [bit_or, i3, Bool.false_or] at this
    exact this
  have i5 : y.getLsbD i = true := by
    rw [bit_less, i4] at i2
    simpa using i2
  refine ⟨i, i5, i3, c, hc, fun j hj => ?_⟩
  rw [bit_or, bit_one] at hj
  simp only [Bool.or_eq_true, Bool.and_eq_true, decide_eq_true_eq] at hj
  rcases hj with hj | hj
  · exact c1 j hj
  · exact hj.2 ▸ i1.1
/-- .. up to the rank -/
theorem fill (ok : S.Ok) (hx : Fr S x) (hs : Sb x y) : ∃ z, Fr S z ∧ Sb x z ∧ Sb z y ∧ pc z = rk S y := by
  have key : ∀ n, ∀ x, Fr S x → Sb x y → rk S y - pc x ≤ n → ∃ z, Fr S z ∧ Sb x z ∧ Sb z y ∧ pc z = rk S y := by
    intro n
    induction n with
    | zero =>
      intro x hx hs h
      refine ⟨x, hx, Sb.refl x, hs, ?_⟩
      have h1 : pc x ≤ rk S y := by
        have := (free_iff ok.ne).mpr hx
        unfold isFree at this
        rw [decide_eq_true_eq] at this
        rw [← this]
        exact rk_mono hs
      omega
    | succ n ih =>
      intro x hx hs h
      by_cases h0 : rk S y ≤ pc x
      · exact ih x hx hs (by omega)
      · obtain ⟨b, hb, e⟩ := rk_at ok.ne y
        obtain ⟨i, i1, i2, i3⟩ := grow ok hx (y := y &&& b) ⟨b, hb, sb_and2 y b⟩ (by omega)
        have hi8 := bit_lt i1
        obtain ⟨z, z1, z2, z3, z4⟩ := ih _ i3 (fun j hj => by
          rw [bit_or, bit_one] at hj
          simp only [Bool.or_eq_true, Bool.and_eq_true, decide_eq_true_eq] at hj
          rcases hj with hj | hj
          · exact hs j hj
          · have := sb_and y b i i1
            exact hj.2 ▸ this) (by
          rw [pc_or_one hi8 i2]
          omega)
        exact ⟨z, z1, (sb_or1 _ _).trans z2, z3, z4⟩
  exact key _ x hx hs (Nat.le_refl _)
theorem rk_of_free (ok : S.Ok) (h : Fr S x) : rk S x = pc x := by
  have := (free_iff ok.ne).mpr h
  unfold isFree at this
  exact of_decide_eq_true this
theorem fr_zero (ok : S.Ok) : Fr S 0#8 := by
  obtain ⟨b, hb⟩ := List.exists_mem_of_ne_nil _ ok.ne
  exact ⟨b, hb, fun i hi => by simp at hi⟩
/-- a greatest free set within a set -/
theorem top_in (ok : S.Ok) (y : B8) : ∃ z, Fr S z ∧ Sb z y ∧ pc z = rk S y := by
  obtain ⟨z, z1, _, z3, z4⟩ := fill ok (fr_zero ok) (y := y) (fun i hi => by simp at hi)
  exact ⟨z, z1, z3, z4⟩
theorem rk_sub (ok : S.Ok) (x y : B8) : rk S (x ||| y) + rk S (x &&& y) ≤ rk S x + rk S y := by
  obtain ⟨i, i1, i2, i3⟩ := top_in ok (x &&& y)
  obtain ⟨k, k1, k2, k3, k4⟩ := fill ok i1 (y := x ||| y) (i2.trans ((sb_and x y).trans (sb_or1 x y)))
  have h1 : pc (k &&& x) ≤ rk S x := by
    rw [← rk_of_free ok (k1.sub (sb_and k x))]
    exact rk_mono (sb_and2 k x)
  have h2 : pc (k &&& y) ≤ rk S y := by
    rw [← rk_of_free ok (k1.sub (sb_and k y))]
    exact rk_mono (sb_and2 k y)
  have h3 := pc_or_and (k &&& x) (k &&& y)
  have e1 : (k &&& x) ||| (k &&& y) = k := B8.ext fun j => by
    rw [bit_or, bit_and, bit_and]
    cases h : k.getLsbD j with
    | false => rfl
    | true =>
      have := k3 j h
      rw [bit_or] at this
      simpa using this
  have h4 : pc i ≤ pc ((k &&& x) &&& (k &&& y)) := pc_mono fun j hj => by
    have := i2 j hj
    rw [bit_and] at this
    simp only [bit_and, k2 j hj, Bool.true_and]
    exact this
  rw [e1] at h3
  omega
end
end FS

-- part FtMat3
set_option Elab.async false
set_option linter.all false
set_option maxRecDepth 100000
set_option maxHeartbeats 4000000
/-! Duals, circuits. -/
namespace FS
section
variable {S : Sys} {m x y a b : B8}
theorem sb_full (ok : S.Ok) (hb : b ∈ S.B) : Sb b (full S.n) := fun i hi => by
  rw [bit_full ok.n8]
  exact decide_eq_true (inN_iff.mp (ok.sub b hb) i hi)
theorem inN_full {n : Nat} (h : n ≤ 8) : inN n m = true ↔ Sb m (full n) := by
  rw [inN_iff]
  refine ⟨fun k i hi => by rw [bit_full h]; exact decide_eq_true (k i hi), fun k i hi => ?_⟩
  have := k i hi
  rw [bit_full h] at this
  exact of_decide_eq_true this
theorem pc_full {n : Nat} (h : n ≤ 8) : pc (full n) = n := by
  unfold pc
  rw [bits_full h, List.length_range]
/-- the dual -/
def co (S : Sys) (b : B8) : B8 := less (full S.n) b
def dualS (S : Sys) : Sys := ⟨S.nm, sortB (S.B.map fun b => less (full S.n) b)⟩
theorem dual_n (S : Sys) : (dualS S).n = S.n := rfl
theorem mem_dual : b ∈ (dualS S).B ↔ ∃ c ∈ S.B, less (full S.n) c = b := by
  unfold dualS
  simp only [mem_sortB, List.mem_map]
theorem less_less {f : B8} (h : Sb b f) : less f (less f b) = b := B8.ext fun i => by
  rw [bit_less, bit_less]
  cases e : b.getLsbD i with
  | false => cases f.getLsbD i <;> rfl
  | true => rw [h i e]; rfl
theorem less_inj {f : B8} (ha : Sb a f) (hb : Sb b f) (h : less f a = less f b) : a = b := by
  rw [← less_less ha, ← less_less hb, h]
theorem pc_less_sub {f : B8} (h : Sb b f) : pc (less f b) + pc b = pc f := by
  have := pc_less f b
  rw [BitVec.and_comm, and_of_sb h] at this
  exact this
theorem dual_ok (ok : S.Ok) : (dualS S).Ok where
  n1 := ok.n1
  n8 := ok.n8
  nms := ok.nms
  nma := ok.nma
  ne := fun h => by
    have := congrArg List.length h
    unfold dualS at this
    simp at this
    exact ok.ne this
  asc := rising_sort (by
    rw [List.Nodup, List.pairwise_map]
    refine List.Pairwise.imp_of_mem (fun {a b} ha hb h e => h ?_) ok.asc.nodup
    exact less_inj (sb_full ok ha) (sb_full ok hb) e)
  sub := fun b hb => by
    obtain ⟨c, _, rfl⟩ := mem_dual.mp hb
    exact (inN_full ok.n8).mpr (sb_less _ _)
  most := by
    unfold dualS
    simp only [length_sortB, List.length_map]
    exact ok.most
  eqv := fun a ha b hb => by
    obtain ⟨c, hc, rfl⟩ := mem_dual.mp ha
    obtain ⟨d, hd, rfl⟩ := mem_dual.mp hb
    have h1 := pc_less_sub (sb_full ok hc)
    have h2 := pc_less_sub (sb_full ok hd)
    have := ok.eqv c hc d hd
    omega
  exch := fun a ha b hb t h1 h2 => by
    obtain ⟨c, hc, rfl⟩ := mem_dual.mp ha
    obtain ⟨d, hd, rfl⟩ := mem_dual.mp hb
    rw [bit_less, Bool.and_eq_true] at h1
    have f1 := h1.1
    have ct : c.getLsbD t = false := by simpa using h1.2
    have dt : d.getLsbD t = true := by
      rw [bit_less, f1] at h2
      simpa using h2
    obtain ⟨s, s1, s2, s3⟩ := exch_in ok hc hd dt ct
    have fs := sb_full ok hc s s1
    refine ⟨s, by simp [fs, s2], by simp [s1], mem_dual.mpr ⟨_, s3, ?_⟩⟩
    apply B8.ext
    intro i
    have s8 := bit_lt s1
    have t8 := bit_lt dt
    have st : s ≠ t := fun z => by subst z; rw [s1] at ct; cases ct
    simp only [bit_less, bit_or, bit_one]
    by_cases hi : s = i
    · subst hi
      simp [s1, fs, s8, Ne.symm st]
    · by_cases hj : t = i
      · subst hj
        simp [f1, t8, hi]
      · simp [hi, hj]
theorem dual_dual (ok : S.Ok) : dualS (dualS S) = S := by
  have e : (dualS (dualS S)).B = S.B := by
    refine rising_ext (dual_ok (dual_ok ok)).asc ok.asc fun a => ?_
    rw [mem_dual (S := dualS S)]
    constructor
    · rintro ⟨c, hc, rfl⟩
      obtain ⟨d, hd, rfl⟩ := (mem_dual (S := S)).mp hc
      rw [dual_n, less_less (sb_full (S := S) ok hd)]
      exact hd
    · intro h
      exact ⟨less (full S.n) a, (mem_dual (S := S)).mpr ⟨a, h, rfl⟩, less_less (sb_full (S := S) ok h)⟩
  have e2 : (dualS (dualS S)).nm = S.nm := rfl
  cases S with
  | mk nm B => 
    show Sys.mk nm _ = Sys.mk nm B
    congr 1
/-- the rank of all -/
def rkS (S : Sys) : Nat := pc (S.B.headD 0#8)
theorem rkS_eq (ok : S.Ok) (hb : b ∈ S.B) : pc b = rkS S := by
  refine ok.eqv b hb _ ?_
  have := ok.ne
  cases e : S.B with
  | nil => exact absurd e this
  | cons c r => exact List.mem_cons_self
theorem rkS_le (ok : S.Ok) : rkS S ≤ S.n := by
  obtain ⟨b, hb⟩ := List.exists_mem_of_ne_nil _ ok.ne
  rw [← rkS_eq ok hb, ← pc_full ok.n8]
  exact pc_mono (sb_full ok hb)
theorem dual_rkS (ok : S.Ok) : rkS S + rkS (dualS S) = S.n := by
  obtain ⟨b, hb⟩ := List.exists_mem_of_ne_nil _ ok.ne
  rw [← rkS_eq ok hb, ← rkS_eq (dual_ok ok) (mem_dual.mpr ⟨b, hb, rfl⟩)]
  have := pc_less_sub (sb_full ok hb)
  rw [pc_full ok.n8] at this
  omega
/-- the dual's ranks -/
theorem dual_rk (ok : S.Ok) (hm : Sb m (full S.n)) : rk (dualS S) m + rkS S = pc m + rk S (less (full S.n) m) := by
  have one_ : ∀ b ∈ S.B, pc (m &&& less (full S.n) b) + pc b = pc m + pc (less (full S.n) m &&& b) := fun b hb => by
    have hf := sb_full ok hb
    have h1 := pc_less m b
    have h2 := pc_less b m
    have e1 : m &&& less (full S.n) b = less m b := B8.ext fun i => by
      rw [bit_and, bit_less, bit_less]
      cases e : m.getLsbD i with
      | false => rfl
      | true => rw [hm i e]; rfl
    have e2 : less (full S.n) m &&& b = less b m := B8.ext fun i => by
      rw [bit_and, bit_less, bit_less]
      cases e : b.getLsbD i with
      | false => simp
      | true => simp [hf i e]
    rw [e1, e2]
    rw [BitVec.and_comm b m] at h2
    omega
  have le1 : rk (dualS S) m + rkS S ≤ pc m + rk S (less (full S.n) m) := by
    obtain ⟨c, hc, e⟩ := rk_at (dual_ok ok).ne m
    obtain ⟨b, hb, rfl⟩ := mem_dual.mp hc
    have h1 := one_ b hb
    have h2 := rk_ge (m := less (full S.n) m) hb
    rw [rkS_eq ok hb] at h1
    omega
  have le2 : pc m + rk S (less (full S.n) m) ≤ rk (dualS S) m + rkS S := by
    obtain ⟨b, hb, e⟩ := rk_at ok.ne (less (full S.n) m)
    have h1 := one_ b hb
    have h2 := rk_ge (S := dualS S) (m := m) (mem_dual.mpr ⟨b, hb, rfl⟩)
    rw [rkS_eq ok hb] at h1
    omega
  omega
/-! circuits -/
theorem circ_iff (ok : S.Ok) : isCirc S m = true ↔ ¬ Fr S m ∧ ∀ i, m.getLsbD i = true → Fr S (less m (one i)) := by
  unfold isCirc
  rw [Bool.and_eq_true, List.all_eq_true]
  refine and_congr ?_ ⟨fun h i hi => (free_iff ok.ne).mp (h ⟨i, bit_lt hi⟩ (mem_bitsF.mpr hi)), fun h i hi => (free_iff ok.ne).mpr (h i.val (mem_bitsF.mp hi))⟩
  rw [Bool.not_eq_true', ← Bool.not_eq_true, free_iff ok.ne]
/-- what is not free has a circuit -/
theorem has_circ (ok : S.Ok) (h : ¬ Fr S m) : ∃ c, isCirc S c = true ∧ Sb c m := by
  have key : ∀ n m, pc m ≤ n → ¬ Fr S m → ∃ c, isCirc S c = true ∧ Sb c m := by
    intro n
    induction n with
    | zero =>
      intro m hm h
      have : m = 0#8 := pc_eq_zero.mp (by omega)
      subst this
      exact absurd (fr_zero ok) h
    | succ n ih =>
      intro m hm h
      by_cases hc : ∀ i, m.getLsbD i = true → Fr S (less m (one i))
      · exact ⟨m, (circ_iff ok).mpr ⟨h, hc⟩, Sb.refl m⟩
      · obtain ⟨i, hi⟩ := Classical.not_forall.mp hc
        obtain ⟨h1, h2⟩ := Classical.not_imp.mp hi
        have := pc_less_one h1
        obtain ⟨c, c1, c2⟩ := ih _ (by omega) h2
        exact ⟨c, c1, c2.trans (sb_less _ _)⟩
  exact key _ m (Nat.le_refl _) h
/-- a circuit within another one is it -/
theorem circ_sub (ok : S.Ok) (hx : isCirc S x = true) (hy : isCirc S y = true) (h : Sb x y) : x = y := by
  rw [circ_iff ok] at hx hy
  refine h.anti fun i hi => ?_
  cases e : x.getLsbD i with
  | true => rfl
  | false =>
    refine absurd ((hy.2 i hi).sub (x := x) fun j hj => ?_) hx.1
    rw [bit_less, bit_one, h j hj]
    have : i ≠ j := fun z => by subst z; rw [e] at hj; cases hj
    simp [this]
/-- a circuit and one of the dual never have just one thing in common -/
theorem ortho (ok : S.Ok) (hx : isCirc S x = true) (hy : isCirc (dualS S) y = true) (hf : Sb y (full S.n)) : pc (x &&& y) ≠ 1 := by
  intro h
  obtain ⟨i, hi⟩ := exists_bit (a := x &&& y) (by omega)
  have hxy : x &&& y = one i := (sb_eq (fun j hj => by
    simp at hj
    exact hj.2 ▸ hi) (by rw [h, pc_one (bit_lt hi)]; exact Nat.le_refl 1)).symm
  rw [bit_and, Bool.and_eq_true] at hi
  rw [circ_iff ok] at hx
  rw [circ_iff (dual_ok ok)] at hy
  obtain ⟨b, hb, b1⟩ := hx.2 i hi.1
  obtain ⟨d, hd, d1⟩ := hy.2 i hi.2
  obtain ⟨a, ha, rfl⟩ := mem_dual.mp hd
  obtain ⟨c, hc, c1, c2⟩ := aug ok hb b1 ha
  have only : ∀ j, x.getLsbD j = true → y.getLsbD j = true → i = j := fun j h1 h2 => by
    have : (x &&& y).getLsbD j = true := by rw [bit_and, h1, h2]; rfl
    rw [hxy] at this
    simp at this
    exact this.2
  cases e : c.getLsbD i with
  | true =>
    refine hx.1 ⟨c, hc, fun j hj => ?_⟩
    by_cases z : i = j
    · exact z ▸ e
    · exact c1 j (by simp [hj, z])
  | false =>
    refine hy.1 ⟨less (full S.n) c, mem_dual.mpr ⟨c, hc, rfl⟩, fun j hj => ?_⟩
    by_cases z : i = j
    · subst z
      rw [bit_less, e, hf i hj]
      rfl
    · have h1 := d1 j (by simp [hj, z])
      rw [bit_less, Bool.and_eq_true] at h1
      rw [bit_less, h1.1]
      cases q : c.getLsbD j with
      | false => rfl
      | true =>
        have := c2 j q
        rw [bit_or, Bool.or_eq_true] at this
        rcases this with k | k
        · rw [bit_less, Bool.and_eq_true] at k
          exact absurd (only j k.1 hj) z
        · simp [k] at h1
end
end FS

-- part FtDual
set_option Elab.async false
set_option linter.all false
set_option maxRecDepth 100000
set_option maxHeartbeats 4000000
/-! duals.py and more of systems.py, read. -/
namespace FS
open PySem PySem.W PyProof.Rows

mutual
theorem eqv_refl0 : ∀ d : D, d.canLay0 = true → PyData.eqv d d = true
  | .none, _ => by simp [PyData.eqv]
  | .bool b, _ => by simp [PyData.eqv]
  | .int i, _ => by simp [PyData.eqv]
  | .str x, _ => by simp [PyData.eqv]
  | .list l, h => by
    simp only [PyData.eqv]
    exact eqvAll_refl0 l (by simpa [PyData.canLay0] using h)
  | .tuple l, h => by
    simp only [PyData.eqv]
    exact eqvAll_refl0 l (by simpa [PyData.canLay0] using h)
  | .dict l, h => by simp [PyData.canLay0] at h
theorem eqvAll_refl0 : ∀ l : List D, PyData.canLayAll0 l = true → PyData.eqvAll l l = true
  | [], _ => by simp [PyData.eqvAll]
  | x :: l, h => by
    simp only [PyData.canLayAll0, Bool.and_eq_true] at h
    simp only [PyData.eqvAll, eqv_refl0 x h.1, eqvAll_refl0 l h.2, Bool.and_self]
end
/-- data that the evaluator may compare: no dict -/
theorem eqv_self {d : D} (h : SeqAt.shaped d = true) : PyData.eqv d d = true := eqv_refl0 d (SeqAt.canLay_of_shaped h)
theorem eqD_self {d : D} (h : SeqAt.shaped d = true) : eqD d d = some (.bool true) := by
  unfold eqD
  rw [h, eqv_self h]; rfl
theorem neD_self {d : D} (h : SeqAt.shaped d = true) : neD d d = some (.bool false) := by
  unfold neD
  rw [h, eqv_self h]; rfl
theorem shp_nm {l : List Str} (h : strsOk l = true) : SeqAt.shaped (nmD l) = true := by
  refine shp_of (by simp only [nmD, PyData.canLay0]; exact lay_strsOk h) ?_
  have : ∀ l : List Str, PyData.depthAll (l.map .str) = 0 := fun l => by
    induction l with
    | nil => simp [PyData.depthAll]
    | cons x l ih => simp [PyData.depthAll, PyData.depth, ih]
  simp only [nmD, PyData.depth, this]
  omega
theorem eqv_nmD : ∀ a b : List Str, PyData.eqvAll (a.map .str) (b.map .str) = decide (a = b)
  | [], [] => by simp [PyData.eqvAll]
  | [], _ :: _ => by simp [PyData.eqvAll]
  | _ :: _, [] => by simp [PyData.eqvAll]
  | x :: xs, y :: ys => by
    simp only [List.map_cons, PyData.eqvAll, eqv_str, eqv_nmD xs ys]
    rw [Bool.eq_iff_iff]
    simp
theorem shp_sys {S : Sys} (h : strsOk S.nm = true) : SeqAt.shaped S.enc = true := by
  have h1 := shp_nm h
  have h2 := shp_famT S.B
  unfold SeqAt.shaped at *
  rw [Bool.and_eq_true, decide_eq_true_eq] at *
  have e : famT S.B = .tuple (S.B.map enc) := rfl
  refine ⟨?_, ?_⟩
  · show (PyData.tuple [nmD S.nm, famT S.B]).canLay0 = true
    simp only [PyData.canLay0, PyData.canLayAll0, h1.1, h2.1, Bool.and_self]
  · show (PyData.tuple [nmD S.nm, famT S.B]).depth ≤ 64
    have d : ∀ l : List B8, PyData.depthAll (l.map enc) ≤ 1 := fun l => by
      induction l with
      | nil => simp [PyData.depthAll]
      | cons m l ih =>
        have : (enc m).depth ≤ 1 := by
          show (tupN _).depth ≤ 1
          simp only [tupN, PyData.depth, dep_tupN]
          omega
        simp only [List.map_cons, PyData.depthAll]
        omega
    have d2 : ∀ l : List Str, PyData.depthAll (l.map .str) = 0 := fun l => by
      induction l with
      | nil => simp [PyData.depthAll]
      | cons x l ih => simp [PyData.depthAll, PyData.depth, ih]
    have := d S.B
    simp only [nmD, famT, PyData.depth, PyData.depthAll, d2]
    omega
theorem Sys.ext_iff' {S T : Sys} : S = T ↔ S.nm = T.nm ∧ S.B = T.B := by
  cases S; cases T; simp
instance : DecidableEq Sys := fun S T => decidable_of_iff _ (Sys.ext_iff' (S := S) (T := T)).symm
theorem eqSys {S T : Sys} (h1 : strsOk S.nm = true) (h2 : strsOk T.nm = true) : eqD S.enc T.enc = some (.bool (decide (S = T))) := by
  unfold eqD
  rw [shp_sys h1, shp_sys h2]
  show some (PyData.bool (PyData.eqv (.tuple [nmD S.nm, famT S.B]) (.tuple [nmD T.nm, famT T.B]))) = _
  simp only [PyData.eqv, PyData.eqvAll, eqv_famT]
  have : PyData.eqv (nmD S.nm) (nmD T.nm) = decide (S.nm = T.nm) := by
    unfold nmD
    simp only [PyData.eqv, eqv_nmD]
  rw [this]
  congr 2
  rw [Bool.eq_iff_iff]
  simp [Sys.ext_iff']
theorem neSys {S T : Sys} (h1 : strsOk S.nm = true) (h2 : strsOk T.nm = true) : neD S.enc T.enc = some (.bool (decide (S ≠ T))) := by
  have h := eqSys h1 h2
  unfold eqD at h
  unfold neD
  rw [shp_sys h1, shp_sys h2] at *
  simp only [Bool.and_self, if_true, Option.some.injEq, PyData.bool.injEq] at h ⊢
  rw [h]
  simp
theorem Sys.Ok.strs {S : Sys} (h : S.Ok) : strsOk S.nm = true := strsOk_of h.nms
section
variable {call : Nat → List D → M D} {S : Sys}
theorem L_all_in {n : Nat} (h : n ≤ 8) : evSs call b_all_in [.da (.int (n : Nat))] = M.ret (.rt (enc (full n))) := by
  simp [b_all_in, rng8 h]
  rw [enc_F, bitsF_full h]
theorem L_need_things {cn ct cs : Nat} {m : B8} (h1 : call cn [S.enc] = M.ret .none) (h2 : call ct [S.enc] = M.ret (.int (S.n : Nat))) (h3 : call cs [enc m, .int (S.n : Nat)] = M.ret (.bool true)) : evSs call (b_need_things (c_need_system := cn) (c_things_in := ct) (c_fits_set := cs)) [.da S.enc, .da (enc m)] = M.ret (.nx [.da S.enc, .da (enc m)]) := by
  simp [b_need_things, h1, h2, h3]
theorem L_sizes_of {cn ct : Nat} (ok : S.Ok) (h1 : call cn [S.enc] = M.ret .none) (h2 : call ct [S.enc] = M.ret (.int (S.n : Nat))) : evSs call (b_sizes_of (c_need_system := cn) (c_things_in := ct)) [.da S.enc] = M.ret (.rt (.tuple [.int (S.n : Nat), .int (rkS S : Nat), .int (S.B.length : Nat)])) := by
  simp [b_sizes_of, h1, h2, idx_hd ok.ne, rkS]
def looseB (S : Sys) : B8 := (full S.n) &&& ~~~(S.B.foldr (fun a b => a ||| b) 0#8)
/-- the set of the things that a test takes -/
def mkN (p : Nat → Bool) : Nat → B8
  | 0 => 0#8
  | k + 1 => (if p k = true then one k else 0#8) ||| mkN p k
theorem bit_mkN (p : Nat → Bool) (i : Nat) : ∀ n, n ≤ 8 → (mkN p n).getLsbD i = (decide (i < n) && p i)
  | 0, _ => by simp [mkN]
  | k + 1, h => by
    show ((if p k = true then one k else 0#8) ||| mkN p k).getLsbD i = _
    rw [bit_or, bit_mkN p i k (by omega)]
    by_cases hi : k = i
    · subst hi
      cases hp : p k <;> simp [hp]
      omega
    · have e : decide (i < k + 1) = decide (i < k) := by
        rw [decide_eq_decide]
        omega
      rw [e]
      cases hp : p k <;> simp [hi]
theorem bits_mkN (p : Nat → Bool) {n : Nat} (h : n ≤ 8) : bits (mkN p n) = (List.range n).filter p := by
  refine asc_ext (bits_asc _) (List.Pairwise.filter _ List.pairwise_lt_range) fun i => ?_
  rw [mem_bits, bit_mkN p i n h, List.mem_filter, List.mem_range]
  simp
theorem filter_range (p : Fin 8 → Bool) (q : Nat → Bool) {n : Nat} (h : n ≤ 8) (e : ∀ i : Fin 8, p i = q i.val) : tupF ((rangeF n).filter p) = enc (mkN q n) := by
  rw [enc_F]
  congr 1
  unfold bitsF rangeF
  rw [List.filter_filter]
  apply List.filter_congr
  intro i _
  rw [bit_mkN q i.val n h, e, Bool.and_comm]
/-- loose, needed things -/
def looseS (S : Sys) : B8 := mkN (fun i => decide (∀ b ∈ S.B, b.getLsbD i = false)) S.n
def neededS (S : Sys) : B8 := mkN (fun i => decide (∀ b ∈ S.B, b.getLsbD i = true)) S.n
theorem L_loose_of {cn ct : Nat} (ok : S.Ok) (h1 : call cn [S.enc] = M.ret .none) (h2 : call ct [S.enc] = M.ret (.int (S.n : Nat))) : evSs call (b_loose_of (c_need_system := cn) (c_things_in := ct)) [.da S.enc, .no, .no] = M.ret (.rt (enc (looseS S))) := by
  simp [b_loose_of, h1, h2, rng8 ok.n8]
  rw [filter_range _ _ ok.n8 fun i => ?_]
  · rfl
  · simp
theorem L_needed_of {cn ct : Nat} (ok : S.Ok) (h1 : call cn [S.enc] = M.ret .none) (h2 : call ct [S.enc] = M.ret (.int (S.n : Nat))) : evSs call (b_needed_of (c_need_system := cn) (c_things_in := ct)) [.da S.enc, .no, .no] = M.ret (.rt (enc (neededS S))) := by
  simp [b_needed_of, h1, h2, rng8 ok.n8]
  rw [filter_range _ _ ok.n8 fun i => ?_]
  · rfl
  · simp
theorem L_dual_in {ca ct cl : Nat} (ok : S.Ok) (h1 : call ca [.int (S.n : Nat)] = M.ret (enc (full S.n))) (h2 : call ct [S.enc] = M.ret (.int (S.n : Nat))) (h3 : ∀ a b, call cl [enc a, enc b] = M.ret (enc (less a b))) : evSs call (b_dual_in (c_all_in := ca) (c_things_in := ct) (c_less_in := cl)) [.da S.enc, .no, .no] = M.ret (.rt (dualS S).enc) := by
  simp [b_dual_in, h1, h2, h3]
  rfl
theorem L_rest_in {ca ct cl : Nat} (m : B8) (h1 : call ca [.int (S.n : Nat)] = M.ret (enc (full S.n))) (h2 : call ct [S.enc] = M.ret (.int (S.n : Nat))) (h3 : ∀ a b, call cl [enc a, enc b] = M.ret (enc (less a b))) : evSs call (b_rest_in (c_all_in := ca) (c_things_in := ct) (c_less_in := cl)) [.da S.enc, .da (enc m)] = M.ret (.rt (enc (less (full S.n) m))) := by
  simp [b_rest_in, h1, h2, h3]
theorem L_dual_of {cn cd : Nat} (h1 : call cn [S.enc] = M.ret .none) (h2 : call cd [S.enc] = M.ret (dualS S).enc) : evSs call (b_dual_of (c_need_system := cn) (c_dual_in := cd)) [.da S.enc] = M.ret (.rt (dualS S).enc) := by
  simp [b_dual_of, h1, h2]
theorem L_is_dual {cn cd : Nat} {T : Sys} (ok : S.Ok) (okT : T.Ok) (h1 : ∀ S : Sys, S.Ok → call cn [S.enc] = M.ret .none) (h2 : ∀ S : Sys, S.Ok → call cd [S.enc] = M.ret (dualS S).enc) : evSs call (b_is_dual (c_need_system := cn) (c_dual_in := cd)) [.da S.enc, .da T.enc] = M.ret (.rt (.bool (decide (dualS S = T)))) := by
  simp [b_is_dual, h1 _ ok, h1 _ okT, h2 _ ok, eqSys (dual_ok ok).strs okT.strs]
theorem L_dual_circuits {cn cd cc : Nat} (ok : S.Ok) (h1 : call cn [S.enc] = M.ret .none) (h2 : call cd [S.enc] = M.ret (dualS S).enc) (h3 : call cc [(dualS S).enc] = M.ret (famL (circs (dualS S)))) : evSs call (b_dual_circuits (c_need_system := cn) (c_dual_in := cd) (c_circuits_in := cc)) [.da S.enc] = M.ret (.rt (famT (circs (dualS S)))) := by
  simp [b_dual_circuits, h1, h2, h3]
theorem L_dual_rank {cn cr ck : Nat} (ok : S.Ok) (m : B8) (h1 : call cn [S.enc, enc m] = M.ret .none) (h2 : call cr [S.enc, enc m] = M.ret (enc (less (full S.n) m))) (h3 : ∀ m, call ck [S.enc, enc m] = M.ret (.int (rk S m : Nat))) : evSs call (b_dual_rank (c_need_things := cn) (c_rest_in := cr) (c_rank_in := ck)) [.da S.enc, .da (enc m)] = M.ret (.rt (.int ((pc m : Int) - rkS S + rk S (less (full S.n) m)))) := by
  simp [b_dual_rank, h1, h2, h3, idx_hd ok.ne, rkS]
theorem L_own_dual {cn cd : Nat} (ok : S.Ok) (h1 : call cn [S.enc] = M.ret .none) (h2 : call cd [S.enc] = M.ret (dualS S).enc) : evSs call (b_own_dual (c_need_system := cn) (c_dual_in := cd)) [.da S.enc] = M.ret (.rt (.bool (decide (dualS S = S)))) := by
  simp [b_own_dual, h1, h2, eqSys (dual_ok ok).strs ok.strs]
theorem L_least_cut {cn cd cc : Nat} (ok : S.Ok) (h1 : call cn [S.enc] = M.ret .none) (h2 : call cd [S.enc] = M.ret (dualS S).enc) (h3 : call cc [(dualS S).enc] = M.ret (famL (circs (dualS S)))) : evSs call (b_least_cut (c_need_system := cn) (c_dual_in := cd) (c_circuits_in := cc)) [.da S.enc, .no] = M.ret (.rt (firstD (circs (dualS S)))) := by
  simp [b_least_cut, h1, h2, h3]
@[simp] theorem in_famL (x : B8) (l : List B8) : inD (enc x) (famL l) = some (.bool (decide (x ∈ l))) := by
  have e : inD (enc x) (famL l) = (if (SeqAt.shaped (enc x) && SeqAt.shaped (famL l)) = true then some (memD (enc x) (l.map enc)) else none).map PyData.bool := rfl
  rw [e, shp_enc, shp_famL]
  show some (PyData.bool (memD (enc x) (l.map enc))) = _
  unfold memD
  rw [List.any_map]
  congr 2
  rw [Bool.eq_iff_iff]
  simp
@[simp] theorem nin_famL (x : B8) (l : List B8) : ninD (enc x) (famL l) = some (.bool (!decide (x ∈ l))) := by
  have h := in_famL x l
  unfold inD at h
  unfold ninD
  cases e : inC (enc x) (famL l) with
  | none => rw [e] at h; cases h
  | some b =>
    rw [e] at h
    simp only [Option.map_some, Option.some.injEq, PyData.bool.injEq] at h
    rw [h]; rfl
@[simp] theorem in_famT (x : B8) (l : List B8) : inD (enc x) (famT l) = some (.bool (decide (x ∈ l))) := by
  rw [← in_famL]
  have e : SeqAt.shaped (famT l) = SeqAt.shaped (famL l) := by rw [shp_famT, shp_famL]
  show (if (SeqAt.shaped (enc x) && SeqAt.shaped (famT l)) = true then some (memD (enc x) (l.map enc)) else none).map PyData.bool = (if (SeqAt.shaped (enc x) && SeqAt.shaped (famL l)) = true then some (memD (enc x) (l.map enc)) else none).map PyData.bool
  rw [e]
@[simp] theorem nin_famT (x : B8) (l : List B8) : ninD (enc x) (famT l) = some (.bool (!decide (x ∈ l))) := by
  have h := in_famT x l
  unfold inD at h
  unfold ninD
  cases e : inC (enc x) (famT l) with
  | none => rw [e] at h; cases h
  | some b =>
    rw [e] at h
    simp only [Option.map_some, Option.some.injEq, PyData.bool.injEq] at h
    rw [h]; rfl
@[simp] theorem slc_to (l : List B8) (k : Nat) : slcD (famL l) none (some (k : Int)) = some (famL (l.take k)) := by
  show some (PyData.list (cutD _ _ _)) = some (PyData.list _)
  rw [cut_take, List.map_take]
@[simp] theorem enum_famL (l : List B8) : enumO (famL l) = some (((List.range l.length).zip l).map fun p => .tuple [.int (p.1 : Nat), enc p.2]) := by
  show some (((List.range (l.map enc).length).zip (l.map enc)).map _) = _
  rw [List.length_map]
  have := zip_map2 (fun i : Nat => i) enc (List.range l.length) l
  rw [List.map_id'] at this
  rw [this, List.map_map]
  rfl
/-- the first of alike ones -/
def firstsB (l : List B8) : List B8 := (((List.range l.length).zip l).filter fun p => !decide (p.2 ∈ l.take p.1)).map fun p => p.2
def restL (S : Sys) : List (Fin 8) := (rangeF S.n).filter fun i => isFree S (one i.val)
def lotT (S : Sys) (i : Fin 8) : B8 := mkN (fun j => isFree S (one j) && (decide (j = i.val) || !isFree S (one i.val ||| one j))) S.n
def lotsT (S : Sys) : List B8 := firstsB ((restL S).map (lotT S))
theorem fm_of {α β : Type} {f : α → Option β} (p : α → Bool) (h : α → β) (e : ∀ x, f x = if p x = true then some (h x) else none) (xs : List α) : xs.filterMap f = (xs.filter p).map h := by
  have : f = fun x => if p x = true then some (h x) else none := funext e
  rw [this, fm_if]
  simp
theorem lot_tup (ok : S.Ok) (i : Fin 8) {f : Fin 8 → Option D} (e : ∀ x : Fin 8, f x = if (decide (x.val = i.val) || !isFree S (one i.val ||| one x.val)) = true then some (PyData.int (x.val : Nat)) else none) : PyData.tuple ((restL S).filterMap f) = enc (lotT S i) := by
  rw [fm_of _ _ e, tup_fins, restL, List.filter_filter, lotT, filter_range _ _ ok.n8 fun x => ?_]
  · show _ = (fun j => isFree S (one j) && (decide (j = i.val) || !isFree S (one i.val ||| one j))) x.val
    rw [Bool.and_comm]
theorem L_alike_lots {cn ct cf cu : Nat} (ok : S.Ok) (h1 : call cn [S.enc] = M.ret .none) (h2 : call ct [S.enc] = M.ret (.int (S.n : Nat))) (h3 : ∀ m, call cf [S.enc, enc m] = M.ret (.bool (isFree S m))) (h4 : ∀ a b, call cu [enc a, enc b] = M.ret (enc (a ||| b))) :
    evSs call (b_alike_lots (c_need_system := cn) (c_things_in := ct) (c_is_free_in := cf) (c_union_in := cu)) [.da S.enc, .no, .no, .no, .no, .no, .no] = M.ret (.rt (famT (lotsT S))) := by
  have n8 := ok.n8
  have l1 : (restL S).length ≤ 8 := by
    unfold restL rangeF
    exact Nat.le_trans (List.length_filter_le _ _) (Nat.le_trans (List.length_filter_le _ _) (by simp))
  have e : ∃ s', forL (evSs call (b_alike_lots_l0 (c_is_free_in := cf) (c_union_in := cu))) (.one 2) ((restL S).map fun i => .int (i.val : Nat)) [.da S.enc, .da (.list ((restL S).map fun i => .int (i.val : Nat))), .no, .ow (famL []), .no, .no, .no] = M.ret (.nx [.da S.enc, .da (.list ((restL S).map fun i => .int (i.val : Nat))), s', .ow (famL ((restL S).map (lotT S))), .no, .no, .no]) := by
    obtain ⟨⟨acc, s'⟩, h5, h6⟩ := forL_inv' (body := evSs call (b_alike_lots_l0 (c_is_free_in := cf) (c_union_in := cu))) (i := 2) (g := fun i : Fin 8 => PyData.int (i.val : Nat)) (σ := List B8 × Sl) (fun s => [.da S.enc, .da (.list ((restL S).map fun i => .int (i.val : Nat))), s.2, .ow (famL s.1), .no, .no, .no]) (fun s r => s.1 ++ r.map (lotT S) = (restL S).map (lotT S)) (restL S) ([], .no) (by simp) (by
      rintro ⟨acc, s⟩ i r hs
      have hl := congrArg List.length hs
      simp only [List.length_append, List.length_map, List.length_cons] at hl
      refine ⟨(acc ++ [lotT S i], .da (.int i.val)), by simpa using hs, ?_⟩
      have sz : acc.length < 16777216 := by omega
      simp [b_alike_lots_l0, h3, h4, sz]
      rw [lot_tup ok i fun x => ?_, fam_snoc]
      by_cases h : x.val = i.val <;> simp [h])
    simp at h5
    subst h5
    exact ⟨s', h6⟩
  obtain ⟨s', e⟩ := e
  have er : (rangeF S.n).filter (fun x => isFree S (one x.val)) = restL S := rfl
  simp [b_alike_lots, h1, h2, h3, rng8 ok.n8, er]
  erw [e]
  simp [lotsT, firstsB]
end
end FS

-- part FtLaw1
set_option Elab.async false
set_option linter.all false
set_option maxRecDepth 100000
set_option maxHeartbeats 4000000
/-! The laws' own helpers, read. -/
namespace FS
open PySem PySem.W PyProof.Rows

def subB (a b : B8) : Bool := decide (less a b = 0#8)
theorem subB_iff {a b : B8} : subB a b = true ↔ Sb a b := by
  unfold subB
  rw [decide_eq_true_eq]
  constructor
  · intro h i hi
    cases e : b.getLsbD i with
    | true => rfl
    | false =>
      have : (less a b).getLsbD i = true := by simp [hi, e]
      rw [h] at this
      simp at this
  · intro h
    refine B8.ext fun i => ?_
    rw [bit_less]
    cases e : a.getLsbD i with
    | false => simp
    | true => simp [h i e]
theorem bitsF_nil {m : B8} : bitsF m = [] ↔ m = 0#8 := by
  constructor
  · intro h
    refine B8.ext fun i => ?_
    cases e : m.getLsbD i with
    | false => simp
    | true =>
      have := mem_bitsF (i := ⟨i, bit_lt e⟩).mpr e
      rw [h] at this
      cases this
  · intro h
    subst h
    decide
@[simp] theorem eq_bits0 (m : B8) : eqD (.list ((bitsF m).map fun i => .int (i.val : Nat))) (.list []) = some (.bool (decide (m = 0#8))) := by
  have h1 : SeqAt.shaped (.list ((bitsF m).map fun i => PyData.int (i.val : Nat))) = true := by
    have := shp_enc m
    rw [enc_F, tupF] at this
    unfold SeqAt.shaped at *
    simp only [PyData.canLay0, PyData.depth] at *
    exact this
  have h2 : SeqAt.shaped (.list []) = true := shp_of (by simp [PyData.canLay0, PyData.canLayAll0]) (by simp [PyData.depth, PyData.depthAll])
  unfold eqD
  rw [h1, h2]
  simp only [Bool.and_self, if_true, PyData.eqv, Option.some.injEq, PyData.bool.injEq]
  cases e : bitsF m with
  | nil =>
    rw [bitsF_nil] at e
    simp [e, PyData.eqvAll]
  | cons i r =>
    have : m ≠ 0#8 := fun z => by
      rw [bitsF_nil.mpr z] at e
      cases e
    simp [this, PyData.eqvAll]
section
variable {call : Nat → List D → M D} {S : Sys}
theorem L_law_common (a b : B8) : evSs call b_law_common [.da (enc a), .da (enc b), .no] = M.ret (.rt (enc (a &&& b))) := by
  simp [b_law_common]
theorem L_law_less (a b : B8) : evSs call b_law_less [.da (enc a), .da (enc b), .no] = M.ret (.rt (enc (less a b))) := by
  simp [b_law_less]
theorem L_law_within (a b : B8) : evSs call b_law_within [.da (enc a), .da (enc b), .no] = M.ret (.rt (.bool (subB a b))) := by
  simp [b_law_within, subB]
theorem L_law_rank {cc : Nat} (hne : S.B ≠ []) (m : B8) (h : ∀ a b, call cc [enc a, enc b] = M.ret (enc (a &&& b))) : evSs call (b_law_rank (c__law_common := cc)) [.da S.enc, .da (enc m), .no] = M.ret (.rt (.int (rk S m : Nat))) := by
  simp [b_law_rank, h, max_map _ _ hne, rk]
theorem any_free (ok : S.Ok) (m : B8) : decide (∃ b, b ∈ S.B ∧ subB m b = true) = isFree S m := by
  rw [Bool.eq_iff_iff, decide_eq_true_eq, free_iff ok.ne]
  exact ⟨fun ⟨b, h1, h2⟩ => ⟨b, h1, subB_iff.mp h2⟩, fun ⟨b, h1, h2⟩ => ⟨b, h1, subB_iff.mpr h2⟩⟩
theorem L_law_free {cw : Nat} (ok : S.Ok) (m : B8) (h : ∀ a b, call cw [enc a, enc b] = M.ret (.bool (subB a b))) : evSs call (b_law_free (c__law_within := cw)) [.da S.enc, .da (enc m), .no] = M.ret (.rt (.bool (isFree S m))) := by
  simp [b_law_free, h, any_free ok]
theorem L_law_dual {cl : Nat} (ok : S.Ok) (h : ∀ a b, call cl [enc a, enc b] = M.ret (enc (less a b))) : evSs call (b_law_dual (c__law_less := cl)) [.da S.enc, .no, .no] = M.ret (.rt (dualS S).enc) := by
  have e : tupF (rangeF S.nm.length) = enc (full S.n) := by
    rw [enc_F, bitsF_full ok.n8]; rfl
  simp [b_law_dual, rng8 (show S.nm.length ≤ 8 from ok.n8), e, h]
  rfl
/-- the law's way to the circuits -/
theorem circ_step (ok : S.Ok) {pre rest : List B8} {m : B8} (h : pre ++ m :: rest = allS S.n) : (!isFree S m && decide (∀ x ∈ pre.filter (isCirc S), subB x m = false)) = isCirc S m := by
  have r := allS_rising ok.n8
  rw [← h] at r
  have r2 := List.pairwise_append.mp r
  have inAll : ∀ x, inN S.n x = true → x ∈ pre ++ m :: rest := fun x hx => by rw [h]; exact (mem_allS ok.n8).mpr hx
  have mN : inN S.n m = true := by
    rw [← mem_allS ok.n8, ← h]
    simp
  rw [Bool.eq_iff_iff, Bool.and_eq_true, decide_eq_true_eq]
  constructor
  · rintro ⟨h1, h2⟩
    have h1 : ¬ Fr S m := fun z => by rw [(free_iff ok.ne).mpr z] at h1; cases h1
    obtain ⟨c, c1, c2⟩ := has_circ ok h1
    by_cases e : c = m
    · exact e ▸ c1
    · exfalso
      have cN : inN S.n c = true := (inN_full ok.n8).mpr (c2.trans ((inN_full ok.n8).mp mN))
      have lt : ltS c m = true := by
        unfold ltS
        have h3 := pc_mono c2
        have h4 : pc c ≠ pc m := fun z => e (sb_eq c2 (by omega))
        have : pc c < pc m := by omega
        simp [this]
      have hc : c ∈ pre := by
        rcases List.mem_append.mp (inAll c cN) with z | z
        · exact z
        · rcases List.mem_cons.mp z with z | z
          · exact absurd z e
          · have := (List.pairwise_cons.mp r2.2.1).1 c z
            have := ltS_trans lt this
            rw [ltS_irr] at this; cases this
      have := h2 c (List.mem_filter.mpr ⟨hc, c1⟩)
      rw [subB_iff.mpr c2] at this
      cases this
  · intro hm
    have hm' := (circ_iff ok).mp hm
    refine ⟨?_, fun x hx => ?_⟩
    · cases e : isFree S m with
      | false => rfl
      | true => exact absurd ((free_iff ok.ne).mp e) hm'.1
    · obtain ⟨x1, x2⟩ := List.mem_filter.mp hx
      cases e : subB x m with
      | false => rfl
      | true =>
        have := circ_sub ok x2 hm (subB_iff.mp e)
        subst this
        have := r2.2.2 x x1 x List.mem_cons_self
        rw [ltS_irr] at this; cases this
theorem circs_len (ok : S.Ok) : (allS S.n).length ≤ 256 := by
  unfold allS
  rw [(sortS_perm _).length_eq, rowsT_len]
  exact Nat.pow_le_pow_right (by omega) ok.n8
theorem L_law_circuits {cs cf cw : Nat} (ok : S.Ok) (h1 : call cs [.int (S.n : Nat)] = M.ret (famL (allS S.n))) (h2 : ∀ m, call cf [S.enc, enc m] = M.ret (.bool (isFree S m))) (h3 : ∀ a b, call cw [enc a, enc b] = M.ret (.bool (subB a b))) :
    evSs call (b_law_circuits (c__law_sets := cs) (c__law_free := cf) (c__law_within := cw)) [.da S.enc, .no, .no, .no] = M.ret (.rt (famL (circs S))) := by
  have ll := circs_len ok
  obtain ⟨⟨pre, s'⟩, h4, h5⟩ := forL_inv' (body := evSs call (b_law_circuits_l0 (c__law_free := cf) (c__law_within := cw))) (i := 2) (g := enc) (σ := List B8 × Sl) (fun s => [.da S.enc, .ow (famL (s.1.filter (isCirc S))), s.2, .no]) (fun s r => s.1 ++ r = allS S.n) (allS S.n) ([], .no) rfl (by
    rintro ⟨pre, s⟩ m r hs
    have hs : pre ++ m :: r = allS S.n := hs
    refine ⟨(pre ++ [m], .da (enc m)), by simpa using hs, ?_⟩
    have e : (isFree S m = false ∧ ∀ a, a ∈ pre → subB a m = true → isCirc S a = false) ↔ isCirc S m = true := by
      rw [← circ_step ok hs, Bool.and_eq_true, decide_eq_true_eq, Bool.not_eq_true']
      refine and_congr Iff.rfl ⟨fun h x hx => ?_, fun h a ha hs => ?_⟩
      · obtain ⟨x1, x2⟩ := List.mem_filter.mp hx
        cases q : subB x m with
        | false => rfl
        | true =>
          have := h x x1 q
          rw [x2] at this; cases this
      · cases q : isCirc S a with
        | false => rfl
        | true =>
          have := h a (List.mem_filter.mpr ⟨ha, q⟩)
          rw [hs] at this; cases this
    have sz : (pre.filter (isCirc S)).length < 16777216 := by
      have h1 := List.length_filter_le (isCirc S) pre
      have h2 := congrArg List.length hs
      simp at h2
      omega
    simp [b_law_circuits_l0, h2, h3, e]
    by_cases q : isCirc S m = true
    · simp [q, sz]
    · simp [q])
  have h6 : (S.nm.length : Nat) = S.n := rfl
  simp at h4
  subst h4
  simp [b_law_circuits, h1, h6]
  erw [h5]
  simp [circs]
end
end FS

-- part FtLaw2
set_option Elab.async false
set_option linter.all false
set_option maxRecDepth 100000
set_option maxHeartbeats 4000000
/-! The laws' own helpers, read: sets, tops, names, same, roll. -/
namespace FS
open PySem PySem.W PyProof.Rows

/-- how long, and the set -/
def pairD (m : B8) : D := .tuple [.int (pc m : Nat), enc m]
theorem shp_pair (m : B8) : SeqAt.shaped (pairD m) = true := by
  have h := shp_enc m
  unfold SeqAt.shaped at *
  rw [Bool.and_eq_true, decide_eq_true_eq] at *
  have d : (enc m).depth ≤ 1 := by
    show (tupN _).depth ≤ 1
    simp only [tupN, PyData.depth, dep_tupN]
    omega
  refine ⟨by simp [pairD, PyData.canLay0, PyData.canLayAll0, h.1], ?_⟩
  simp only [pairD, PyData.depth, PyData.depthAll]
  omega
theorem srt_pairs (l : List B8) : srtO (.list (l.map pairD)) = some (.list ((sortS l).map pairD)) := by
  show (srtD (l.map pairD)).map PyData.list = _
  have h : ((l.map pairD).all (fun a => (l.map pairD).all fun b => W.alike a b) && (l.map pairD).all fun a => SeqAt.shaped a && !isNoneD a) = true := by
    have e1 : ∀ a b, W.alike (pairD a) (pairD b) = true := fun a b => by simp [pairD, alike, alikeAll]
    have e2 : ∀ a, isNoneD (pairD a) = false := fun _ => rfl
    simp [e1, e2, shp_pair]
  unfold srtD
  rw [h]
  show some (PyData.list _) = _
  unfold sortS
  rw [List.map_mergeSort (r := leS) (s := dataLe false id) (f := pairD) fun a _ b _ => ?_]
  show leS a b = !dataLt (pairD b) (pairD a)
  unfold leS ltS pairD
  rw [dlt_pair]
  congr 2
  · rw [Bool.eq_iff_iff]; simp
  · congr 1
    rw [Bool.eq_iff_iff]; simp; omega
section
variable {call : Nat → List D → M D} {S : Sys}
theorem L_law_sets {n : Nat} (h : n ≤ 8) : evSs call b_law_sets [.da (.int (n : Nat)), .no, .no, .no, .no] = M.ret (.rt (famL (allS n))) := by
  obtain ⟨s', e⟩ := rows_loop (body := evSs call b_law_sets_l0) (st := fun p => [.da (.int (n : Nat)), .da (famL p.1), p.2, .no, .no]) (n := n) (i := 2) h (fun k s hk => by
    have h2 : compA (fun x => addD (enc x) (PyData.tuple [.int (k : Nat)]) |> M.opt |> fun m => M.bnd m fun y => M.ret (some y)) (rowsT k) = M.ret ((rowsT k).map fun m => enc (m ||| one k)) := by
      refine compA_call fun m hm => ?_
      rw [mem_rowsT (by omega)] at hm
      rw [add_snoc hm (by omega : k < 8)]; rfl
    have l := rowsT_len k
    have l2 : 2 ^ k ≤ 2 ^ 8 := Nat.pow_le_pow_right (by omega) (by omega)
    have sz : (rowsT k).length + (rowsT k).length ≤ 16777216 := by omega
    simp [b_law_sets_l0, h2, sz]
    rfl) .no
  simp [b_law_sets, rng_nat (by omega : n ≤ 16777216)]
  erw [e]
  have e2 : ∀ l : List B8, srtO (.list (l.map fun m => .tuple [.int (pc m : Nat), enc m])) = some (.list ((sortS l).map fun m => .tuple [.int (pc m : Nat), enc m])) := srt_pairs
  simp [e2, allS]
/-! the greatest ones -/
def topsB (l : List B8) : List B8 := setB (l.filter fun m => decide (pc m = maxN (l.map pc)))
theorem L_law_tops {l : List B8} (hne : l ≠ []) (h : (l.filter fun m => decide (pc m = maxN (l.map pc))).length < 64) : evSs call b_law_tops [.da (famL l), .no, .no] = M.ret (.rt (famT (topsB l))) := by
  simp [b_law_tops, max_map _ _ hne, srtset_L h, topsB]
/-! the same -/
mutual
/-- data of the kinds that the laws compare -/
def okSame : D → Bool
  | .none => true
  | .bool _ => true
  | .int _ => true
  | .str x => PyData.strOk x
  | .tuple l => decide (l.length ≤ 1000) && okSames l
  | _ => false
def okSames : List D → Bool
  | [] => true
  | x :: l => okSame x && okSames l
end
mutual
theorem okS_lay : ∀ d : D, okSame d = true → d.canLay0 = true
  | .none, _ => by simp [PyData.canLay0]
  | .bool _, _ => by simp [PyData.canLay0]
  | .int _, _ => by simp [PyData.canLay0]
  | .str _, h => by simpa [PyData.canLay0, okSame] using h
  | .tuple l, h => by
    simp only [PyData.canLay0]
    exact okSs_lay l (by simp only [okSame, Bool.and_eq_true] at h; exact h.2)
  | .list _, h => by simp [okSame] at h
  | .dict _, h => by simp [okSame] at h
theorem okSs_lay : ∀ l : List D, okSames l = true → PyData.canLayAll0 l = true
  | [], _ => rfl
  | x :: l, h => by
    simp only [okSames, Bool.and_eq_true] at h
    simp only [PyData.canLayAll0, okS_lay x h.1, okSs_lay l h.2, Bool.and_self]
end
theorem okSames_mem : ∀ {l : List D} {x : D}, okSames l = true → x ∈ l → okSame x = true
  | y :: l, x, h, hx => by
    simp only [okSames, Bool.and_eq_true] at h
    rcases List.mem_cons.mp hx with rfl | hx
    · exact h.1
    · exact okSames_mem h.2 hx
theorem dep_mem : ∀ {l : List D} {x : D}, x ∈ l → x.depth ≤ PyData.depthAll l
  | y :: l, x, hx => by
    simp only [PyData.depthAll]
    rcases List.mem_cons.mp hx with rfl | hx
    · omega
    · have := dep_mem hx
      omega
theorem isiT (T : String) {d : D} (h : d.canLay0 = true) : isiD T d = some (.bool (isiB d T)) := by simp [isiD, h]
theorem idx_tup {l : List D} {n : Nat} {x : D} (h : l[n]? = some x) : idxD (.tuple l) (.int (n : Nat)) = some x := by
  show L2.atI l n = _
  rw [atI_nat, h]
theorem L_law_same {c : Nat} : ∀ d : D, okSame d = true → (∀ l, d = .tuple l → l.length ≤ 16777216 ∧ ∀ x ∈ l, call c [x, x] = M.ret (.bool true)) → evSs call (b_law_same (c__law_same := c)) [.da d, .da d, .no] = M.ret (.rt (.bool true))
  | .none, h, _ => by
    simp [b_law_same, isiT _ (okS_lay _ h), isiB, tyN]
  | .bool b, h, _ => by
    cases b <;> simp [b_law_same, isiT _ (okS_lay _ h), isiB, tyN]
  | .int i, h, _ => by
    simp [b_law_same, isiT _ (okS_lay _ h), isiB, tyN, intD]
  | .str x, h, _ => by
    have h1 := okS_lay _ h
    have h2 : isD (.str x) .none = some (.bool false) := rfl
    have h3 : eqD (.str x) (.str x) = some (.bool true) := eqD_self (shp_str (by simpa [okSame] using h))
    have h4 : strD [.str x] = some (.str x) := rfl
    simp [b_law_same, isiT _ h1, isiB, tyN, h2, h3, h4]
  | .tuple l, h, hl => by
    obtain ⟨hl1, hl2⟩ := hl l rfl
    have h1 := okS_lay _ h
    have e : compA (fun i : Nat => M.bnd (M.opt (idxD (.tuple l) (.int (i : Nat)))) fun a => M.bnd (M.opt (idxD (.tuple l) (.int (i : Nat)))) fun b => M.bnd (call c [a, b]) fun y => M.ret (some y)) (List.range l.length) = M.ret ((List.range l.length).map fun _ => .bool true) := by
      rw [compA_mem (g := fun _ => some (PyData.bool true)) fun i hi => ?_, fm_some]
      have hi := List.mem_range.mp hi
      rw [idx_tup (List.getElem?_eq_getElem hi)]
      simp [hl2 _ (List.getElem_mem hi)]
    have e3 : ((List.range l.length).all fun _ => true) = true := List.all_eq_true.mpr fun _ _ => rfl
    simp [b_law_same, isiT _ h1, isiB, tyN, rng_nat hl1, e, e3]
  | .list _, h, _ => by simp [okSame] at h
  | .dict _, h, _ => by simp [okSame] at h
end
theorem run_of {tab : List Df} {k i : Nat} {ds : List D} {d : Df} {v : D} (h : tab[i]? = some d) (n : ds.length = d.np) (e : evSs (run tab k) d.ss (entry d.nn ds) = M.ret (.rt v)) : run tab (k + 1) i ds = M.ret v := by
  rw [run_eq h n, e]; rfl
theorem run_nx {tab : List Df} {k i : Nat} {ds : List D} {d : Df} {ρ : En} (h : tab[i]? = some d) (n : ds.length = d.np) (e : evSs (run tab k) d.ss (entry d.nn ds) = M.ret (.nx ρ)) : run tab (k + 1) i ds = M.ret .none := by
  rw [run_eq h n, e]; rfl
theorem same_run {tab : List Df} {i : Nat} (h : tab[i]? = some ⟨2, 3, b_law_same i⟩) : ∀ (k : Nat) (d : D), okSame d = true → d.depth < k → run tab k i [d, d] = M.ret (.bool true)
  | 0, _, _, z => absurd z (Nat.not_lt_zero _)
  | k + 1, d, hd, hk => run_of h rfl (L_law_same d hd fun l e => by
      subst e
      simp only [okSame, Bool.and_eq_true, decide_eq_true_eq] at hd
      refine ⟨by omega, fun x hx => same_run h k x (okSames_mem hd.2 hx) ?_⟩
      have := dep_mem hx
      simp only [PyData.depth] at hk
      omega)
/-! ### what is drawn -/
/-- whatever the cup holds, it ends, and the answer is good -/
def Sat {α : Type} (m : M α) (Q : α → Prop) : Prop := ∀ c, ∃ a c', m c = .ok a c' ∧ Q a
theorem Sat.ret {α : Type} {a : α} {Q : α → Prop} (h : Q a) : Sat (M.ret a) Q := fun c => ⟨a, c, rfl, h⟩
theorem Sat.bnd {α β : Type} {m : M α} {f : α → M β} {P : α → Prop} {Q : β → Prop} (h : Sat m P) (k : ∀ a, P a → Sat (f a) Q) : Sat (M.bnd m f) Q := fun c => by
  obtain ⟨a, c1, e1, h1⟩ := h c
  obtain ⟨b, c2, e2, h2⟩ := k a h1 c1
  refine ⟨b, c2, ?_, h2⟩
  unfold M.bnd
  rw [e1]
  exact e2
theorem Sat.mono {α : Type} {m : M α} {P Q : α → Prop} (h : Sat m P) (k : ∀ a, P a → Q a) : Sat m Q := fun c => by
  obtain ⟨a, c1, e1, h1⟩ := h c
  exact ⟨a, c1, e1, k a h1⟩
theorem Sat.nox {α : Type} {m : M α} {Q : α → Prop} (h : Sat m Q) : Sat (M.nox m) Q := fun c => by
  obtain ⟨a, c1, e1, h1⟩ := h c
  refine ⟨a, c1, ?_, h1⟩
  unfold M.nox
  rw [e1]
theorem Sat.comp {α β : Type} {f : α → M β} {P : β → Prop} : ∀ {xs : List α}, (∀ x ∈ xs, Sat (f x) P) → Sat (compA (fun x => M.bnd (f x) fun y => M.ret (some y)) xs) fun ys => ys.length = xs.length ∧ ∀ y ∈ ys, P y
  | [], _ => Sat.ret ⟨rfl, fun _ h => by cases h⟩
  | x :: xs, h => by
    show Sat (M.bnd (M.bnd (f x) fun y => M.ret (some y)) _) _
    rw [bnd_assoc]
    refine Sat.bnd (h x List.mem_cons_self) fun y hy => ?_
    rw [bnd_ret]
    refine Sat.bnd (Sat.comp fun z hz => h z (List.mem_cons_of_mem _ hz)) fun ys hys => ?_
    refine Sat.ret ⟨by simp [hys.1], fun z hz => ?_⟩
    rcases List.mem_cons.mp hz with rfl | hz
    · exact hy
    · exact hys.2 z hz
theorem run_sat {tab : List Df} {k i : Nat} {ds : List D} {d : Df} {Q : D → Prop} (h : tab[i]? = some d) (n : ds.length = d.np) (e : Sat (evSs (run tab k) d.ss (entry d.nn ds)) fun f => ∃ v, f = .rt v ∧ Q v) : Sat (run tab (k + 1) i ds) Q := by
  rw [run_eq h n]
  refine Sat.bnd e fun f hf => ?_
  obtain ⟨v, rfl, hv⟩ := hf
  exact Sat.ret hv
@[simp] theorem isCup_cup : isCup (some (.da cupD)) = true := rfl
@[simp] theorem getCup_bnd {β : Type} (k : Bool) (f : D → M β) (c : Cup) : M.bnd (getCup k) f c = f (.int (if k then c.2 else c.1)) c := rfl
@[simp] theorem setCup_bnd {β : Type} (k : Bool) (n : Int) (f : Unit → M β) (c : Cup) : M.bnd (setCup k n) f c = f () (if k then (c.1, n) else (n, c.2)) := rfl
theorem ite_app {α : Type} (p : Prop) [Decidable p] (a b : M α) (c : Cup) : (if p then a else b) c = if p then a c else b c := by
  split <;> rfl
section
variable {call : Nat → List D → M D} {S : Sys}
/-- the numbers of a roll -/
def RollOk (k0 k1 k2 k3 k4 k5 : Int) : Prop := -(2 ^ 64) < k0 ∧ k0 < 2 ^ 64 ∧ 0 < k2 ∧ k2 < 2 ^ 64 ∧ 0 < k4 ∧ 0 < k5 ∧ k5 < 1073741824
theorem modI {a b : Int} (h : 0 < b) : modD (.int a) (.int b) = some (.int (a % b)) := by
  show (if 0 < b then _ else none) = _
  rw [if_pos h]
theorem fdivI {a b : Int} (h : 0 < b) (k : b < 1073741824) : fdivD (.int a) (.int b) = some (.int (a / b)) := by
  show (if 0 < b ∧ b < 1073741824 then _ else none) = _
  rw [if_pos ⟨h, k⟩]
theorem mulI1 {a b : Int} (h : -(2 ^ 64) < a) (k : a < 2 ^ 64) : mulB (.int a) (.int b) = some (.int (a * b)) := by
  show (if mulOk a b then _ else none) = _
  have hm : mulOk a b = true := decide_eq_true (.inl ⟨h, k⟩)
  rw [if_pos hm]
theorem mulI2 {a b : Int} (h : -(2 ^ 64) < b) (k : b < 2 ^ 64) : mulB (.int a) (.int b) = some (.int (a * b)) := by
  show (if mulOk a b then _ else none) = _
  have hm : mulOk a b = true := decide_eq_true (.inr ⟨h, k⟩)
  rw [if_pos hm]
@[simp] theorem int_int (i : Int) : intD [.int i] = some (.int i) := rfl
theorem L_law_roll {k0 k1 k2 k3 k4 k5 : Int} (hk : RollOk k0 k1 k2 k3 k4 k5) {n : Nat} (h1 : 0 < n) (h2 : n < 1000000) : Sat (evSs call (b_law_roll k0 k1 k2 k3 k4 k5) [.da cupD, .da (.int (n : Nat)), .no, .no]) fun f => ∃ v, f = .rt v ∧ ∃ r : Nat, r < n ∧ v = .int (r : Nat) := by
  obtain ⟨a0, a1, a2, a3, a4, a5, a6⟩ := hk
  intro c
  have res : ∀ z : Int, ∃ r : Nat, r < n ∧ z % (n : Int) = r := fun z => by
    refine ⟨(z % (n : Int)).toNat, ?_, ?_⟩
    · have := Int.emod_lt_of_pos z (show (0 : Int) < n by omega)
      have := Int.emod_nonneg z (show (n : Int) ≠ 0 by omega)
      omega
    · have := Int.emod_nonneg z (show (n : Int) ≠ 0 by omega)
      omega
  have nz : (0 : Int) < n := by omega
  have nz2 : (n : Int) < 1073741824 := by omega
  by_cases h : 0 < c.1
  · obtain ⟨r, r1, r2⟩ := res c.1
    refine ⟨.rt (.int (c.1 % n)), (c.1 / n, c.2), ?_, _, rfl, r, r1, by rw [r2]⟩
    simp [b_law_roll, h, modI nz, fdivI nz nz2, ite_app]
    rfl
  · obtain ⟨r, r1, r2⟩ := res (((c.2 * k0 + k1) % k2 * ((c.2 * k0 + k1) % k2 + k3)) % k4 / k5)
    have m1 := Int.emod_nonneg (c.2 * k0 + k1) (show k2 ≠ 0 by omega)
    have m2 := Int.emod_lt_of_pos (c.2 * k0 + k1) a2
    refine ⟨.rt (.int ((((c.2 * k0 + k1) % k2 * ((c.2 * k0 + k1) % k2 + k3)) % k4 / k5) % n)), (c.1, (c.2 * k0 + k1) % k2), ?_, _, rfl, r, r1, by rw [r2]⟩
    have e1 : mulB (.int ((c.2 * k0 + k1) % k2)) (.int ((c.2 * k0 + k1) % k2 + k3)) = some (.int ((c.2 * k0 + k1) % k2 * ((c.2 * k0 + k1) % k2 + k3))) := mulI1 (by omega) (by omega)
    simp [b_law_roll, h, modI nz, modI a2, modI a4, fdivI a5 a6, mulI2 a0 a1, e1, ite_app]
    rfl
end
end FS

-- part FtT0
set_option Elab.async false
set_option linter.all false
set_option maxRecDepth 100000
set_option maxHeartbeats 4000000
/-! What is drawn is a system: bases of free sets, parts, rows of 0 and 1. -/
namespace FS
open PySem

/-- the bases of a system of n things -/
structure OkB (n : Nat) (B : List B8) : Prop where
  ne : B ≠ []
  asc : Rising B
  sub : ∀ b ∈ B, inN n b = true
  most : B.length ≤ 20
  eqv : ∀ a ∈ B, ∀ b ∈ B, pc a = pc b
  exch : ∀ a ∈ B, ∀ b ∈ B, ∀ x, a.getLsbD x = true → b.getLsbD x = false → ∃ y, b.getLsbD y = true ∧ a.getLsbD y = false ∧ less a (one x) ||| one y ∈ B
theorem OkB.ok {nm : List Str} {B : List B8} (h : OkB nm.length B) (n1 : 1 ≤ nm.length) (n8 : nm.length ≤ 8) (nms : nm.all nameOk = true) (nma : nm.Pairwise fun x y => ltT x y = true) : (Sys.mk nm B).Ok :=
  ⟨n1, n8, nms, nma, h.ne, h.asc, h.sub, Nat.le_trans h.most (by omega), h.eqv, h.exch⟩
/-- sets that are free, by a test -/
structure Ind (n : Nat) (p : B8 → Bool) : Prop where
  zero : p 0#8 = true
  her : ∀ a x, inN n a = true → p a = true → p (less a (one x)) = true
  aug : ∀ a b, inN n a = true → inN n b = true → p a = true → p b = true → pc a < pc b → ∃ i, b.getLsbD i = true ∧ a.getLsbD i = false ∧ p (a ||| one i) = true
theorem inN_or {n : Nat} {a : B8} {i : Nat} (h : inN n a = true) (hi : i < n) : inN n (a ||| one i) = true := by
  rw [inN_iff] at *
  intro j hj
  rw [bit_or, bit_one] at hj
  simp only [Bool.or_eq_true, Bool.and_eq_true, decide_eq_true_eq] at hj
  rcases hj with hj | hj
  · exact h j hj
  · omega
theorem inN_less {n : Nat} {a b : B8} (h : inN n a = true) : inN n (less a b) = true := by
  rw [inN_iff] at *
  exact fun j hj => h j (sb_less a b j hj)
/-- not too many sets of one size -/
theorem size_le {n : Nat} (hn : n ≤ 6) {l : List B8} (nd : l.Nodup) (h : ∀ m ∈ l, inN n m = true) (k : Nat) (hk : ∀ m ∈ l, pc m = k) : l.length ≤ 20 := by
  have c : ∀ k, k ≤ 8 → ((rowsT 6).filter fun m => decide (pc m = k)).length ≤ 20 := by decide +kernel
  by_cases k8 : k ≤ 8
  · refine Nat.le_trans (nd.length_le_of_subset (l₂ := (rowsT 6).filter fun m => decide (pc m = k)) fun m hm => ?_) (c k k8)
    refine List.mem_filter.mpr ⟨(mem_rowsT (by omega)).mpr ?_, decide_eq_true (hk m hm)⟩
    have := h m hm
    rw [inN_iff] at *
    exact fun i hi => Nat.lt_of_lt_of_le (this i hi) hn
  · cases l with
    | nil => simp
    | cons m l =>
      have := hk m List.mem_cons_self
      have := pc_le m
      omega
section
variable {n : Nat} {p : B8 → Bool}
theorem tops_mem {l : List B8} {m : B8} : m ∈ topsB l ↔ m ∈ l ∧ pc m = maxN (l.map pc) := by
  unfold topsB
  rw [mem_setB, List.mem_filter, decide_eq_true_eq]
theorem okB_ind (hn : n ≤ 6) (h : Ind n p) : OkB n (topsB ((allS n).filter p)) ∧ (allS n).filter p ≠ [] ∧ (((allS n).filter p).filter fun m => decide (pc m = maxN (((allS n).filter p).map pc))).length < 64 := by
  have n8 : n ≤ 8 := by omega
  have hne : (allS n).filter p ≠ [] := fun z => by
    have : (0#8 : B8) ∈ (allS n).filter p := List.mem_filter.mpr ⟨(mem_allS n8).mpr (inN_iff.mpr fun i hi => by simp at hi), h.zero⟩
    rw [z] at this
    cases this
  have mem : ∀ m, m ∈ (allS n).filter p ↔ inN n m = true ∧ p m = true := fun m => by rw [List.mem_filter, mem_allS n8]
  have big : ∀ m, inN n m = true → p m = true → pc m ≤ maxN (((allS n).filter p).map pc) := fun m h1 h2 => le_maxN (List.mem_map_of_mem ((mem m).mpr ⟨h1, h2⟩))
  refine ⟨⟨?_, rising_set _, fun b hb => ((mem b).mp (tops_mem.mp hb).1).1, ?_, fun a ha b hb => by rw [(tops_mem.mp ha).2, (tops_mem.mp hb).2], fun a ha b hb x h1 h2 => ?_⟩, hne, ?_⟩
  · have := maxN_mem (l := ((allS n).filter p).map pc) (by simpa using hne)
    obtain ⟨m, m1, m2⟩ := List.mem_map.mp this
    intro z
    have hm : m ∈ topsB ((allS n).filter p) := tops_mem.mpr ⟨m1, m2⟩
    rw [z] at hm
    cases hm
  · exact size_le hn (rising_set _).nodup (fun m hm => ((mem m).mp (tops_mem.mp hm).1).1) _ fun m hm => (tops_mem.mp hm).2
  · obtain ⟨a1, a2⟩ := tops_mem.mp ha
    obtain ⟨b1, b2⟩ := tops_mem.mp hb
    obtain ⟨a3, a4⟩ := (mem a).mp a1
    obtain ⟨b3, b4⟩ := (mem b).mp b1
    have e := pc_less_one h1
    obtain ⟨i, i1, i2, i3⟩ := h.aug (less a (one x)) b (inN_less a3) b3 (h.her a x a3 a4) b4 (by omega)
    have hxi : x ≠ i := fun z => by
      subst z
      rw [h2] at i1; cases i1
    have i4 : a.getLsbD i = false := by
      rw [bit_less, bit_one] at i2
      simpa [hxi] using i2
    refine ⟨i, i1, i4, tops_mem.mpr ⟨(mem _).mpr ⟨inN_or (inN_less a3) (inN_iff.mp b3 i i1), i3⟩, ?_⟩⟩
    rw [pc_or_one (bit_lt i1) i2]
    omega
  · refine Nat.lt_of_le_of_lt (size_le hn ?_ (fun m hm => ?_) (maxN (((allS n).filter p).map pc)) fun m hm => ?_) (by omega : 20 < 64)
    · exact ((allS_rising n8).nodup.filter _).filter _
    · exact ((mem m).mp (List.mem_filter.mp hm).1).1
    · exact of_decide_eq_true (List.mem_filter.mp hm).2
/-- no more than so many things -/
theorem ind_cut (r : Nat) (h : Ind n p) : Ind n fun m => p m && decide (pc m ≤ r) where
  zero := by simp [h.zero]
  her := fun a x hn ha => by
    rw [Bool.and_eq_true, decide_eq_true_eq] at *
    exact ⟨h.her a x hn ha.1, Nat.le_trans (pc_mono (sb_less _ _)) ha.2⟩
  aug := fun a b h1 h2 h3 h4 h5 => by
    rw [Bool.and_eq_true, decide_eq_true_eq] at h3 h4
    obtain ⟨i, i1, i2, i3⟩ := h.aug a b h1 h2 h3.1 h4.1 h5
    refine ⟨i, i1, i2, ?_⟩
    rw [Bool.and_eq_true, decide_eq_true_eq, pc_or_one (bit_lt i1) i2]
    exact ⟨i3, by omega⟩
theorem ind_all (n : Nat) : Ind n fun _ => true where
  zero := rfl
  her := fun _ _ _ _ => rfl
  aug := fun a b _ _ _ _ h => by
    obtain ⟨i, i1, i2⟩ := exists_in_not h
    exact ⟨i, i1, i2, rfl⟩
/-- no more things of each of three lots than it may have -/
theorem ind_lots (L : Fin 3 → B8) (cap : Fin 3 → Nat) (cov : ∀ i, i < n → ∃ k, (L k).getLsbD i = true) (dis : ∀ i k l, (L k).getLsbD i = true → (L l).getLsbD i = true → k = l) : Ind n fun m => decide (∀ k, pc (m &&& L k) ≤ cap k) where
  zero := by
    rw [decide_eq_true_eq]
    intro k
    have : (0#8 : B8) &&& L k = 0#8 := by simp
    rw [this, pc_zero]
    exact Nat.zero_le _
  her := fun a x hn ha => by
    rw [decide_eq_true_eq] at *
    refine fun k => Nat.le_trans (pc_mono fun i hi => ?_) (ha k)
    rw [bit_and, Bool.and_eq_true] at *
    exact ⟨sb_less _ _ i hi.1, hi.2⟩
  aug := fun a b h1 h2 h3 h4 h5 => by
    rw [decide_eq_true_eq] at h3 h4
    have tot : ∀ m, inN n m = true → pc m = pc (m &&& L 0) + pc (m &&& L 1) + pc (m &&& L 2) := fun m hm => by
      have e1 := pc_or_and (m &&& L 0) (m &&& L 1)
      have e2 := pc_or_and ((m &&& L 0) ||| (m &&& L 1)) (m &&& L 2)
      have z1 : (m &&& L 0) &&& (m &&& L 1) = 0#8 := B8.ext fun i => by
        simp only [bit_and]
        cases q : (L 0).getLsbD i with
        | false => simp
        | true =>
          cases q2 : (L 1).getLsbD i with
          | false => simp
          | true => exact absurd (dis i 0 1 q q2) (by decide)
      have z2 : ((m &&& L 0) ||| (m &&& L 1)) &&& (m &&& L 2) = 0#8 := B8.ext fun i => by
        simp only [bit_and, bit_or]
        cases q : (L 2).getLsbD i with
        | false => simp
        | true =>
          have q0 : (L 0).getLsbD i = false := by
            cases q2 : (L 0).getLsbD i with
            | false => rfl
            | true => exact absurd (dis i 2 0 q q2) (by decide)
          have q1 : (L 1).getLsbD i = false := by
            cases q2 : (L 1).getLsbD i with
            | false => rfl
            | true => exact absurd (dis i 2 1 q q2) (by decide)
          simp [q0, q1]
      have z3 : (m &&& L 0) ||| (m &&& L 1) ||| (m &&& L 2) = m := B8.ext fun i => by
        simp only [bit_and, bit_or]
        cases q : m.getLsbD i with
        | false => simp
        | true =>
          obtain ⟨k, hk⟩ := cov i (inN_iff.mp hm i q)
          match k, hk with
          | 0, hk => simp [hk]
          | 1, hk => simp [hk]
          | 2, hk => simp [hk]
      rw [z1, pc_zero] at e1
      rw [z2, z3, pc_zero] at e2
      omega
    have t1 := tot a h1
    have t2 := tot b h2
    have : ∃ k, pc (a &&& L k) < pc (b &&& L k) := by
      apply Classical.byContradiction
      intro z
      have z' := fun k => Nat.le_of_not_lt (fun y => z ⟨k, y⟩)
      have := z' 0
      have := z' 1
      have := z' 2
      omega
    obtain ⟨k, hk⟩ := this
    obtain ⟨i, i1, i2⟩ := exists_in_not hk
    rw [bit_and, Bool.and_eq_true] at i1
    have i3 : a.getLsbD i = false := by
      rw [bit_and, i1.2, Bool.and_true] at i2
      exact i2
    refine ⟨i, i1.1, i3, ?_⟩
    rw [decide_eq_true_eq]
    intro l
    by_cases hl : l = k
    · subst hl
      have e : (a ||| one i) &&& L l = (a &&& L l) ||| one i := B8.ext fun j => by
        simp only [bit_and, bit_or, bit_one]
        by_cases hj : i = j
        · subst hj
          simp [i1.2, bit_lt i1.1]
        · simp [hj]
      rw [e, pc_or_one (bit_lt i1.1) i2]
      have := h4 l
      omega
    · have e : (a ||| one i) &&& L l = a &&& L l := B8.ext fun j => by
        simp only [bit_and, bit_or, bit_one]
        by_cases hj : i = j
        · subst hj
          have : (L l).getLsbD i = false := by
            cases q : (L l).getLsbD i with
            | false => rfl
            | true => exact absurd (dis i l k q i1.2) hl
          simp [this]
        · simp [hj]
      rw [e]
      exact h3 l
end
end FS

-- part FtVec
set_option Elab.async false
set_option linter.all false
set_option maxRecDepth 100000
set_option maxHeartbeats 4000000
/-! Rows of 0 and 1, edges: free by sums. -/
namespace FS
open PySem

/-- the sum of the vectors of a set -/
def XL (v : Nat → B8) (s : B8) : List Nat → B8
  | [] => 0#8
  | i :: r => (if s.getLsbD i = true then v i else 0#8) ^^^ XL v s r
def X (v : Nat → B8) (s : B8) : B8 := XL v s (List.range 8)
theorem xor4 (a b c d : B8) : (a ^^^ b) ^^^ (c ^^^ d) = (a ^^^ c) ^^^ (b ^^^ d) := by
  rw [BitVec.xor_assoc, BitVec.xor_assoc, ← BitVec.xor_assoc b c d, BitVec.xor_comm b c, BitVec.xor_assoc]
theorem XL_xor (v : Nat → B8) (s t : B8) : ∀ l, XL v (s ^^^ t) l = XL v s l ^^^ XL v t l
  | [] => by simp [XL]
  | i :: r => by
    show (if (s ^^^ t).getLsbD i = true then v i else 0#8) ^^^ XL v (s ^^^ t) r = _
    rw [XL_xor v s t r]
    show _ = (_ ^^^ XL v s r) ^^^ (_ ^^^ XL v t r)
    rw [xor4]
    congr 1
    rw [BitVec.getLsbD_xor]
    cases s.getLsbD i <;> cases t.getLsbD i <;> simp
theorem X_xor (v : Nat → B8) (s t : B8) : X v (s ^^^ t) = X v s ^^^ X v t := XL_xor v s t _
theorem XL_none (v : Nat → B8) (s : B8) : ∀ l : List Nat, (∀ i ∈ l, s.getLsbD i = false) → XL v s l = 0#8
  | [], _ => rfl
  | i :: r, h => by
    show (if s.getLsbD i = true then v i else 0#8) ^^^ XL v s r = _
    rw [XL_none v s r fun j hj => h j (List.mem_cons_of_mem _ hj), h i List.mem_cons_self]
    simp
theorem XL_one (v : Nat → B8) {i : Nat} (hi : i < 8) : ∀ l : List Nat, l.Nodup → i ∈ l → XL v (one i) l = v i
  | j :: r, nd, h => by
    have nd := List.nodup_cons.mp nd
    show (if (one i).getLsbD j = true then v j else 0#8) ^^^ XL v (one i) r = _
    rcases List.mem_cons.mp h with rfl | h2
    · rw [XL_none v (one i) r fun k hk => ?_]
      · simp [hi]
      · rw [bit_one]
        have : i ≠ k := fun z => by subst z; exact nd.1 hk
        simp [this]
    · have : i ≠ j := fun z => by subst z; exact nd.1 h2
      rw [XL_one v hi r nd.2 h2]
      simp [this]
theorem X_one (v : Nat → B8) {i : Nat} (hi : i < 8) : X v (one i) = v i := XL_one v hi _ List.nodup_range (List.mem_range.mpr hi)
theorem X_zero (v : Nat → B8) : X v 0#8 = 0#8 := XL_none v _ _ fun i _ => by simp
/-- no part, one thing at least, adds up to zeros -/
def Indep (v : Nat → B8) (m : B8) : Prop := ∀ s, Sb s m → X v s = 0#8 → s = 0#8
/-- all parts of a set -/
def subsL : List Nat → List B8
  | [] => [0#8]
  | i :: r => subsL r ++ (subsL r).map fun s => s ||| one i
theorem subsL_len : ∀ l, (subsL l).length = 2 ^ l.length
  | [] => rfl
  | i :: r => by
    show (subsL r ++ (subsL r).map _).length = _
    rw [List.length_append, List.length_map, subsL_len r, List.length_cons, Nat.pow_succ]
    omega
theorem mem_subsL : ∀ {l : List Nat}, (∀ i ∈ l, i < 8) → ∀ {s : B8}, s ∈ subsL l ↔ ∀ i, s.getLsbD i = true → i ∈ l
  | [], _, s => by
    show s ∈ [0#8] ↔ _
    rw [List.mem_singleton]
    refine ⟨fun h i hi => by subst h; simp at hi, fun h => B8.ext fun i => ?_⟩
    cases e : s.getLsbD i with
    | false => simp
    | true => exact absurd (h i e) (by simp)
  | k :: r, hl, s => by
    have ih := fun {s : B8} => mem_subsL (l := r) (s := s) fun i hi => hl i (List.mem_cons_of_mem _ hi)
    have k8 := hl k List.mem_cons_self
    show s ∈ subsL r ++ (subsL r).map _ ↔ _
    rw [List.mem_append, List.mem_map, ih]
    constructor
    · rintro (h | ⟨x, hx, rfl⟩) i hi
      · exact List.mem_cons_of_mem _ (h i hi)
      · rw [ih] at hx
        rw [bit_or, bit_one] at hi
        simp only [Bool.or_eq_true, Bool.and_eq_true, decide_eq_true_eq] at hi
        rcases hi with hi | hi
        · exact List.mem_cons_of_mem _ (hx i hi)
        · exact hi.2 ▸ List.mem_cons_self
    · intro h
      cases e : s.getLsbD k with
      | false =>
        refine .inl fun i hi => ?_
        rcases List.mem_cons.mp (h i hi) with rfl | z
        · rw [e] at hi; cases hi
        · exact z
      | true =>
        refine .inr ⟨less s (one k), ?_, ?_⟩
        · rw [ih]
          intro i hi
          rw [bit_less, bit_one] at hi
          simp only [Bool.and_eq_true, Bool.not_eq_true', Bool.and_eq_false_iff, decide_eq_false_iff_not] at hi
          rcases List.mem_cons.mp (h i hi.1) with rfl | z
          · rcases hi.2 with z | z
            · exact absurd k8 z
            · exact absurd rfl z
          · exact z
        · apply B8.ext
          intro i
          rw [bit_or, bit_less, bit_one]
          by_cases hi : k = i
          · subst hi
            simp [e, k8]
          · simp [hi]
theorem subsL_nodup : ∀ {l : List Nat}, (∀ i ∈ l, i < 8) → l.Nodup → (subsL l).Nodup
  | [], _, _ => List.nodup_cons.mpr ⟨by simp, List.nodup_nil⟩
  | k :: r, hl, nd => by
    have nd := List.nodup_cons.mp nd
    have hl' : ∀ i ∈ r, i < 8 := fun i hi => hl i (List.mem_cons_of_mem _ hi)
    have k8 := hl k List.mem_cons_self
    have ih := subsL_nodup hl' nd.2
    have lt : ∀ m ∈ subsL r, m.getLsbD k = false := fun m hm => by
      rw [mem_subsL hl'] at hm
      cases e : m.getLsbD k with
      | false => rfl
      | true => exact absurd (hm k e) nd.1
    show (subsL r ++ (subsL r).map _).Nodup
    rw [List.nodup_append]
    refine ⟨ih, ?_, fun a ha b hb e => ?_⟩
    · rw [List.Nodup, List.pairwise_map]
      refine List.Pairwise.imp_of_mem (fun {a b} ha hb h e => h (B8.ext fun i => ?_)) ih
      have h1 := congrArg (fun m : B8 => m.getLsbD i) e
      simp only [BitVec.getLsbD_or, bit_one] at h1
      by_cases hi : k = i
      · subst hi
        rw [lt a ha, lt b hb]
      · simpa [hi] using h1
    · obtain ⟨x, hx, rfl⟩ := List.mem_map.mp hb
      have h1 := lt a ha
      rw [e, BitVec.getLsbD_or, bit_one] at h1
      simp [k8] at h1
def subs (m : B8) : List B8 := subsL (bits m)
theorem mem_subs {s m : B8} : s ∈ subs m ↔ Sb s m := by
  unfold subs
  rw [mem_subsL fun i hi => bits_lt hi]
  exact ⟨fun h i hi => mem_bits.mp (h i hi), fun h i hi => mem_bits.mpr (h i hi)⟩
theorem subs_nodup (m : B8) : (subs m).Nodup := subsL_nodup (fun i hi => bits_lt hi) ((bits_asc m).imp fun h => Nat.ne_of_lt h)
theorem subs_len (m : B8) : (subs m).length = 2 ^ pc m := subsL_len _
theorem bit_xor (a b : B8) (i : Nat) : (a ^^^ b).getLsbD i = (a.getLsbD i ^^ b.getLsbD i) := BitVec.getLsbD_xor
theorem xor_eq_zero {a b : B8} (h : a ^^^ b = 0#8) : a = b := B8.ext fun i => by
  have := congrArg (fun m : B8 => m.getLsbD i) h
  simp only [bit_xor] at this
  cases q : a.getLsbD i <;> cases r : b.getLsbD i <;> simp [q, r] at this ⊢
theorem sb_xor {a b m : B8} (h : Sb a m) (k : Sb b m) : Sb (a ^^^ b) m := fun i hi => by
  rw [bit_xor] at hi
  cases q : a.getLsbD i with
  | true => exact h i q
  | false =>
    cases r : b.getLsbD i with
    | true => exact k i r
    | false => rw [q, r] at hi; cases hi
theorem X_inj {v : Nat → B8} {m a b : B8} (h : Indep v m) (ha : Sb a m) (hb : Sb b m) (e : X v a = X v b) : a = b := by
  refine xor_eq_zero (h _ (sb_xor ha hb) ?_)
  rw [X_xor, e]
  simp
theorem Indep.sub {v : Nat → B8} {m k : B8} (h : Indep v m) (s : Sb k m) : Indep v k := fun t ht e => h t (ht.trans s) e
/-- what is in the sums of a set -/
def Span (v : Nat → B8) (m : B8) (x : B8) : Prop := ∃ s, Sb s m ∧ X v s = x
theorem Span.add {v : Nat → B8} {m x y : B8} (h : Span v m x) (k : Span v m y) : Span v m (x ^^^ y) := by
  obtain ⟨s, s1, s2⟩ := h
  obtain ⟨t, t1, t2⟩ := k
  exact ⟨s ^^^ t, sb_xor s1 t1, by rw [X_xor, s2, t2]⟩
theorem Span.zero {v : Nat → B8} {m : B8} : Span v m 0#8 := ⟨0#8, fun i hi => by simp at hi, X_zero v⟩
/-- one more thing is free with a free set just if it is not among the sums -/
theorem indep_add {v : Nat → B8} {m : B8} {i : Nat} (hi : i < 8) (hm : m.getLsbD i = false) (h : Indep v m) : Indep v (m ||| one i) ↔ ¬ Span v m (v i) := by
  constructor
  · rintro k ⟨s, s1, s2⟩
    have : s ^^^ one i = 0#8 := k _ (fun j hj => by
      rw [bit_xor] at hj
      rw [bit_or]
      cases q : s.getLsbD j with
      | true => rw [s1 j q]; rfl
      | false =>
        rw [q] at hj
        have : (one i).getLsbD j = true := by simpa using hj
        rw [this, Bool.or_true]) (by rw [X_xor, s2, X_one v hi]; simp)
    have e := xor_eq_zero this
    have := s1 i (by rw [e]; simp [hi])
    rw [hm] at this; cases this
  · intro k s hs e
    cases q : s.getLsbD i with
    | false =>
      refine h s (fun j hj => ?_) e
      have := hs j hj
      rw [bit_or, bit_one] at this
      by_cases z : i = j
      · subst z
        rw [q] at hj; cases hj
      · simpa [z] using this
    | true =>
      refine absurd ⟨s ^^^ one i, fun j hj => ?_, ?_⟩ k
      · rw [bit_xor, bit_one] at hj
        by_cases z : i = j
        · subst z
          rw [q] at hj
          simp [hi] at hj
        · simp only [z, decide_false, Bool.and_false, Bool.xor_false] at hj
          have := hs j hj
          rw [bit_or, bit_one] at this
          simpa [z] using this
      · rw [X_xor, e, X_one v hi]
        simp
theorem ind_vec {n : Nat} {p : B8 → Bool} (v : Nat → B8) (h : ∀ m, inN n m = true → (p m = true ↔ Indep v m)) : Ind n p where
  zero := (h _ (inN_iff.mpr fun i hi => by simp at hi)).mpr fun s hs _ => Sb.anti hs fun i hi => by simp at hi
  her := fun a x hn ha => (h _ (inN_less hn)).mpr (((h a hn).mp ha).sub (sb_less _ _))
  aug := fun a b ha hb pa pb lt => by
    have ia := (h a ha).mp pa
    have ib := (h b hb).mp pb
    apply Classical.byContradiction
    intro no
    have sp : ∀ i, b.getLsbD i = true → Span v a (v i) := fun i hi => by
      cases q : a.getLsbD i with
      | true => 
        refine ⟨one i, fun j hj => ?_, X_one v (bit_lt hi)⟩
        simp at hj
        exact hj.2 ▸ q
      | false =>
        apply Classical.byContradiction
        intro ns
        refine no ⟨i, hi, q, (h _ (inN_or ha (inN_iff.mp hb i hi))).mpr ?_⟩
        exact (indep_add (bit_lt hi) q ia).mpr ns
    have sp2 : ∀ (l : List Nat) (s : B8), Sb s b → Span v a (XL v s l) := fun l => by
      induction l with
      | nil => exact fun s _ => Span.zero
      | cons i r ih =>
        intro s hs
        refine Span.add ?_ (ih s hs)
        split
        · rename_i z
          exact sp i (hs i z)
        · exact Span.zero
    have nd : ((subs b).map (X v)).Nodup := by
      rw [List.Nodup, List.pairwise_map]
      refine List.Pairwise.imp_of_mem (fun {s t} hs ht ne e => ne ?_) (subs_nodup b)
      exact X_inj ib (mem_subs.mp hs) (mem_subs.mp ht) e
    have le := nd.length_le_of_subset (l₂ := (subs a).map (X v)) fun x hx => by
      obtain ⟨s, s1, rfl⟩ := List.mem_map.mp hx
      obtain ⟨t, t1, t2⟩ := sp2 (List.range 8) s (mem_subs.mp s1)
      exact List.mem_map.mpr ⟨t, mem_subs.mpr t1, t2⟩
    rw [List.length_map, List.length_map, subs_len, subs_len] at le
    have := Nat.pow_lt_pow_right (a := 2) (by omega) lt
    omega
end FS

-- part FtSum
set_option Elab.async false
set_option linter.all false
set_option maxRecDepth 100000
set_option maxHeartbeats 4000000
/-! _law_no_sum: rows of 0 and 1. -/
namespace FS
open PySem

def bitI (a : B8) (j : Fin 8) : D := .int ((a.getLsbD j.val).toNat : Nat)
def rowD (w : Nat) (a : B8) : D := .tuple ((rangeF w).map fun j => bitI a j)
def rowsD (w : Nat) (v : List B8) : D := .list (v.map (rowD w))
theorem rangeF_len {w : Nat} (h : w ≤ 8) : (rangeF w).length = w := by
  have := congrArg List.length (range_F h)
  rw [List.length_range, List.length_map] at this
  omega
@[simp] theorem zip_rows (w : Nat) (a b : B8) : zipO (rowD w a) (rowD w b) = some ((rangeF w).map fun j => .tuple [bitI a j, bitI b j]) := by
  show some (List.map _ _) = _
  rw [zip_map2, List.map_map]
  congr 1
  rw [show (rangeF w).zip (rangeF w) = (rangeF w).map fun j => (j, j) by
    generalize rangeF w = l
    induction l with
    | nil => rfl
    | cons x l ih => simp [ih], List.map_map]
  rfl
theorem int_bit (a b : B8) (j : Fin 8) : ((((a.getLsbD j.val).toNat : Nat) : Int) + ((b.getLsbD j.val).toNat : Nat)) % 2 = (((a ^^^ b).getLsbD j.val).toNat : Nat) := by
  rw [bit_xor]
  cases a.getLsbD j.val <;> cases b.getLsbD j.val <;> rfl
theorem eqv_bit (a : B8) (j : Fin 8) : PyData.eqv (bitI a j) (.int 1) = a.getLsbD j.val := by
  unfold bitI
  rw [eqv_int]
  cases a.getLsbD j.val <;> rfl
theorem lay_bit (a : B8) (j : Fin 8) : (bitI a j).canLay0 = true := by simp [bitI, PyData.canLay0]
theorem dep_bit (a : B8) (j : Fin 8) : (bitI a j).depth = 0 := by simp [bitI, PyData.depth]
theorem shp_row (w : Nat) (a : B8) : SeqAt.shaped (rowD w a) = true := by
  have h : ∀ l : List (Fin 8), PyData.canLayAll0 (l.map fun j => bitI a j) = true ∧ PyData.depthAll (l.map fun j => bitI a j) = 0 := fun l => by
    induction l with
    | nil => simp [PyData.canLayAll0, PyData.depthAll]
    | cons x l ih => simp [PyData.canLayAll0, PyData.depthAll, ih.1, ih.2, lay_bit, dep_bit]
  refine shp_of (by simp only [rowD, PyData.canLay0]; exact (h _).1) ?_
  simp only [rowD, PyData.depth, (h _).2]
  omega
theorem nin_row {w : Nat} {a : B8} (hw : w ≤ 8) (h : Sb a (full w)) : ninD (.int 1) (rowD w a) = some (.bool (decide (a = 0#8))) := by
  have e : inC (.int 1) (rowD w a) = some (memD (.int 1) ((rangeF w).map fun j => bitI a j)) := by
    show (if (SeqAt.shaped (.int 1) && SeqAt.shaped (rowD w a)) = true then some _ else none) = _
    rw [shp_int, shp_row]
    rfl
  unfold ninD
  rw [e]
  show some (PyData.bool (!memD _ _)) = _
  congr 2
  unfold memD
  rw [List.any_map, Bool.eq_iff_iff, Bool.not_eq_true', List.any_eq_false, decide_eq_true_eq]
  constructor
  · intro k
    refine B8.ext fun i => ?_
    cases q : a.getLsbD i with
    | false => simp
    | true =>
      have := k ⟨i, bit_lt q⟩ (mem_rangeF.mpr (by
        have := h i q
        rw [bit_full hw] at this
        exact of_decide_eq_true this))
      simp only [Function.comp, eqv_bit] at this
      exact absurd q this
  · intro k j _
    subst k
    simp [eqv_bit]
@[simp] theorem tup_row (w : Nat) (a : B8) : PyData.tuple ((rangeF w).map fun j => bitI a j) = rowD w a := rfl
@[simp] theorem items_rowsL (w : Nat) (l : List B8) : itemsD (rowsD w l) = some (l.map (rowD w)) := rfl
theorem idx_rows {w : Nat} {l : List B8} {i : Nat} {a : B8} (h : l[i]? = some a) : idxD (rowsD w l) (.int (i : Nat)) = some (rowD w a) := by
  show L2.atI (l.map (rowD w)) i = _
  rw [atI_nat, List.getElem?_map, h]; rfl
@[simp] theorem rows_list {α : Type} (w : Nat) (f : α → B8) (l : List α) : PyData.list (l.map fun x => rowD w (f x)) = rowsD w (l.map f) := by
  unfold rowsD
  rw [List.map_map]; rfl
@[simp] theorem rows_list0 (w : Nat) (l : List B8) : PyData.list (l.map (rowD w)) = rowsD w l := rfl
theorem rows_ne {w : Nat} {l : List B8} (hw : w ≤ 8) : neD (rowsD w l) (.list []) = some (.bool (decide (l ≠ []))) := by
  have d : ∀ l : List B8, PyData.canLayAll0 (l.map (rowD w)) = true ∧ PyData.depthAll (l.map (rowD w)) ≤ 64 - 1 := fun l => by
    induction l with
    | nil => simp [PyData.canLayAll0, PyData.depthAll]
    | cons m l ih =>
      have h := shp_row w m
      have h1 := SeqAt.canLay_of_shaped h
      have h2 : (rowD w m).depth ≤ 1 := by
        have : ∀ l : List (Fin 8), PyData.depthAll (l.map fun j => bitI m j) = 0 := fun l => by
          induction l with
          | nil => simp [PyData.depthAll]
          | cons x l ih => simp [PyData.depthAll, ih, dep_bit]
        simp only [rowD, PyData.depth, this]
        omega
      simp only [List.map_cons, PyData.canLayAll0, PyData.depthAll, h1, ih.1, Bool.and_self, true_and]
      omega
  have hs : SeqAt.shaped (rowsD w l) = true := shp_of (by simp only [rowsD, PyData.canLay0]; exact (d l).1) (by
    have := (d l).2
    simp only [rowsD, PyData.depth]
    omega)
  have h2 : SeqAt.shaped (.list []) = true := shp_of (by simp [PyData.canLay0, PyData.canLayAll0]) (by simp [PyData.depth, PyData.depthAll])
  unfold neD
  rw [hs, h2]
  cases l <;> simp [rowsD, PyData.eqv, PyData.eqvAll, -rows_list0, -rows_list]
section
variable {call : Nat → List D → M D}
theorem sum_turn {w : Nat} (hw : w ≤ 8) {rows sums : List B8} {i : Fin 8} {x : B8} {s4 s5 s6 s7 s : Sl} {m : B8} (hx : rows[i.val]? = some x) (hf : ∀ y ∈ sums, Sb y (full w)) (hxf : Sb x (full w)) (hl : sums.length ≤ 500000) :
    evSs call b_law_no_sum_l0 [.da (rowsD w rows), .da (enc m), .da (rowsD w sums), .da (.int i.val), s4, s5, s6, s7] = M.ret (if x ∈ sums then .rt (.bool false) else .nx [.da (rowsD w rows), .da (enc m), .da (rowsD w (sums ++ sums.map fun y => y ^^^ x)), .da (.int i.val), .da (rowsD w (sums.map fun y => y ^^^ x)), s5, s6, s7]) := by
  have e2 : ∀ y : B8, compA (fun j : Fin 8 => M.bnd (M.opt (addD (bitI y j) (bitI x j))) fun a => M.bnd (M.opt (intD [a])) fun b => M.bnd (M.opt (modD b (.int 2))) fun z => M.ret (some z)) (rangeF w) = M.ret ((rangeF w).map fun j => bitI (y ^^^ x) j) := fun y => by
    rw [compA_mem (g := fun j => some (bitI (y ^^^ x) j)) fun j hj => ?_, fm_some]
    show _ = M.ret (some (PyData.int _))
    rw [← int_bit]
    rfl
  have e3 : compA (fun y : B8 => M.bnd (M.opt (ninD (.int 1) (rowD w (y ^^^ x)))) fun a => M.bnd (M.opt (truD a)) fun b => M.ret (if b = true then some (rowD w (y ^^^ x)) else none)) sums = M.ret (((sums.filter fun y => decide (y = x)).map fun y => rowD w (y ^^^ x))) := by
    rw [compA_mem (g := fun y => if y = x then some (rowD w (y ^^^ x)) else none) fun y hy => ?_, fm_if]
    rw [nin_row hw (sb_xor (hf y hy) hxf)]
    simp
  have e4 := rows_ne (w := w) (l := (sums.filter fun y => decide (y = x)).map fun y => y ^^^ x) hw
  have e5 : addD (rowsD w sums) (rowsD w (sums.map fun y => y ^^^ x)) = some (rowsD w (sums ++ sums.map fun y => y ^^^ x)) := by
    show (if (sums.map (rowD w)).length + ((sums.map fun y => y ^^^ x).map (rowD w)).length ≤ sizeLine then some (PyData.list _) else none) = _
    rw [if_pos (size_ge (by simp only [List.length_map]; omega)), ← List.map_append]
    rfl
  simp [b_law_no_sum_l0, idx_rows hx, e2, e3, e4, e5]
theorem sum_loop {w : Nat} (hw : w ≤ 8) {rows : List B8} {v : Nat → B8} (hr : ∀ i : Nat, i < rows.length → rows[i]? = some (v i)) (hv : ∀ i, Sb (v i) (full w)) {m : B8} (hm : ∀ i, m.getLsbD i = true → i < rows.length) : ∀ (rest : List (Fin 8)) (done : B8) (sums : List B8) (s3 s4 s5 s6 s7 : Sl),
    rest.Nodup → (∀ i, m.getLsbD i = true ↔ done.getLsbD i = true ∨ ∃ j ∈ rest, j.val = i) → (∀ j ∈ rest, done.getLsbD j.val = false) → (∀ y, y ∈ sums ↔ Span v done y) → sums.length = 2 ^ pc done → Indep v done →
    (Indep v m ∧ ∃ ρ', forL (evSs call b_law_no_sum_l0) (.one 3) (rest.map fun i => .int (i.val : Nat)) [.da (rowsD w rows), .da (enc m), .da (rowsD w sums), s3, s4, s5, s6, s7] = M.ret (.nx ρ')) ∨
    (¬ Indep v m ∧ forL (evSs call b_law_no_sum_l0) (.one 3) (rest.map fun i => .int (i.val : Nat)) [.da (rowsD w rows), .da (enc m), .da (rowsD w sums), s3, s4, s5, s6, s7] = M.ret (.rt (.bool false)))
  | [], done, sums, s3, s4, s5, s6, s7, _, h1, _, _, _, h5 => by
    have : m = done := B8.ext fun i => by
      rw [Bool.eq_iff_iff, h1]
      simp
    subst this
    exact .inl ⟨h5, _, rfl⟩
  | i :: rest, done, sums, s3, s4, s5, s6, s7, nd, h1, h2, h3, h4, h5 => by
    have nd := List.nodup_cons.mp nd
    have mi : m.getLsbD i.val = true := (h1 i.val).mpr (.inr ⟨i, List.mem_cons_self, rfl⟩)
    have di := h2 i List.mem_cons_self
    have p1 := pc_le done
    have p2 : 2 ^ pc done ≤ 2 ^ 8 := Nat.pow_le_pow_right (by omega) p1
    have turn := sum_turn (call := call) hw (rows := rows) (sums := sums) (i := i) (s4 := s4) (s5 := s5) (s6 := s6) (s7 := s7) (s := s3) (m := m) (hr i.val (hm i.val mi)) (fun y hy => by
      obtain ⟨s, _, rfl⟩ := (h3 y).mp hy
      have : ∀ l, Sb (XL v s l) (full w) := fun l => by
        induction l with
        | nil => exact fun i hi => by simp [XL] at hi
        | cons j r ih =>
          refine sb_xor ?_ ih
          split
          · exact hv j
          · exact fun i hi => by simp at hi
      exact this _) (hv i.val) (by omega)
    rw [List.map_cons, forL_cons, setTg_one, stepO_s]
    show (_ ∧ ∃ ρ', M.bnd (evSs call b_law_no_sum_l0 [.da (rowsD w rows), .da (enc m), .da (rowsD w sums), .da (.int i.val), s4, s5, s6, s7]) _ = _) ∨ (_ ∧ M.bnd (evSs call b_law_no_sum_l0 [.da (rowsD w rows), .da (enc m), .da (rowsD w sums), .da (.int i.val), s4, s5, s6, s7]) _ = _)
    rw [turn]
    by_cases hx : v i.val ∈ sums
    · refine .inr ⟨fun k => ?_, by rw [if_pos hx]; rfl⟩
      have k2 : Indep v (done ||| one i.val) := k.sub fun j hj => by
        rw [h1]
        rw [bit_or, bit_one] at hj
        simp only [Bool.or_eq_true, Bool.and_eq_true, decide_eq_true_eq] at hj
        rcases hj with hj | hj
        · exact .inl hj
        · exact .inr ⟨i, List.mem_cons_self, hj.2⟩
      exact (indep_add i.isLt di h5).mp k2 ((h3 _).mp hx)
    · rw [if_neg hx]
      have h5' : Indep v (done ||| one i.val) := (indep_add i.isLt di h5).mpr fun z => hx ((h3 _).mpr z)
      refine sum_loop hw hr hv hm rest (done ||| one i.val) _ _ _ _ _ _ nd.2 (fun j => ?_) (fun j hj => ?_) (fun y => ?_) ?_ h5'
      · rw [h1, bit_or, bit_one]
        simp only [List.mem_cons, Bool.or_eq_true, Bool.and_eq_true, decide_eq_true_eq]
        constructor
        · rintro (h | ⟨k, rfl | hk, rfl⟩)
          · exact .inl (.inl h)
          · exact .inl (.inr ⟨k.isLt, rfl⟩)
          · exact .inr ⟨k, hk, rfl⟩
        · rintro ((h | h) | ⟨k, hk, rfl⟩)
          · exact .inl h
          · exact .inr ⟨i, .inl rfl, h.2⟩
          · exact .inr ⟨k, .inr hk, rfl⟩
      · rw [bit_or, bit_one, h2 j (List.mem_cons_of_mem _ hj)]
        have : i.val ≠ j.val := fun z => nd.1 (by rw [show i = j from Fin.ext z]; exact hj)
        simp [this]
      · rw [List.mem_append, List.mem_map, h3]
        constructor
        · rintro (⟨s, s1, s2⟩ | ⟨z, hz, rfl⟩)
          · exact ⟨s, s1.trans (sb_or1 _ _), s2⟩
          · obtain ⟨s, s1, s2⟩ := (h3 z).mp hz
            refine ⟨s ^^^ one i.val, sb_xor (s1.trans (sb_or1 _ _)) (sb_or2 _ _), ?_⟩
            rw [X_xor, s2, X_one v i.isLt]
        · rintro ⟨s, s1, s2⟩
          cases q : s.getLsbD i.val with
          | false =>
            refine .inl ⟨s, fun j hj => ?_, s2⟩
            have := s1 j hj
            rw [bit_or, bit_one] at this
            by_cases z : i.val = j
            · subst z
              rw [q] at hj; cases hj
            · simpa [z] using this
          | true =>
            refine .inr ⟨y ^^^ v i.val, (h3 _).mpr ⟨s ^^^ one i.val, fun j hj => ?_, ?_⟩, ?_⟩
            · rw [bit_xor, bit_one] at hj
              by_cases z : i.val = j
              · subst z
                rw [q] at hj
                simp at hj
              · simp only [z, decide_false, Bool.and_false, Bool.xor_false] at hj
                have := s1 j hj
                rw [bit_or, bit_one] at this
                simpa [z] using this
            · rw [X_xor, s2, X_one v i.isLt]
            · rw [BitVec.xor_assoc, BitVec.xor_self, BitVec.xor_zero]
      · rw [List.length_append, List.length_map, h4, pc_or_one i.isLt di, Nat.pow_succ]
        omega
theorem bitsF_nodup (m : B8) : (bitsF m).Nodup := by
  unfold bitsF
  exact (List.nodup_finRange 8).filter _
theorem L_law_no_sum {w : Nat} (w1 : 1 ≤ w) (hw : w ≤ 8) {rows : List B8} {v : Nat → B8} (hne : rows ≠ []) (hr : ∀ i : Nat, i < rows.length → rows[i]? = some (v i)) (hv : ∀ i, Sb (v i) (full w)) {m : B8} (hm : ∀ i, m.getLsbD i = true → i < rows.length) :
    ∃ b, (b = true ↔ Indep v m) ∧ evSs call b_law_no_sum [.da (rowsD w rows), .da (enc m), .no, .no, .no, .no, .no, .no] = M.ret (.rt (.bool b)) := by
  have z1 : mulB (.tuple [.int 0]) (.int w) = some (rowD w 0#8) := by
    have : w = 1 ∨ w = 2 ∨ w = 3 ∨ w = 4 ∨ w = 5 ∨ w = 6 ∨ w = 7 ∨ w = 8 := by omega
    rcases this with rfl | rfl | rfl | rfl | rfl | rfl | rfl | rfl <;> rfl
  have z0 : lenD [rowD w (v 0)] = some (.int (w : Nat)) := by
    show some (PyData.int ((rangeF w).map _).length) = _
    rw [List.length_map, rangeF_len hw]
  have i0 : idxD (rowsD w rows) (.int 0) = some (rowD w (v 0)) := idx_rows (i := 0) (hr 0 (by
    cases rows with
    | nil => exact absurd rfl hne
    | cons a r => simp))
  have key := sum_loop (call := call) hw hr hv hm (bitsF m) 0#8 [0#8] .no .no .no .no .no (bitsF_nodup m) (fun i => ?_) (fun j _ => by simp) (fun y => ?_) (by simp) (fun s hs _ => Sb.anti hs fun i hi => by simp at hi)
  · have e6 : PyData.list [rowD w 0#8] = rowsD w [0#8] := rfl
    rcases key with ⟨h1, ρ', h2⟩ | ⟨h1, h2⟩
    · refine ⟨true, by simp [h1], ?_⟩
      simp [b_law_no_sum, rows_ne hw, hne, i0, z0, z1, e6, h2]
    · refine ⟨false, by simp [h1], ?_⟩
      simp [b_law_no_sum, rows_ne hw, hne, i0, z0, z1, e6, h2]
  · constructor
    · intro h
      exact .inr ⟨⟨i, bit_lt h⟩, mem_bitsF.mpr h, rfl⟩
    · rintro (h | ⟨j, hj, rfl⟩)
      · simp at h
      · exact mem_bitsF.mp hj
  · rw [List.mem_singleton]
    constructor
    · rintro rfl
      exact Span.zero
    · rintro ⟨s, s1, rfl⟩
      have : s = 0#8 := Sb.anti s1 fun i hi => by simp at hi
      rw [this, X_zero]
end
end FS

-- part FtRing
set_option Elab.async false
set_option linter.all false
set_option maxRecDepth 100000
set_option maxHeartbeats 4000000
/-! _law_no_ring: pairs of points. -/
namespace FS
open PySem

/-! the dict of lots -/
def kvD (l : List (Nat × List Nat)) : D := .dict ((.none, .bool false) :: l.map fun p => (.int (p.1 : Nat), tupN p.2))
def kget : List (Nat × List Nat) → Nat → Option (List Nat)
  | [], _ => none
  | x :: l, p => if x.1 = p then some x.2 else kget l p
def kset (l : List (Nat × List Nat)) (p : Nat) (c : List Nat) : List (Nat × List Nat) := if (l.any fun q => decide (q.1 = p)) = true then l.map (fun q => if q.1 = p then (q.1, c) else q) else l ++ [(p, c)]
/-- a point's lot -/
def cls (l : List (Nat × List Nat)) (p : Nat) : List Nat := (kget l p).getD [p]
theorem look_kv (p : Nat) : ∀ l : List (Nat × List Nat), lookD (.int (p : Nat)) (l.map fun q => (PyData.int (q.1 : Nat), tupN q.2)) = (kget l p).map tupN
  | [] => rfl
  | q :: l => by
    show (if PyData.eqv (.int q.1) (.int p) then some (tupN q.2) else lookD _ _) = Option.map tupN (if q.1 = p then some q.2 else kget l p)
    rw [eqv_nat, look_kv p l]
    by_cases h : q.1 = p <;> simp [h]
@[simp] theorem kind_kv (l : List (Nat × List Nat)) : kindD (kvD l) = some (false, l.map fun q => (PyData.int (q.1 : Nat), tupN q.2)) := rfl
@[simp] theorem dget_kv (l : List (Nat × List Nat)) (p : Nat) : dgetD (kvD l) (.int (p : Nat)) = some ((kget l p).map tupN) := by
  show (if keyFor false (.int (p : Int)) then some (lookD _ _) else none) = _
  rw [look_kv]; rfl
theorem put_kv (l : List (Nat × List Nat)) (p : Nat) (c : List Nat) : putD (.int (p : Nat)) (tupN c) (l.map fun q => (PyData.int (q.1 : Nat), tupN q.2)) = (kset l p c).map fun q => (PyData.int (q.1 : Nat), tupN q.2) := by
  unfold putD kset
  have e : (l.map fun q => (PyData.int (q.1 : Nat), tupN q.2)).any (fun q => PyData.eqv q.1 (.int (p : Nat))) = l.any fun q => decide (q.1 = p) := by
    rw [List.any_map]
    congr 1
    funext q
    exact eqv_nat _ _
  rw [e]
  by_cases h : (l.any fun q => decide (q.1 = p)) = true
  · rw [if_pos h, if_pos h, List.map_map, List.map_map]
    congr 1
    funext q
    show (if PyData.eqv (.int (q.1 : Nat)) (.int (p : Nat)) = true then _ else _) = _
    rw [eqv_nat]
    by_cases h2 : q.1 = p <;> simp [h2]
  · rw [if_neg h, if_neg h]
    simp
theorem store_kv {l : List (Nat × List Nat)} (p : Nat) (c : List Nat) (h : l.length < 16777216) : storeD (kvD l) (.int (p : Nat)) (tupN c) = some (kvD (kset l p c)) := by
  show ((some (false, l.map fun q => (PyData.int (q.1 : Nat), tupN q.2))).bind fun q => if keyFor q.1 (PyData.int (p : Nat)) = true ∧ q.2.length < sizeLine then some (PyData.dict ((.none, .bool q.1) :: putD (.int (p : Nat)) (tupN c) q.2)) else none) = _
  simp only [Option.bind_some]
  rw [if_pos ⟨rfl, by rw [List.length_map, sizeLine_val]; exact h⟩, put_kv]
  rfl
theorem kget_map (p q : Nat) (c : List Nat) : ∀ l : List (Nat × List Nat), kget (l.map fun q => if q.1 = p then (q.1, c) else q) q = if p = q then (kget l p).map (fun _ => c) else kget l q
  | [] => by simp [kget]
  | x :: l => by
    have ih := kget_map p q c l
    show kget ((if x.1 = p then (x.1, c) else x) :: l.map _) q = _
    show (if (if x.1 = p then (x.1, c) else x).1 = q then some (if x.1 = p then (x.1, c) else x).2 else kget (l.map _) q) = if p = q then Option.map (fun _ => c) (if x.1 = p then some x.2 else kget l p) else if x.1 = q then some x.2 else kget l q
    rw [ih]
    by_cases hx : x.1 = p
    · by_cases hq : p = q
      · simp [hx, hq]
      · simp [hx, hq]
    · by_cases hq : p = q
      · subst hq
        simp [hx]
      · simp [hx, hq]
theorem kget_any (p : Nat) : ∀ l : List (Nat × List Nat), (l.any fun q => decide (q.1 = p)) = (kget l p).isSome
  | [] => rfl
  | x :: l => by
    rw [List.any_cons, kget_any p l]
    show _ = (if x.1 = p then some x.2 else kget l p).isSome
    by_cases hx : x.1 = p <;> simp [hx]
theorem kget_app (q : Nat) (x : Nat × List Nat) : ∀ l : List (Nat × List Nat), kget (l ++ [x]) q = (kget l q).or (if x.1 = q then some x.2 else none)
  | [] => by simp [kget]
  | y :: l => by
    show (if y.1 = q then some y.2 else kget (l ++ [x]) q) = Option.or (if y.1 = q then some y.2 else kget l q) _
    rw [kget_app q x l]
    by_cases hx : y.1 = q <;> simp [hx]
theorem kget_set (l : List (Nat × List Nat)) (p q : Nat) (c : List Nat) : kget (kset l p c) q = if p = q then some c else kget l q := by
  unfold kset
  rw [kget_any]
  by_cases h : (kget l p).isSome = true
  · rw [if_pos h, kget_map]
    by_cases hq : p = q
    · obtain ⟨y, hy⟩ := Option.isSome_iff_exists.mp h
      simp [hq, hy]
      rw [← hq, hy]
      exact ⟨y, rfl⟩
    · simp [hq]
  · rw [if_neg h, kget_app]
    by_cases hq : p = q
    · subst hq
      have : kget l p = none := by simpa using h
      simp [this]
    · simp [hq]
theorem cls_set (l : List (Nat × List Nat)) (p q : Nat) (c : List Nat) : cls (kset l p c) q = if p = q then c else cls l q := by
  unfold cls
  rw [kget_set]
  split <;> rfl
theorem kset_len (l : List (Nat × List Nat)) (p : Nat) (c : List Nat) : (kset l p c).length ≤ l.length + 1 := by
  unfold kset
  split <;> simp
section
variable {call : Nat → List D → M D}
theorem ring_inner {c : List Nat} {s0 s1 s3 s4 s5 s6 s7 : Sl} : ∀ (xs : List Nat) (l : List (Nat × List Nat)) (s9 : Sl), l.length + xs.length < 16777216 → ∃ s9', forL (evSs call b_law_no_ring_l1) (.one 9) (xs.map fun i => .int (i : Nat)) [s0, s1, .ow (kvD l), s3, s4, s5, s6, s7, .da (tupN c), s9] = M.ret (.nx [s0, s1, .ow (kvD (xs.foldl (fun l p => kset l p c) l)), s3, s4, s5, s6, s7, .da (tupN c), s9'])
  | [], l, s9, _ => ⟨s9, rfl⟩
  | x :: xs, l, s9, h => by
    rw [List.length_cons] at h
    have hl := kset_len l x c
    obtain ⟨s9', e⟩ := ring_inner (c := c) (s0 := s0) (s1 := s1) (s3 := s3) (s4 := s4) (s5 := s5) (s6 := s6) (s7 := s7) xs (kset l x c) (.da (.int x)) (by omega)
    refine ⟨s9', ?_⟩
    rw [List.map_cons, forL_cons, setTg_one, stepO_s]
    have e2 : evSs call b_law_no_ring_l1 [s0, s1, .ow (kvD l), s3, s4, s5, s6, s7, .da (tupN c), .da (.int x)] = M.ret (.nx [s0, s1, .ow (kvD (kset l x c)), s3, s4, s5, s6, s7, .da (tupN c), .da (.int x)]) := by
      simp [b_law_no_ring_l1, store_kv x c (by omega : l.length < 16777216)]
    show M.bnd (evSs call b_law_no_ring_l1 [s0, s1, .ow (kvD l), s3, s4, s5, s6, s7, .da (tupN c), .da (.int x)]) _ = _
    rw [e2]
    exact e
theorem cls_fold (c : List Nat) : ∀ (xs : List Nat) (l : List (Nat × List Nat)) (q : Nat), cls (xs.foldl (fun l p => kset l p c) l) q = if q ∈ xs then c else cls l q
  | [], l, q => by simp
  | x :: xs, l, q => by
    show cls (xs.foldl _ (kset l x c)) q = _
    rw [cls_fold c xs, cls_set]
    by_cases h : q ∈ xs
    · simp [h]
    · by_cases h2 : x = q
      · simp [h2]
      · have : ¬ q = x := fun z => h2 z.symm
        simp [h, h2, this]
theorem fold_len (c : List Nat) : ∀ (xs : List Nat) (l : List (Nat × List Nat)), (xs.foldl (fun l p => kset l p c) l).length ≤ l.length + xs.length
  | [], l => Nat.le_refl _
  | x :: xs, l => by
    show (xs.foldl _ (kset l x c)).length ≤ _
    have h1 := fold_len c xs (kset l x c)
    have h2 := kset_len l x c
    rw [List.length_cons]
    omega
def pairP (p : Nat × Nat) : D := .tuple [.int (p.1 : Nat), .int (p.2 : Nat)]
def endsD (l : List (Nat × Nat)) : D := .list (l.map pairP)
theorem idx_ends {l : List (Nat × Nat)} {i : Nat} {p : Nat × Nat} (h : l[i]? = some p) : idxD (endsD l) (.int (i : Nat)) = some (pairP p) := by
  show L2.atI (l.map pairP) i = _
  rw [atI_nat, List.getElem?_map, h]; rfl
theorem in_nats (l : List Nat) (p : Nat) : inD (.int (p : Nat)) (tupN l) = some (.bool (decide (p ∈ l))) := by
  rw [in_tupN]
  congr 2
  rw [Bool.eq_iff_iff]
  simp
theorem add_tupN {a b : List Nat} (h : a.length + b.length ≤ 1000000) : addD (tupN a) (tupN b) = some (tupN (a ++ b)) := by
  show (if (a.map fun i : Nat => PyData.int i).length + (b.map fun i : Nat => PyData.int i).length ≤ sizeLine then some (PyData.tuple _) else none) = _
  rw [if_pos (size_ge (by simp only [List.length_map]; exact h)), ← List.map_append]
  rfl
theorem get_tup (l : List (Nat × List Nat)) (p : Nat) : ((kget l p).map tupN).getD (.tuple [.int (p : Nat)]) = tupN (cls l p) := by
  unfold cls
  cases kget l p <;> rfl
theorem ring_turn {ends : List (Nat × Nat)} {i : Fin 8} {a b : Nat} {l : List (Nat × List Nat)} {s4 s5 s6 s7 s8 s9 : Sl} {m : B8} (hx : ends[i.val]? = some (a, b)) (h1 : (cls l a).length + (cls l b).length ≤ 1000) (h2 : l.length ≤ 1000000) :
    ∃ t4 t5 t6 t7 t8 t9, evSs call b_law_no_ring_l0 [.da (endsD ends), .da (enc m), .ow (kvD l), .da (.int i.val), s4, s5, s6, s7, s8, s9] = M.ret (if b ∈ cls l a then .rt (.bool false) else .nx [.da (endsD ends), .da (enc m), .ow (kvD ((cls l a ++ cls l b).foldl (fun l' p => kset l' p (cls l a ++ cls l b)) l)), .da (.int i.val), t4, t5, t6, t7, t8, t9]) := by
  obtain ⟨s9', e⟩ := ring_inner (call := call) (c := cls l a ++ cls l b) (s0 := .da (endsD ends)) (s1 := .da (enc m)) (s3 := .da (.int i.val)) (s4 := .da (.int a)) (s5 := .da (.int b)) (s6 := .da (tupN (cls l a))) (s7 := .da (tupN (cls l b))) (cls l a ++ cls l b) l s9 (by rw [List.length_append]; omega)
  have e2 := add_tupN (a := cls l a) (b := cls l b) (by omega)
  have e3 : itemsD (tupN (cls l a ++ cls l b)) = some ((cls l a ++ cls l b).map fun i => .int (i : Nat)) := rfl
  refine ⟨.da (.int a), .da (.int b), .da (tupN (cls l a)), .da (tupN (cls l b)), .da (tupN (cls l a ++ cls l b)), s9', ?_⟩
  simp [b_law_no_ring_l0, idx_ends hx, pairP, get_tup, in_nats, e2, e3, -List.map_append, -List.foldl_append]
  by_cases h : b ∈ cls l a
  · simp [h]
  · simp only [h, if_false]
    rw [e]
    simp [-List.map_append, -List.foldl_append]
end
/-! lots and sums -/
def maskL : List Nat → B8
  | [] => 0#8
  | i :: r => one i ||| maskL r
theorem bit_maskL (j : Nat) : ∀ l, (maskL l).getLsbD j = (decide (j < 8) && decide (j ∈ l))
  | [] => by simp [maskL]
  | i :: r => by
    show (one i ||| maskL r).getLsbD j = _
    rw [bit_or, bit_one, bit_maskL j r]
    by_cases h : i = j
    · subst h
      by_cases h8 : i < 8 <;> simp [h8]
    · have : ¬ j = i := fun z => h z.symm
      simp [h, this]
theorem pc_xor2 (a b c : B8) : pc ((a ^^^ b) &&& c) % 2 = (pc (a &&& c) + pc (b &&& c)) % 2 := by
  have h : ∀ x y z : Bool, ((x ^^ y) && z).toNat + 2 * ((x && y) && z).toNat = (x && z).toNat + (y && z).toNat := fun x y z => by cases x <;> cases y <;> cases z <;> rfl
  have g := fun i => h (a.getLsbD i) (b.getLsbD i) (c.getLsbD i)
  have e : pc ((a ^^^ b) &&& c) + 2 * pc ((a &&& b) &&& c) = pc (a &&& c) + pc (b &&& c) := by
    simp only [pc_sum, bit_xor, bit_and]
    have h0 := g 0; have h1 := g 1; have h2 := g 2; have h3 := g 3; have h4 := g 4; have h5 := g 5; have h6 := g 6; have h7 := g 7
    omega
  omega
theorem pc_one_and (i : Nat) (c : B8) (hi : i < 8) : pc (one i &&& c) = (c.getLsbD i).toNat := by
  cases q : c.getLsbD i with
  | true =>
    rw [BitVec.and_comm, and_sing q, pc_one hi]; rfl
  | false =>
    have : one i &&& c = 0#8 := B8.ext fun j => by
      rw [bit_and, bit_one]
      by_cases z : i = j
      · subst z
        simp [q]
      · simp [z]
    rw [this, pc_zero]; rfl
/-- what the lots tell of the things that are done -/
structure Lots (v : Nat → B8) (done : B8) (l : List (Nat × List Nat)) : Prop where
  own : ∀ p, p ∈ cls l p
  same : ∀ p q, q ∈ cls l p → cls l q = cls l p
  low : ∀ p q, p < 8 → q ∈ cls l p → q < 8
  sp : ∀ p q, p < 8 → q ∈ cls l p → Span v done (one p ^^^ one q)
  ev : ∀ x, Span v done x → ∀ p, p < 8 → pc (x &&& maskL (cls l p)) % 2 = 0
theorem lots0 (v : Nat → B8) : Lots v 0#8 [] where
  own := fun p => List.mem_singleton.mpr rfl
  same := fun p q h => by rw [List.mem_singleton.mp h]
  low := fun p q hp h => by rw [List.mem_singleton.mp h]; exact hp
  sp := fun p q _ h => by
    rw [List.mem_singleton.mp h, BitVec.xor_self]
    exact Span.zero
  ev := fun x h p _ => by
    obtain ⟨s, s1, rfl⟩ := h
    have : s = 0#8 := Sb.anti s1 fun i hi => by simp at hi
    rw [this, X_zero, BitVec.zero_and, pc_zero]
theorem Span.mono {v : Nat → B8} {m k x : B8} (h : Span v m x) (s : Sb m k) : Span v k x := by
  obtain ⟨t, t1, t2⟩ := h
  exact ⟨t, t1.trans s, t2⟩
theorem span_add {v : Nat → B8} {done x : B8} {i : Nat} (hi : i < 8) (h : Span v (done ||| one i) x) : ∃ y, Span v done y ∧ (x = y ∨ x = y ^^^ v i) := by
  obtain ⟨s, s1, rfl⟩ := h
  cases q : s.getLsbD i with
  | false =>
    refine ⟨X v s, ⟨s, fun j hj => ?_, rfl⟩, .inl rfl⟩
    have := s1 j hj
    rw [bit_or, bit_one] at this
    by_cases z : i = j
    · subst z
      rw [q] at hj; cases hj
    · simpa [z] using this
  | true =>
    refine ⟨X v (s ^^^ one i), ⟨s ^^^ one i, fun j hj => ?_, rfl⟩, .inr ?_⟩
    · rw [bit_xor, bit_one] at hj
      by_cases z : i = j
      · subst z
        rw [q] at hj
        simp [hi] at hj
      · simp only [z, decide_false, Bool.and_false, Bool.xor_false] at hj
        have := s1 j hj
        rw [bit_or, bit_one] at this
        simpa [z] using this
    · rw [X_xor, X_one v hi, BitVec.xor_assoc, BitVec.xor_self, BitVec.xor_zero]
section
variable {v : Nat → B8} {done : B8} {l : List (Nat × List Nat)} {a b i : Nat}
theorem span_edge (L : Lots v done l) (a8 : a < 8) (b8 : b < 8) : Span v done (one a ^^^ one b) ↔ b ∈ cls l a := by
  refine ⟨fun h => ?_, fun h => L.sp a b a8 h⟩
  have e := L.ev _ h a a8
  rw [pc_xor2, pc_one_and a _ a8, pc_one_and b _ b8, bit_maskL, bit_maskL] at e
  have h1 := L.own a
  apply Classical.byContradiction
  intro z
  simp [a8, b8, h1, z] at e
theorem lots_step (L : Lots v done l) (a8 : a < 8) (b8 : b < 8) (i8 : i < 8) (hv : v i = one a ^^^ one b) (h : ¬ b ∈ cls l a) : Lots v (done ||| one i) ((cls l a ++ cls l b).foldl (fun l' p => kset l' p (cls l a ++ cls l b)) l) := by
  have cl : ∀ q, cls ((cls l a ++ cls l b).foldl (fun l' p => kset l' p (cls l a ++ cls l b)) l) q = if q ∈ cls l a ++ cls l b then cls l a ++ cls l b else cls l q := cls_fold _ _ _
  have apart : ∀ q, q ∈ cls l a → q ∈ cls l b → False := fun q h1 h2 => by
    have e1 := L.same a q h1
    have e2 := L.same b q h2
    exact h (by rw [← e1, e2]; exact L.own b)
  have out : ∀ p q, ¬ p ∈ cls l a ++ cls l b → q ∈ cls l p → ¬ q ∈ cls l a ++ cls l b := fun p q hp hq z => by
    rcases List.mem_append.mp z with z | z
    · have := L.same a q z
      rw [L.same p q hq] at this
      exact hp (List.mem_append_left _ (by rw [← this]; exact L.own p))
    · have := L.same b q z
      rw [L.same p q hq] at this
      exact hp (List.mem_append_right _ (by rw [← this]; exact L.own p))
  have up : Sb done (done ||| one i) := sb_or1 _ _
  have ed : Span v (done ||| one i) (one a ^^^ one b) := ⟨one i, sb_or2 _ _, by rw [X_one v i8, hv]⟩
  have toA : ∀ q, q ∈ cls l a ++ cls l b → Span v (done ||| one i) (one a ^^^ one q) := fun q hq => by
    rcases List.mem_append.mp hq with z | z
    · exact (L.sp a q a8 z).mono up
    · have := Span.add ed ((L.sp b q b8 z).mono up)
      have e : (one a ^^^ one b) ^^^ (one b ^^^ one q) = one a ^^^ one q := by
        rw [BitVec.xor_assoc, ← BitVec.xor_assoc (one b) (one b), BitVec.xor_self, BitVec.zero_xor]
      rw [e] at this
      exact this
  refine ⟨fun p => ?_, fun p q hq => ?_, fun p q hp hq => ?_, fun p q hp hq => ?_, fun x hx p hp => ?_⟩
  · rw [cl]
    split
    · assumption
    · exact L.own p
  · rw [cl] at hq
    rw [cl, cl]
    split at hq
    · rename_i hp
      rw [if_pos hq, if_pos hp]
    · rename_i hp
      rw [if_neg (out p q hp hq), if_neg hp, L.same p q hq]
  · rw [cl] at hq
    split at hq
    · rcases List.mem_append.mp hq with z | z
      · exact L.low a q a8 z
      · exact L.low b q b8 z
    · exact L.low p q hp hq
  · rw [cl] at hq
    split at hq
    · rename_i hp2
      have := Span.add (toA p hp2) (toA q hq)
      have e : (one a ^^^ one p) ^^^ (one a ^^^ one q) = one p ^^^ one q := by
        rw [xor4, BitVec.xor_self, BitVec.zero_xor]
      rw [e] at this
      exact this
    · exact (L.sp p q hp hq).mono up
  · rw [cl]
    obtain ⟨y, y1, y2⟩ := span_add i8 hx
    by_cases hp2 : p ∈ cls l a ++ cls l b
    · rw [if_pos hp2]
      have em : maskL (cls l a ++ cls l b) = maskL (cls l a) ^^^ maskL (cls l b) := B8.ext fun j => by
        rw [bit_xor, bit_maskL, bit_maskL, bit_maskL]
        by_cases j8 : j < 8
        · by_cases z1 : j ∈ cls l a
          · have z2 : ¬ j ∈ cls l b := fun z => apart j z1 z
            simp [z1, z2]
          · simp [z1]
        · simp [j8]
      have par : ∀ x, pc (x &&& maskL (cls l a ++ cls l b)) % 2 = (pc (x &&& maskL (cls l a)) + pc (x &&& maskL (cls l b))) % 2 := fun x => by
        rw [em, BitVec.and_comm, pc_xor2, BitVec.and_comm _ x, BitVec.and_comm _ x]
      have ya := L.ev y y1 a a8
      have yb := L.ev y y1 b b8
      rcases y2 with rfl | rfl
      · rw [par]
        omega
      · rw [par]
        have ea := pc_xor2 y (v i) (maskL (cls l a))
        have eb := pc_xor2 y (v i) (maskL (cls l b))
        have va := pc_xor2 (one a) (one b) (maskL (cls l a))
        have vb := pc_xor2 (one a) (one b) (maskL (cls l b))
        rw [pc_one_and a _ a8, pc_one_and b _ b8, bit_maskL, bit_maskL] at va vb
        have a1 := L.own a
        have b1 := L.own b
        have a2 : ¬ a ∈ cls l b := fun z => apart a a1 z
        simp [a8, b8, a1, h] at va
        simp [a8, b8, b1, a2] at vb
        rw [hv] at ea eb
        rw [hv]
        omega
    · rw [if_neg hp2]
      have ya := L.ev y y1 p hp
      rcases y2 with rfl | rfl
      · exact ya
      · have ea := pc_xor2 y (v i) (maskL (cls l p))
        have va := pc_xor2 (one a) (one b) (maskL (cls l p))
        rw [pc_one_and a _ a8, pc_one_and b _ b8, bit_maskL, bit_maskL] at va
        have a2 : ¬ a ∈ cls l p := fun z => out p a hp2 z (List.mem_append_left _ (L.own a))
        have b2 : ¬ b ∈ cls l p := fun z => out p b hp2 z (List.mem_append_right _ (L.own b))
        simp [a2, b2] at va
        rw [hv] at ea
        rw [hv]
        omega
end
section
variable {call : Nat → List D → M D}
theorem ring_loop {ends : List (Nat × Nat)} {v : Nat → B8} (hr : ∀ i : Nat, i < ends.length → ∃ a b, ends[i]? = some (a, b) ∧ a < 8 ∧ b < 8 ∧ v i = one a ^^^ one b) {m : B8} (hm : ∀ i, m.getLsbD i = true → i < ends.length) : ∀ (rest : List (Fin 8)) (done : B8) (l : List (Nat × List Nat)) (k : Nat) (s3 s4 s5 s6 s7 s8 s9 : Sl),
    rest.Nodup → (∀ i, m.getLsbD i = true ↔ done.getLsbD i = true ∨ ∃ j ∈ rest, j.val = i) → (∀ j ∈ rest, done.getLsbD j.val = false) → Lots v done l → k + rest.length ≤ 8 → (∀ p, (cls l p).length ≤ 2 ^ k) → l.length ≤ k * 1000 → Indep v done →
    (Indep v m ∧ ∃ ρ', forL (evSs call b_law_no_ring_l0) (.one 3) (rest.map fun i => .int (i.val : Nat)) [.da (endsD ends), .da (enc m), .ow (kvD l), s3, s4, s5, s6, s7, s8, s9] = M.ret (.nx ρ')) ∨
    (¬ Indep v m ∧ forL (evSs call b_law_no_ring_l0) (.one 3) (rest.map fun i => .int (i.val : Nat)) [.da (endsD ends), .da (enc m), .ow (kvD l), s3, s4, s5, s6, s7, s8, s9] = M.ret (.rt (.bool false)))
  | [], done, l, k, s3, s4, s5, s6, s7, s8, s9, _, h1, _, _, _, _, _, h5 => by
    have : m = done := B8.ext fun i => by
      rw [Bool.eq_iff_iff, h1]
      simp
    subst this
    exact .inl ⟨h5, _, rfl⟩
  | i :: rest, done, l, k, s3, s4, s5, s6, s7, s8, s9, nd, h1, h2, L, hk, hc, hl, h5 => by
    have nd := List.nodup_cons.mp nd
    rw [List.length_cons] at hk
    have mi : m.getLsbD i.val = true := (h1 i.val).mpr (.inr ⟨i, List.mem_cons_self, rfl⟩)
    have di := h2 i List.mem_cons_self
    obtain ⟨a, b, e1, a8, b8, hv⟩ := hr i.val (hm i.val mi)
    have ca := hc a
    have cb := hc b
    have p2 : 2 ^ k ≤ 2 ^ 7 := Nat.pow_le_pow_right (by omega) (by omega)
    obtain ⟨t4, t5, t6, t7, t8, t9, turn⟩ := ring_turn (call := call) (i := i) (l := l) (s4 := s4) (s5 := s5) (s6 := s6) (s7 := s7) (s8 := s8) (s9 := s9) (m := m) e1 (by omega) (by omega)
    rw [List.map_cons, forL_cons, setTg_one, stepO_s]
    show (_ ∧ ∃ ρ', M.bnd (evSs call b_law_no_ring_l0 [.da (endsD ends), .da (enc m), .ow (kvD l), .da (.int i.val), s4, s5, s6, s7, s8, s9]) _ = _) ∨ (_ ∧ M.bnd (evSs call b_law_no_ring_l0 [.da (endsD ends), .da (enc m), .ow (kvD l), .da (.int i.val), s4, s5, s6, s7, s8, s9]) _ = _)
    rw [turn]
    have iff := (span_edge L a8 b8 : Span v done (one a ^^^ one b) ↔ _)
    rw [← hv] at iff
    by_cases hx : b ∈ cls l a
    · refine .inr ⟨fun q => ?_, by rw [if_pos hx]; rfl⟩
      have k2 : Indep v (done ||| one i.val) := q.sub fun j hj => by
        rw [h1]
        rw [bit_or, bit_one] at hj
        simp only [Bool.or_eq_true, Bool.and_eq_true, decide_eq_true_eq] at hj
        rcases hj with hj | hj
        · exact .inl hj
        · exact .inr ⟨i, List.mem_cons_self, hj.2⟩
      exact (indep_add i.isLt di h5).mp k2 (iff.mpr hx)
    · rw [if_neg hx]
      have h5' : Indep v (done ||| one i.val) := (indep_add i.isLt di h5).mpr fun z => hx (iff.mp z)
      have lf := fold_len (cls l a ++ cls l b) (cls l a ++ cls l b) l
      rw [List.length_append] at lf
      refine ring_loop hr hm rest (done ||| one i.val) _ (k + 1) _ _ _ _ _ _ _ nd.2 (fun j => ?_) (fun j hj => ?_) (lots_step L a8 b8 i.isLt hv hx) (by omega) (fun p => ?_) (by omega) h5'
      · rw [h1, bit_or, bit_one]
        simp only [List.mem_cons, Bool.or_eq_true, Bool.and_eq_true, decide_eq_true_eq]
        constructor
        · rintro (h | ⟨k, rfl | hk, rfl⟩)
          · exact .inl (.inl h)
          · exact .inl (.inr ⟨k.isLt, rfl⟩)
          · exact .inr ⟨k, hk, rfl⟩
        · rintro ((h | h) | ⟨k, hk, rfl⟩)
          · exact .inl h
          · exact .inr ⟨i, .inl rfl, h.2⟩
          · exact .inr ⟨k, .inr hk, rfl⟩
      · rw [bit_or, bit_one, h2 j (List.mem_cons_of_mem _ hj)]
        have : i.val ≠ j.val := fun z => nd.1 (by rw [show i = j from Fin.ext z]; exact hj)
        simp [this]
      · rw [cls_fold, Nat.pow_succ]
        split
        · rw [List.length_append]
          omega
        · have := hc p
          omega
theorem L_law_no_ring {ends : List (Nat × Nat)} {v : Nat → B8} (hr : ∀ i : Nat, i < ends.length → ∃ a b, ends[i]? = some (a, b) ∧ a < 8 ∧ b < 8 ∧ v i = one a ^^^ one b) {m : B8} (hm : ∀ i, m.getLsbD i = true → i < ends.length) :
    ∃ b, (b = true ↔ Indep v m) ∧ evSs call b_law_no_ring [.da (endsD ends), .da (enc m), .no, .no, .no, .no, .no, .no, .no, .no] = M.ret (.rt (.bool b)) := by
  have l8 : (bitsF m).length ≤ 8 := by
    have := pc_le m
    unfold pc at this
    rw [bits_F, List.length_map] at this
    exact this
  have key := ring_loop (call := call) hr hm (bitsF m) 0#8 [] 0 .no .no .no .no .no .no .no (bitsF_nodup m) (fun i => ?_) (fun j _ => by simp) (lots0 v) (by omega) (fun p => Nat.le_refl 1) (Nat.le_refl 0) (fun s hs _ => Sb.anti hs fun i hi => by simp at hi)
  · have e6 : PyData.dict [(.none, .bool false)] = kvD [] := rfl
    have e7 : isOwn (kvD []) = true := rfl
    rcases key with ⟨h1, ρ', h2⟩ | ⟨h1, h2⟩
    · refine ⟨true, by simp [h1], ?_⟩
      simp [b_law_no_ring, e6, e7, h2]
    · refine ⟨false, by simp [h1], ?_⟩
      simp [b_law_no_ring, e6, e7, h2]
  · constructor
    · intro h
      exact .inr ⟨⟨i, bit_lt h⟩, mem_bitsF.mpr h, rfl⟩
    · rintro (h | ⟨j, hj, rfl⟩)
      · simp at h
      · exact mem_bitsF.mp hj
end
end FS

-- part FtBases
set_option Elab.async false
set_option linter.all false
set_option maxRecDepth 100000
set_option maxHeartbeats 4000000
/-! _law_bases: what is drawn is a system. -/
namespace FS
open PySem

theorem Sat.compO {α β : Type} {f : α → M (Option β)} {P : β → Prop} : ∀ {xs : List α}, (∀ x ∈ xs, Sat (f x) fun o => ∃ y, o = some y ∧ P y) → Sat (compA f xs) fun ys => ys.length = xs.length ∧ ∀ y ∈ ys, P y
  | [], _ => Sat.ret ⟨rfl, fun _ h => by cases h⟩
  | x :: xs, h => by
    refine Sat.bnd (h x List.mem_cons_self) fun o ho => ?_
    obtain ⟨y, rfl, hy⟩ := ho
    refine Sat.bnd (Sat.compO fun z hz => h z (List.mem_cons_of_mem _ hz)) fun ys hys => ?_
    refine Sat.ret ⟨by simp [hys.1], fun z hz => ?_⟩
    rcases List.mem_cons.mp hz with rfl | hz
    · exact hy
    · exact hys.2 z hz
theorem of_all {α : Type} {f : α → D} {Q : α → Prop} : ∀ {ds : List D}, (∀ d ∈ ds, ∃ a, d = f a ∧ Q a) → ∃ l : List α, ds = l.map f ∧ ∀ a ∈ l, Q a
  | [], _ => ⟨[], rfl, fun _ h => by cases h⟩
  | d :: ds, h => by
    obtain ⟨a, rfl, ha⟩ := h d List.mem_cons_self
    obtain ⟨l, rfl, hl⟩ := of_all fun d hd => h d (List.mem_cons_of_mem _ hd)
    refine ⟨a :: l, rfl, fun b hb => ?_⟩
    rcases List.mem_cons.mp hb with rfl | hb
    · exact ha
    · exact hl b hb
/-- names at hand -/
def nm8 : List Str := ["a", "a1", "b", "c2", "d", "dd", "e", "f"]
def nm8' : List Str := ["ant", "bee", "cow", "dog", "eel", "fox", "gnu", "hen"]
theorem nm8_ok : nm8.all nameOk = true ∧ nm8'.all nameOk = true := by decide +kernel
theorem nm8_asc : (nm8.zip nm8.tail).all (fun p => ltT p.1 p.2) = true ∧ (nm8'.zip nm8'.tail).all (fun p => ltT p.1 p.2) = true := by decide +kernel
theorem ltT_trans (a b c : Str) (h1 : ltT a b = true) (h2 : ltT b c = true) : ltT a c = true := by
  unfold ltT at *
  rw [decide_eq_true_eq] at *
  exact List.lt_trans h1 h2
theorem nm_take {l : List Str} (h1 : l.all nameOk = true) (h2 : (l.zip l.tail).all (fun p => ltT p.1 p.2) = true) (n : Nat) : (l.take n).all nameOk = true ∧ (l.take n).Pairwise fun x y => ltT x y = true :=
  ⟨List.all_eq_true.mpr fun x hx => List.all_eq_true.mp h1 x (List.mem_of_mem_take hx), (pw_of_links (R := ltT) ltT_trans h2).sublist (List.take_sublist _ _)⟩
theorem okB_dual {n : Nat} (n1 : 1 ≤ n) (n6 : n ≤ 6) {B : List B8} (h : OkB n B) : OkB n (sortB (B.map fun b => less (full n) b)) := by
  have hl : (nm8.take n).length = n := by
    rw [List.length_take]
    have : nm8.length = 8 := rfl
    omega
  obtain ⟨t1, t2⟩ := nm_take nm8_ok.1 nm8_asc.1 n
  have ok := OkB.ok (nm := nm8.take n) (B := B) (by rw [hl]; exact h) (by omega) (by omega) t1 t2
  have dk := dual_ok ok
  have en : Sys.n ⟨nm8.take n, B⟩ = n := hl
  have eB : (dualS ⟨nm8.take n, B⟩).B = sortB (B.map fun b => less (full n) b) := by
    unfold dualS
    rw [en]
  rw [← eB]
  refine ⟨dk.ne, dk.asc, fun b hb => ?_, ?_, dk.eqv, dk.exch⟩
  · have := dk.sub b hb
    rwa [dual_n, en] at this
  · rw [eB, length_sortB, List.length_map]
    exact h.most
section
variable {call : Nat → List D → M D}
/-- what a roll gives -/
def RollC (call : Nat → List D → M D) (c : Nat) : Prop := ∀ n : Nat, 0 < n → n < 1000000 → Sat (call c [cupD, .int (n : Nat)]) fun d => ∃ r : Nat, r < n ∧ d = .int (r : Nat)
def TopsC (call : Nat → List D → M D) (c : Nat) : Prop := ∀ l : List B8, l ≠ [] → (l.filter fun m => decide (pc m = maxN (l.map pc))).length < 64 → call c [famL l] = M.ret (famT (topsB l))
theorem roll_lit {c : Nat} (h : RollC call c) (k : Int) (n : Nat) (e : k = n) (h0 : 0 < n) (h1 : n < 1000000) : Sat (call c [cupD, .int k]) fun d => ∃ r : Nat, r < n ∧ d = .int (r : Nat) := by
  subst e
  exact h n h0 h1
theorem tops_ind {c n : Nat} (h : TopsC call c) (n6 : n ≤ 6) {p : B8 → Bool} (hp : Ind n p) : Sat (call c [famL ((allS n).filter p)]) fun d => ∃ B, d = famT B ∧ OkB n B := by
  obtain ⟨h1, h2, h3⟩ := okB_ind n6 hp
  rw [h _ h2 h3]
  exact Sat.ret ⟨_, rfl, h1⟩
theorem Ind.congr {n : Nat} {p q : B8 → Bool} (h : Ind n p) (e : ∀ m, p m = q m) : Ind n q := by
  have : p = q := funext e
  subst this
  exact h
theorem fin_tops {c n : Nat} (h : TopsC call c) (n6 : n ≤ 6) {p : B8 → Bool} (hp : Ind n p) : Sat (M.bnd (call c [famL ((allS n).filter p)]) fun d => M.ret (Fl.rt d)) fun f => ∃ v, f = .rt v ∧ ∃ B, v = famT B ∧ OkB n B :=
  Sat.bnd (tops_ind h n6 hp) fun d hd => Sat.ret ⟨d, rfl, hd⟩
theorem row_of : ∀ {js : List (Fin 8)} {ys : List D}, ys.length = js.length → (∀ d ∈ ys, ∃ r : Nat, r < 2 ∧ d = .int (r : Nat)) → js.Nodup → ∃ x : B8, ys = js.map (fun j => bitI x j) ∧ ∀ i, x.getLsbD i = true → ∃ j ∈ js, j.val = i
  | [], [], _, _, _ => ⟨0#8, rfl, fun i hi => by simp at hi⟩
  | j :: js, d :: ys, hl, h, nd => by
    have nd := List.nodup_cons.mp nd
    obtain ⟨x, rfl, hx⟩ := row_of (js := js) (ys := ys) (by simpa using hl) (fun d hd => h d (List.mem_cons_of_mem _ hd)) nd.2
    obtain ⟨r, hr, rfl⟩ := h d List.mem_cons_self
    have xj : x.getLsbD j.val = false := by
      cases q : x.getLsbD j.val with
      | false => rfl
      | true =>
        obtain ⟨k, hk, e⟩ := hx _ q
        exact absurd (Fin.ext e ▸ hk) nd.1
    refine ⟨(if r = 1 then one j.val else 0#8) ||| x, ?_, fun i hi => ?_⟩
    · rw [List.map_cons]
      congr 1
      · unfold bitI
        rw [bit_or, xj]
        have : r = 0 ∨ r = 1 := by omega
        rcases this with rfl | rfl
        · simp
        · rw [if_pos rfl, bit_one, Bool.or_false]
          simp [j.isLt]
      · apply List.map_congr_left
        intro k hk
        have : j.val ≠ k.val := fun z => nd.1 (by rw [show j = k from Fin.ext z]; exact hk)
        unfold bitI
        rw [bit_or]
        split
        · rw [bit_one]
          simp [this]
        · simp
    · rw [bit_or, Bool.or_eq_true] at hi
      rcases hi with hi | hi
      · split at hi
        · simp at hi
          exact ⟨j, List.mem_cons_self, hi⟩
        · simp at hi
      · obtain ⟨k, hk, e⟩ := hx i hi
        exact ⟨k, List.mem_cons_of_mem _ hk, e⟩
theorem rangeF_nodup (n : Nat) : (rangeF n).Nodup := by
  unfold rangeF
  exact (List.nodup_finRange 8).filter _
open Classical in
theorem bases_0 {cs cr ct cg cm cl n : Nat} (n1 : 1 ≤ n) (n6 : n ≤ 6) (hs : call cs [.int (n : Nat)] = M.ret (famL (allS n))) (hr : RollC call cr) (ht : TopsC call ct) (hl : ∀ a b, call cl [enc a, enc b] = M.ret (enc (less a b)))
    (hg : ∀ (l : List (Nat × Nat)) (v : Nat → B8) (m : B8), (∀ i : Nat, i < l.length → ∃ a b, l[i]? = some (a, b) ∧ a < 8 ∧ b < 8 ∧ v i = one a ^^^ one b) → (∀ i, m.getLsbD i = true → i < l.length) → ∃ b, (b = true ↔ Indep v m) ∧ call cg [endsD l, enc m] = M.ret (.bool b))
    (hm : ∀ (w : Nat) (l : List B8) (v : Nat → B8) (m : B8), 1 ≤ w → w ≤ 8 → l ≠ [] → (∀ i : Nat, i < l.length → l[i]? = some (v i)) → (∀ i, Sb (v i) (full w)) → (∀ i, m.getLsbD i = true → i < l.length) → ∃ b, (b = true ↔ Indep v m) ∧ call cm [rowsD w l, enc m] = M.ret (.bool b)) :
    Sat (evSs call (b_law_bases (c__law_sets := cs) (c__law_roll := cr) (c__law_tops := ct) (c__law_no_ring := cg) (c__law_no_sum := cm) (c__law_less := cl)) [.da cupD, .da (.int (n : Nat)), .no, .no, .no, .no, .no, .no, .no, .no, .no, .no, .no, .no, .no, .no, .no]) fun f => ∃ v, f = .rt v ∧ ∃ B, v = famT B ∧ OkB n B := by
  have n8 : n ≤ 8 := by omega
  have rl : (rangeF n).length = n := rangeF_len n8
  simp [b_law_bases, hs]
  refine Sat.bnd (roll_lit hr 6 6 rfl (by omega) (by omega)) fun d hd => ?_
  obtain ⟨way, hway, rfl⟩ := hd
  by_cases w0 : way = 0
  · subst w0
    simp
    refine Sat.bnd (roll_lit hr (n + 1) (n + 1) (by simp) (by omega) (by omega)) fun d hd => ?_
    obtain ⟨r, _, rfl⟩ := hd
    simp
    have hp : Ind n fun m => decide (pc m ≤ r) := by
      have := ind_cut r (ind_all n)
      simpa using this
    exact fin_tops ht n6 hp
  by_cases w1 : way = 1
  · subst w1
    simp [rng8 n8]
    refine Sat.bnd (roll_lit hr 3 3 rfl (by omega) (by omega)) fun d hd => ?_
    obtain ⟨r, r3, rfl⟩ := hd
    simp
    refine Sat.bnd (Sat.nox (Sat.compO (P := fun d => ∃ p : Nat × Nat, d = pairP p ∧ (p.1 < 8 ∧ p.2 < 8)) fun x _ => ?_)) fun ys hys => ?_
    · refine Sat.bnd (roll_lit hr (2 + r) (2 + r) (by simp) (by omega) (by omega)) fun d hd => ?_
      obtain ⟨a, ha, rfl⟩ := hd
      refine Sat.bnd (roll_lit hr (2 + r) (2 + r) (by simp) (by omega) (by omega)) fun d hd => ?_
      obtain ⟨b, hb, rfl⟩ := hd
      exact Sat.ret ⟨_, rfl, (a, b), rfl, by simp only []; omega, by simp only []; omega⟩
    · obtain ⟨l, rfl, hl2⟩ := of_all hys.2
      have ll : l.length = n := by
        have := hys.1
        rw [List.length_map, rl] at this
        exact this
      let v : Nat → B8 := fun i => match l[i]? with
        | some p => one p.1 ^^^ one p.2
        | none => 0#8
      have hv : ∀ i : Nat, i < l.length → ∃ a b, l[i]? = some (a, b) ∧ a < 8 ∧ b < 8 ∧ v i = one a ^^^ one b := fun i hi => by
        have e := List.getElem?_eq_getElem hi
        obtain ⟨h1, h2⟩ := hl2 _ (List.getElem_mem hi)
        refine ⟨l[i].1, l[i].2, e, h1, h2, ?_⟩
        show (match l[i]? with
          | some p => one p.1 ^^^ one p.2
          | none => 0#8) = _
        rw [e]
      rw [compA_mem (g := fun x => if decide (Indep v x) = true then some (enc x) else none) fun x hx => ?_]
      · rw [nox_ret, bnd_ret, fm_if]
        simp only [Bool.decide_eq_true]
        exact fin_tops ht n6 (ind_vec v fun m _ => by simp)
      · rw [mem_allS n8, inN_iff] at hx
        obtain ⟨b, b1, b2⟩ := hg l v x hv fun i hi => by rw [ll]; exact hx i hi
        have b2 : call cg [.list (l.map pairP), enc x] = M.ret (.bool b) := b2
        rw [b2]
        have : b = decide (Indep v x) := by
          rw [Bool.eq_iff_iff, b1, decide_eq_true_eq]
        subst this
        simp
  by_cases w2 : way = 2
  · subst w2
    simp [rng8 n8]
    refine Sat.bnd (roll_lit hr 3 3 rfl (by omega) (by omega)) fun d hd => ?_
    obtain ⟨r, r3, rfl⟩ := hd
    have e1 : rngD [.int (1 + (r : Int))] = some ((rangeF (1 + r)).map fun i => .int (i.val : Nat)) := by
      have := rng8 (n := 1 + r) (by omega)
      rw [← this]
      simp
    simp [e1]
    refine Sat.bnd (Sat.nox (Sat.compO (P := fun d => ∃ x : B8, d = rowD (1 + r) x ∧ Sb x (full (1 + r))) fun x _ => ?_)) fun ys hys => ?_
    · refine Sat.bnd (Sat.nox (Sat.comp (P := fun d => ∃ r : Nat, r < 2 ∧ d = .int (r : Nat)) fun x _ => roll_lit hr 2 2 rfl (by omega) (by omega))) fun zs hzs => ?_
      obtain ⟨y, rfl, hy⟩ := row_of hzs.1 hzs.2 (rangeF_nodup _)
      refine Sat.ret ⟨_, rfl, y, rfl, fun i hi => ?_⟩
      obtain ⟨j, hj, rfl⟩ := hy i hi
      rw [bit_full (by omega)]
      exact decide_eq_true (mem_rangeF.mp hj)
    · obtain ⟨l, rfl, hl2⟩ := of_all hys.2
      have ll : l.length = n := by
        have := hys.1
        rw [List.length_map, rl] at this
        exact this
      have hne : l ≠ [] := fun z => by
        rw [z] at ll
        simp at ll
        omega
      let v : Nat → B8 := fun i => l.getD i 0#8
      have hv : ∀ i : Nat, i < l.length → l[i]? = some (v i) := fun i hi => by
        show _ = some (l.getD i 0#8)
        rw [List.getD_eq_getElem?_getD, List.getElem?_eq_getElem hi]
        rfl
      have hvs : ∀ i, Sb (v i) (full (1 + r)) := fun i => by
        by_cases hi : i < l.length
        · have e := hv i hi
          exact hl2 _ (List.mem_of_getElem? e)
        · have : v i = 0#8 := by
            show l.getD i 0#8 = _
            rw [List.getD_eq_getElem?_getD, List.getElem?_eq_none (by omega)]
            rfl
          rw [this]
          exact fun j hj => by simp at hj
      rw [compA_mem (g := fun x => if decide (Indep v x) = true then some (enc x) else none) fun x hx => ?_]
      · rw [nox_ret, bnd_ret, fm_if]
        simp only [Bool.decide_eq_true]
        exact fin_tops ht n6 (ind_vec v fun m _ => by simp)
      · rw [mem_allS n8, inN_iff] at hx
        obtain ⟨b, b1, b2⟩ := hm (1 + r) l v x (by omega) (by omega) hne hv hvs fun i hi => by rw [ll]; exact hx i hi
        have b2 : call cm [.list (l.map (rowD (1 + r))), enc x] = M.ret (.bool b) := b2
        rw [b2]
        have : b = decide (Indep v x) := by
          rw [Bool.eq_iff_iff, b1, decide_eq_true_eq]
        subst this
        simp
  have e0 : (way : Int) ≠ 0 := by omega
  have e1 : (way : Int) ≠ 1 := by omega
  have e2 : (way : Int) ≠ 2 := by omega
  simp [e0, e1, e2, w0, w1, w2, rng8 n8]
  refine Sat.bnd (Sat.nox (Sat.comp (P := fun d : D => ∃ r : Nat, d = PyData.int (r : Nat) ∧ r < 3) fun x _ => ?_)) fun ys hys => ?_
  · exact (roll_lit hr 3 3 rfl (by omega) (by omega)).mono fun d ⟨r, h1, h2⟩ => ⟨r, h2, h1⟩
  obtain ⟨l, rfl, hl3⟩ := of_all (f := fun r : Nat => PyData.int (r : Nat)) hys.2
  have ll : l.length = n := by
    have := hys.1
    rw [List.length_map, rl] at this
    exact this
  refine Sat.bnd (roll_lit hr 3 3 rfl (by omega) (by omega)) fun d hd => ?_
  obtain ⟨m0, _, rfl⟩ := hd
  refine Sat.bnd (roll_lit hr 3 3 rfl (by omega) (by omega)) fun d hd => ?_
  obtain ⟨m1, _, rfl⟩ := hd
  refine Sat.bnd (roll_lit hr 2 2 rfl (by omega) (by omega)) fun d hd => ?_
  obtain ⟨m2, _, rfl⟩ := hd
  let f : Nat → Nat := fun i => l.getD i 0
  have hf : ∀ i, f i < 3 := fun i => by
    show l.getD i 0 < 3
    rw [List.getD_eq_getElem?_getD]
    cases e : l[i]? with
    | none => simp
    | some r => exact hl3 r (List.mem_of_getElem? e)
  have hidx : ∀ i : Nat, i < n → idxD (PyData.list (l.map fun r : Nat => PyData.int (r : Nat))) (PyData.int (i : Nat)) = some (PyData.int (f i : Nat)) := fun i hi => by
    show L2.atI (l.map _) i = _
    rw [atI_nat, List.getElem?_map, List.getElem?_eq_getElem (by omega : i < l.length)]
    show some _ = some (PyData.int (l.getD i 0 : Nat))
    rw [List.getD_eq_getElem?_getD, List.getElem?_eq_getElem (by omega : i < l.length)]
    rfl
  let L : Fin 3 → B8 := fun k => mkN (fun i => decide (f i = k.val)) n
  let cap : Fin 3 → Nat := fun k => match k with
    | 0 => m0
    | 1 => m1
    | 2 => 1 + m2
  have hL : ∀ k i, (L k).getLsbD i = (decide (i < n) && decide (f i = k.val)) := fun k i => bit_mkN _ i n n8
  have hp : Ind n fun m => decide (∀ k, pc (m &&& L k) ≤ cap k) := ind_lots L cap (fun i hi => ⟨⟨f i, hf i⟩, by rw [hL]; simp [hi]⟩) (fun i k l h1 h2 => by
    rw [hL] at h1 h2
    simp at h1 h2
    exact Fin.ext (by omega))
  have lots : ∀ (x : B8) (k : Fin 3), Sb x (full n) → compA (fun i : Fin 8 => M.bnd (M.opt (idxD (PyData.list (l.map fun r : Nat => PyData.int (r : Nat))) (PyData.int (i.val : Nat)))) fun a => M.bnd (M.opt (eqD a (PyData.int (k.val : Nat)))) fun a => M.bnd (M.opt (truD a)) fun b => M.ret (if b = true then some (PyData.int (i.val : Nat)) else none)) (bitsF x) = M.ret ((bitsF (x &&& L k)).map fun i => PyData.int (i.val : Nat)) := fun x k hx => by
    rw [compA_mem (g := fun i : Fin 8 => if decide (f i.val = k.val) = true then some (PyData.int (i.val : Nat)) else none) fun i hi => ?_, fm_if]
    · congr 2
      unfold bitsF
      rw [List.filter_filter]
      apply List.filter_congr
      intro i _
      rw [bit_and, hL]
      cases q : x.getLsbD i.val with
      | false => simp
      | true =>
        have := hx i.val q
        rw [bit_full n8] at this
        simp [of_decide_eq_true this]
    · have := hx i.val (mem_bitsF.mp hi)
      rw [bit_full n8] at this
      rw [hidx i.val (of_decide_eq_true this)]
      simp
  have blen : ∀ m : B8, (bitsF m).length = pc m := fun m => by
    unfold pc
    rw [bits_F, List.length_map]
  have i0 : idxD (PyData.list [PyData.int (m0 : Nat), PyData.int (m1 : Nat), PyData.int (1 + (m2 : Int))]) (PyData.int 0) = some (PyData.int (m0 : Nat)) := by
    show L2.atI _ ((0 : Nat) : Int) = _
    rw [atI_nat]; rfl
  have i1 : idxD (PyData.list [PyData.int (m0 : Nat), PyData.int (m1 : Nat), PyData.int (1 + (m2 : Int))]) (PyData.int 1) = some (PyData.int (m1 : Nat)) := by
    show L2.atI _ ((1 : Nat) : Int) = _
    rw [atI_nat]; rfl
  have i2 : idxD (PyData.list [PyData.int (m0 : Nat), PyData.int (m1 : Nat), PyData.int (1 + (m2 : Int))]) (PyData.int 2) = some (PyData.int (1 + (m2 : Int))) := by
    show L2.atI _ ((2 : Nat) : Int) = _
    rw [atI_nat]; rfl
  simp only [addI, opt_some, bnd_ret]
  rw [compA_mem (g := fun x => if decide (∀ k, pc (x &&& L k) ≤ cap k) = true then some (enc x) else none) fun x hx => ?_]
  · rw [nox_ret, bnd_ret, fm_if]
    simp only [Bool.decide_eq_true]
    obtain ⟨hB, hne, hsz⟩ := okB_ind n6 hp
    by_cases w3 : way = 3
    · subst w3
      simp only [if_pos (show ((3 : Nat) : Int) = 3 from rfl)]
      exact fin_tops ht n6 hp
    have e3 : ¬ ((way : Int) = 3) := by omega
    rw [if_neg e3]
    by_cases w4 : way = 4
    · subst w4
      simp only [if_pos (show ((4 : Nat) : Int) = 4 from rfl)]
      have em : ∀ m : Nat, maxD [PyData.int 0, PyData.int ((m : Int) - 1)] = some (PyData.int ((m - 1 : Nat) : Int)) := fun m => by
        show some (PyData.int (if ((m : Int) - 1) > 0 then ((m : Int) - 1) else 0)) = _
        congr 2
        split <;> omega
      have hp2 := ind_cut (maxN (((allS n).filter fun m => decide (∀ k, pc (m &&& L k) ≤ cap k)).map pc) - 1) hp
      have hne' := hne
      simp [max_map _ _ hne, em, -decide_not]
      exact fin_tops ht n6 (hp2.congr fun m => Bool.and_comm _ _)
    · have e4 : ¬ ((way : Int) = 4) := by omega
      rw [if_neg e4]
      have ef : tupF (rangeF n) = enc (full n) := by rw [enc_F, bitsF_full n8]
      simp [ht _ hne hsz, hl, rng8 n8, ef]
      exact Sat.ret ⟨_, rfl, _, rfl, okB_dual n1 n6 hB⟩
  · have hxs : Sb x (full n) := (inN_full n8).mp ((mem_allS n8).mp hx)
    have l0 := lots x 0 hxs
    have l1 := lots x 1 hxs
    have l2 := lots x 2 hxs
    have pall : (∀ k, pc (x &&& L k) ≤ cap k) ↔ ¬ m0 < pc (x &&& L 0) ∧ ¬ m1 < pc (x &&& L 1) ∧ ¬ (1 + (m2 : Int)) < (pc (x &&& L 2) : Int) := by
      constructor
      · intro h
        have h0 : pc (x &&& L 0) ≤ m0 := h 0
        have h1 : pc (x &&& L 1) ≤ m1 := h 1
        have h2 : pc (x &&& L 2) ≤ 1 + m2 := h 2
        omega
      · rintro ⟨h0, h1, h2⟩ k
        match k with
        | 0 => show _ ≤ m0; omega
        | 1 => show _ ≤ m1; omega
        | 2 => show _ ≤ 1 + m2; omega
    have peq : decide (∀ k, pc (x &&& L k) ≤ cap k) = (!decide (m0 < pc (x &&& L 0)) && (!decide (m1 < pc (x &&& L 1)) && !decide ((1 + (m2 : Int)) < (pc (x &&& L 2) : Int)))) := by
      rw [Bool.eq_iff_iff, decide_eq_true_eq, pall]
      simp
    rw [peq]
    have j0 : ((0 : Fin 3).val : Nat) = 0 := rfl
    have j1 : ((1 : Fin 3).val : Nat) = 1 := rfl
    have j2 : ((2 : Fin 3).val : Nat) = 2 := rfl
    rw [j0] at l0
    rw [j1] at l1
    rw [j2] at l2
    simp at l0 l1 l2
    by_cases c0 : m0 < pc (x &&& L 0) <;> by_cases c1 : m1 < pc (x &&& L 1) <;> by_cases c2 : (1 + (m2 : Int)) < (pc (x &&& L 2) : Int) <;>
      simp [compL, l0, l1, l2, blen, i0, i1, i2, c0, c1, c2]
    all_goals simp [eqD, PyData.eqv, PyData.eqvAll, SeqAt.shaped, PyData.canLay0, PyData.canLayAll0, PyData.depth, PyData.depthAll]
theorem idx_list {l : List D} {n : Nat} {x : D} (h : l[n]? = some x) : idxD (.list l) (.int (n : Nat)) = some x := by
  show L2.atI l n = _
  rw [atI_nat, h]
theorem break_none {S : Sys} (ok : S.Ok) : ∀ a ∈ S.B, ∀ b ∈ S.B, ∀ t, t ∈ bitsF (less a b) → (swapF S.B a b t).isSome = true := fun a ha b hb t ht => by
  have h := mem_bitsF.mp ht
  rw [bit_less, Bool.and_eq_true] at h
  obtain ⟨y, y1, y2, y3⟩ := ok.exch a ha b hb t.val h.1 (by simpa using h.2)
  exact swapF_some ⟨y, y1, y2, y3⟩
theorem L_lines_of {cn cd ca : Nat} {S : Sys} (h1 : call cn [S.enc] = M.ret .none) (h2 : call cd [S.enc] = M.ret (dualS S).enc) (h3 : call ca [(dualS S).enc] = M.ret (famT (lotsT (dualS S)))) : evSs call (b_lines_of (c_need_system := cn) (c_dual_in := cd) (c_alike_lots := ca)) [.da S.enc] = M.ret (.rt (famT (lotsT (dualS S)))) := by
  simp [b_lines_of, h1, h2, h3]
/-- a system drawn -/
structure GoodS (S : Sys) : Prop where
  ok : S.Ok
  n6 : S.n ≤ 6
  b20 : S.B.length ≤ 20
theorem L_law_some {cr : Nat} (hr : RollC call cr) {l : List D} {d : D} (hd : itemsD d = some l) (hidx : ∀ i x, l[i]? = some x → idxD d (.int (i : Nat)) = some x) (hlen : lenD [d] = some (.int (l.length : Nat))) (hne : l ≠ []) (hsz : l.length < 1000000) :
    Sat (evSs call (b_law_some (c__law_roll := cr)) [.da cupD, .da d]) fun f => ∃ v, f = .rt v ∧ v ∈ l := by
  simp [b_law_some, hlen]
  refine Sat.bnd (hr l.length (List.length_pos_iff.mpr hne) hsz) fun r h => ?_
  obtain ⟨i, hi, rfl⟩ := h
  rw [hidx i l[i] (List.getElem?_eq_getElem hi)]
  exact Sat.ret ⟨_, rfl, List.getElem_mem hi⟩
theorem L_law_things {cs n : Nat} (hs : ∀ a b : List Str, a = nm8' → b = nm8 → Sat (call cs [cupD, .list [nmD a, nmD b]]) fun d => d = nmD a ∨ d = nmD b) : Sat (evSs call (b_law_things (c__law_some := cs)) [.da cupD, .da (.int (n : Nat))]) fun f => ∃ v, f = .rt v ∧ (v = nmD (nm8.take n) ∨ v = nmD (nm8'.take n)) := by
  have e : PyData.list [PyData.tuple [.str "ant", .str "bee", .str "cow", .str "dog", .str "eel", .str "fox", .str "gnu", .str "hen"], PyData.tuple [.str "a", .str "a1", .str "b", .str "c2", .str "d", .str "dd", .str "e", .str "f"]] = .list [nmD nm8', nmD nm8] := rfl
  have sl : ∀ l : List Str, slcD (nmD l) none (some (n : Int)) = some (nmD (l.take n)) := fun l => by
    show some (PyData.tuple (cutD _ _ _)) = some (PyData.tuple _)
    rw [cut_take, List.map_take]
  simp [b_law_things, e]
  refine Sat.bnd (hs _ _ rfl rfl) fun d hd => ?_
  rcases hd with rfl | rfl
  · rw [sl]
    exact Sat.ret ⟨_, rfl, .inr rfl⟩
  · rw [sl]
    exact Sat.ret ⟨_, rfl, .inl rfl⟩
theorem L_law_system_of {ct cb n : Nat} (n1 : 1 ≤ n) (n6 : n ≤ 6) (ht : Sat (call ct [cupD, .int (n : Nat)]) fun v => v = nmD (nm8.take n) ∨ v = nmD (nm8'.take n)) (hb : Sat (call cb [cupD, .int (n : Nat)]) fun v => ∃ B, v = famT B ∧ OkB n B) :
    Sat (evSs call (b_law_system_of (c__law_things := ct) (c__law_bases := cb)) [.da cupD, .da (.int (n : Nat))]) fun f => ∃ v, f = .rt v ∧ ∃ S : Sys, v = S.enc ∧ GoodS S ∧ S.n = n := by
  simp [b_law_system_of]
  refine Sat.bnd ht fun d hd => ?_
  refine Sat.bnd hb fun e he => ?_
  obtain ⟨B, rfl, hB⟩ := he
  have key : ∀ l : List Str, l.length = 8 → l.all nameOk = true → (l.zip l.tail).all (fun p => ltT p.1 p.2) = true → d = nmD (l.take n) → Sat (M.ret (Fl.rt (PyData.tuple [d, famT B]))) fun f => ∃ v, f = .rt v ∧ ∃ S : Sys, v = S.enc ∧ GoodS S ∧ S.n = n := fun l hl h1 h2 e => by
    subst e
    obtain ⟨t1, t2⟩ := nm_take h1 h2 n
    have hn : (l.take n).length = n := by
      rw [List.length_take]
      omega
    refine Sat.ret ⟨_, rfl, ⟨l.take n, B⟩, rfl, ⟨OkB.ok (by rw [hn]; exact hB) (by omega) (by omega) t1 t2, ?_, hB.most⟩, hn⟩
    show (l.take n).length ≤ 6
    omega
  rcases hd with hd | hd
  · exact key nm8 rfl nm8_ok.1 nm8_asc.1 hd
  · exact key nm8' rfl nm8_ok.2 nm8_asc.2 hd
theorem L_law_system {co cr : Nat} (hr : RollC call cr) (ho : ∀ n : Nat, 1 ≤ n → n ≤ 6 → Sat (call co [cupD, .int (n : Nat)]) fun v => ∃ S : Sys, v = S.enc ∧ GoodS S ∧ S.n = n) :
    Sat (evSs call (b_law_system (c__law_system_of := co) (c__law_roll := cr)) [.da cupD]) fun f => ∃ v, f = .rt v ∧ ∃ S : Sys, v = S.enc ∧ GoodS S := by
  simp [b_law_system]
  refine Sat.bnd (roll_lit hr 6 6 rfl (by omega) (by omega)) fun d hd => ?_
  obtain ⟨r, r6, rfl⟩ := hd
  have e : PyData.int (1 + (r : Int)) = .int ((1 + r : Nat) : Int) := by simp
  simp [e]
  refine Sat.bnd (ho (1 + r) (by omega) (by omega)) fun d hd => ?_
  obtain ⟨S, rfl, hS, _⟩ := hd
  exact Sat.ret ⟨_, rfl, S, rfl, hS⟩
end
end FS

-- part FtEnd
set_option Elab.async false
set_option linter.all false
set_option maxRecDepth 100000
set_option maxHeartbeats 4000000
/-! For a law's own text: loops that always go on, values alike. -/
namespace FS
open PySem

theorem forL_sat {α : Type} {body : En → M Fl} {i : Nat} {g : α → D} {P : En → Prop} : ∀ {xs : List α} {ρ : En}, P ρ → (∀ ρ, P ρ → ∀ x ∈ xs, Sat (body (ρ.set i (.da (g x)))) fun f => ∃ ρ', f = .nx ρ' ∧ P ρ') → Sat (forL body (.one i) (xs.map g) ρ) fun f => ∃ ρ', f = .nx ρ' ∧ P ρ'
  | [], ρ, hp, _ => Sat.ret ⟨ρ, rfl, hp⟩
  | x :: xs, ρ, hp, h => by
    rw [List.map_cons, forL_cons, setTg_one, stepO_s]
    refine Sat.bnd (h ρ hp x List.mem_cons_self) fun f hf => ?_
    obtain ⟨ρ', rfl, hp'⟩ := hf
    exact forL_sat hp' fun ρ hp y hy => h ρ hp y (List.mem_cons_of_mem _ hy)
/-- data that may be compared, so deep at most -/
def okk : Nat → D → Bool
  | 0, _ => false
  | k + 1, d => match d with
    | .tuple l => decide (l.length ≤ 1000) && l.all (okk k)
    | .str x => PyData.strOk x
    | .list _ => false
    | .dict _ => false
    | _ => true
theorem okk_same : ∀ (k : Nat) (d : D), okk k d = true → okSame d = true ∧ d.depth ≤ k
  | 0, _, h => by cases h
  | k + 1, d, h => by
    cases d with
    | none => exact ⟨rfl, by simp [PyData.depth]⟩
    | bool b => exact ⟨rfl, by simp [PyData.depth]⟩
    | int i => exact ⟨rfl, by simp [PyData.depth]⟩
    | str x => exact ⟨h, by simp [PyData.depth]⟩
    | list l => cases h
    | dict l => cases h
    | tuple l =>
      have h : (decide (l.length ≤ 1000) && l.all (okk k)) = true := h
      rw [Bool.and_eq_true] at h
      have h2 := List.all_eq_true.mp h.2
      have a : ∀ l : List D, (∀ x ∈ l, okk k x = true) → okSames l = true ∧ PyData.depthAll l ≤ k := fun l => by
        induction l with
        | nil => exact fun _ => ⟨rfl, by simp [PyData.depthAll]⟩
        | cons x l ih =>
          intro hl
          obtain ⟨i1, i2⟩ := ih fun y hy => hl y (List.mem_cons_of_mem _ hy)
          obtain ⟨j1, j2⟩ := okk_same k x (hl x List.mem_cons_self)
          refine ⟨by simp [okSames, i1, j1], ?_⟩
          simp only [PyData.depthAll]
          omega
      obtain ⟨b1, b2⟩ := a l h2
      refine ⟨by simp only [okSame, h.1, b1, Bool.and_self], ?_⟩
      simp only [PyData.depth]
      omega
theorem okk_shaped {k : Nat} {d : D} (h : okk k d = true) (hk : k ≤ 64) : SeqAt.shaped d = true := by
  obtain ⟨h1, h2⟩ := okk_same k d h
  exact shp_of (okS_lay d h1) (by omega)
@[simp] theorem okk_none (k : Nat) : okk (k + 1) .none = true := rfl
@[simp] theorem okk_bool (k : Nat) (b : Bool) : okk (k + 1) (.bool b) = true := rfl
@[simp] theorem okk_int (k : Nat) (i : Int) : okk (k + 1) (.int i) = true := rfl
@[simp] theorem okk_tup (k : Nat) (l : List D) : okk (k + 1) (.tuple l) = (decide (l.length ≤ 1000) && l.all (okk k)) := rfl
@[simp] theorem okk_enc (k : Nat) (m : B8) : okk (k + 2) (enc m) = true := by
  show (decide (((bits m).map fun i : Nat => PyData.int i).length ≤ 1000) && ((bits m).map fun i : Nat => PyData.int i).all (okk (k + 1))) = true
  have := pc_le m
  unfold pc at this
  rw [Bool.and_eq_true, decide_eq_true_eq, List.length_map, List.all_map]
  exact ⟨by omega, List.all_eq_true.mpr fun i _ => rfl⟩
@[simp] theorem okk_famT (k : Nat) (l : List B8) : okk (k + 3) (famT l) = decide (l.length ≤ 1000) := by
  show (decide ((l.map enc).length ≤ 1000) && (l.map enc).all (okk (k + 2))) = _
  have : (l.map enc).all (okk (k + 2)) = true := by
    rw [List.all_map]
    exact List.all_eq_true.mpr fun m _ => okk_enc k m
  rw [this, List.length_map, Bool.and_true]
@[simp] theorem okk_first (k : Nat) (l : List B8) : okk (k + 2) (firstD l) = true := by
  cases l with
  | nil => rfl
  | cons c r => exact okk_enc k c
theorem okk_nm (k : Nat) {l : List Str} (h : strsOk l = true) (hl : l.length ≤ 1000) : okk (k + 2) (nmD l) = true := by
  show (decide ((l.map PyData.str).length ≤ 1000) && (l.map PyData.str).all (okk (k + 1))) = true
  rw [Bool.and_eq_true, decide_eq_true_eq, List.length_map, List.all_map]
  exact ⟨hl, List.all_eq_true.mpr fun x hx => List.all_eq_true.mp h x hx⟩
theorem okk_sys (k : Nat) {S : Sys} (ok : S.Ok) : okk (k + 4) S.enc = true := by
  show okk (k + 3 + 1) (.tuple [nmD S.nm, famT S.B]) = true
  have h1 := okk_nm (k + 1) ok.strs (by have := ok.n8; unfold Sys.n at this; omega)
  have h2 : okk (k + 3) (famT S.B) = true := by
    rw [okk_famT]
    exact decide_eq_true (by have := ok.most; omega)
  rw [okk_tup]
  simp [h1, h2]
theorem same_ok {tab : List Df} {i k : Nat} (h : tab[i]? = some ⟨2, 3, b_law_same i⟩) {d : D} (hd : okk 8 d = true) (hk : 9 ≤ k) : run tab k i [d, d] = M.ret (.bool true) := by
  obtain ⟨h1, h2⟩ := okk_same 8 d hd
  exact same_run h k d h1 (by omega)
theorem ne_ok {d : D} (h : okk 8 d = true) : neD d d = some (.bool false) := neD_self (okk_shaped h (by omega))
theorem eq_ok {d : D} (h : okk 8 d = true) : eqD d d = some (.bool true) := eqD_self (okk_shaped h (by omega))
/-! a system and its dual -/
section
variable {S : Sys}
theorem loose_dual (ok : S.Ok) : looseS (dualS S) = neededS S := by
  unfold looseS neededS
  rw [dual_n]
  refine B8.ext fun i => ?_
  rw [bit_mkN _ i S.n ok.n8, bit_mkN _ i S.n ok.n8]
  by_cases hi : i < S.n
  · congr 1
    rw [decide_eq_decide]
    constructor
    · intro h b hb
      have := h _ (mem_dual.mpr ⟨b, hb, rfl⟩)
      rw [bit_less, bit_full ok.n8] at this
      simpa [hi] using this
    · intro h b hb
      obtain ⟨c, hc, rfl⟩ := mem_dual.mp hb
      rw [bit_less, h c hc]
      simp
  · simp [hi]
theorem needed_dual (ok : S.Ok) : neededS (dualS S) = looseS S := by
  have := loose_dual (dual_ok ok)
  rw [dual_dual ok] at this
  exact this.symm
theorem circs_mem (ok : S.Ok) {m : B8} : m ∈ circs S ↔ isCirc S m = true ∧ Sb m (full S.n) := by
  unfold circs
  rw [List.mem_filter, mem_allS ok.n8, inN_full ok.n8, and_comm]
theorem circs_len' (ok : S.Ok) : (circs S).length ≤ 256 := by
  unfold circs
  exact Nat.le_trans (List.length_filter_le _ _) (circs_len ok)
theorem lots_len (ok : S.Ok) : (lotsT S).length ≤ 8 := by
  unfold lotsT firstsB
  rw [List.length_map]
  refine Nat.le_trans (List.length_filter_le _ _) ?_
  rw [List.length_zip, List.length_range, List.length_map]
  have : (restL S).length ≤ 8 := by
    unfold restL rangeF
    exact Nat.le_trans (List.length_filter_le _ _) (Nat.le_trans (List.length_filter_le _ _) (by simp))
  omega
end
end FS

-- part FtShort
set_option Elab.async false
set_option linter.all false
set_option maxRecDepth 100000
set_option maxHeartbeats 4000000
/-! Two walks in one comprehension; systems cut short. -/
namespace FS
open PySem

/-! ### two walks -/
def compAA {α β : Type} (f : α → M (List β)) : List α → M (List β)
  | [] => M.ret []
  | x :: xs => M.bnd (f x) fun o => M.bnd (compAA f xs) fun r => M.ret (o ++ r)
@[simp] theorem compLL_map {α : Type} (f : D → M (List D)) (g : α → D) : ∀ xs : List α, compLL f (xs.map g) = compAA (fun x => f (g x)) xs
  | [] => rfl
  | x :: xs => by
    show M.bnd _ _ = M.bnd _ _
    rw [compLL_map f g xs]
@[simp] theorem compAA_ret {α β : Type} (f : α → List β) : ∀ xs : List α, compAA (fun x => M.ret (f x)) xs = M.ret (xs.flatMap f)
  | [] => rfl
  | x :: xs => by
    show M.bnd _ _ = _
    rw [compAA_ret f xs]
    rfl
theorem compAA_mem {α β : Type} {f : α → M (List β)} {g : α → List β} : ∀ {xs : List α}, (∀ x ∈ xs, f x = M.ret (g x)) → compAA f xs = M.ret (xs.flatMap g)
  | [], _ => rfl
  | x :: xs, h => by
    show M.bnd _ _ = _
    rw [h x List.mem_cons_self, compAA_mem fun y hy => h y (List.mem_cons_of_mem _ hy)]
    rfl
section
variable (call : Nat → List D → M D) (ρ : En)
def stepB (vs : List (Str × Nat)) (tg : Tg) (cs : Es) (v1 : List Nat) (tg1 : Tg) (it1 : It) (cs1 : Es) (el : E) (x : D) : M (List D) := stepO (setTg tg x (wipeE ρ (vs.map (·.2)))) fun ρ' => M.bnd (evTs call cs ρ') fun b => if b then M.bnd (evIt call false it1 ρ') fun zs => compL (fun z => stepO (setTg tg1 z (wipeE ρ' v1)) fun ρ2 => M.bnd (evTs call cs1 ρ2) fun b => if b then M.bnd (evE call el ρ2) fun y => M.ret (some y) else M.ret none) zs else M.ret []
@[simp] theorem evE_comp2 (vs : List (Str × Nat)) (tg : Tg) (it : It) (cs : Es) (v1 : List Nat) (tg1 : Tg) (it1 : It) (cs1 : Es) (el : E) : evE call (.comp2 vs tg it cs v1 tg1 it1 cs1 el) ρ = M.bnd (evIt call true it ρ) fun xs => M.bnd (M.nox (compLL (stepB call ρ vs tg cs v1 tg1 it1 cs1 el) xs)) fun ds => if ds.length ≤ 16777216 then M.ret (.list ds) else M.err := by
  show M.bnd _ _ = _
  congr 1
@[simp] theorem stepB_eq (vs : List (Str × Nat)) (tg : Tg) (cs : Es) (v1 : List Nat) (tg1 : Tg) (it1 : It) (cs1 : Es) (el : E) (x : D) : stepB call ρ vs tg cs v1 tg1 it1 cs1 el x = stepO (setTg tg x (wipeE ρ (vs.map (·.2)))) fun ρ' => M.bnd (evTs call cs ρ') fun b => if b then M.bnd (evIt call false it1 ρ') fun zs => compL (fun z => stepO (setTg tg1 z (wipeE ρ' v1)) fun ρ2 => M.bnd (evTs call cs1 ρ2) fun b => if b then M.bnd (evE call el ρ2) fun y => M.ret (some y) else M.ret none) zs else M.ret [] := rfl
end
@[simp] theorem fam_flat {α β : Type} (f : α → List β) (g : α → β → B8) (l : List α) : PyData.list (l.flatMap fun x => (f x).map fun y => enc (g x y)) = famL (l.flatMap fun x => (f x).map (g x)) := by
  unfold famL
  rw [List.map_flatMap]
  congr 2
  funext x
  rw [List.map_map]
  rfl
/-! ### sizes -/
theorem size_mul {n : Nat} (hn : n ≤ 6) {l : List B8} (nd : l.Nodup) (h : ∀ m ∈ l, inN n m = true) (k : Nat) (hk : ∀ m ∈ l, pc m = k) : l.length * k < 64 ∧ l.length * (6 - k) < 64 := by
  have c : ∀ k, k ≤ 8 → ((rowsT 6).filter fun m => decide (pc m = k)).length * k < 64 ∧ ((rowsT 6).filter fun m => decide (pc m = k)).length * (6 - k) < 64 := by decide +kernel
  by_cases k8 : k ≤ 8
  · have le : l.length ≤ ((rowsT 6).filter fun m => decide (pc m = k)).length := nd.length_le_of_subset fun m hm => by
      refine List.mem_filter.mpr ⟨(mem_rowsT (by omega)).mpr ?_, decide_eq_true (hk m hm)⟩
      have := h m hm
      rw [inN_iff] at *
      exact fun i hi => Nat.lt_of_lt_of_le (this i hi) hn
    obtain ⟨c1, c2⟩ := c k k8
    exact ⟨Nat.lt_of_le_of_lt (Nat.mul_le_mul_right _ le) c1, Nat.lt_of_le_of_lt (Nat.mul_le_mul_right _ le) c2⟩
  · cases l with
    | nil => simp
    | cons m l =>
      have := hk m List.mem_cons_self
      have := pc_le m
      omega
theorem GoodS.mul {S : Sys} (h : GoodS S) : S.B.length * rkS S < 64 ∧ S.B.length * (6 - rkS S) < 64 := size_mul h.n6 h.ok.asc.nodup h.ok.sub _ fun m hm => rkS_eq h.ok hm
/-- all sets, free: a system's own test -/
theorem ind_free {S : Sys} (ok : S.Ok) : Ind S.n (isFree S) where
  zero := (free_iff ok.ne).mpr (fr_zero ok)
  her := fun a x _ h => (free_iff ok.ne).mpr (((free_iff ok.ne).mp h).sub (sb_less _ _))
  aug := fun a b _ _ h1 h2 h3 => by
    obtain ⟨i, i1, i2, i3⟩ := grow ok ((free_iff ok.ne).mp h1) ((free_iff ok.ne).mp h2) h3
    exact ⟨i, i1, i2, (free_iff ok.ne).mpr i3⟩
theorem fr_inN {S : Sys} (ok : S.Ok) {m : B8} (h : Fr S m) : inN S.n m = true := by
  obtain ⟨b, hb, hs⟩ := h
  exact (inN_full ok.n8).mpr (hs.trans (sb_full ok hb))
theorem fr_pc {S : Sys} (ok : S.Ok) {m : B8} (h : Fr S m) : pc m ≤ rkS S := by
  obtain ⟨b, hb, hs⟩ := h
  rw [← rkS_eq ok hb]
  exact pc_mono hs
section
variable {call : Nat → List D → M D} {S : Sys}
theorem L_law_both (a b : B8) : evSs call b_law_both [.da (enc a), .da (enc b)] = M.ret (.rt (enc (a ||| b))) := by
  have e : addD (.list ((bitsF a).map fun i => .int (i.val : Nat))) (.list ((bitsF b).map fun i => .int (i.val : Nat))) = some (.list ((bits a ++ bits b).map fun i => .int (i : Nat))) := by
    have h1 := pc_le a
    have h2 := pc_le b
    unfold pc at h1 h2
    rw [bits_F, List.length_map] at h1 h2
    show (if ((bitsF a).map _).length + ((bitsF b).map _).length ≤ sizeLine then some (PyData.list _) else none) = _
    rw [if_pos (size_ge (by simp only [List.length_map]; omega)), List.map_append, bits_F, bits_F, List.map_map, List.map_map]
    rfl
  have e2 : srtsetO (.list ((bits a ++ bits b).map fun i => PyData.int (i : Nat))) = some (.list ((bits (a ||| b)).map fun i : Nat => .int i)) := srtset_or a b
  simp [b_law_both, e, -List.map_append, e2]
theorem L_free_in {cs ct cf : Nat} (h1 : call cs [.int (S.n : Nat)] = M.ret (famL (allS S.n))) (h2 : call ct [S.enc] = M.ret (.int (S.n : Nat))) (h3 : ∀ m, call cf [S.enc, enc m] = M.ret (.bool (isFree S m))) : evSs call (b_free_in (c_sets_in := cs) (c_things_in := ct) (c_is_free_in := cf)) [.da S.enc, .no] = M.ret (.rt (famL ((allS S.n).filter (isFree S)))) := by
  simp [b_free_in, h1, h2, h3]
theorem L_free_sets {cn cf : Nat} (h1 : call cn [S.enc] = M.ret .none) (h2 : call cf [S.enc] = M.ret (famL ((allS S.n).filter (isFree S)))) : evSs call (b_free_sets (c_need_system := cn) (c_free_in := cf)) [.da S.enc] = M.ret (.rt (famT ((allS S.n).filter (isFree S)))) := by
  simp [b_free_sets, h1, h2]
theorem L_rank_of {cn cr : Nat} (m : B8) (h1 : call cn [S.enc, enc m] = M.ret .none) (h2 : call cr [S.enc, enc m] = M.ret (.int (rk S m : Nat))) : evSs call (b_rank_of (c_need_things := cn) (c_rank_in := cr)) [.da S.enc, .da (enc m)] = M.ret (.rt (.int (rk S m : Nat))) := by
  simp [b_rank_of, h1, h2]
/-- cut short -/
def shortL (S : Sys) : List B8 := S.B.flatMap fun b => (bitsF b).map fun i => less b (one i.val)
def shortS (S : Sys) : Sys := ⟨S.nm, setB (shortL S)⟩
theorem shortL_len (ok : S.Ok) : (shortL S).length = S.B.length * rkS S := by
  have h : ∀ b ∈ S.B, pc b = rkS S := fun b hb => rkS_eq ok hb
  unfold shortL
  generalize S.B = l at h ⊢
  induction l with
  | nil => simp
  | cons b l ih =>
    have e : (bitsF b).length = rkS S := by
      have := h b List.mem_cons_self
      unfold pc at this
      rw [bits_F, List.length_map] at this
      exact this
    rw [List.flatMap_cons, List.length_append, List.length_map, ih fun c hc => h c (List.mem_cons_of_mem _ hc), e, List.length_cons, Nat.add_mul]
    omega
theorem L_short_in {cl : Nat} (ok : S.Ok) (sz : S.B.length * rkS S < 64) (h : ∀ a b, call cl [enc a, enc b] = M.ret (enc (less a b))) : evSs call (b_short_in (c_less_in := cl)) [.da S.enc, .no, .no, .no] = M.ret (.rt (shortS S).enc) := by
  have l := shortL_len ok
  have l2 : (shortL S).length ≤ 16777216 := by omega
  have e := srtset_L (l := shortL S) (by omega)
  have es : (S.B.flatMap fun b => (bitsF b).map fun i => less b (one i.val)) = shortL S := rfl
  have l3 : (S.B.map fun a => (bitsF a).length).sum ≤ 16777216 := by
    have : (shortL S).length = (S.B.map fun a => (bitsF a).length).sum := by
      simp [shortL, List.length_flatMap]
    omega
  simp [b_short_in, h, l3, es, e]
  rfl
/-- the zero base alone -/
theorem eq_zero_fam (l : List B8) : eqD (famT l) (.tuple [enc 0#8]) = some (.bool (decide (l = [0#8]))) := eqFT l [0#8]
theorem ne_zero_fam (l : List B8) : neD (famT l) (.tuple [enc 0#8]) = some (.bool (decide (l ≠ [0#8]))) := neFT l [0#8]
theorem zero_iff (ok : S.Ok) : S.B = [0#8] ↔ rkS S = 0 := by
  constructor
  · intro h
    unfold rkS
    rw [h]
    exact pc_zero
  · intro h
    have z : ∀ b ∈ S.B, b = 0#8 := fun b hb => pc_eq_zero.mp (by rw [rkS_eq ok hb, h])
    refine rising_ext ok.asc (List.pairwise_singleton _ _) fun a => ?_
    rw [List.mem_singleton]
    refine ⟨z a, fun e => ?_⟩
    obtain ⟨b, hb⟩ := List.exists_mem_of_ne_nil _ ok.ne
    rw [e, ← z b hb]
    exact hb
theorem L_cut_short {cn cs : Nat} (ok : S.Ok) (h0 : 0 < rkS S) (h1 : call cn [S.enc] = M.ret .none) (h2 : call cs [S.enc] = M.ret (shortS S).enc) : evSs call (b_cut_short (c_need_system := cn) (c_short_in := cs)) [.da S.enc] = M.ret (.rt (shortS S).enc) := by
  have z : ¬ S.B = [0#8] := fun e => by rw [zero_iff ok] at e; omega
  simp [b_cut_short, h1, h2, eq_zero_fam, z]
theorem L_is_short_of {cn cs : Nat} {T : Sys} (ok : S.Ok) (okT : T.Ok) (h1 : ∀ S : Sys, S.Ok → call cn [S.enc] = M.ret .none) (h2 : call cs [T.enc] = M.ret (shortS T).enc) (h3 : strsOk (shortS T).nm = true) : evSs call (b_is_short_of (c_need_system := cn) (c_short_in := cs)) [.da S.enc, .da T.enc] = M.ret (.rt (.bool (decide (0 < rkS T) && decide (shortS T = S)))) := by
  by_cases z : rkS T = 0
  · have z' := (zero_iff okT).mpr z
    have e : ¬ 0 < rkS T := by omega
    simp [b_is_short_of, h1 _ ok, h1 _ okT, ne_zero_fam, z', e]
  · have z' : ¬ T.B = [0#8] := fun e => z ((zero_iff okT).mp e)
    have e : 0 < rkS T := by omega
    simp [b_is_short_of, h1 _ ok, h1 _ okT, ne_zero_fam, z', e, h2, eqSys h3 ok.strs]
theorem L_made_longer {cn ct cd cs : Nat} (ok : S.Ok) (hl : rkS S < S.n) (h1 : call cn [S.enc] = M.ret .none) (h2 : call ct [S.enc] = M.ret (.int (S.n : Nat))) (h3 : call cd [S.enc] = M.ret (dualS S).enc) (h4 : call cs [(dualS S).enc] = M.ret (shortS (dualS S)).enc) (h5 : call cd [(shortS (dualS S)).enc] = M.ret (dualS (shortS (dualS S))).enc) :
    evSs call (b_made_longer (c_need_system := cn) (c_things_in := ct) (c_dual_in := cd) (c_short_in := cs)) [.da S.enc] = M.ret (.rt (dualS (shortS (dualS S))).enc) := by
  have e : ¬ pc (S.B.headD 0#8) = S.n := fun z => by
    have : rkS S = S.n := z
    omega
  simp [b_made_longer, h1, h2, h3, h4, h5, idx_hd ok.ne, -List.headD_eq_head?_getD, e]
/-- plain: all sets of its rank -/
def plainR (S : Sys) : D := if S.B.length = ((allS S.n).filter fun m => decide (pc m = rkS S)).length then .int (rkS S : Nat) else .none
theorem L_plain_rank {cn cs ct : Nat} (ok : S.Ok) (h1 : call cn [S.enc] = M.ret .none) (h2 : call cs [.int (S.n : Nat)] = M.ret (famL (allS S.n))) (h3 : call ct [S.enc] = M.ret (.int (S.n : Nat))) : evSs call (b_plain_rank (c_need_system := cn) (c_sets_in := cs) (c_things_in := ct)) [.da S.enc, .no, .no] = M.ret (.rt (plainR S)) := by
  simp [b_plain_rank, h1, h2, h3, idx_hd ok.ne, -List.headD_eq_head?_getD]
  rfl
end
end FS

-- part FtShort2
set_option Elab.async false
set_option linter.all false
set_option maxRecDepth 100000
set_option maxHeartbeats 4000000
/-! Systems cut short, made longer: in plain Lean. -/
namespace FS
open PySem
section
variable {S : Sys} {m : B8}
theorem mem_shortL : m ∈ shortL S ↔ ∃ b ∈ S.B, ∃ i, b.getLsbD i = true ∧ m = less b (one i) := by
  unfold shortL
  rw [List.mem_flatMap]
  constructor
  · rintro ⟨b, hb, h⟩
    obtain ⟨i, hi, rfl⟩ := List.mem_map.mp h
    exact ⟨b, hb, i.val, mem_bitsF.mp hi, rfl⟩
  · rintro ⟨b, hb, i, hi, rfl⟩
    exact ⟨b, hb, List.mem_map.mpr ⟨⟨i, bit_lt hi⟩, mem_bitsF.mpr hi, rfl⟩⟩
theorem less_sub {b m : B8} {i : Nat} (h : Sb m b) (hi : m.getLsbD i = false) : Sb m (less b (one i)) := fun j hj => by
  rw [bit_less, bit_one, h j hj]
  have : i ≠ j := fun z => by subst z; rw [hi] at hj; cases hj
  simp [this]
/-- free, with a thing fewer than the rank at least: free cut short -/
theorem fr_short (ok : S.Ok) : Fr (shortS S) m ↔ Fr S m ∧ pc m < rkS S := by
  constructor
  · rintro ⟨c, hc, hs⟩
    have hc : c ∈ setB (shortL S) := hc
    rw [mem_setB, mem_shortL] at hc
    obtain ⟨b, hb, i, hi, rfl⟩ := hc
    refine ⟨⟨b, hb, hs.trans (sb_less _ _)⟩, ?_⟩
    have h1 := pc_mono hs
    have h2 := pc_less_one hi
    have h3 := rkS_eq ok hb
    omega
  · rintro ⟨⟨b, hb, hs⟩, h⟩
    rw [← rkS_eq ok hb] at h
    obtain ⟨i, i1, i2⟩ := exists_in_not h
    exact ⟨less b (one i), mem_setB.mpr (mem_shortL.mpr ⟨b, hb, i, i1, rfl⟩), less_sub hs i2⟩
theorem mem_short (ok : S.Ok) (h0 : 0 < rkS S) : m ∈ (shortS S).B ↔ Fr S m ∧ pc m = rkS S - 1 := by
  show m ∈ setB (shortL S) ↔ _
  rw [mem_setB, mem_shortL]
  constructor
  · rintro ⟨b, hb, i, hi, rfl⟩
    have h2 := pc_less_one hi
    have h3 := rkS_eq ok hb
    exact ⟨⟨b, hb, sb_less _ _⟩, by omega⟩
  · rintro ⟨⟨b, hb, hs⟩, h⟩
    have h3 := rkS_eq ok hb
    obtain ⟨i, i1, i2⟩ := exists_in_not (a := b) (b := m) (by omega)
    refine ⟨b, hb, i, i1, sb_eq (less_sub hs i2) ?_⟩
    have h2 := pc_less_one i1
    omega
/-- the law's way to cut short -/
def cutL (S : Sys) : List B8 := (allS S.n).filter fun m => decide (pc m < rkS S) && isFree S m
theorem ind_short (ok : S.Ok) (h0 : 0 < rkS S) : Ind S.n fun m => decide (pc m < rkS S) && isFree S m := (ind_cut (rkS S - 1) (ind_free ok)).congr fun m => by
  rw [Bool.and_comm]
  congr 1
  rw [decide_eq_decide]
  omega
theorem short_tops (g : GoodS S) (h0 : 0 < rkS S) : topsB (cutL S) = (shortS S).B ∧ OkB S.n (shortS S).B ∧ cutL S ≠ [] ∧ ((cutL S).filter fun m => decide (pc m = maxN ((cutL S).map pc))).length < 64 := by
  have ok := g.ok
  obtain ⟨h1, h2, h3⟩ := okB_ind g.n6 (ind_short ok h0)
  have mem : ∀ m, m ∈ cutL S ↔ pc m < rkS S ∧ Fr S m := fun m => by
    unfold cutL
    rw [List.mem_filter, mem_allS ok.n8, Bool.and_eq_true, decide_eq_true_eq, free_iff ok.ne]
    exact ⟨fun h => h.2, fun h => ⟨fr_inN ok h.2, h⟩⟩
  obtain ⟨b, hb⟩ := List.exists_mem_of_ne_nil _ ok.ne
  have hr := rkS_eq ok hb
  obtain ⟨i, hi⟩ := exists_bit (a := b) (by omega)
  have hi2 := pc_less_one hi
  have top : maxN ((cutL S).map pc) = rkS S - 1 := by
    apply Nat.le_antisymm
    · refine maxN_le fun x hx => ?_
      obtain ⟨m, hm, rfl⟩ := List.mem_map.mp hx
      have := ((mem m).mp hm).1
      omega
    · have : less b (one i) ∈ cutL S := (mem _).mpr ⟨by omega, b, hb, sb_less _ _⟩
      have := le_maxN (List.mem_map_of_mem (f := pc) this)
      omega
  have e : topsB (cutL S) = (shortS S).B := by
    refine rising_ext (rising_set _) (rising_set _) fun a => ?_
    rw [tops_mem, top, mem, mem_short ok h0]
    constructor
    · rintro ⟨⟨_, h⟩, h'⟩
      exact ⟨h, h'⟩
    · rintro ⟨h, h'⟩
      exact ⟨⟨by omega, h⟩, h'⟩
  refine ⟨e, ?_, h2, h3⟩
  rw [← e]
  exact h1
theorem short_good (g : GoodS S) (h0 : 0 < rkS S) : GoodS (shortS S) := by
  have ok := g.ok
  obtain ⟨_, h, _⟩ := short_tops g h0
  exact ⟨OkB.ok (nm := S.nm) h ok.n1 ok.n8 ok.nms ok.nma, g.n6, h.most⟩
theorem short_rkS (g : GoodS S) (h0 : 0 < rkS S) : rkS (shortS S) = rkS S - 1 := by
  have k := (short_good g h0).ok
  obtain ⟨b, hb⟩ := List.exists_mem_of_ne_nil _ k.ne
  rw [← rkS_eq k hb]
  exact ((mem_short g.ok h0).mp hb).2
theorem short_free (g : GoodS S) (h0 : 0 < rkS S) (m : B8) : isFree (shortS S) m = (isFree S m && decide (pc m < rkS S)) := by
  rw [Bool.eq_iff_iff, Bool.and_eq_true, decide_eq_true_eq, free_iff (short_good g h0).ok.ne, free_iff g.ok.ne, fr_short g.ok]
theorem short_rk (g : GoodS S) (h0 : 0 < rkS S) (m : B8) : rk (shortS S) m = min (rkS S - 1) (rk S m) := by
  have ok := g.ok
  have k := (short_good g h0).ok
  obtain ⟨z, z1, z2, z3⟩ := top_in k m
  obtain ⟨z4, z5⟩ := (fr_short ok).mp z1
  have h1 : pc z ≤ rk S m := by
    rw [← rk_of_free ok z4]
    exact rk_mono z2
  obtain ⟨y, y1, y2, y3⟩ := top_in ok m
  have h2 : min (rkS S - 1) (rk S m) ≤ rk (shortS S) m := by
    by_cases h : pc y < rkS S
    · have : rk (shortS S) y = pc y := rk_of_free k ((fr_short ok).mpr ⟨y1, h⟩)
      have := rk_mono (S := shortS S) y2
      omega
    · obtain ⟨i, hi⟩ := exists_bit (a := y) (by omega)
      have h3 := pc_less_one hi
      have h4 := fr_pc ok y1
      have : rk (shortS S) (less y (one i)) = pc (less y (one i)) := rk_of_free k ((fr_short ok).mpr ⟨y1.sub (sb_less _ _), by omega⟩)
      have := rk_mono (S := shortS S) ((sb_less y (one i)).trans y2)
      omega
  omega
/-- made longer -/
def longL (S : Sys) : List B8 := S.B.flatMap fun b => ((rangeF S.n).filter fun i => !b.getLsbD i.val).map fun i => b ||| one i.val
def longS (S : Sys) : Sys := ⟨S.nm, setB (longL S)⟩
theorem mem_long (ok : S.Ok) : m ∈ longL S ↔ ∃ b ∈ S.B, ∃ i, i < S.n ∧ b.getLsbD i = false ∧ m = b ||| one i := by
  have n8 := ok.n8
  unfold longL
  rw [List.mem_flatMap]
  constructor
  · rintro ⟨b, hb, h⟩
    obtain ⟨i, hi, rfl⟩ := List.mem_map.mp h
    obtain ⟨h1, h2⟩ := List.mem_filter.mp hi
    exact ⟨b, hb, i.val, mem_rangeF.mp h1, by simpa using h2, rfl⟩
  · rintro ⟨b, hb, i, h1, h2, rfl⟩
    exact ⟨b, hb, List.mem_map.mpr ⟨⟨i, by omega⟩, List.mem_filter.mpr ⟨mem_rangeF.mpr h1, by simp only []; rw [h2]; rfl⟩, rfl⟩⟩
theorem dual_good (g : GoodS S) : GoodS (dualS S) := ⟨dual_ok g.ok, g.n6, by
  unfold dualS
  simp only [length_sortB, List.length_map]
  exact g.b20⟩
theorem long_eq (g : GoodS S) (hl : rkS S < S.n) : dualS (shortS (dualS S)) = longS S := by
  have ok := g.ok
  have dg := dual_good g
  have hd := dual_rkS ok
  have h0 : 0 < rkS (dualS S) := by omega
  have sg := short_good dg h0
  have e : (dualS (shortS (dualS S))).B = (longS S).B := by
    refine rising_ext (dual_ok sg.ok).asc (rising_set _) fun a => ?_
    show _ ↔ a ∈ setB (longL S)
    rw [mem_setB, mem_dual (S := shortS (dualS S)), mem_long ok]
    have en : (shortS (dualS S)).n = S.n := rfl
    rw [en]
    constructor
    · rintro ⟨c, hc, rfl⟩
      obtain ⟨⟨d, hd1, hs⟩, h⟩ := (mem_short (S := dualS S) dg.ok h0).mp hc
      obtain ⟨b, hb, rfl⟩ := (mem_dual (S := S)).mp hd1
      have hbf := sb_full ok hb
      have hcf : Sb c (full S.n) := hs.trans (sb_less _ _)
      have h3 := pc_less_sub hbf
      have h4 := pc_less_sub hcf
      rw [pc_full ok.n8] at h3 h4
      have h5 := rkS_eq ok hb
      have hbc : Sb b (less (full S.n) c) := fun j hj => by
        rw [bit_less, hbf j hj]
        cases q : c.getLsbD j with
        | false => rfl
        | true =>
          have := hs j q
          rw [bit_less, hj] at this
          simp at this
      obtain ⟨i, i1, i2⟩ := exists_in_not (a := less (full S.n) c) (b := b) (by omega)
      have i3 := sb_less _ _ i i1
      rw [bit_full ok.n8] at i3
      refine ⟨b, hb, i, of_decide_eq_true i3, i2, (sb_eq (fun j hj => ?_) ?_).symm⟩
      · rw [bit_or, bit_one] at hj
        simp only [Bool.or_eq_true, Bool.and_eq_true, decide_eq_true_eq] at hj
        rcases hj with hj | hj
        · exact hbc j hj
        · exact hj.2 ▸ i1
      · rw [pc_or_one (bit_lt i1) i2]
        omega
    · rintro ⟨b, hb, i, h1, h2, rfl⟩
      have hbf := sb_full ok hb
      have n8 := ok.n8
      have hf : Sb (b ||| one i) (full S.n) := fun j hj => by
        rw [bit_or, bit_one] at hj
        simp only [Bool.or_eq_true, Bool.and_eq_true, decide_eq_true_eq] at hj
        rcases hj with hj | hj
        · exact hbf j hj
        · rw [bit_full n8, ← hj.2]
          exact decide_eq_true h1
      refine ⟨less (full S.n) (b ||| one i), (mem_short (S := dualS S) dg.ok h0).mpr ⟨⟨less (full S.n) b, (mem_dual (S := S)).mpr ⟨b, hb, rfl⟩, fun j hj => ?_⟩, ?_⟩, less_less hf⟩
      · rw [bit_less, bit_or] at hj
        rw [bit_less]
        cases q : b.getLsbD j <;> simp [q] at hj ⊢
        exact hj.1
      · have h3 := pc_less_sub hf
        have h4 := pc_or_one (a := b) (i := i) (by omega) h2
        have h5 := rkS_eq ok hb
        rw [pc_full n8] at h3
        omega
  have e2 : (dualS (shortS (dualS S))).nm = (longS S).nm := rfl
  exact Sys.ext_iff'.mpr ⟨e2, e⟩
theorem long_good (g : GoodS S) (hl : rkS S < S.n) : GoodS (longS S) := by
  have hd := dual_rkS g.ok
  rw [← long_eq g hl]
  exact dual_good (short_good (dual_good g) (by omega))
theorem long_rk (g : GoodS S) (hl : rkS S < S.n) (hm : Sb m (full S.n)) : rk (longS S) m = min (pc m) (rk S m + 1) := by
  have ok := g.ok
  have hd := dual_rkS ok
  have dg := dual_good g
  have h0 : 0 < rkS (dualS S) := by omega
  have sg := short_good dg h0
  rw [← long_eq g hl]
  have a1 := dual_rk (S := shortS (dualS S)) (m := m) sg.ok hm
  have en : (shortS (dualS S)).n = S.n := rfl
  rw [en] at a1
  have a2 := short_rk dg h0 (less (full S.n) m)
  have a3 := dual_rk (S := S) (m := less (full S.n) m) ok (sb_less _ _)
  rw [less_less hm] at a3
  have a4 := short_rkS dg h0
  have a5 := pc_less_sub hm
  rw [pc_full ok.n8] at a5
  have a6 := rk_le S m
  omega
/-- plain: all sets of the rank -/
theorem plain_short (g : GoodS S) (h0 : 0 < rkS S) (h : plainR S ≠ .none) : plainR (shortS S) = .int ((rkS S - 1 : Nat) : Int) := by
  have ok := g.ok
  have k := (short_good g h0).ok
  have er := short_rkS g h0
  unfold plainR at h
  split at h
  case isFalse => exact absurd rfl h
  rename_i hlen
  have sub : ∀ b ∈ S.B, b ∈ (allS S.n).filter fun m => decide (pc m = rkS S) := fun b hb => List.mem_filter.mpr ⟨(mem_allS ok.n8).mpr (ok.sub b hb), decide_eq_true (rkS_eq ok hb)⟩
  have all_ : ∀ m, inN S.n m = true → pc m = rkS S → m ∈ S.B := fun m h1 h2 => by
    have nd := ok.asc.nodup
    have : m ∈ (allS S.n).filter fun m => decide (pc m = rkS S) := List.mem_filter.mpr ⟨(mem_allS ok.n8).mpr h1, decide_eq_true h2⟩
    apply Classical.byContradiction
    intro no
    have nd2 : (m :: S.B).Nodup := List.nodup_cons.mpr ⟨no, nd⟩
    have := nd2.length_le_of_subset (l₂ := (allS S.n).filter fun m => decide (pc m = rkS S)) fun x hx => by
      rcases List.mem_cons.mp hx with rfl | hx
      · exact this
      · exact sub x hx
    rw [List.length_cons] at this
    omega
  have eB : ∀ m, m ∈ (shortS S).B ↔ m ∈ (allS S.n).filter fun m => decide (pc m = rkS S - 1) := fun m => by
    rw [mem_short ok h0, List.mem_filter, mem_allS ok.n8, decide_eq_true_eq]
    constructor
    · rintro ⟨h1, h2⟩
      exact ⟨fr_inN ok h1, h2⟩
    · rintro ⟨h1, h2⟩
      refine ⟨?_, h2⟩
      have hn := rkS_le ok
      obtain ⟨i, i1, i2⟩ := exists_in_not (a := full S.n) (b := m) (by rw [pc_full ok.n8]; omega)
      have i3 : i < S.n := by
        rw [bit_full ok.n8] at i1
        exact of_decide_eq_true i1
      exact ⟨m ||| one i, all_ _ (inN_or h1 i3) (by rw [pc_or_one (bit_lt i1) i2]; omega), sb_or1 _ _⟩
  unfold plainR
  have e3 : (shortS S).B.length = ((allS (shortS S).n).filter fun m => decide (pc m = rkS (shortS S))).length := by
    rw [er]
    have p : (shortS S).B.Perm ((allS S.n).filter fun m => decide (pc m = rkS S - 1)) := by
      rw [List.perm_ext_iff_of_nodup k.asc.nodup ((allS_rising ok.n8).nodup.filter _)]
      exact eB
    exact p.length_eq
  rw [if_pos e3, er]
end
end FS

-- part FtShort3
set_option Elab.async false
set_option linter.all false
set_option maxRecDepth 100000
set_option maxHeartbeats 4000000
/-! The law's own way to cut short. -/
namespace FS
open PySem
theorem dual_pos {S : Sys} (ok : S.Ok) (hl : rkS S < S.n) : 0 < rkS (dualS S) := by
  have := dual_rkS ok
  omega
section
variable {call : Nat → List D → M D} {S : Sys}
theorem L_law_short {ct cs cf : Nat} (g : GoodS S) (h0 : 0 < rkS S) (h1 : ∀ {l : List B8}, l ≠ [] → (l.filter fun m => decide (pc m = maxN (l.map pc))).length < 64 → call ct [famL l] = M.ret (famT (topsB l))) (h2 : call cs [.int (S.n : Nat)] = M.ret (famL (allS S.n))) (h3 : ∀ m, call cf [S.enc, enc m] = M.ret (.bool (isFree S m))) :
    evSs call (b_law_short (c__law_tops := ct) (c__law_sets := cs) (c__law_free := cf)) [.da S.enc, .no, .no] = M.ret (.rt (shortS S).enc) := by
  obtain ⟨t1, t2, t3, t4⟩ := short_tops g h0
  have e := h1 t3 t4
  rw [t1] at e
  have hn : S.nm.length = S.n := rfl
  have hr : pc (S.B.headD 0#8) = rkS S := rfl
  have ec : ∀ (r : Nat) (l : List B8), (l.filterMap fun x => if pc x < r then if isFree S x = true then some (enc x) else none else if pc x < r then some (enc x) else none) = (l.filter fun m => decide (pc m < r) && isFree S m).map enc := fun r l => by
    induction l with
    | nil => rfl
    | cons m l ih =>
      rw [List.filterMap_cons, List.filter_cons, ih]
      by_cases a : pc m < r
      · cases b : isFree S m <;> simp [a]
      · simp [a]
  have e' : call ct [PyData.list ((cutL S).map enc)] = M.ret (famT (shortS S).B) := e
  simp [b_law_short, hn, h2, h3, idx_hd g.ok.ne, -List.headD_eq_head?_getD, hr]
  rw [ec]
  show M.bnd (call ct [PyData.list ((cutL S).map enc)]) _ = _
  rw [e']
  rfl
end
end FS

-- part FtWeak
set_option Elab.async false
set_option linter.all false
set_option maxRecDepth 100000
set_option maxHeartbeats 4000000
/-! Two systems with the same names: closures, flats, weaker and coarser ones. -/
namespace FS
open PySem
section
variable {call : Nat → List D → M D} {S T : Sys}
theorem L_is_free {cn cf : Nat} (m : B8) (h1 : call cn [S.enc, enc m] = M.ret .none) (h2 : call cf [S.enc, enc m] = M.ret (.bool (isFree S m))) : evSs call (b_is_free (c_need_things := cn) (c_is_free_in := cf)) [.da S.enc, .da (enc m)] = M.ret (.rt (.bool (isFree S m))) := by
  simp [b_is_free, h1, h2]
def clS (S : Sys) (m : B8) : B8 := mkN (fun i => decide (rk S (m ||| one i) = rk S m)) S.n
def isFlat (S : Sys) (m : B8) : Bool := decide (clS S m = m)
theorem L_closure_in {cr ct cu : Nat} (n8 : S.n ≤ 8) (m : B8) (h1 : ∀ m, call cr [S.enc, enc m] = M.ret (.int (rk S m : Nat))) (h2 : call ct [S.enc] = M.ret (.int (S.n : Nat))) (h3 : ∀ a b, call cu [enc a, enc b] = M.ret (enc (a ||| b))) :
    evSs call (b_closure_in (c_rank_in := cr) (c_things_in := ct) (c_union_in := cu)) [.da S.enc, .da (enc m), .no, .no] = M.ret (.rt (enc (clS S m))) := by
  simp [b_closure_in, h1, h2, h3, rng8 n8]
  rw [filter_range _ _ n8 fun i => ?_]
  · rfl
  · simp
theorem L_is_flat_in {cc : Nat} (m : B8) (h : call cc [S.enc, enc m] = M.ret (enc (clS S m))) : evSs call (b_is_flat_in (c_closure_in := cc)) [.da S.enc, .da (enc m)] = M.ret (.rt (.bool (isFlat S m))) := by
  simp [b_is_flat_in, h, isFlat]
theorem L_need_two {cn : Nat} (ok : S.Ok) (okT : T.Ok) (hn : T.nm = S.nm) (h1 : ∀ S : Sys, S.Ok → call cn [S.enc] = M.ret .none) : evSs call (b_need_two (c_need_system := cn)) [.da S.enc, .da T.enc] = M.ret (.nx [.da S.enc, .da T.enc]) := by
  have e := ne_ok (okk_nm 6 ok.strs (by have := ok.n8; unfold Sys.n at this; omega))
  simp [b_need_two, h1 _ ok, h1 _ okT, hn, e]
def otherF (S T : Sys) : List B8 := (allS S.n).filter fun m => isFree T m && !isFree S m
def otherL (S T : Sys) : List B8 := (allS S.n).filter fun m => !isFlat S m && isFlat T m
theorem L_other_free {cs ct cf : Nat} (h1 : call cs [.int (S.n : Nat)] = M.ret (famL (allS S.n))) (h2 : call ct [S.enc] = M.ret (.int (S.n : Nat))) (h3 : ∀ m, call cf [S.enc, enc m] = M.ret (.bool (isFree S m))) (h4 : ∀ m, call cf [T.enc, enc m] = M.ret (.bool (isFree T m))) :
    evSs call (b_other_free (c_sets_in := cs) (c_things_in := ct) (c_is_free_in := cf)) [.da S.enc, .da T.enc, .no] = M.ret (.rt (famL (otherF S T))) := by
  have ec : ∀ (l : List B8), (l.filterMap fun x => if isFree T x = true then if isFree S x = false then some (enc x) else none else if isFree T x = true then some (enc x) else none) = (l.filter fun m => isFree T m && !isFree S m).map enc := fun l => by
    induction l with
    | nil => rfl
    | cons m l ih =>
      rw [List.filterMap_cons, List.filter_cons, ih]
      cases a : isFree T m <;> cases b : isFree S m <;> simp
  simp [b_other_free, h1, h2, h3, h4]
  rw [ec]
  rfl
theorem L_other_flats {cs ct cf : Nat} (h1 : call cs [.int (S.n : Nat)] = M.ret (famL (allS S.n))) (h2 : call ct [S.enc] = M.ret (.int (S.n : Nat))) (h3 : ∀ m, call cf [S.enc, enc m] = M.ret (.bool (isFlat S m))) (h4 : ∀ m, call cf [T.enc, enc m] = M.ret (.bool (isFlat T m))) :
    evSs call (b_other_flats (c_sets_in := cs) (c_things_in := ct) (c_is_flat_in := cf)) [.da S.enc, .da T.enc, .no, .no] = M.ret (.rt (famL (otherL S T))) := by
  simp [b_other_flats, h1, h2, h3, h4]
  rfl
theorem L_is_coarser {cn co : Nat} (h1 : call cn [S.enc, T.enc] = M.ret .none) (h2 : call co [S.enc, T.enc] = M.ret (famL (otherL S T))) : evSs call (b_is_coarser (c_need_two := cn) (c_other_flats := co)) [.da S.enc, .da T.enc] = M.ret (.rt (.bool (decide (otherL S T = [])))) := by
  simp [b_is_coarser, h1, h2]
theorem L_is_weaker {cn co : Nat} (h1 : call cn [S.enc, T.enc] = M.ret .none) (h2 : call co [S.enc, T.enc] = M.ret (famL (otherF S T))) : evSs call (b_is_weaker (c_need_two := cn) (c_other_free := co)) [.da S.enc, .da T.enc] = M.ret (.rt (.bool (decide (otherF S T = [])))) := by
  simp [b_is_weaker, h1, h2]
/-- a paper: a first set, or a word -/
def paperD (a b : Str) : List B8 → D
  | [] => .tuple [.str b]
  | c :: _ => .tuple [.str a, enc c]
theorem L_weaker_paper {cn co : Nat} (h1 : call cn [S.enc, T.enc] = M.ret .none) (h2 : call co [S.enc, T.enc] = M.ret (famL (otherF S T))) : evSs call (b_weaker_paper (c_need_two := cn) (c_other_free := co)) [.da S.enc, .da T.enc, .no] = M.ret (.rt (paperD "set" "free" (otherF S T))) := by
  cases e : otherF S T with
  | nil =>
    rw [e] at h2
    simp [b_weaker_paper, h1, h2, paperD]
  | cons c r =>
    rw [e] at h2
    simp [b_weaker_paper, h1, h2, paperD]
def orderW (S T : Sys) : Str := if S = T then "same" else if otherF S T = [] then "greater" else if otherF T S = [] then "less" else "apart"
theorem L_order_word {cn co : Nat} (ok : S.Ok) (okT : T.Ok) (h1 : call cn [S.enc, T.enc] = M.ret .none) (h2 : call co [S.enc, T.enc] = M.ret (famL (otherF S T))) (h3 : call co [T.enc, S.enc] = M.ret (famL (otherF T S))) : evSs call (b_order_word (c_need_two := cn) (c_other_free := co)) [.da S.enc, .da T.enc] = M.ret (.rt (.str (orderW S T))) := by
  by_cases a : S = T
  · subst a
    simp [b_order_word, h1, eqSys ok.strs okT.strs, orderW]
  · by_cases b : otherF S T = []
    · simp [b_order_word, h1, h2, eqSys ok.strs okT.strs, a, orderW, b]
    · by_cases c : otherF T S = []
      · simp [b_order_word, h1, h2, h3, eqSys ok.strs okT.strs, a, orderW, b, c]
      · simp [b_order_word, h1, h2, h3, eqSys ok.strs okT.strs, a, orderW, b, c]
end
end FS

-- part FtWeak2
set_option Elab.async false
set_option linter.all false
set_option maxRecDepth 100000
set_option maxHeartbeats 4000000
/-! Weaker and coarser systems: in plain Lean. -/
namespace FS
open PySem
section
variable {S T : Sys} {x y m : B8}
theorem mem_clS (n8 : S.n ≤ 8) {i : Nat} : (clS S m).getLsbD i = true ↔ i < S.n ∧ rk S (m ||| one i) = rk S m := by
  unfold clS
  rw [bit_mkN _ _ _ n8, Bool.and_eq_true, decide_eq_true_eq, decide_eq_true_eq]
/-- a thing that makes no rank greater makes none greater of more things -/
theorem rk_same (ok : S.Ok) {i : Nat} (h : Sb x y) (e : rk S (x ||| one i) = rk S x) : rk S (y ||| one i) = rk S y := by
  by_cases hi : y.getLsbD i = true
  · have : y ||| one i = y := by
      refine Sb.anti (fun j hj => ?_) (sb_or1 _ _)
      rw [bit_or, bit_one] at hj
      simp only [Bool.or_eq_true, Bool.and_eq_true, decide_eq_true_eq] at hj
      rcases hj with hj | hj
      · exact hj
      · exact hj.2 ▸ hi
    rw [this]
  · have s := rk_sub ok y (x ||| one i)
    have e1 : y ||| (x ||| one i) = y ||| one i := by
      apply BitVec.eq_of_getLsbD_eq
      intro j _
      rw [bit_or, bit_or, bit_or]
      cases a : x.getLsbD j with
      | false => rfl
      | true => rw [h j a]; rfl
    have e2 : Sb x (y &&& (x ||| one i)) := fun j hj => by
      rw [bit_and, bit_or, h j hj, hj]
      rfl
    have m1 := rk_mono (S := S) e2
    have m2 := rk_mono (S := S) (sb_or1 y (one i))
    rw [e1, e] at s
    omega
theorem or_in {i : Nat} (h : x.getLsbD i = true) : x ||| one i = x := Sb.anti (fun j hj => by
  rw [bit_or, bit_one] at hj
  simp only [Bool.or_eq_true, Bool.and_eq_true, decide_eq_true_eq] at hj
  rcases hj with hj | hj
  · exact hj
  · exact hj.2 ▸ h) (sb_or1 _ _)
theorem sub_cl (ok : S.Ok) (h : inN S.n m = true) : Sb m (clS S m) := fun i hi => by
  rw [mem_clS ok.n8, or_in hi]
  exact ⟨inN_iff.mp h i hi, rfl⟩
theorem rk_cl (ok : S.Ok) (h : inN S.n m = true) : rk S (clS S m) = rk S m := by
  apply Nat.le_antisymm ?_ (rk_mono (sub_cl ok h))
  apply Classical.byContradiction
  intro no
  obtain ⟨z, z1, z2, z3⟩ := top_in ok m
  obtain ⟨y, y1, y2, y3⟩ := top_in ok (clS S m)
  obtain ⟨i, i1, i2, i3⟩ := grow ok z1 y1 (by omega)
  have e := ((mem_clS ok.n8).mp (y2 i i1)).2
  have s : Sb (z ||| one i) (m ||| one i) := fun j hj => by
    rw [bit_or] at hj ⊢
    rw [Bool.or_eq_true] at hj ⊢
    exact hj.imp (z2 j) id
  have a := rk_mono (S := S) s
  rw [rk_of_free ok i3, pc_or_one (bit_lt i1) i2] at a
  omega
theorem flat_cl (ok : S.Ok) (h : inN S.n m = true) : isFlat S (clS S m) = true := by
  refine decide_eq_true (Sb.anti (fun i hi => ?_) fun i hi => ?_)
  · obtain ⟨h1, h2⟩ := (mem_clS ok.n8).mp hi
    rw [rk_cl ok h] at h2
    rw [mem_clS ok.n8]
    refine ⟨h1, Nat.le_antisymm ?_ (rk_mono (sb_or1 _ _))⟩
    rw [← h2]
    refine rk_mono fun j hj => ?_
    rw [bit_or] at hj ⊢
    rw [Bool.or_eq_true] at hj ⊢
    exact hj.imp (sub_cl ok h j) id
  · rw [mem_clS ok.n8, or_in hi]
    exact ⟨((mem_clS ok.n8).mp hi).1, rfl⟩
theorem cl_inN (ok : S.Ok) : inN S.n (clS S m) = true := inN_iff.mpr fun i hi => ((mem_clS ok.n8).mp hi).1
theorem mem_otherF (ok : S.Ok) : m ∈ otherF S T ↔ inN S.n m = true ∧ isFree T m = true ∧ isFree S m = false := by
  unfold otherF
  rw [List.mem_filter, mem_allS ok.n8, Bool.and_eq_true]
  simp
theorem otherF_nil (ok : S.Ok) (okT : T.Ok) (hn : T.nm = S.nm) : otherF S T = [] ↔ ∀ m, Fr T m → Fr S m := by
  have en : T.n = S.n := by unfold Sys.n; rw [hn]
  rw [List.eq_nil_iff_forall_not_mem]
  constructor
  · intro h m hm
    have := h m
    rw [mem_otherF ok] at this
    rw [← free_iff ok.ne]
    cases e : isFree S m with
    | true => rfl
    | false => exact absurd ⟨en ▸ fr_inN okT hm, (free_iff okT.ne).mpr hm, e⟩ this
  · intro h m hm
    obtain ⟨_, h2, h3⟩ := (mem_otherF ok).mp hm
    rw [(free_iff ok.ne).mpr (h m ((free_iff okT.ne).mp h2))] at h3
    cases h3
/-- coarser: weaker -/
theorem coarser_weaker (ok : S.Ok) (okT : T.Ok) (hn : T.nm = S.nm) (h : otherL S T = []) : otherF S T = [] := by
  have en : T.n = S.n := by unfold Sys.n; rw [hn]
  rw [List.eq_nil_iff_forall_not_mem]
  intro m hm
  obtain ⟨h1, h2, h3⟩ := (mem_otherF ok).mp hm
  have fT := (free_iff okT.ne).mp h2
  obtain ⟨z, z1, z2, z3⟩ := top_in ok m
  have lt : pc z < pc m := by
    apply Classical.byContradiction
    intro no
    have e := sb_eq z2 (by omega)
    subst e
    rw [(free_iff ok.ne).mpr z1] at h3
    cases h3
  obtain ⟨i, i1, i2⟩ := exists_in_not lt
  have hx : less m (one i) ||| one i = m := by
    apply B8.ext
    intro j
    rw [bit_or, bit_less, bit_one]
    by_cases q : i = j
    · subst q
      simp [i1, bit_lt i1]
    · simp [q]
  have rS : rk S (less m (one i) ||| one i) = rk S (less m (one i)) := by
    rw [hx]
    refine Nat.le_antisymm ?_ (rk_mono (sb_less _ _))
    rw [← z3, ← rk_of_free ok z1]
    exact rk_mono (less_sub z2 i2)
  have inx : inN T.n (less m (one i)) = true := by
    rw [en]
    exact inN_iff.mpr fun j hj => inN_iff.mp h1 j (sb_less _ _ j hj)
  have fl := flat_cl okT inx
  have sF : isFlat S (clS T (less m (one i))) = true := by
    cases e : isFlat S (clS T (less m (one i))) with
    | true => rfl
    | false =>
      have : clS T (less m (one i)) ∈ otherL S T := by
        unfold otherL
        rw [List.mem_filter, mem_allS ok.n8, e, fl]
        exact ⟨en ▸ cl_inN okT, rfl⟩
      rw [h] at this
      cases this
  have sF := of_decide_eq_true sF
  have hi : (clS T (less m (one i))).getLsbD i = true := by
    rw [← sF, mem_clS ok.n8]
    exact ⟨inN_iff.mp h1 i i1, rk_same ok (sub_cl okT inx) rS⟩
  have e := ((mem_clS okT.n8).mp hi).2
  rw [hx, rk_of_free okT fT] at e
  have := rk_le T (less m (one i))
  have := pc_less_one i1
  omega
/-- weaker: no rank greater -/
theorem weaker_rk (ok : S.Ok) (okT : T.Ok) (hn : T.nm = S.nm) : otherF S T = [] ↔ ∀ m ∈ allS S.n, rk T m ≤ rk S m := by
  have en : T.n = S.n := by unfold Sys.n; rw [hn]
  rw [otherF_nil ok okT hn]
  constructor
  · intro h m _
    obtain ⟨z, z1, z2, z3⟩ := top_in okT m
    rw [← z3, ← rk_of_free ok (h z z1)]
    exact rk_mono z2
  · intro h m hm
    have h1 := h m ((mem_allS ok.n8).mpr (en ▸ fr_inN okT hm))
    rw [rk_of_free okT hm] at h1
    obtain ⟨z, z1, z2, z3⟩ := top_in ok m
    have e := sb_eq z2 (by omega)
    exact e ▸ z1
theorem weaker_bases (ok : S.Ok) (okT : T.Ok) (hn : T.nm = S.nm) (hr : rkS S = rkS T) : otherF S T = [] ↔ ∀ b ∈ T.B, b ∈ S.B := by
  rw [otherF_nil ok okT hn]
  constructor
  · intro h b hb
    obtain ⟨c, hc, hs⟩ := h b ⟨b, hb, .refl _⟩
    have e := sb_eq hs (by rw [rkS_eq ok hc, rkS_eq okT hb, hr]; exact Nat.le_refl _)
    exact e ▸ hc
  · rintro h m ⟨b, hb, hs⟩
    exact ⟨b, h b hb, hs⟩
theorem weaker_dual (ok : S.Ok) (okT : T.Ok) (hn : T.nm = S.nm) (hr : rkS S = rkS T) : otherF (dualS S) (dualS T) = [] ↔ otherF S T = [] := by
  have en : T.n = S.n := by unfold Sys.n; rw [hn]
  have d1 := dual_rkS ok
  have d2 := dual_rkS okT
  rw [weaker_bases (dual_ok ok) (dual_ok okT) hn (by omega), weaker_bases ok okT hn hr]
  constructor
  · intro h b hb
    obtain ⟨c, hc, e⟩ := mem_dual.mp (h _ (mem_dual.mpr ⟨b, hb, rfl⟩))
    have e2 := congrArg (less (full S.n)) e
    rw [less_less (sb_full ok hc), en, less_less (en ▸ sb_full okT hb)] at e2
    exact e2 ▸ hc
  · intro h b hb
    obtain ⟨c, hc, rfl⟩ := mem_dual.mp hb
    rw [en]
    exact mem_dual.mpr ⟨c, h c hc, rfl⟩
end
end FS

-- part FtWeak3
set_option Elab.async false
set_option linter.all false
set_option maxRecDepth 100000
set_option maxHeartbeats 4000000
/-! What a law draws: a set; two systems; a system with some things drawn together, and left in as loose ones. -/
namespace FS
open PySem
theorem Sat.compF {α β : Type} {f : α → M (Option β)} {g : α → β} : ∀ {xs : List α}, (∀ x ∈ xs, Sat (f x) fun o => o = none ∨ o = some (g x)) → Sat (compA f xs) fun ys => ∃ zs, List.Sublist zs xs ∧ ys = zs.map g
  | [], _ => Sat.ret ⟨[], List.Sublist.refl _, rfl⟩
  | x :: xs, h => by
    refine Sat.bnd (h x List.mem_cons_self) fun o ho => ?_
    refine Sat.bnd (Sat.compF fun z hz => h z (List.mem_cons_of_mem _ hz)) fun ys hys => ?_
    obtain ⟨zs, h1, rfl⟩ := hys
    rcases ho with rfl | rfl
    · exact Sat.ret ⟨zs, h1.cons _, rfl⟩
    · exact Sat.ret ⟨x :: zs, h1.cons_cons _, rfl⟩
theorem sub_filter {α : Type} [DecidableEq α] {zs xs : List α} (h : List.Sublist zs xs) (nd : xs.Nodup) : zs = xs.filter fun x => decide (x ∈ zs) := by
  induction h with
  | slnil => rfl
  | cons a h ih =>
    have hn := List.nodup_cons.mp nd
    rw [List.filter_cons, if_neg]
    · exact ih hn.2
    · intro z
      exact hn.1 (h.subset (of_decide_eq_true z))
  | cons_cons a h ih =>
    have hn := List.nodup_cons.mp nd
    rw [List.filter_cons, if_pos (decide_eq_true List.mem_cons_self)]
    congr 1
    refine (ih hn.2).trans (List.filter_congr fun x hx => ?_)
    rw [decide_eq_decide, List.mem_cons]
    constructor
    · exact .inr
    · rintro (rfl | z)
      · exact absurd hx hn.1
      · exact z
theorem sub_range {n : Nat} (h : n ≤ 8) {zs : List (Fin 8)} (hs : List.Sublist zs (rangeF n)) : ∃ m, PyData.tuple (zs.map fun i => .int (i.val : Nat)) = enc m ∧ inN n m = true := by
  refine ⟨mkN (fun i => decide (∃ z ∈ zs, z.val = i)) n, ?_, inN_iff.mpr fun i hi => ?_⟩
  · have e := filter_range (fun i => decide (i ∈ zs)) (fun i => decide (∃ z ∈ zs, z.val = i)) h fun i => by
      rw [decide_eq_decide]
      constructor
      · exact fun z => ⟨i, z, rfl⟩
      · rintro ⟨z, hz, e⟩
        exact (Fin.ext e) ▸ hz
    rw [← sub_filter hs (rangeF_nodup n)] at e
    exact e
  · rw [bit_mkN _ _ _ h, Bool.and_eq_true] at hi
    exact of_decide_eq_true hi.1
section
variable {call : Nat → List D → M D} {S : Sys} {m a b : B8}
theorem L_law_set {cr n : Nat} (n8 : n ≤ 8) (hr : RollC call cr) : Sat (evSs call (b_law_set (c__law_roll := cr)) [.da cupD, .da (.int (n : Nat)), .no]) fun f => ∃ v, f = .rt v ∧ ∃ m, v = enc m ∧ inN n m = true := by
  simp [b_law_set, rng8 n8]
  refine Sat.bnd (Sat.nox (Sat.compF (g := fun x : Fin 8 => PyData.int (x.val : Nat)) fun x _ => ?_)) fun ys hys => ?_
  · refine Sat.bnd (roll_lit hr 2 2 rfl (by omega) (by omega)) fun d hd => ?_
    obtain ⟨r, _, rfl⟩ := hd
    by_cases z : r = 0
    · simp [z]
      exact Sat.ret (.inr rfl)
    · simp [z]
      exact Sat.ret (.inl rfl)
  · obtain ⟨zs, h1, rfl⟩ := hys
    obtain ⟨m, h2, h3⟩ := sub_range n8 h1
    exact Sat.ret ⟨_, rfl, m, h2, h3⟩
def Pair (v : D) : Prop := ∃ S T : Sys, v = .tuple [S.enc, T.enc] ∧ GoodS S ∧ GoodS T ∧ T.nm = S.nm
theorem bases_good (g : GoodS S) {B : List B8} (h : OkB S.n B) : GoodS ⟨S.nm, B⟩ := ⟨OkB.ok h g.ok.n1 g.ok.n8 g.ok.nms g.ok.nma, g.n6, h.most⟩
theorem L_law_pair {cy cb : Nat} (h1 : Sat (call cy [cupD]) fun v => ∃ S : Sys, v = S.enc ∧ GoodS S) (h2 : ∀ n : Nat, 1 ≤ n → n ≤ 6 → Sat (call cb [cupD, .int (n : Nat)]) fun v => ∃ B, v = famT B ∧ OkB n B) :
    Sat (evSs call (b_law_pair (c__law_system := cy) (c__law_bases := cb)) [.da cupD, .no]) fun f => ∃ v, f = .rt v ∧ Pair v := by
  simp [b_law_pair]
  refine Sat.bnd h1 fun d hd => ?_
  obtain ⟨S, rfl, g⟩ := hd
  have hn : S.nm.length = S.n := rfl
  simp [hn]
  refine Sat.bnd (h2 _ g.ok.n1 g.n6) fun d hd => ?_
  obtain ⟨B, rfl, hB⟩ := hd
  exact Sat.ret ⟨_, rfl, S, ⟨S.nm, B⟩, rfl, g, bases_good g hB, rfl⟩
/-! drawn together -/
def drawnL (S : Sys) (m : B8) : List B8 := (allS S.n).filter fun x => decide (rk S (x ||| m) = rk S m + pc x)
def drawnS (S : Sys) (m : B8) : Sys := ⟨S.nm, topsB (drawnL S m)⟩
theorem rk_or_le (ok : S.Ok) (x y : B8) : rk S (x ||| y) ≤ rk S x + pc y := by
  have := rk_sub ok x y
  have := rk_le S y
  omega
theorem ind_drawn (g : GoodS S) (m : B8) : Ind S.n fun x => decide (rk S (x ||| m) = rk S m + pc x) where
  zero := by
    have : 0#8 ||| m = m := by simp
    simp [this]
  her := fun a x ha h => by
    have ok := g.ok
    rw [decide_eq_true_eq] at *
    by_cases hx : a.getLsbD x = true
    · have e := pc_less_one hx
      have h1 := rk_or_le ok (less a (one x) ||| m) (one x)
      have e2 : less a (one x) ||| m ||| one x = a ||| m := by
        apply B8.ext
        intro j
        rw [bit_or, bit_or, bit_or, bit_less, bit_one]
        by_cases q : x = j
        · subst q
          simp [hx, bit_lt hx]
        · simp [q]
      have e3 : pc (one x) = 1 := pc_one (bit_lt hx)
      have e4 : m ||| less a (one x) = less a (one x) ||| m := by rw [BitVec.or_comm]
      have h2 := rk_or_le ok m (less a (one x))
      rw [e4] at h2
      rw [e2, e3] at h1
      omega
    · have : less a (one x) = a := by
        apply B8.ext
        intro j
        rw [bit_less, bit_one]
        by_cases q : x = j
        · subst q
          simp [hx]
        · simp [q]
      rw [this]
      exact h
  aug := fun a b ha hb h1 h2 h3 => by
    have ok := g.ok
    rw [decide_eq_true_eq] at h1 h2
    obtain ⟨z, z1, z2, z3⟩ := top_in ok (a ||| m)
    obtain ⟨y, y1, y2, y3⟩ := top_in ok (b ||| m)
    obtain ⟨i, i1, i2, i3⟩ := grow ok z1 y1 (by omega)
    have e := rk_of_free ok i3
    rw [pc_or_one (bit_lt i1) i2] at e
    have s : Sb (z ||| one i) (a ||| m ||| one i) := fun j hj => by
      rw [bit_or] at hj ⊢
      rw [Bool.or_eq_true] at hj ⊢
      exact hj.imp (z2 j) id
    have s1 := rk_mono (S := S) s
    have ni : (a ||| m).getLsbD i = false := by
      cases q : (a ||| m).getLsbD i with
      | false => rfl
      | true =>
        rw [or_in q] at s1
        omega
    have ni2 : a.getLsbD i = false ∧ m.getLsbD i = false := by
      rw [bit_or, Bool.or_eq_false_iff] at ni
      exact ni
    have bi : b.getLsbD i = true := by
      have := y2 i i1
      rw [bit_or, ni2.2, Bool.or_false] at this
      exact this
    refine ⟨i, bi, ni2.1, ?_⟩
    have e4 : a ||| one i ||| m = a ||| m ||| one i := by
      apply B8.ext
      intro j
      rw [bit_or, bit_or, bit_or, bit_or]
      cases a.getLsbD j <;> cases m.getLsbD j <;> cases (one i).getLsbD j <;> rfl
    have e5 : m ||| (a ||| one i) = a ||| m ||| one i := by rw [BitVec.or_comm, e4]
    have u := rk_or_le ok m (a ||| one i)
    rw [e5, pc_or_one (bit_lt i1) ni2.1] at u
    rw [decide_eq_true_eq, e4, pc_or_one (bit_lt i1) ni2.1]
    omega
theorem drawn_good (g : GoodS S) (m : B8) : GoodS (drawnS S m) := by
  have ok := g.ok
  have h := (okB_ind g.n6 (ind_drawn g m)).1
  exact ⟨OkB.ok (nm := S.nm) h ok.n1 ok.n8 ok.nms ok.nma, g.n6, h.most⟩
theorem L_law_drawn_in {cr ct cs cb : Nat} (g : GoodS S) (m : B8) (h1 : ∀ {l : List B8}, l ≠ [] → (l.filter fun m => decide (pc m = maxN (l.map pc))).length < 64 → call ct [famL l] = M.ret (famT (topsB l))) (h2 : call cs [.int (S.n : Nat)] = M.ret (famL (allS S.n))) (h3 : ∀ m, call cr [S.enc, enc m] = M.ret (.int (rk S m : Nat)))
    (h4 : ∀ a b, call cb [enc a, enc b] = M.ret (enc (a ||| b))) : evSs call (b_law_drawn_in (c__law_rank := cr) (c__law_tops := ct) (c__law_sets := cs) (c__law_both := cb)) [.da S.enc, .da (enc m), .no, .no] = M.ret (.rt (drawnS S m).enc) := by
  obtain ⟨_, t3, t4⟩ := okB_ind g.n6 (ind_drawn g m)
  have e := h1 t3 t4
  have hn : S.nm.length = S.n := rfl
  have ec : ∀ x : B8, ((rk S (x ||| m) : Int) - rk S m = (pc x : Int)) = (rk S (x ||| m) = rk S m + pc x) := fun x => by
    apply propext
    omega
  simp [b_law_drawn_in, hn, h2, h3, h4, ec, e]
  rfl
theorem L_law_coarse_pair {cy cb cd ct cr cs ch : Nat} (h1 : Sat (call cy [cupD]) fun v => ∃ S : Sys, v = S.enc ∧ GoodS S) (h2 : ∀ n : Nat, 1 ≤ n → n ≤ 6 → Sat (call cb [cupD, .int (n : Nat)]) fun v => ∃ B, v = famT B ∧ OkB n B)
    (h3 : ∀ (S : Sys) (m : B8), GoodS S → call cd [S.enc, enc m] = M.ret (drawnS S m).enc) (h4 : ∀ n : Nat, n ≤ 8 → Sat (call ct [cupD, .int (n : Nat)]) fun v => ∃ m, v = enc m ∧ inN n m = true) (hr : RollC call cr) (h5 : ∀ l : List D, l ≠ [] → l.length < 1000000 → Sat (call cs [cupD, .list l]) fun v => v ∈ l)
    (h6 : ∀ S : Sys, GoodS S → 0 < rkS S → call ch [S.enc] = M.ret (shortS S).enc) :
    Sat (evSs call (b_law_coarse_pair (c__law_system := cy) (c__law_drawn_in := cd) (c__law_set := ct) (c__law_roll := cr) (c__law_bases := cb) (c__law_some := cs) (c__law_short := ch)) [.da cupD, .no, .no, .no, .no]) fun f => ∃ v, f = .rt v ∧ Pair v := by
  simp [b_law_coarse_pair]
  refine Sat.bnd h1 fun d hd => ?_
  obtain ⟨S, rfl, g⟩ := hd
  have ok := g.ok
  have n1 := ok.n1
  have n6 := g.n6
  have hn : S.nm.length = S.n := rfl
  have hk : pc (S.B.headD 0#8) = rkS S := rfl
  simp [hn, idx_hd ok.ne, -List.headD_eq_head?_getD, hk]
  refine Sat.bnd (h4 _ ok.n8) fun d hd => ?_
  obtain ⟨m, rfl, _⟩ := hd
  simp [h3 _ _ g]
  refine Sat.bnd (hr _ (by omega) (by omega)) fun d hd => ?_
  obtain ⟨r, r8, rfl⟩ := hd
  have e1 : PyData.tuple [.int (r : Nat)] = enc (one r) := by
    unfold enc
    rw [bits_one (by omega)]
    rfl
  simp [e1, h3 _ _ g]
  refine Sat.bnd (h2 _ n1 n6) fun d hd => ?_
  obtain ⟨B, rfl, hB⟩ := hd
  have eT : PyData.tuple [nmD S.nm, famT B] = (Sys.mk S.nm B).enc := rfl
  have ad : ∀ a b c d e : D, addD (.list [a, b, c, d]) (.list [e]) = some (.list [a, b, c, d, e]) := fun _ _ _ _ _ => rfl
  have ad0 : ∀ a b c d : D, addD (.list [a, b, c, d]) (.list []) = some (.list [a, b, c, d]) := fun _ _ _ _ => rfl
  have gB := bases_good g hB
  by_cases h0 : 0 < rkS S
  · simp [eT, h0, h6 _ g h0, ad]
    refine Sat.bnd (h5 _ (by simp) (by simp)) fun v hv => ?_
    simp only [List.mem_cons, List.not_mem_nil, or_false] at hv
    rcases hv with rfl | rfl | rfl | rfl | rfl
    · exact Sat.ret ⟨_, rfl, S, _, rfl, g, drawn_good g _, rfl⟩
    · exact Sat.ret ⟨_, rfl, S, _, rfl, g, drawn_good g _, rfl⟩
    · exact Sat.ret ⟨_, rfl, S, _, rfl, g, gB, rfl⟩
    · exact Sat.ret ⟨_, rfl, S, _, rfl, g, g, rfl⟩
    · exact Sat.ret ⟨_, rfl, S, _, rfl, g, short_good g h0, rfl⟩
  · simp [eT, h0, ad0]
    refine Sat.bnd (h5 _ (by simp) (by simp)) fun v hv => ?_
    simp only [List.mem_cons, List.not_mem_nil, or_false] at hv
    rcases hv with rfl | rfl | rfl | rfl
    · exact Sat.ret ⟨_, rfl, S, _, rfl, g, drawn_good g _, rfl⟩
    · exact Sat.ret ⟨_, rfl, S, _, rfl, g, drawn_good g _, rfl⟩
    · exact Sat.ret ⟨_, rfl, S, _, rfl, g, gB, rfl⟩
    · exact Sat.ret ⟨_, rfl, S, _, rfl, g, g, rfl⟩
end
end FS

-- part FtWeak4
set_option Elab.async false
set_option linter.all false
set_option maxRecDepth 100000
set_option maxHeartbeats 4000000
/-! Papers of weaker systems, and odd values. -/
namespace FS
open PySem
theorem okk_lay {k : Nat} {d : D} (h : okk k d = true) : d.canLay0 = true := okS_lay d (okk_same k d h).1
section
variable {call : Nat → List D → M D} {S T : Sys} {m : B8}
theorem L_is_whole_bool (b : Bool) : evSs call b_is_whole [.da (.bool b)] = M.ret (.rt (.bool false)) := by
  have h : (PyData.bool b).canLay0 = true := rfl
  simp [b_is_whole, isiT _ h, isiB, tyN]
theorem L_fits_whole_bool {c : Nat} (b : Bool) (lo hi : Int) (h : call c [.bool b] = M.ret (.bool false)) : evSs call (b_fits_whole (c_is_whole := c)) [.da (.bool b), .da (.int lo), .da (.int hi)] = M.ret (.rt (.bool false)) := by
  simp [b_fits_whole, h]
theorem L_is_tuple_of_tup {l : List D} (h : PyData.canLay0 (.tuple l) = true) (lo hi : Int) : evSs call b_is_tuple_of [.da (.tuple l), .da (.int lo), .da (.int hi)] = M.ret (.rt (.bool (decide (lo ≤ l.length) && decide ((l.length : Int) ≤ hi)))) := by
  have e : lenD [.tuple l] = some (.int (l.length : Nat)) := rfl
  simp [b_is_tuple_of, isiT _ h, isiB, tyN, e]
theorem L_is_tuple_of_no {d : D} (h : d.canLay0 = true) (h2 : isiB d "tuple" = false) (lo hi : Int) : evSs call b_is_tuple_of [.da d, .da (.int lo), .da (.int hi)] = M.ret (.rt (.bool false)) := by
  simp [b_is_tuple_of, isiT _ h, h2]
theorem L_fits_set_no {ct cw cr : Nat} {d : D} (n : Nat) (h1 : call ct [d, .int 0, .int (n : Nat)] = M.ret (.bool false)) : evSs call (b_fits_set (c_is_tuple_of := ct) (c_fits_whole := cw) (c_is_rising := cr)) [.da d, .da (.int (n : Nat)), .no] = M.ret (.rt (.bool false)) := by
  simp [b_fits_set, h1]
theorem L_fits_set_bool {ct cw cr : Nat} (b : Bool) (n : Nat) (h1 : call ct [.tuple [.bool b], .int 0, .int (n : Nat)] = M.ret (.bool (decide ((0 : Int) ≤ 1) && decide ((1 : Int) ≤ n)))) (h2 : ∀ lo hi : Int, call cw [.bool b, .int lo, .int hi] = M.ret (.bool false)) :
    evSs call (b_fits_set (c_is_tuple_of := ct) (c_fits_whole := cw) (c_is_rising := cr)) [.da (.tuple [.bool b]), .da (.int (n : Nat)), .no] = M.ret (.rt (.bool false)) := by
  by_cases e : (1 : Int) ≤ n
  · have al : allD [.list [.bool false]] = some (.bool false) := rfl
    simp [b_fits_set, h1, h2, e, compL, al]
  · simp [b_fits_set, h1, e]
theorem L_is_one_of {cf ct : Nat} (m : B8) (l : List B8) (h1 : call cf [enc m, .int (S.n : Nat)] = M.ret (.bool (inN S.n m))) (h2 : call ct [S.enc] = M.ret (.int (S.n : Nat))) : evSs call (b_is_one_of (c_fits_set := cf) (c_things_in := ct)) [.da S.enc, .da (enc m), .da (famL l)] = M.ret (.rt (.bool (inN S.n m && decide (m ∈ l)))) := by
  cases e : inN S.n m <;> simp [b_is_one_of, h1, h2, e]
theorem L_is_one_of_no {cf ct : Nat} {d : D} (l : List B8) (h1 : call cf [d, .int (S.n : Nat)] = M.ret (.bool false)) (h2 : call ct [S.enc] = M.ret (.int (S.n : Nat))) : evSs call (b_is_one_of (c_fits_set := cf) (c_things_in := ct)) [.da S.enc, .da d, .da (famL l)] = M.ret (.rt (.bool false)) := by
  simp [b_is_one_of, h1, h2]
section
variable {cn ct co cf : Nat} (h1 : call cn [S.enc, T.enc] = M.ret .none) (h3 : call co [S.enc, T.enc] = M.ret (famL (otherF S T)))
include h1
theorem L_weaker_no {d : D} (h2 : ∀ lo hi : Int, call ct [d, .int lo, .int hi] = M.ret (.bool false)) : evSs call (b_is_weaker_paper (c_need_two := cn) (c_is_tuple_of := ct) (c_other_free := co) (c_is_one_of := cf)) [.da S.enc, .da T.enc, .da d] = M.ret (.rt (.bool false)) := by
  simp [b_is_weaker_paper, h1, h2]
variable (h2 : ∀ (l : List D) (lo hi : Int), PyData.canLay0 (.tuple l) = true → call ct [.tuple l, .int lo, .int hi] = M.ret (.bool (decide (lo ≤ l.length) && decide ((l.length : Int) ≤ hi))))
include h2
theorem L_weaker_len {l : List D} (hk : PyData.canLay0 (.tuple l) = true) (h : l.length = 0 ∨ 3 ≤ l.length) : evSs call (b_is_weaker_paper (c_need_two := cn) (c_is_tuple_of := ct) (c_other_free := co) (c_is_one_of := cf)) [.da S.enc, .da T.enc, .da (.tuple l)] = M.ret (.rt (.bool false)) := by
  have e : (decide ((1 : Int) ≤ l.length) && decide ((l.length : Int) ≤ 2)) = false := by
    rw [Bool.and_eq_false_iff, decide_eq_false_iff_not, decide_eq_false_iff_not]
    omega
  simp only [b_is_weaker_paper]
  simp [h1, h2 l 1 2 hk, e, -Bool.and_eq_false_imp, -decide_eq_false_iff_not]
include h3
theorem L_weaker_free : evSs call (b_is_weaker_paper (c_need_two := cn) (c_is_tuple_of := ct) (c_other_free := co) (c_is_one_of := cf)) [.da S.enc, .da T.enc, .da (.tuple [.str "free"])] = M.ret (.rt (.bool (decide (otherF S T = [])))) := by
  have x0 : idxD (.tuple [.str "free"]) (.int 0) = some (.str "free") := rfl
  have x1 : lenD [.tuple [.str "free"]] = some (.int 1) := rfl
  have hk : PyData.canLay0 (.tuple [.str "free"]) = true := by kernel_rfl
  have i0 : isiD "str" (.str "free") = some (.bool true) := by kernel_rfl
  have e0 : eqD (.str "free") (.str "free") = some (.bool true) := by kernel_rfl
  simp [b_is_weaker_paper, h1, h2 [.str "free"] 1 2 hk, x0, x1, i0, e0, h3]
omit h3
theorem L_weaker_word {w : Str} (hs : (PyData.str w).canLay0 = true) (hk : PyData.canLay0 (.tuple [.str w]) = true) (e0 : eqD (.str w) (.str "free") = some (.bool false)) (b : Bool) (e1 : eqD (.str w) (.str "set") = some (.bool b)) : evSs call (b_is_weaker_paper (c_need_two := cn) (c_is_tuple_of := ct) (c_other_free := co) (c_is_one_of := cf)) [.da S.enc, .da T.enc, .da (.tuple [.str w])] = M.ret (.rt (.bool false)) := by
  have x0 : idxD (.tuple [.str w]) (.int 0) = some (.str w) := rfl
  have x1 : lenD [.tuple [.str w]] = some (.int 1) := rfl
  have i0 : isiD "str" (.str w) = some (.bool true) := by simp [isiT _ hs, isiB, tyN]
  cases b <;> simp [b_is_weaker_paper, h1, h2 [.str w] 1 2 hk, x0, x1, i0, e0, e1]
theorem L_weaker_free2 {d : D} (hk : PyData.canLay0 (.tuple [.str "free", d]) = true) : evSs call (b_is_weaker_paper (c_need_two := cn) (c_is_tuple_of := ct) (c_other_free := co) (c_is_one_of := cf)) [.da S.enc, .da T.enc, .da (.tuple [.str "free", d])] = M.ret (.rt (.bool false)) := by
  have x0 : idxD (.tuple [.str "free", d]) (.int 0) = some (.str "free") := rfl
  have x1 : lenD [.tuple [.str "free", d]] = some (.int 2) := rfl
  have i0 : isiD "str" (.str "free") = some (.bool true) := by kernel_rfl
  have e0 : eqD (.str "free") (.str "free") = some (.bool true) := by kernel_rfl
  simp [b_is_weaker_paper, h1, h2 [.str "free", d] 1 2 hk, x0, x1, i0, e0]
theorem L_weaker_none {d : D} (hk : PyData.canLay0 (.tuple [.none, d]) = true) : evSs call (b_is_weaker_paper (c_need_two := cn) (c_is_tuple_of := ct) (c_other_free := co) (c_is_one_of := cf)) [.da S.enc, .da T.enc, .da (.tuple [.none, d])] = M.ret (.rt (.bool false)) := by
  have x0 : idxD (.tuple [.none, d]) (.int 0) = some .none := rfl
  have i0 : isiD "str" .none = some (.bool false) := by kernel_rfl
  simp [b_is_weaker_paper, h1, h2 [.none, d] 1 2 hk, x0, i0]
include h3
theorem L_weaker_set {d : D} (hk : PyData.canLay0 (.tuple [.str "set", d]) = true) (b : Bool) (h4 : call cf [S.enc, d, famL (otherF S T)] = M.ret (.bool b)) : evSs call (b_is_weaker_paper (c_need_two := cn) (c_is_tuple_of := ct) (c_other_free := co) (c_is_one_of := cf)) [.da S.enc, .da T.enc, .da (.tuple [.str "set", d])] = M.ret (.rt (.bool b)) := by
  have x0 : idxD (.tuple [.str "set", d]) (.int 0) = some (.str "set") := rfl
  have x2 : idxD (.tuple [.str "set", d]) (.int 1) = some d := rfl
  have x1 : lenD [.tuple [.str "set", d]] = some (.int 2) := rfl
  have i0 : isiD "str" (.str "set") = some (.bool true) := by kernel_rfl
  have e0 : eqD (.str "set") (.str "free") = some (.bool false) := by kernel_rfl
  have e1 : eqD (.str "set") (.str "set") = some (.bool true) := by kernel_rfl
  simp [b_is_weaker_paper, h1, h2 [.str "set", d] 1 2 hk, x0, x1, x2, i0, e0, e1, h3, h4]
end
end
end FS

-- part FtWeak5
set_option Elab.async false
set_option linter.all false
set_option maxRecDepth 100000
set_option maxHeartbeats 4000000
/-! Words of order. -/
namespace FS
open PySem
section
variable {S T : Sys}
theorem weaker_rkS (ok : S.Ok) (okT : T.Ok) (hn : T.nm = S.nm) (h : otherF S T = []) : rkS T ≤ rkS S := by
  obtain ⟨b, hb⟩ := List.exists_mem_of_ne_nil _ okT.ne
  have f := (otherF_nil ok okT hn).mp h b ⟨b, hb, .refl _⟩
  rw [← rkS_eq okT hb]
  exact fr_pc ok f
theorem same_iff (ok : S.Ok) (okT : T.Ok) (hn : T.nm = S.nm) : S = T ↔ otherF S T = [] ∧ otherF T S = [] := by
  constructor
  · rintro rfl
    have : otherF S S = [] := (otherF_nil ok ok rfl).mpr fun m h => h
    exact ⟨this, this⟩
  · rintro ⟨h1, h2⟩
    have r : rkS S = rkS T := Nat.le_antisymm (weaker_rkS okT ok hn.symm h2) (weaker_rkS ok okT hn h1)
    have b1 := (weaker_bases ok okT hn r).mp h1
    have b2 := (weaker_bases okT ok hn.symm r.symm).mp h2
    exact Sys.ext_iff'.mpr ⟨hn.symm, rising_ext ok.asc okT.asc fun a => ⟨b2 a, b1 a⟩⟩
theorem orderW_eq (ok : S.Ok) (okT : T.Ok) (hn : T.nm = S.nm) : orderW S T = if otherF S T = [] ∧ otherF T S = [] then ("same" : Str) else if otherF S T = [] then ("greater" : Str) else if otherF T S = [] then ("less" : Str) else ("apart" : Str) := by
  unfold orderW
  by_cases h : S = T
  · rw [if_pos h, if_pos ((same_iff ok okT hn).mp h)]
  · rw [if_neg h, if_neg fun z => h ((same_iff ok okT hn).mpr z)]
theorem orderW_self (S : Sys) : orderW S S = "same" := if_pos rfl
theorem paper_eq (l : List B8) : paperD "set" "free" l = if l = [] then .tuple [.str "free"] else .tuple [.str "set", enc (l.headD 0#8)] := by
  cases l <;> simp [paperD]
end
end FS

-- part Lt
set_option Elab.async false
set_option linter.all false
set_option maxRecDepth 100000
set_option maxHeartbeats 0
namespace FS
open PySem PySem.Spec PyProof.Rows L2
def top (i : Nat) : Stmt := PySem.Challenge.pw_freesets_k89_whole_weaker_systems.main.body.getD i (.Pass ⟨0, 0, 0, 0⟩)
def mkD (x : Str) (i : Nat) : He.DefD := ⟨(x, none), x, x, defArgs (top i), defBody (top i), defScope (top i), [], []⟩
abbrev s_0 : Ss := b_is_whole
abbrev s_1 : Ss := b_fits_whole (c_is_whole := 0)
abbrev s_2 : Ss := b_is_tuple_of
abbrev s_3 : Ss := b_is_rising
abbrev s_4 : Ss := b_fits_name
abbrev s_5 : Ss := b_fits_names (c_is_tuple_of := 2) (c_fits_name := 4)
abbrev s_6 : Ss := b_fits_set (c_is_tuple_of := 2) (c_fits_whole := 1) (c_is_rising := 3)
abbrev s_7 : Ss := b_union_in
abbrev s_8 : Ss := b_common_in
abbrev s_9 : Ss := b_less_in
abbrev s_10 : Ss := b_all_in
abbrev s_11 : Ss := b_sets_in
abbrev s_12 : Ss := b_fits_family (c_is_tuple_of := 2) (c_fits_set := 6) (c_is_rising := 3)
abbrev s_13 : Ss := b_swap_in (c_union_in := 7) (c_less_in := 9)
abbrev s_14 : Ss := b_break_in (c_swap_in := 13) (c_less_in := 9)
abbrev s_15 : Ss := b_unlike_in
abbrev s_16 : Ss := b_is_bases_in (c_unlike_in := 15) (c_break_in := 14)
abbrev s_17 : Ss := b_fits_system (c_is_tuple_of := 2) (c_fits_names := 5) (c_is_rising := 3) (c_fits_family := 12) (c_is_bases_in := 16)
abbrev s_18 : Ss := b_need_system (c_fits_system := 17)
abbrev s_19 : Ss := b_things_in
abbrev s_20 : Ss := b_rank_in (c_common_in := 8)
abbrev s_21 : Ss := b_is_free_in (c_rank_in := 20)
abbrev s_22 : Ss := b_need_things (c_need_system := 18) (c_fits_set := 6) (c_things_in := 19)
abbrev s_23 : Ss := b_is_free (c_need_things := 22) (c_is_free_in := 21)
abbrev s_24 : Ss := b_closure_in (c_rank_in := 20) (c_things_in := 19) (c_union_in := 7)
abbrev s_25 : Ss := b_is_flat_in (c_closure_in := 24)
abbrev s_26 : Ss := b_rank_of (c_need_things := 22) (c_rank_in := 20)
abbrev s_27 : Ss := b_dual_in (c_all_in := 10) (c_things_in := 19) (c_less_in := 9)
abbrev s_28 : Ss := b_dual_of (c_need_system := 18) (c_dual_in := 27)
abbrev s_29 : Ss := b_need_two (c_need_system := 18)
abbrev s_30 : Ss := b_other_flats (c_sets_in := 11) (c_things_in := 19) (c_is_flat_in := 25)
abbrev s_31 : Ss := b_other_free (c_sets_in := 11) (c_things_in := 19) (c_is_free_in := 21)
abbrev s_32 : Ss := b_is_coarser (c_need_two := 29) (c_other_flats := 30)
abbrev s_33 : Ss := b_is_weaker (c_need_two := 29) (c_other_free := 31)
abbrev s_34 : Ss := b_is_one_of (c_fits_set := 6) (c_things_in := 19)
abbrev s_35 : Ss := b_weaker_paper (c_need_two := 29) (c_other_free := 31)
abbrev s_36 : Ss := b_is_weaker_paper (c_need_two := 29) (c_is_tuple_of := 2) (c_other_free := 31) (c_is_one_of := 34)
abbrev s_37 : Ss := b_order_word (c_need_two := 29) (c_other_free := 31)
abbrev s_38 : Ss := b_law_roll 37385 16691 2147483423 13499 2147483587 10459
abbrev s_39 : Ss := b_law_some (c__law_roll := 38)
abbrev s_40 : Ss := b_law_same (c__law_same := 40)
abbrev s_41 : Ss := b_law_things (c__law_some := 39)
abbrev s_42 : Ss := b_law_sets
abbrev s_43 : Ss := b_law_set (c__law_roll := 38)
abbrev s_44 : Ss := b_law_within
abbrev s_45 : Ss := b_law_common
abbrev s_46 : Ss := b_law_less
abbrev s_47 : Ss := b_law_both
abbrev s_48 : Ss := b_law_tops
abbrev s_49 : Ss := b_law_no_ring
abbrev s_50 : Ss := b_law_no_sum
abbrev s_51 : Ss := b_law_bases (c__law_sets := 42) (c__law_roll := 38) (c__law_tops := 48) (c__law_no_ring := 49) (c__law_no_sum := 50) (c__law_less := 46)
abbrev s_52 : Ss := b_law_system_of (c__law_things := 41) (c__law_bases := 51)
abbrev s_53 : Ss := b_law_system (c__law_system_of := 52) (c__law_roll := 38)
abbrev s_54 : Ss := b_law_rank (c__law_common := 45)
abbrev s_55 : Ss := b_law_free (c__law_within := 44)
abbrev s_56 : Ss := b_law_short (c__law_tops := 48) (c__law_sets := 42) (c__law_free := 55)
abbrev s_57 : Ss := b_law_pair (c__law_system := 53) (c__law_bases := 51)
abbrev s_58 : Ss := b_law_drawn_in (c__law_rank := 54) (c__law_tops := 48) (c__law_sets := 42) (c__law_both := 47)
abbrev s_59 : Ss := b_law_coarse_pair (c__law_system := 53) (c__law_drawn_in := 58) (c__law_set := 43) (c__law_roll := 38) (c__law_bases := 51) (c__law_some := 39) (c__law_short := 56)
def rows0 : List Row := [⟨mkD "is_whole" 9, ["value"], ["value"], false, s_0⟩,
  ⟨mkD "fits_whole" 10, ["value", "low", "high"], ["value", "low", "high"], false, s_1⟩,
  ⟨mkD "is_tuple_of" 11, ["value", "least", "most"], ["value", "least", "most"], false, s_2⟩,
  ⟨mkD "is_rising" 12, ["values"], ["values", "one", "other"], false, s_3⟩,
  ⟨mkD "fits_name" 13, ["value"], ["value", "sign"], false, s_4⟩,
  ⟨mkD "fits_names" 14, ["value", "most"], ["value", "most", "name"], false, s_5⟩,
  ⟨mkD "fits_set" 15, ["value", "many"], ["value", "many", "one"], false, s_6⟩,
  ⟨mkD "union_in" 16, ["one", "other"], ["one", "other"], false, s_7⟩,
  ⟨mkD "common_in" 17, ["one", "other"], ["one", "other", "item"], false, s_8⟩,
  ⟨mkD "less_in" 18, ["one", "other"], ["one", "other", "item"], false, s_9⟩,
  ⟨mkD "all_in" 19, ["many"], ["many"], false, s_10⟩,
  ⟨mkD "sets_in" 20, ["many"], ["many", "rows", "one", "row"], true, s_11⟩,
  ⟨mkD "fits_family" 25, ["many", "value"], ["many", "value", "own"], false, s_12⟩,
  ⟨mkD "swap_in" 26, ["family", "one", "other", "thing"], ["family", "one", "other", "thing", "own"], false, s_13⟩,
  ⟨mkD "break_in" 27, ["family"], ["family", "told", "own", "one", "other", "thing"], false, s_14⟩,
  ⟨mkD "unlike_in" 28, ["family"], ["family", "found", "own"], false, s_15⟩,
  ⟨mkD "is_bases_in" 29, ["family"], ["family"], false, s_16⟩,
  ⟨mkD "fits_system" 30, ["value"], ["value"], false, s_17⟩,
  ⟨mkD "need_system" 31, ["system"], ["system"], false, s_18⟩,
  ⟨mkD "things_in" 32, ["system"], ["system"], false, s_19⟩]
def rows1 : List Row := [⟨mkD "rank_in" 33, ["system", "things"], ["system", "things", "base"], false, s_20⟩,
  ⟨mkD "is_free_in" 34, ["system", "things"], ["system", "things"], false, s_21⟩,
  ⟨mkD "need_things" 35, ["system", "things"], ["system", "things"], false, s_22⟩,
  ⟨mkD "is_free" 36, ["system", "things"], ["system", "things"], false, s_23⟩,
  ⟨mkD "closure_in" 38, ["system", "things"], ["system", "things", "rank", "one"], false, s_24⟩,
  ⟨mkD "is_flat_in" 39, ["system", "things"], ["system", "things"], false, s_25⟩,
  ⟨mkD "rank_of" 40, ["system", "things"], ["system", "things"], false, s_26⟩,
  ⟨mkD "dual_in" 42, ["system"], ["system", "every", "base"], false, s_27⟩,
  ⟨mkD "dual_of" 43, ["system"], ["system"], false, s_28⟩,
  ⟨mkD "need_two" 45, ["one", "other"], ["one", "other"], false, s_29⟩,
  ⟨mkD "other_flats" 46, ["one", "other"], ["one", "other", "flats", "own"], false, s_30⟩,
  ⟨mkD "other_free" 47, ["one", "other"], ["one", "other", "own"], false, s_31⟩,
  ⟨mkD "is_coarser" 48, ["one", "other"], ["one", "other"], false, s_32⟩,
  ⟨mkD "is_weaker" 49, ["one", "other"], ["one", "other"], false, s_33⟩,
  ⟨mkD "is_one_of" 50, ["system", "value", "sets"], ["system", "value", "sets"], false, s_34⟩,
  ⟨mkD "weaker_paper" 51, ["one", "other"], ["one", "other", "found"], false, s_35⟩,
  ⟨mkD "is_weaker_paper" 52, ["one", "other", "value"], ["one", "other", "value"], false, s_36⟩,
  ⟨mkD "order_word" 53, ["one", "other"], ["one", "other"], false, s_37⟩,
  ⟨mkD "_law_roll" 56, ["cup", "many"], ["cup", "many", "found", "deep"], false, s_38⟩,
  ⟨mkD "_law_some" 57, ["cup", "things"], ["cup", "things"], false, s_39⟩]
def rows2 : List Row := [⟨mkD "_law_same" 58, ["told", "due"], ["told", "due", "at"], false, s_40⟩,
  ⟨mkD "_law_things" 59, ["cup", "many"], ["cup", "many"], false, s_41⟩,
  ⟨mkD "_law_sets" 60, ["many"], ["many", "rows", "one", "row", "size"], false, s_42⟩,
  ⟨mkD "_law_set" 61, ["cup", "many"], ["cup", "many", "one"], false, s_43⟩,
  ⟨mkD "_law_within" 62, ["one", "other"], ["one", "other", "item"], false, s_44⟩,
  ⟨mkD "_law_common" 63, ["one", "other"], ["one", "other", "item"], false, s_45⟩,
  ⟨mkD "_law_less" 64, ["one", "other"], ["one", "other", "item"], false, s_46⟩,
  ⟨mkD "_law_both" 65, ["one", "other"], ["one", "other"], false, s_47⟩,
  ⟨mkD "_law_tops" 66, ["free"], ["free", "most", "own"], false, s_48⟩,
  ⟨mkD "_law_no_ring" 67, ["ends", "some"], ["ends", "some", "lots", "one", "a", "b", "mine", "theirs", "both", "point"], false, s_49⟩,
  ⟨mkD "_law_no_sum" 68, ["rows", "some"], ["rows", "some", "sums", "one", "more", "sum_of", "own", "other"], false, s_50⟩,
  ⟨mkD "_law_bases" 69, ["cup", "many"], ["cup", "many", "sets", "way", "rank", "own", "points", "ends", "one", "wide", "rows", "sign", "lots", "most", "free", "lot", "every"], false, s_51⟩,
  ⟨mkD "_law_system_of" 70, ["cup", "many"], ["cup", "many"], false, s_52⟩,
  ⟨mkD "_law_system" 71, ["cup"], ["cup"], false, s_53⟩,
  ⟨mkD "_law_rank" 72, ["system", "things"], ["system", "things", "base"], false, s_54⟩,
  ⟨mkD "_law_free" 73, ["system", "things"], ["system", "things", "base"], false, s_55⟩,
  ⟨mkD "_law_short" 74, ["system"], ["system", "rank", "own"], false, s_56⟩,
  ⟨mkD "_law_pair" 75, ["cup"], ["cup", "one"], false, s_57⟩,
  ⟨mkD "_law_drawn_in" 76, ["system", "things"], ["system", "things", "least", "own"], false, s_58⟩,
  ⟨mkD "_law_coarse_pair" 77, ["cup"], ["cup", "one", "many", "rank", "some"], false, s_59⟩]
def rows : List Row := rows0 ++ rows1 ++ rows2
def s_law_l1 : Ss := (.cons (.set 15 (.and (.cons (.cmp .eq (.var 14) (.tup (.cons (.str "free") .nil))) (.cons (.cmp .eq (.idx (.var 7) (.int 0)) (.lst .nil)) .nil)))) (.cons (.ite (.and (.cons (.isi "tuple" (.var 14)) (.cons (.cmp .eq (.bi .len (.cons (.var 14) .nil)) (.int 2)) (.cons (.cmp .eq (.idx (.var 14) (.int 0)) (.str "set")) (.cons (.isi "tuple" (.idx (.var 14) (.int 1))) .nil))))) (.cons (.set 15 (.and (.cons (.cmp .isin (.idx (.var 14) (.int 1)) (.idx (.var 7) (.int 0))) (.cons (.cmp .eq (.comp [("own", 10)] (.one 10) (.val (.idx (.var 14) (.int 1))) (.cons (.isi "bool" (.var 10)) .nil) (.var 10)) (.lst .nil)) .nil)))) .nil) .nil) (.cons (.ite (.not (.call 40 (.cons (.call 36 (.cons (.var 3) (.cons (.var 4) (.cons (.var 14) .nil)))) (.cons (.var 15) .nil)))) (.cons (.ret (.bl false)) .nil) .nil) .nil)))
def s_law_l0 : Ss := (.cons (.unp (.tup [3, 4]) (.call 39 (.cons (.var 1) (.cons (.lst (.cons (.call 59 (.cons (.var 1) .nil)) (.cons (.call 57 (.cons (.var 1) .nil)) (.cons (.call 57 (.cons (.var 1) .nil)) .nil)))) .nil)))) (.cons (.set 5 (.bi .len (.cons (.idx (.var 3) (.int 0)) .nil))) (.cons (.set 6 (.call 42 (.cons (.var 5) .nil))) (.cons (.set 7 (.comp [("mine", 8), ("theirs", 9)] (.tup [8, 9]) (.val (.tup (.cons (.tup (.cons (.var 4) (.cons (.var 3) .nil))) (.cons (.tup (.cons (.var 3) (.cons (.var 4) .nil))) .nil)))) .nil (.comp [("own", 10)] (.one 10) (.val (.var 6)) (.cons (.and (.cons (.call 55 (.cons (.var 8) (.cons (.var 10) .nil))) (.cons (.not (.call 55 (.cons (.var 9) (.cons (.var 10) .nil)))) .nil))) .nil) (.var 10)))) (.cons (.set 11 (.ite (.cmp .ne (.idx (.var 7) (.int 0)) (.lst .nil)) (.tup (.cons (.str "set") (.cons (.idx (.idx (.var 7) (.int 0)) (.int 0)) .nil))) (.tup (.cons (.str "free") .nil)))) (.cons (.ite (.not (.call 40 (.cons (.tup (.cons (.call 33 (.cons (.var 3) (.cons (.var 4) .nil))) (.cons (.call 33 (.cons (.var 4) (.cons (.var 3) .nil))) (.cons (.call 35 (.cons (.var 3) (.cons (.var 4) .nil))) .nil)))) (.cons (.tup (.cons (.cmp .eq (.idx (.var 7) (.int 0)) (.lst .nil)) (.cons (.cmp .eq (.idx (.var 7) (.int 1)) (.lst .nil)) (.cons (.var 11) .nil)))) .nil)))) (.cons (.ret (.bl false)) .nil) .nil) (.cons (.set 12 (.ite (.cmp .eq (.bop .add (.idx (.var 7) (.int 0)) (.idx (.var 7) (.int 1))) (.lst .nil)) (.str "same") (.ite (.cmp .eq (.idx (.var 7) (.int 0)) (.lst .nil)) (.str "greater") (.ite (.cmp .eq (.idx (.var 7) (.int 1)) (.lst .nil)) (.str "less") (.str "apart"))))) (.cons (.ite (.not (.call 40 (.cons (.tup (.cons (.call 37 (.cons (.var 3) (.cons (.var 4) .nil))) (.cons (.call 37 (.cons (.var 3) (.cons (.var 3) .nil))) .nil))) (.cons (.tup (.cons (.var 12) (.cons (.str "same") .nil))) .nil)))) (.cons (.ret (.bl false)) .nil) .nil) (.cons (.ite (.cmp .ne (.cmp .eq (.idx (.var 7) (.int 0)) (.lst .nil)) (.cmp .eq (.comp [("own", 10)] (.one 10) (.val (.var 6)) (.cons (.cmp .gt (.call 26 (.cons (.var 4) (.cons (.var 10) .nil))) (.call 26 (.cons (.var 3) (.cons (.var 10) .nil)))) .nil) (.var 10)) (.lst .nil))) (.cons (.ret (.bl false)) .nil) .nil) (.cons (.ite (.and (.cons (.call 32 (.cons (.var 3) (.cons (.var 4) .nil))) (.cons (.cmp .ne (.idx (.var 7) (.int 0)) (.lst .nil)) .nil))) (.cons (.ret (.bl false)) .nil) .nil) (.cons (.ite (.and (.cons (.cmp .eq (.bi .len (.cons (.idx (.idx (.var 3) (.int 1)) (.int 0)) .nil)) (.bi .len (.cons (.idx (.idx (.var 4) (.int 1)) (.int 0)) .nil))) (.cons (.cmp .ne (.call 33 (.cons (.call 28 (.cons (.var 3) .nil)) (.cons (.call 28 (.cons (.var 4) .nil)) .nil))) (.cmp .eq (.idx (.var 7) (.int 0)) (.lst .nil))) .nil))) (.cons (.ret (.bl false)) .nil) .nil) (.cons (.set 13 (.lst (.cons (.var 11) (.cons (.bi .list (.cons (.var 11) .nil)) (.cons (.bop .add (.var 11) (.tup (.cons (.tup .nil) .nil))) (.cons .non (.cons (.int 5) (.cons (.tup .nil) (.cons (.tup (.cons (.str "free") .nil)) (.cons (.tup (.cons (.str "set") .nil)) (.cons (.tup (.cons (.str "free") (.cons (.tup .nil) .nil))) (.cons (.tup (.cons (.str "Free") .nil)) (.cons (.tup (.cons (.str "set") (.cons .non .nil))) (.cons (.tup (.cons (.str "set") (.cons (.tup (.cons (.var 5) .nil)) .nil))) .nil)))))))))))))) (.cons (.set 13 (.bop .add (.bop .add (.var 13) (.comp [("own", 10)] (.one 10) (.val (.slc (.bop .add (.idx (.var 7) (.int 0)) (.idx (.var 7) (.int 1))) .nil (.cons (.int 4) .nil))) .nil (.tup (.cons (.str "set") (.cons (.var 10) .nil))))) (.lst (.cons (.tup (.cons (.str "set") (.cons (.call 43 (.cons (.var 1) (.cons (.var 5) .nil))) .nil))) (.cons (.tup (.cons (.str "set") (.cons (.bi .list (.cons (.idx (.var 6) (.neg (.int 1))) .nil)) .nil))) .nil))))) (.cons (.for (.one 14) (.val (.bop .add (.var 13) (.lst (.cons (.tup (.cons (.str "set") (.cons (.tup (.cons (.bl true) .nil)) .nil))) (.cons (.tup (.cons .non (.cons (.idx (.var 6) (.int 0)) .nil))) (.cons (.tup (.cons (.str "set") (.cons (.idx (.var 6) (.neg (.int 1))) (.cons (.tup .nil) .nil)))) .nil)))))) s_law_l1) (.cons (.ite (.and (.cons (.cmp .ne (.idx (.var 7) (.int 0)) (.lst .nil)) (.cons (.cmp .isn (.call 23 (.cons (.var 3) (.cons (.idx (.idx (.var 7) (.int 0)) (.int 0)) .nil))) (.bl false)) .nil))) (.cons (.ret (.bl false)) .nil) .nil) .nil)))))))))))))))
def s_law : Ss := (.cons (.for (.one 2) (.rng (.cons (.int 5) .nil)) s_law_l0) (.cons (.ret (.bl true)) .nil))
def prg : Prog := ⟨rows, [("LETTERS", .str "abcdefghijklmnopqrstuvwxyz"), ("DIGITS", .str "0123456789"), ("NAME", .int 12), ("THINGS", .int 8), ("BASES", .int 70), ("SETS", .int 256)], mkD "_law_cup" 55, ⟨mkD "law" 78, ["script"], ["script", "cup", "turn", "one", "other", "many", "sets", "rows", "mine", "theirs", "own", "due", "word", "values", "value", "good"], false, s_law⟩, ⟨223, 12739, 14947, 2041734809, 11177⟩⟩
theorem prg_chk : prg.chk = true := by kernel_rfl
theorem prg_cc : cupChk prg.k prg.cup.body = true := by kernel_rfl
theorem prg_lc : lawChk prg.law.d.body = true := by kernel_rfl
theorem prg_bind : BindAll prg.rows := ⟨fun _ _ _ _ _ _ us hl => match us, hl with | [_], _ => rfl,
  fun _ _ _ _ _ _ us hl => match us, hl with | [_, _, _], _ => rfl,
  fun _ _ _ _ _ _ us hl => match us, hl with | [_, _, _], _ => rfl,
  fun _ _ _ _ _ _ us hl => match us, hl with | [_], _ => rfl,
  fun _ _ _ _ _ _ us hl => match us, hl with | [_], _ => rfl,
  fun _ _ _ _ _ _ us hl => match us, hl with | [_, _], _ => rfl,
  fun _ _ _ _ _ _ us hl => match us, hl with | [_, _], _ => rfl,
  fun _ _ _ _ _ _ us hl => match us, hl with | [_, _], _ => rfl,
  fun _ _ _ _ _ _ us hl => match us, hl with | [_, _], _ => rfl,
  fun _ _ _ _ _ _ us hl => match us, hl with | [_, _], _ => rfl,
  fun _ _ _ _ _ _ us hl => match us, hl with | [_], _ => rfl,
  fun _ _ _ _ _ _ us hl => match us, hl with | [_], _ => rfl,
  fun _ _ _ _ _ _ us hl => match us, hl with | [_, _], _ => rfl,
  fun _ _ _ _ _ _ us hl => match us, hl with | [_, _, _, _], _ => rfl,
  fun _ _ _ _ _ _ us hl => match us, hl with | [_], _ => rfl,
  fun _ _ _ _ _ _ us hl => match us, hl with | [_], _ => rfl,
  fun _ _ _ _ _ _ us hl => match us, hl with | [_], _ => rfl,
  fun _ _ _ _ _ _ us hl => match us, hl with | [_], _ => rfl,
  fun _ _ _ _ _ _ us hl => match us, hl with | [_], _ => rfl,
  fun _ _ _ _ _ _ us hl => match us, hl with | [_], _ => rfl,
  fun _ _ _ _ _ _ us hl => match us, hl with | [_, _], _ => rfl,
  fun _ _ _ _ _ _ us hl => match us, hl with | [_, _], _ => rfl,
  fun _ _ _ _ _ _ us hl => match us, hl with | [_, _], _ => rfl,
  fun _ _ _ _ _ _ us hl => match us, hl with | [_, _], _ => rfl,
  fun _ _ _ _ _ _ us hl => match us, hl with | [_, _], _ => rfl,
  fun _ _ _ _ _ _ us hl => match us, hl with | [_, _], _ => rfl,
  fun _ _ _ _ _ _ us hl => match us, hl with | [_, _], _ => rfl,
  fun _ _ _ _ _ _ us hl => match us, hl with | [_], _ => rfl,
  fun _ _ _ _ _ _ us hl => match us, hl with | [_], _ => rfl,
  fun _ _ _ _ _ _ us hl => match us, hl with | [_, _], _ => rfl,
  fun _ _ _ _ _ _ us hl => match us, hl with | [_, _], _ => rfl,
  fun _ _ _ _ _ _ us hl => match us, hl with | [_, _], _ => rfl,
  fun _ _ _ _ _ _ us hl => match us, hl with | [_, _], _ => rfl,
  fun _ _ _ _ _ _ us hl => match us, hl with | [_, _], _ => rfl,
  fun _ _ _ _ _ _ us hl => match us, hl with | [_, _, _], _ => rfl,
  fun _ _ _ _ _ _ us hl => match us, hl with | [_, _], _ => rfl,
  fun _ _ _ _ _ _ us hl => match us, hl with | [_, _, _], _ => rfl,
  fun _ _ _ _ _ _ us hl => match us, hl with | [_, _], _ => rfl,
  fun _ _ _ _ _ _ us hl => match us, hl with | [_, _], _ => rfl,
  fun _ _ _ _ _ _ us hl => match us, hl with | [_, _], _ => rfl,
  fun _ _ _ _ _ _ us hl => match us, hl with | [_, _], _ => rfl,
  fun _ _ _ _ _ _ us hl => match us, hl with | [_, _], _ => rfl,
  fun _ _ _ _ _ _ us hl => match us, hl with | [_], _ => rfl,
  fun _ _ _ _ _ _ us hl => match us, hl with | [_, _], _ => rfl,
  fun _ _ _ _ _ _ us hl => match us, hl with | [_, _], _ => rfl,
  fun _ _ _ _ _ _ us hl => match us, hl with | [_, _], _ => rfl,
  fun _ _ _ _ _ _ us hl => match us, hl with | [_, _], _ => rfl,
  fun _ _ _ _ _ _ us hl => match us, hl with | [_, _], _ => rfl,
  fun _ _ _ _ _ _ us hl => match us, hl with | [_], _ => rfl,
  fun _ _ _ _ _ _ us hl => match us, hl with | [_, _], _ => rfl,
  fun _ _ _ _ _ _ us hl => match us, hl with | [_, _], _ => rfl,
  fun _ _ _ _ _ _ us hl => match us, hl with | [_, _], _ => rfl,
  fun _ _ _ _ _ _ us hl => match us, hl with | [_, _], _ => rfl,
  fun _ _ _ _ _ _ us hl => match us, hl with | [_], _ => rfl,
  fun _ _ _ _ _ _ us hl => match us, hl with | [_, _], _ => rfl,
  fun _ _ _ _ _ _ us hl => match us, hl with | [_, _], _ => rfl,
  fun _ _ _ _ _ _ us hl => match us, hl with | [_], _ => rfl,
  fun _ _ _ _ _ _ us hl => match us, hl with | [_], _ => rfl,
  fun _ _ _ _ _ _ us hl => match us, hl with | [_, _], _ => rfl,
  fun _ _ _ _ _ _ us hl => match us, hl with | [_], _ => rfl, trivial⟩
theorem prg_bl : BindP ["script"] prg.law.d := fun _ _ _ _ _ _ us hl => match us, hl with | [_], _ => rfl
theorem prg_bc : BindP ["script"] prg.cup := fun _ _ _ _ _ _ us hl => match us, hl with | [_], _ => rfl
/-! slots of law: 0 script, 1 cup, 2 turn, 3 one, 4 other, 5 many, 6 sets, 7 rows, 8 mine, 9 theirs, 10 own, 11 due, 12 word, 13 values, 14 value, 15 good -/
theorem roll_ok : RollOk 37385 16691 2147483423 13499 2147483587 10459 := by unfold RollOk; omega
theorem D_is_whole (k : Nat) (i : Int) : run prg.tab (k + 1) 0 [.int i] = M.ret (.bool true) := run_of (d := ⟨1, 1, s_0⟩) rfl rfl (L_is_whole i)
theorem D_fits_whole (k : Nat) (x lo hi : Int) : run prg.tab (k + 2) 1 [.int x, .int lo, .int hi] = M.ret (.bool (decide (lo ≤ x) && decide (x ≤ hi))) := run_of (d := ⟨3, 3, s_1⟩) rfl rfl (L_fits_whole (fun i => D_is_whole _ i) x lo hi)
theorem D_is_tuple_enc (k : Nat) (m : B8) (lo hi : Int) : run prg.tab (k + 1) 2 [enc m, .int lo, .int hi] = M.ret (.bool (decide (lo ≤ pc m) && decide ((pc m : Int) ≤ hi))) := run_of (d := ⟨3, 3, s_2⟩) rfl rfl (L_is_tuple_of_enc m lo hi)
theorem D_is_tuple_nm (k : Nat) {l : List Str} (hs : strsOk l = true) (lo hi : Int) : run prg.tab (k + 1) 2 [nmD l, .int lo, .int hi] = M.ret (.bool (decide (lo ≤ l.length) && decide ((l.length : Int) ≤ hi))) := run_of (d := ⟨3, 3, s_2⟩) rfl rfl (L_is_tuple_of_nm hs lo hi)
theorem D_is_tuple_fam (k : Nat) (l : List B8) (lo hi : Int) : run prg.tab (k + 1) 2 [famT l, .int lo, .int hi] = M.ret (.bool (decide (lo ≤ l.length) && decide ((l.length : Int) ≤ hi))) := run_of (d := ⟨3, 3, s_2⟩) rfl rfl (L_is_tuple_of_fam l lo hi)
theorem D_is_tuple_sys (k : Nat) {S : Sys} (hs : strsOk S.nm = true) : run prg.tab (k + 1) 2 [S.enc, .int 2, .int 2] = M.ret (.bool true) := run_of (d := ⟨3, 3, s_2⟩) rfl rfl (L_is_tuple_of_sys hs)
theorem D_common_in (k : Nat) (a b : B8) : run prg.tab (k + 1) 8 [enc a, enc b] = M.ret (enc (a &&& b)) := run_of (d := ⟨2, 3, s_8⟩) rfl rfl (L_common_in a b)
theorem D_less_in (k : Nat) (a b : B8) : run prg.tab (k + 1) 9 [enc a, enc b] = M.ret (enc (less a b)) := run_of (d := ⟨2, 3, s_9⟩) rfl rfl (L_less_in a b)
theorem D_union_in (k : Nat) (a b : B8) : run prg.tab (k + 1) 7 [enc a, enc b] = M.ret (enc (a ||| b)) := run_of (d := ⟨2, 2, s_7⟩) rfl rfl (L_union_in a b)
theorem D_is_rising_enc (k : Nat) (m : B8) : run prg.tab (k + 1) 3 [enc m] = M.ret (.bool true) := run_of (d := ⟨1, 3, s_3⟩) rfl rfl (L_is_rising_enc m)
theorem D_is_rising_fam (k : Nat) (l : List B8) : run prg.tab (k + 1) 3 [famT l] = M.ret (.bool ((l.zip l.tail).all fun p => ltB p.1 p.2)) := run_of (d := ⟨1, 3, s_3⟩) rfl rfl (L_is_rising_fam l)
theorem D_is_rising_nm (k : Nat) {l : List Str} (hs : strsOk l = true) : run prg.tab (k + 1) 3 [nmD l] = M.ret (.bool ((l.zip l.tail).all fun p => ltT p.1 p.2)) := run_of (d := ⟨1, 3, s_3⟩) rfl rfl (L_is_rising_nm hs)
theorem D_fits_name (k : Nat) {x : Str} (h : PySem.PyData.strOk x = true) : run prg.tab (k + 1) 4 [.str x] = M.ret (.bool (nameB x)) := run_of (d := ⟨1, 2, s_4⟩) rfl rfl (L_fits_name h)
theorem D_fits_names (k : Nat) {l : List Str} (hs : strsOk l = true) (m : Nat) (hm : m ≤ 1000) : run prg.tab (k + 2) 5 [nmD l, .int m] = M.ret (.bool (decide (l.length ≤ m) && (l.all nameB && decide ((dd l).length = l.length)))) := run_of (d := ⟨2, 3, s_5⟩) rfl rfl (L_fits_names hs m hm (D_is_tuple_nm _ hs 0 m) (fun x hx => D_fits_name _ (List.all_eq_true.mp hs x hx)))
theorem D_fits_set (k : Nat) (m : B8) (n : Nat) : run prg.tab (k + 3) 6 [enc m, .int n] = M.ret (.bool (inN n m)) := run_of (d := ⟨2, 3, s_6⟩) rfl rfl (L_fits_set m n (D_is_tuple_enc _ m 0 n) (fun x lo hi => D_fits_whole _ x lo hi) (D_is_rising_enc _ m))
theorem D_fits_family (k : Nat) (l : List B8) (n : Nat) : run prg.tab (k + 4) 12 [.int n, famT l] = M.ret (.bool (decide (l.length ≤ 256) && (l.all (inN n) && (l.zip l.tail).all fun p => ltB p.1 p.2))) := run_of (d := ⟨2, 3, s_12⟩) rfl rfl (L_fits_family l n (D_is_tuple_fam _ l 0 256) (fun m => D_fits_set _ m n) (D_is_rising_fam _ l))
theorem D_all_in (k : Nat) {n : Nat} (h : n ≤ 8) : run prg.tab (k + 1) 10 [.int (n : Nat)] = M.ret (enc (full n)) := run_of (d := ⟨1, 1, s_10⟩) rfl rfl (L_all_in h)
theorem D_sets_in (k : Nat) {n : Nat} (h : n ≤ 8) : run prg.tab (k + 1) 11 [.int (n : Nat)] = M.ret (famL (allS n)) := run_of (d := ⟨1, 4, s_11⟩) rfl rfl (L_sets_in h)
theorem D_swap_in (k : Nat) (l : List B8) (a b : B8) (t : Fin 8) : run prg.tab (k + 2) 13 [dictB l, enc a, enc b, .int (t.val : Nat)] = M.ret (optI (swapF l a b t)) := run_of (d := ⟨4, 5, s_13⟩) rfl rfl (L_swap_in l a b t (fun a b => D_less_in _ a b) (fun a b => D_union_in _ a b))
theorem D_break_in (k : Nat) {S : Sys} (ok : S.Ok) : run prg.tab (k + 3) 14 [famT S.B] = M.ret (.none) := run_of (d := ⟨1, 6, s_14⟩) rfl rfl (L_break_in ok.asc.nodup (fun a b => D_less_in _ a b) (fun a b t => D_swap_in _ S.B a b t) (break_none ok))
theorem D_unlike_in (k : Nat) {S : Sys} (ok : S.Ok) : run prg.tab (k + 1) 15 [famT S.B] = M.ret (.none) := run_of (d := ⟨1, 3, s_15⟩) rfl rfl (L_unlike_in ok.ne ok.eqv)
theorem D_is_bases_in (k : Nat) {S : Sys} (ok : S.Ok) : run prg.tab (k + 4) 16 [famT S.B] = M.ret (.bool true) := run_of (d := ⟨1, 1, s_16⟩) rfl rfl (L_is_bases_in ok.ne (D_unlike_in _ ok) (D_break_in _ ok))
theorem D_fits_system (k : Nat) {S : Sys} (ok : S.Ok) : run prg.tab (k + 5) 17 [S.enc] = M.ret (.bool true) := run_of (d := ⟨1, 1, s_17⟩) rfl rfl (L_fits_system ok (D_is_tuple_sys _ ok.strs) (D_fits_names _ ok.strs 8 (by omega)) (D_is_rising_nm _ ok.strs) (D_fits_family _ S.B S.n) (D_is_bases_in _ ok))
theorem D_need_system (k : Nat) {S : Sys} (ok : S.Ok) : run prg.tab (k + 6) 18 [S.enc] = M.ret .none := run_nx (d := ⟨1, 1, s_18⟩) rfl rfl (L_need_system (D_fits_system _ ok))
theorem D_things_in (k : Nat) (S : Sys) : run prg.tab (k + 1) 19 [S.enc] = M.ret (.int (S.n : Nat)) := run_of (d := ⟨1, 1, s_19⟩) rfl rfl (L_things_in)
theorem D_rank_in (k : Nat) {S : Sys} (ok : S.Ok) (m : B8) : run prg.tab (k + 2) 20 [S.enc, enc m] = M.ret (.int (rk S m : Nat)) := run_of (d := ⟨2, 3, s_20⟩) rfl rfl (L_rank_in ok.ne m (fun a b => D_common_in _ a b))
theorem D_is_free_in (k : Nat) {S : Sys} (ok : S.Ok) (m : B8) : run prg.tab (k + 3) 21 [S.enc, enc m] = M.ret (.bool (isFree S m)) := run_of (d := ⟨2, 2, s_21⟩) rfl rfl (L_is_free_in m (D_rank_in _ ok m))
theorem D_need_things (k : Nat) {S : Sys} (ok : S.Ok) {m : B8} (h : inN S.n m = true) : run prg.tab (k + 7) 22 [S.enc, enc m] = M.ret .none := run_nx (d := ⟨2, 2, s_22⟩) rfl rfl (L_need_things (D_need_system _ ok) (D_things_in _ S) ((D_fits_set _ m S.n).trans (by rw [h])))
theorem D_dual_in (k : Nat) {S : Sys} (ok : S.Ok) : run prg.tab (k + 2) 27 [S.enc] = M.ret ((dualS S).enc) := run_of (d := ⟨1, 3, s_27⟩) rfl rfl (L_dual_in ok (D_all_in _ ok.n8) (D_things_in _ S) (fun a b => D_less_in _ a b))
theorem D_dual_of (k : Nat) {S : Sys} (ok : S.Ok) : run prg.tab (k + 7) 28 [S.enc] = M.ret ((dualS S).enc) := run_of (d := ⟨1, 1, s_28⟩) rfl rfl (L_dual_of (D_need_system _ ok) (D_dual_in _ ok))
theorem D_rank_of (k : Nat) {S : Sys} (ok : S.Ok) {m : B8} (h : inN S.n m = true) : run prg.tab (k + 8) 26 [S.enc, enc m] = M.ret (.int (rk S m : Nat)) := run_of (d := ⟨2, 2, s_26⟩) rfl rfl (L_rank_of m (D_need_things _ ok h) (D_rank_in _ ok m))
theorem D_is_free (k : Nat) {S : Sys} (ok : S.Ok) {m : B8} (h : inN S.n m = true) : run prg.tab (k + 8) 23 [S.enc, enc m] = M.ret (.bool (isFree S m)) := run_of (d := ⟨2, 2, s_23⟩) rfl rfl (L_is_free m (D_need_things _ ok h) (D_is_free_in _ ok m))
theorem D_closure_in (k : Nat) {S : Sys} (ok : S.Ok) (m : B8) : run prg.tab (k + 3) 24 [S.enc, enc m] = M.ret (enc (clS S m)) := run_of (d := ⟨2, 4, s_24⟩) rfl rfl (L_closure_in ok.n8 m (fun m => D_rank_in _ ok m) (D_things_in _ S) (fun a b => D_union_in _ a b))
theorem D_is_flat_in (k : Nat) {S : Sys} (ok : S.Ok) (m : B8) : run prg.tab (k + 4) 25 [S.enc, enc m] = M.ret (.bool (isFlat S m)) := run_of (d := ⟨2, 2, s_25⟩) rfl rfl (L_is_flat_in m (D_closure_in _ ok m))
theorem D_need_two (k : Nat) {S T : Sys} (ok : S.Ok) (okT : T.Ok) (hn : T.nm = S.nm) : run prg.tab (k + 7) 29 [S.enc, T.enc] = M.ret .none := run_nx (d := ⟨2, 2, s_29⟩) rfl rfl (L_need_two ok okT hn (fun _ h => D_need_system _ h))
theorem D_other_free (k : Nat) {S T : Sys} (ok : S.Ok) (okT : T.Ok) : run prg.tab (k + 4) 31 [S.enc, T.enc] = M.ret (famL (otherF S T)) := run_of (d := ⟨2, 3, s_31⟩) rfl rfl (L_other_free (D_sets_in _ ok.n8) (D_things_in _ S) (fun m => D_is_free_in _ ok m) (fun m => D_is_free_in _ okT m))
theorem D_other_flats (k : Nat) {S T : Sys} (ok : S.Ok) (okT : T.Ok) : run prg.tab (k + 5) 30 [S.enc, T.enc] = M.ret (famL (otherL S T)) := run_of (d := ⟨2, 4, s_30⟩) rfl rfl (L_other_flats (D_sets_in _ ok.n8) (D_things_in _ S) (fun m => D_is_flat_in _ ok m) (fun m => D_is_flat_in _ okT m))
theorem D_is_coarser (k : Nat) {S T : Sys} (ok : S.Ok) (okT : T.Ok) (hn : T.nm = S.nm) : run prg.tab (k + 8) 32 [S.enc, T.enc] = M.ret (.bool (decide (otherL S T = []))) := run_of (d := ⟨2, 2, s_32⟩) rfl rfl (L_is_coarser (D_need_two _ ok okT hn) (D_other_flats _ ok okT))
theorem D_is_weaker (k : Nat) {S T : Sys} (ok : S.Ok) (okT : T.Ok) (hn : T.nm = S.nm) : run prg.tab (k + 8) 33 [S.enc, T.enc] = M.ret (.bool (decide (otherF S T = []))) := run_of (d := ⟨2, 2, s_33⟩) rfl rfl (L_is_weaker (D_need_two _ ok okT hn) (D_other_free _ ok okT))
theorem D_weaker_paper (k : Nat) {S T : Sys} (ok : S.Ok) (okT : T.Ok) (hn : T.nm = S.nm) : run prg.tab (k + 8) 35 [S.enc, T.enc] = M.ret (paperD "set" "free" (otherF S T)) := run_of (d := ⟨2, 3, s_35⟩) rfl rfl (L_weaker_paper (D_need_two _ ok okT hn) (D_other_free _ ok okT))
theorem D_order_word (k : Nat) {S T : Sys} (ok : S.Ok) (okT : T.Ok) (hn : T.nm = S.nm) : run prg.tab (k + 8) 37 [S.enc, T.enc] = M.ret (.str (orderW S T)) := run_of (d := ⟨2, 2, s_37⟩) rfl rfl (L_order_word ok okT (D_need_two _ ok okT hn) (D_other_free _ ok okT) (D_other_free _ okT ok))
theorem D_is_whole_bool (k : Nat) (b : Bool) : run prg.tab (k + 1) 0 [.bool b] = M.ret (.bool false) := run_of (d := ⟨1, 1, s_0⟩) rfl rfl (L_is_whole_bool b)
theorem D_fits_whole_bool (k : Nat) (b : Bool) (lo hi : Int) : run prg.tab (k + 2) 1 [.bool b, .int lo, .int hi] = M.ret (.bool false) := run_of (d := ⟨3, 3, s_1⟩) rfl rfl (L_fits_whole_bool b lo hi (D_is_whole_bool _ b))
theorem D_is_tuple_tup (k : Nat) {l : List D} (h : PyData.canLay0 (.tuple l) = true) (lo hi : Int) : run prg.tab (k + 1) 2 [.tuple l, .int lo, .int hi] = M.ret (.bool (decide (lo ≤ l.length) && decide ((l.length : Int) ≤ hi))) := run_of (d := ⟨3, 3, s_2⟩) rfl rfl (L_is_tuple_of_tup h lo hi)
theorem D_is_tuple_no (k : Nat) {d : D} (h : d.canLay0 = true) (h2 : isiB d "tuple" = false) (lo hi : Int) : run prg.tab (k + 1) 2 [d, .int lo, .int hi] = M.ret (.bool false) := run_of (d := ⟨3, 3, s_2⟩) rfl rfl (L_is_tuple_of_no h h2 lo hi)
theorem D_fits_set_no (k : Nat) {d : D} (h : d.canLay0 = true) (h2 : isiB d "tuple" = false) (n : Nat) : run prg.tab (k + 2) 6 [d, .int (n : Nat)] = M.ret (.bool false) := run_of (d := ⟨2, 3, s_6⟩) rfl rfl (L_fits_set_no n (D_is_tuple_no _ h h2 0 n))
theorem D_fits_set_bool (k : Nat) (b : Bool) (n : Nat) : run prg.tab (k + 3) 6 [.tuple [.bool b], .int (n : Nat)] = M.ret (.bool false) := run_of (d := ⟨2, 3, s_6⟩) rfl rfl (L_fits_set_bool b n (D_is_tuple_tup (k := _) (l := [.bool b]) (okk_lay (k := 8) rfl) 0 n) (fun lo hi => D_fits_whole_bool _ b lo hi))
theorem D_is_one_of (k : Nat) {S : Sys} (m : B8) (l : List B8) : run prg.tab (k + 4) 34 [S.enc, enc m, famL l] = M.ret (.bool (inN S.n m && decide (m ∈ l))) := run_of (d := ⟨3, 3, s_34⟩) rfl rfl (L_is_one_of m l (D_fits_set _ m S.n) (D_things_in _ S))
theorem D_is_one_of_no (k : Nat) {S : Sys} {d : D} (h : d.canLay0 = true) (h2 : isiB d "tuple" = false) (l : List B8) : run prg.tab (k + 3) 34 [S.enc, d, famL l] = M.ret (.bool false) := run_of (d := ⟨3, 3, s_34⟩) rfl rfl (L_is_one_of_no l (D_fits_set_no _ h h2 S.n) (D_things_in _ S))
theorem D_is_one_of_bool (k : Nat) {S : Sys} (b : Bool) (l : List B8) : run prg.tab (k + 4) 34 [S.enc, .tuple [.bool b], famL l] = M.ret (.bool false) := run_of (d := ⟨3, 3, s_34⟩) rfl rfl (L_is_one_of_no l (D_fits_set_bool _ b S.n) (D_things_in _ S))
theorem D_wp_no (k : Nat) {S T : Sys} (ok : S.Ok) (okT : T.Ok) (hn : T.nm = S.nm) {d : D} (h : d.canLay0 = true) (h2 : isiB d "tuple" = false) : run prg.tab (k + 8) 36 [S.enc, T.enc, d] = M.ret (.bool false) := run_of (d := ⟨3, 3, s_36⟩) rfl rfl (L_weaker_no (h1 := D_need_two _ ok okT hn) (h2 := fun lo hi => D_is_tuple_no _ h h2 lo hi))
theorem D_wp_len (k : Nat) {S T : Sys} (ok : S.Ok) (okT : T.Ok) (hn : T.nm = S.nm) {l : List D} (hk : PyData.canLay0 (.tuple l) = true) (h : l.length = 0 ∨ 3 ≤ l.length) : run prg.tab (k + 8) 36 [S.enc, T.enc, .tuple l] = M.ret (.bool false) := run_of (d := ⟨3, 3, s_36⟩) rfl rfl (L_weaker_len (h1 := D_need_two _ ok okT hn) (h2 := fun l lo hi h => D_is_tuple_tup _ h lo hi) hk h)
theorem D_wp_free (k : Nat) {S T : Sys} (ok : S.Ok) (okT : T.Ok) (hn : T.nm = S.nm) : run prg.tab (k + 8) 36 [S.enc, T.enc, .tuple [.str "free"]] = M.ret (.bool (decide (otherF S T = []))) := run_of (d := ⟨3, 3, s_36⟩) rfl rfl (L_weaker_free (h1 := D_need_two _ ok okT hn) (h2 := fun l lo hi h => D_is_tuple_tup _ h lo hi) (h3 := D_other_free _ ok okT))
theorem D_wp_word (k : Nat) {S T : Sys} (ok : S.Ok) (okT : T.Ok) (hn : T.nm = S.nm) {w : Str} (hs : (PyData.str w).canLay0 = true) (hk : PyData.canLay0 (.tuple [.str w]) = true) (e0 : eqD (.str w) (.str "free") = some (.bool false)) (b : Bool) (e1 : eqD (.str w) (.str "set") = some (.bool b)) : run prg.tab (k + 8) 36 [S.enc, T.enc, .tuple [.str w]] = M.ret (.bool false) := run_of (d := ⟨3, 3, s_36⟩) rfl rfl (L_weaker_word (h1 := D_need_two _ ok okT hn) (h2 := fun l lo hi h => D_is_tuple_tup _ h lo hi) hs hk e0 b e1)
theorem D_wp_free2 (k : Nat) {S T : Sys} (ok : S.Ok) (okT : T.Ok) (hn : T.nm = S.nm) {d : D} (hk : PyData.canLay0 (.tuple [.str "free", d]) = true) : run prg.tab (k + 8) 36 [S.enc, T.enc, .tuple [.str "free", d]] = M.ret (.bool false) := run_of (d := ⟨3, 3, s_36⟩) rfl rfl (L_weaker_free2 (h1 := D_need_two _ ok okT hn) (h2 := fun l lo hi h => D_is_tuple_tup _ h lo hi) hk)
theorem D_wp_none (k : Nat) {S T : Sys} (ok : S.Ok) (okT : T.Ok) (hn : T.nm = S.nm) {d : D} (hk : PyData.canLay0 (.tuple [.none, d]) = true) : run prg.tab (k + 8) 36 [S.enc, T.enc, .tuple [.none, d]] = M.ret (.bool false) := run_of (d := ⟨3, 3, s_36⟩) rfl rfl (L_weaker_none (h1 := D_need_two _ ok okT hn) (h2 := fun l lo hi h => D_is_tuple_tup _ h lo hi) hk)
theorem D_wp_set (k : Nat) {S T : Sys} (ok : S.Ok) (okT : T.Ok) (hn : T.nm = S.nm) (m : B8) (hk : PyData.canLay0 (.tuple [.str "set", enc m]) = true) : run prg.tab (k + 8) 36 [S.enc, T.enc, .tuple [.str "set", enc m]] = M.ret (.bool (inN S.n m && decide (m ∈ otherF S T))) := run_of (d := ⟨3, 3, s_36⟩) rfl rfl (L_weaker_set (h1 := D_need_two _ ok okT hn) (h2 := fun l lo hi h => D_is_tuple_tup _ h lo hi) (h3 := D_other_free _ ok okT) hk _ (D_is_one_of _ m (otherF S T)))
theorem D_wp_set_no (k : Nat) {S T : Sys} (ok : S.Ok) (okT : T.Ok) (hn : T.nm = S.nm) {d : D} (hk : PyData.canLay0 (.tuple [.str "set", d]) = true) (h : d.canLay0 = true) (h2 : isiB d "tuple" = false) : run prg.tab (k + 8) 36 [S.enc, T.enc, .tuple [.str "set", d]] = M.ret (.bool false) := run_of (d := ⟨3, 3, s_36⟩) rfl rfl (L_weaker_set (h1 := D_need_two _ ok okT hn) (h2 := fun l lo hi h => D_is_tuple_tup _ h lo hi) (h3 := D_other_free _ ok okT) hk _ (D_is_one_of_no _ h h2 (otherF S T)))
theorem D_wp_set_bool (k : Nat) {S T : Sys} (ok : S.Ok) (okT : T.Ok) (hn : T.nm = S.nm) (b : Bool) (hk : PyData.canLay0 (.tuple [.str "set", .tuple [.bool b]]) = true) : run prg.tab (k + 8) 36 [S.enc, T.enc, .tuple [.str "set", .tuple [.bool b]]] = M.ret (.bool false) := run_of (d := ⟨3, 3, s_36⟩) rfl rfl (L_weaker_set (h1 := D_need_two _ ok okT hn) (h2 := fun l lo hi h => D_is_tuple_tup _ h lo hi) (h3 := D_other_free _ ok okT) hk _ (D_is_one_of_bool _ b (otherF S T)))
theorem D_law_common (k : Nat) (a b : B8) : run prg.tab (k + 1) 45 [enc a, enc b] = M.ret (enc (a &&& b)) := run_of (d := ⟨2, 3, s_45⟩) rfl rfl (L_law_common a b)
theorem D_law_less (k : Nat) (a b : B8) : run prg.tab (k + 1) 46 [enc a, enc b] = M.ret (enc (less a b)) := run_of (d := ⟨2, 3, s_46⟩) rfl rfl (L_law_less a b)
theorem D_law_within (k : Nat) (a b : B8) : run prg.tab (k + 1) 44 [enc a, enc b] = M.ret (.bool (subB a b)) := run_of (d := ⟨2, 3, s_44⟩) rfl rfl (L_law_within a b)
theorem D_law_sets (k : Nat) {n : Nat} (h : n ≤ 8) : run prg.tab (k + 1) 42 [.int (n : Nat)] = M.ret (famL (allS n)) := run_of (d := ⟨1, 5, s_42⟩) rfl rfl (L_law_sets h)
theorem D_law_rank (k : Nat) {S : Sys} (ok : S.Ok) (m : B8) : run prg.tab (k + 2) 54 [S.enc, enc m] = M.ret (.int (rk S m : Nat)) := run_of (d := ⟨2, 3, s_54⟩) rfl rfl (L_law_rank ok.ne m (fun a b => D_law_common _ a b))
theorem D_law_free (k : Nat) {S : Sys} (ok : S.Ok) (m : B8) : run prg.tab (k + 2) 55 [S.enc, enc m] = M.ret (.bool (isFree S m)) := run_of (d := ⟨2, 3, s_55⟩) rfl rfl (L_law_free ok m (fun a b => D_law_within _ a b))
theorem D_law_tops (k : Nat) {l : List B8} (hne : l ≠ []) (h : (l.filter fun m => decide (pc m = maxN (l.map pc))).length < 64) : run prg.tab (k + 1) 48 [famL l] = M.ret (famT (topsB l)) := run_of (d := ⟨1, 3, s_48⟩) rfl rfl (L_law_tops hne h)
theorem D_law_no_ring (k : Nat) {l : List (Nat × Nat)} {v : Nat → B8} {m : B8} (hr : ∀ i : Nat, i < l.length → ∃ a b, l[i]? = some (a, b) ∧ a < 8 ∧ b < 8 ∧ v i = one a ^^^ one b) (hm : ∀ i, m.getLsbD i = true → i < l.length) : ∃ b, (b = true ↔ Indep v m) ∧ run prg.tab (k + 1) 49 [endsD l, enc m] = M.ret (.bool b) := by
  obtain ⟨b, b1, b2⟩ := L_law_no_ring hr hm (call := run prg.tab (k + 0))
  exact ⟨b, b1, run_of (d := ⟨2, 10, s_49⟩) rfl rfl b2⟩
theorem D_law_no_sum (k : Nat) {w : Nat} {l : List B8} {v : Nat → B8} {m : B8} (w1 : 1 ≤ w) (w8 : w ≤ 8) (hne : l ≠ []) (hr : ∀ i : Nat, i < l.length → l[i]? = some (v i)) (hv : ∀ i, Sb (v i) (full w)) (hm : ∀ i, m.getLsbD i = true → i < l.length) : ∃ b, (b = true ↔ Indep v m) ∧ run prg.tab (k + 1) 50 [rowsD w l, enc m] = M.ret (.bool b) := by
  obtain ⟨b, b1, b2⟩ := L_law_no_sum w1 w8 hne hr hv hm (call := run prg.tab (k + 0))
  exact ⟨b, b1, run_of (d := ⟨2, 8, s_50⟩) rfl rfl b2⟩
theorem D_law_both (k : Nat) (a b : B8) : run prg.tab (k + 1) 47 [enc a, enc b] = M.ret (enc (a ||| b)) := run_of (d := ⟨2, 2, s_47⟩) rfl rfl (L_law_both a b)
theorem D_law_short (k : Nat) {S : Sys} (g : GoodS S) (h0 : 0 < rkS S) : run prg.tab (k + 3) 56 [S.enc] = M.ret ((shortS S).enc) := run_of (d := ⟨1, 3, s_56⟩) rfl rfl (L_law_short g h0 (fun a b => D_law_tops _ a b) (D_law_sets _ g.ok.n8) (fun m => D_law_free _ g.ok m))
theorem D_law_roll (k : Nat) {n : Nat} (h1 : 0 < n) (h2 : n < 1000000) : Sat (run prg.tab (k + 1) 38 [cupD, .int (n : Nat)]) fun v => ∃ r : Nat, r < n ∧ v = .int (r : Nat) := run_sat (d := ⟨2, 4, s_38⟩) rfl rfl (L_law_roll roll_ok h1 h2)
theorem D_law_some (k : Nat) {l : List D} {d : D} (hd : itemsD d = some l) (hidx : ∀ i x, l[i]? = some x → idxD d (.int (i : Nat)) = some x) (hlen : lenD [d] = some (.int (l.length : Nat))) (hne : l ≠ []) (hsz : l.length < 1000000) : Sat (run prg.tab (k + 2) 39 [cupD, d]) fun v => v ∈ l := run_sat (d := ⟨2, 2, s_39⟩) rfl rfl (L_law_some (fun n a b => D_law_roll _ a b) hd hidx hlen hne hsz)
theorem D_law_things (k : Nat) (n : Nat) : Sat (run prg.tab (k + 3) 41 [cupD, .int (n : Nat)]) fun v => v = nmD (nm8.take n) ∨ v = nmD (nm8'.take n) := run_sat (d := ⟨2, 2, s_41⟩) rfl rfl (L_law_things (fun a b _ _ => (D_law_some (k := _) (l := [nmD a, nmD b]) rfl (fun i x h => idx_list h) rfl (by simp) (by simp)).mono fun d hd => by simpa using hd))
theorem D_law_bases (k : Nat) {n : Nat} (n1 : 1 ≤ n) (n6 : n ≤ 6) : Sat (run prg.tab (k + 2) 51 [cupD, .int (n : Nat)]) fun v => ∃ B, v = famT B ∧ OkB n B := run_sat (d := ⟨2, 17, s_51⟩) rfl rfl (bases_0 n1 n6 (D_law_sets _ (by omega)) (fun n a b => D_law_roll _ a b) (fun l a b => D_law_tops _ a b) (fun a b => D_law_less _ a b) (fun l v m a b => D_law_no_ring _ a b) (fun w l v m a b c d e f => D_law_no_sum _ a b c d e f))
theorem D_law_system_of (k : Nat) {n : Nat} (n1 : 1 ≤ n) (n6 : n ≤ 6) : Sat (run prg.tab (k + 4) 52 [cupD, .int (n : Nat)]) fun v => ∃ S : Sys, v = S.enc ∧ GoodS S ∧ S.n = n := run_sat (d := ⟨2, 2, s_52⟩) rfl rfl (L_law_system_of n1 n6 (D_law_things _ n) (D_law_bases _ n1 n6))
theorem D_law_system (k : Nat)  : Sat (run prg.tab (k + 5) 53 [cupD]) fun v => ∃ S : Sys, v = S.enc ∧ GoodS S := run_sat (d := ⟨1, 1, s_53⟩) rfl rfl (L_law_system (fun n a b => D_law_roll _ a b) (fun n a b => D_law_system_of _ a b))
theorem D_law_set (k : Nat) {n : Nat} (n8 : n ≤ 8) : Sat (run prg.tab (k + 2) 43 [cupD, .int (n : Nat)]) fun v => ∃ m, v = enc m ∧ inN n m = true := run_sat (d := ⟨2, 3, s_43⟩) rfl rfl (L_law_set n8 (fun n a b => D_law_roll _ a b))
theorem D_law_drawn_in (k : Nat) {S : Sys} (g : GoodS S) (m : B8) : run prg.tab (k + 3) 58 [S.enc, enc m] = M.ret ((drawnS S m).enc) := run_of (d := ⟨2, 4, s_58⟩) rfl rfl (L_law_drawn_in g m (fun a b => D_law_tops _ a b) (D_law_sets _ g.ok.n8) (fun m => D_law_rank _ g.ok m) (fun a b => D_law_both _ a b))
theorem D_law_pair (k : Nat)  : Sat (run prg.tab (k + 6) 57 [cupD]) fun v => Pair v := run_sat (d := ⟨1, 2, s_57⟩) rfl rfl (L_law_pair (D_law_system _) (fun n a b => D_law_bases _ a b))
theorem D_law_coarse_pair (k : Nat)  : Sat (run prg.tab (k + 6) 59 [cupD]) fun v => Pair v := run_sat (d := ⟨1, 5, s_59⟩) rfl rfl (L_law_coarse_pair (D_law_system _) (fun n a b => D_law_bases _ a b) (fun S m g => D_law_drawn_in _ g m) (fun n a => D_law_set _ a) (fun n a b => D_law_roll _ a b) (fun l a b => D_law_some (k := _) (l := l) rfl (fun i x h => idx_list h) rfl a b) (fun S g h => D_law_short _ g h))
structure Facts (call : Nat → List D → M D) : Prop where
  is_whole : ∀ (i : Int), call 0 [.int i] = M.ret (.bool true)
  fits_whole : ∀ (x lo hi : Int), call 1 [.int x, .int lo, .int hi] = M.ret (.bool (decide (lo ≤ x) && decide (x ≤ hi)))
  is_tuple_enc : ∀ (m : B8) (lo hi : Int), call 2 [enc m, .int lo, .int hi] = M.ret (.bool (decide (lo ≤ pc m) && decide ((pc m : Int) ≤ hi)))
  is_tuple_nm : ∀ {l : List Str} (hs : strsOk l = true) (lo hi : Int), call 2 [nmD l, .int lo, .int hi] = M.ret (.bool (decide (lo ≤ l.length) && decide ((l.length : Int) ≤ hi)))
  is_tuple_fam : ∀ (l : List B8) (lo hi : Int), call 2 [famT l, .int lo, .int hi] = M.ret (.bool (decide (lo ≤ l.length) && decide ((l.length : Int) ≤ hi)))
  is_tuple_sys : ∀ {S : Sys} (hs : strsOk S.nm = true), call 2 [S.enc, .int 2, .int 2] = M.ret (.bool true)
  common_in : ∀ (a b : B8), call 8 [enc a, enc b] = M.ret (enc (a &&& b))
  less_in : ∀ (a b : B8), call 9 [enc a, enc b] = M.ret (enc (less a b))
  union_in : ∀ (a b : B8), call 7 [enc a, enc b] = M.ret (enc (a ||| b))
  is_rising_enc : ∀ (m : B8), call 3 [enc m] = M.ret (.bool true)
  is_rising_fam : ∀ (l : List B8), call 3 [famT l] = M.ret (.bool ((l.zip l.tail).all fun p => ltB p.1 p.2))
  is_rising_nm : ∀ {l : List Str} (hs : strsOk l = true), call 3 [nmD l] = M.ret (.bool ((l.zip l.tail).all fun p => ltT p.1 p.2))
  fits_name : ∀ {x : Str} (h : PySem.PyData.strOk x = true), call 4 [.str x] = M.ret (.bool (nameB x))
  fits_names : ∀ {l : List Str} (hs : strsOk l = true) (m : Nat) (hm : m ≤ 1000), call 5 [nmD l, .int m] = M.ret (.bool (decide (l.length ≤ m) && (l.all nameB && decide ((dd l).length = l.length))))
  fits_set : ∀ (m : B8) (n : Nat), call 6 [enc m, .int n] = M.ret (.bool (inN n m))
  fits_family : ∀ (l : List B8) (n : Nat), call 12 [.int n, famT l] = M.ret (.bool (decide (l.length ≤ 256) && (l.all (inN n) && (l.zip l.tail).all fun p => ltB p.1 p.2)))
  all_in : ∀ {n : Nat} (h : n ≤ 8), call 10 [.int (n : Nat)] = M.ret (enc (full n))
  sets_in : ∀ {n : Nat} (h : n ≤ 8), call 11 [.int (n : Nat)] = M.ret (famL (allS n))
  swap_in : ∀ (l : List B8) (a b : B8) (t : Fin 8), call 13 [dictB l, enc a, enc b, .int (t.val : Nat)] = M.ret (optI (swapF l a b t))
  break_in : ∀ {S : Sys} (ok : S.Ok), call 14 [famT S.B] = M.ret (.none)
  unlike_in : ∀ {S : Sys} (ok : S.Ok), call 15 [famT S.B] = M.ret (.none)
  is_bases_in : ∀ {S : Sys} (ok : S.Ok), call 16 [famT S.B] = M.ret (.bool true)
  fits_system : ∀ {S : Sys} (ok : S.Ok), call 17 [S.enc] = M.ret (.bool true)
  need_system : ∀ {S : Sys} (ok : S.Ok), call 18 [S.enc] = M.ret .none
  things_in : ∀ (S : Sys), call 19 [S.enc] = M.ret (.int (S.n : Nat))
  rank_in : ∀ {S : Sys} (ok : S.Ok) (m : B8), call 20 [S.enc, enc m] = M.ret (.int (rk S m : Nat))
  is_free_in : ∀ {S : Sys} (ok : S.Ok) (m : B8), call 21 [S.enc, enc m] = M.ret (.bool (isFree S m))
  need_things : ∀ {S : Sys} (ok : S.Ok) {m : B8} (h : inN S.n m = true), call 22 [S.enc, enc m] = M.ret .none
  dual_in : ∀ {S : Sys} (ok : S.Ok), call 27 [S.enc] = M.ret ((dualS S).enc)
  dual_of : ∀ {S : Sys} (ok : S.Ok), call 28 [S.enc] = M.ret ((dualS S).enc)
  rank_of : ∀ {S : Sys} (ok : S.Ok) {m : B8} (h : inN S.n m = true), call 26 [S.enc, enc m] = M.ret (.int (rk S m : Nat))
  is_free : ∀ {S : Sys} (ok : S.Ok) {m : B8} (h : inN S.n m = true), call 23 [S.enc, enc m] = M.ret (.bool (isFree S m))
  closure_in : ∀ {S : Sys} (ok : S.Ok) (m : B8), call 24 [S.enc, enc m] = M.ret (enc (clS S m))
  is_flat_in : ∀ {S : Sys} (ok : S.Ok) (m : B8), call 25 [S.enc, enc m] = M.ret (.bool (isFlat S m))
  need_two : ∀ {S T : Sys} (ok : S.Ok) (okT : T.Ok) (hn : T.nm = S.nm), call 29 [S.enc, T.enc] = M.ret .none
  other_free : ∀ {S T : Sys} (ok : S.Ok) (okT : T.Ok), call 31 [S.enc, T.enc] = M.ret (famL (otherF S T))
  other_flats : ∀ {S T : Sys} (ok : S.Ok) (okT : T.Ok), call 30 [S.enc, T.enc] = M.ret (famL (otherL S T))
  is_coarser : ∀ {S T : Sys} (ok : S.Ok) (okT : T.Ok) (hn : T.nm = S.nm), call 32 [S.enc, T.enc] = M.ret (.bool (decide (otherL S T = [])))
  is_weaker : ∀ {S T : Sys} (ok : S.Ok) (okT : T.Ok) (hn : T.nm = S.nm), call 33 [S.enc, T.enc] = M.ret (.bool (decide (otherF S T = [])))
  weaker_paper : ∀ {S T : Sys} (ok : S.Ok) (okT : T.Ok) (hn : T.nm = S.nm), call 35 [S.enc, T.enc] = M.ret (paperD "set" "free" (otherF S T))
  order_word : ∀ {S T : Sys} (ok : S.Ok) (okT : T.Ok) (hn : T.nm = S.nm), call 37 [S.enc, T.enc] = M.ret (.str (orderW S T))
  is_whole_bool : ∀ (b : Bool), call 0 [.bool b] = M.ret (.bool false)
  fits_whole_bool : ∀ (b : Bool) (lo hi : Int), call 1 [.bool b, .int lo, .int hi] = M.ret (.bool false)
  is_tuple_tup : ∀ {l : List D} (h : PyData.canLay0 (.tuple l) = true) (lo hi : Int), call 2 [.tuple l, .int lo, .int hi] = M.ret (.bool (decide (lo ≤ l.length) && decide ((l.length : Int) ≤ hi)))
  is_tuple_no : ∀ {d : D} (h : d.canLay0 = true) (h2 : isiB d "tuple" = false) (lo hi : Int), call 2 [d, .int lo, .int hi] = M.ret (.bool false)
  fits_set_no : ∀ {d : D} (h : d.canLay0 = true) (h2 : isiB d "tuple" = false) (n : Nat), call 6 [d, .int (n : Nat)] = M.ret (.bool false)
  fits_set_bool : ∀ (b : Bool) (n : Nat), call 6 [.tuple [.bool b], .int (n : Nat)] = M.ret (.bool false)
  is_one_of : ∀ {S : Sys} (m : B8) (l : List B8), call 34 [S.enc, enc m, famL l] = M.ret (.bool (inN S.n m && decide (m ∈ l)))
  is_one_of_no : ∀ {S : Sys} {d : D} (h : d.canLay0 = true) (h2 : isiB d "tuple" = false) (l : List B8), call 34 [S.enc, d, famL l] = M.ret (.bool false)
  is_one_of_bool : ∀ {S : Sys} (b : Bool) (l : List B8), call 34 [S.enc, .tuple [.bool b], famL l] = M.ret (.bool false)
  wp_no : ∀ {S T : Sys} (ok : S.Ok) (okT : T.Ok) (hn : T.nm = S.nm) {d : D} (h : d.canLay0 = true) (h2 : isiB d "tuple" = false), call 36 [S.enc, T.enc, d] = M.ret (.bool false)
  wp_len : ∀ {S T : Sys} (ok : S.Ok) (okT : T.Ok) (hn : T.nm = S.nm) {l : List D} (hk : PyData.canLay0 (.tuple l) = true) (h : l.length = 0 ∨ 3 ≤ l.length), call 36 [S.enc, T.enc, .tuple l] = M.ret (.bool false)
  wp_free : ∀ {S T : Sys} (ok : S.Ok) (okT : T.Ok) (hn : T.nm = S.nm), call 36 [S.enc, T.enc, .tuple [.str "free"]] = M.ret (.bool (decide (otherF S T = [])))
  wp_word : ∀ {S T : Sys} (ok : S.Ok) (okT : T.Ok) (hn : T.nm = S.nm) {w : Str} (hs : (PyData.str w).canLay0 = true) (hk : PyData.canLay0 (.tuple [.str w]) = true) (e0 : eqD (.str w) (.str "free") = some (.bool false)) (b : Bool) (e1 : eqD (.str w) (.str "set") = some (.bool b)), call 36 [S.enc, T.enc, .tuple [.str w]] = M.ret (.bool false)
  wp_free2 : ∀ {S T : Sys} (ok : S.Ok) (okT : T.Ok) (hn : T.nm = S.nm) {d : D} (hk : PyData.canLay0 (.tuple [.str "free", d]) = true), call 36 [S.enc, T.enc, .tuple [.str "free", d]] = M.ret (.bool false)
  wp_none : ∀ {S T : Sys} (ok : S.Ok) (okT : T.Ok) (hn : T.nm = S.nm) {d : D} (hk : PyData.canLay0 (.tuple [.none, d]) = true), call 36 [S.enc, T.enc, .tuple [.none, d]] = M.ret (.bool false)
  wp_set : ∀ {S T : Sys} (ok : S.Ok) (okT : T.Ok) (hn : T.nm = S.nm) (m : B8) (hk : PyData.canLay0 (.tuple [.str "set", enc m]) = true), call 36 [S.enc, T.enc, .tuple [.str "set", enc m]] = M.ret (.bool (inN S.n m && decide (m ∈ otherF S T)))
  wp_set_no : ∀ {S T : Sys} (ok : S.Ok) (okT : T.Ok) (hn : T.nm = S.nm) {d : D} (hk : PyData.canLay0 (.tuple [.str "set", d]) = true) (h : d.canLay0 = true) (h2 : isiB d "tuple" = false), call 36 [S.enc, T.enc, .tuple [.str "set", d]] = M.ret (.bool false)
  wp_set_bool : ∀ {S T : Sys} (ok : S.Ok) (okT : T.Ok) (hn : T.nm = S.nm) (b : Bool) (hk : PyData.canLay0 (.tuple [.str "set", .tuple [.bool b]]) = true), call 36 [S.enc, T.enc, .tuple [.str "set", .tuple [.bool b]]] = M.ret (.bool false)
  law_common : ∀ (a b : B8), call 45 [enc a, enc b] = M.ret (enc (a &&& b))
  law_less : ∀ (a b : B8), call 46 [enc a, enc b] = M.ret (enc (less a b))
  law_within : ∀ (a b : B8), call 44 [enc a, enc b] = M.ret (.bool (subB a b))
  law_sets : ∀ {n : Nat} (h : n ≤ 8), call 42 [.int (n : Nat)] = M.ret (famL (allS n))
  law_rank : ∀ {S : Sys} (ok : S.Ok) (m : B8), call 54 [S.enc, enc m] = M.ret (.int (rk S m : Nat))
  law_free : ∀ {S : Sys} (ok : S.Ok) (m : B8), call 55 [S.enc, enc m] = M.ret (.bool (isFree S m))
  law_tops : ∀ {l : List B8} (hne : l ≠ []) (h : (l.filter fun m => decide (pc m = maxN (l.map pc))).length < 64), call 48 [famL l] = M.ret (famT (topsB l))
  law_no_ring : ∀ {l : List (Nat × Nat)} {v : Nat → B8} {m : B8} (hr : ∀ i : Nat, i < l.length → ∃ a b, l[i]? = some (a, b) ∧ a < 8 ∧ b < 8 ∧ v i = one a ^^^ one b) (hm : ∀ i, m.getLsbD i = true → i < l.length), ∃ b, (b = true ↔ Indep v m) ∧ call 49 [endsD l, enc m] = M.ret (.bool b)
  law_no_sum : ∀ {w : Nat} {l : List B8} {v : Nat → B8} {m : B8} (w1 : 1 ≤ w) (w8 : w ≤ 8) (hne : l ≠ []) (hr : ∀ i : Nat, i < l.length → l[i]? = some (v i)) (hv : ∀ i, Sb (v i) (full w)) (hm : ∀ i, m.getLsbD i = true → i < l.length), ∃ b, (b = true ↔ Indep v m) ∧ call 50 [rowsD w l, enc m] = M.ret (.bool b)
  law_both : ∀ (a b : B8), call 47 [enc a, enc b] = M.ret (enc (a ||| b))
  law_short : ∀ {S : Sys} (g : GoodS S) (h0 : 0 < rkS S), call 56 [S.enc] = M.ret ((shortS S).enc)
  law_roll : ∀ {n : Nat} (h1 : 0 < n) (h2 : n < 1000000), Sat (call 38 [cupD, .int (n : Nat)]) fun v => ∃ r : Nat, r < n ∧ v = .int (r : Nat)
  law_some : ∀ {l : List D} {d : D} (hd : itemsD d = some l) (hidx : ∀ i x, l[i]? = some x → idxD d (.int (i : Nat)) = some x) (hlen : lenD [d] = some (.int (l.length : Nat))) (hne : l ≠ []) (hsz : l.length < 1000000), Sat (call 39 [cupD, d]) fun v => v ∈ l
  law_things : ∀ (n : Nat), Sat (call 41 [cupD, .int (n : Nat)]) fun v => v = nmD (nm8.take n) ∨ v = nmD (nm8'.take n)
  law_bases : ∀ {n : Nat} (n1 : 1 ≤ n) (n6 : n ≤ 6), Sat (call 51 [cupD, .int (n : Nat)]) fun v => ∃ B, v = famT B ∧ OkB n B
  law_system_of : ∀ {n : Nat} (n1 : 1 ≤ n) (n6 : n ≤ 6), Sat (call 52 [cupD, .int (n : Nat)]) fun v => ∃ S : Sys, v = S.enc ∧ GoodS S ∧ S.n = n
  law_system : Sat (call 53 [cupD]) fun v => ∃ S : Sys, v = S.enc ∧ GoodS S
  law_set : ∀ {n : Nat} (n8 : n ≤ 8), Sat (call 43 [cupD, .int (n : Nat)]) fun v => ∃ m, v = enc m ∧ inN n m = true
  law_drawn_in : ∀ {S : Sys} (g : GoodS S) (m : B8), call 58 [S.enc, enc m] = M.ret ((drawnS S m).enc)
  law_pair : Sat (call 57 [cupD]) fun v => Pair v
  law_coarse_pair : Sat (call 59 [cupD]) fun v => Pair v
  same : ∀ {d : D}, okk 8 d = true → call 40 [d, d] = M.ret (.bool true)
theorem facts : Facts (run prg.tab 41) where
  is_whole := D_is_whole 40
  fits_whole := D_fits_whole 39
  is_tuple_enc := D_is_tuple_enc 40
  is_tuple_nm := D_is_tuple_nm 40
  is_tuple_fam := D_is_tuple_fam 40
  is_tuple_sys := D_is_tuple_sys 40
  common_in := D_common_in 40
  less_in := D_less_in 40
  union_in := D_union_in 40
  is_rising_enc := D_is_rising_enc 40
  is_rising_fam := D_is_rising_fam 40
  is_rising_nm := D_is_rising_nm 40
  fits_name := D_fits_name 40
  fits_names := D_fits_names 39
  fits_set := D_fits_set 38
  fits_family := D_fits_family 37
  all_in := D_all_in 40
  sets_in := D_sets_in 40
  swap_in := D_swap_in 39
  break_in := D_break_in 38
  unlike_in := D_unlike_in 40
  is_bases_in := D_is_bases_in 37
  fits_system := D_fits_system 36
  need_system := D_need_system 35
  things_in := D_things_in 40
  rank_in := D_rank_in 39
  is_free_in := D_is_free_in 38
  need_things := D_need_things 34
  dual_in := D_dual_in 39
  dual_of := D_dual_of 34
  rank_of := D_rank_of 33
  is_free := D_is_free 33
  closure_in := D_closure_in 38
  is_flat_in := D_is_flat_in 37
  need_two := D_need_two 34
  other_free := D_other_free 37
  other_flats := D_other_flats 36
  is_coarser := D_is_coarser 33
  is_weaker := D_is_weaker 33
  weaker_paper := D_weaker_paper 33
  order_word := D_order_word 33
  is_whole_bool := D_is_whole_bool 40
  fits_whole_bool := D_fits_whole_bool 39
  is_tuple_tup := D_is_tuple_tup 40
  is_tuple_no := D_is_tuple_no 40
  fits_set_no := D_fits_set_no 39
  fits_set_bool := D_fits_set_bool 38
  is_one_of := D_is_one_of 37
  is_one_of_no := D_is_one_of_no 38
  is_one_of_bool := D_is_one_of_bool 37
  wp_no := D_wp_no 33
  wp_len := D_wp_len 33
  wp_free := D_wp_free 33
  wp_word := D_wp_word 33
  wp_free2 := D_wp_free2 33
  wp_none := D_wp_none 33
  wp_set := D_wp_set 33
  wp_set_no := D_wp_set_no 33
  wp_set_bool := D_wp_set_bool 33
  law_common := D_law_common 40
  law_less := D_law_less 40
  law_within := D_law_within 40
  law_sets := D_law_sets 40
  law_rank := D_law_rank 39
  law_free := D_law_free 39
  law_tops := D_law_tops 40
  law_no_ring := D_law_no_ring 40
  law_no_sum := D_law_no_sum 40
  law_both := D_law_both 40
  law_short := D_law_short 38
  law_roll := D_law_roll 40
  law_some := D_law_some 39
  law_things := D_law_things 38
  law_bases := D_law_bases 39
  law_system_of := D_law_system_of 37
  law_system := D_law_system 36
  law_set := D_law_set 39
  law_drawn_in := D_law_drawn_in 38
  law_pair := D_law_pair 35
  law_coarse_pair := D_law_coarse_pair 35
  same := fun h => same_ok rfl h (by omega)
end FS

-- part Lp
set_option Elab.async false
set_option linter.all false
set_option maxRecDepth 100000
set_option maxHeartbeats 4000000
namespace FS
open PySem
theorem Sat.cons {call : Nat → List D → M D} {s : FS.S} {ss : Ss} {ρ : En} {Q : Fl → Prop} (P : En → Prop) (h1 : Sat (evS call s ρ) fun f => ∃ ρ', f = .nx ρ' ∧ P ρ') (h2 : ∀ ρ', P ρ' → Sat (evSs call ss ρ') Q) : Sat (evSs call (.cons s ss) ρ) Q := by
  rw [evSs_1]
  refine Sat.bnd h1 fun f hf => ?_
  obtain ⟨ρ', rfl, hp⟩ := hf
  exact h2 ρ' hp
theorem fm_two (S T : Sys) (l : List B8) : (l.filterMap fun x => if isFree T x = true then if isFree S x = false then some (enc x) else none else if isFree T x = true then some (enc x) else none) = (l.filter fun m => isFree T m && !isFree S m).map enc := by
  induction l with
  | nil => rfl
  | cons m l ih =>
    rw [List.filterMap_cons, List.filter_cons, ih]
    cases a : isFree T m <;> cases b : isFree S m <;> simp
theorem li0 (a b : D) : idxD (.list [a, b]) (.int 0) = some a := rfl
theorem li1 (a b : D) : idxD (.list [a, b]) (.int 1) = some b := rfl
def Pk (ρ : En) : Prop := ∃ s0 s2 s3 s4 s5 s6 s7 s8 s9 s10 s11 s12 s13 s14 s15, ρ = [s0, .da cupD, s2, s3, s4, s5, s6, s7, s8, s9, s10, s11, s12, s13, s14, s15]
section
variable {call : Nat → List D → M D} {S T : Sys} {s0 s2 s8 s9 s10 s11 s12 s13 s15 : Sl}
/-- a value is judged as the law asks -/
def Good (call : Nat → List D → M D) (S T : Sys) (v : D) : Prop := ∀ s0 s2 s8 s9 s10 s11 s12 s13 s15 : Sl, Sat (evSs call s_law_l1 [s0, .da cupD, s2, .da S.enc, .da T.enc, .da (.int (S.n : Nat)), .da (famL (allS S.n)), .da (.list [famL (otherF S T), famL (otherF T S)]), s8, s9, s10, s11, s12, s13, .da v, s15]) fun f => ∃ t, f = .nx [s0, .da cupD, s2, .da S.enc, .da T.enc, .da (.int (S.n : Nat)), .da (famL (allS S.n)), .da (.list [famL (otherF S T), famL (otherF T S)]), s8, s9, s10, s11, s12, s13, .da v, t]
theorem ob7 (b : Bool) : okk 8 (.bool b) = true := rfl
theorem good_no (F : Facts call) (ok : S.Ok) (okT : T.Ok) (hn : T.nm = S.nm) {v : D} (h : v.canLay0 = true) (h2 : isiB v "tuple" = false) (e : eqD v (.tuple [.str "free"]) = some (.bool false)) : Good call S T v := by
  intro s0 s2 s8 s9 s10 s11 s12 s13 s15
  simp [s_law_l1, e, isiT _ h, h2, F.wp_no ok okT hn h h2, F.same (ob7 _)]
  exact Sat.ret ⟨_, rfl⟩
theorem good_free (F : Facts call) (ok : S.Ok) (okT : T.Ok) (hn : T.nm = S.nm) : Good call S T (.tuple [.str "free"]) := by
  intro s0 s2 s8 s9 s10 s11 s12 s13 s15
  have e : eqD (.tuple [.str "free"]) (.tuple [.str "free"]) = some (.bool true) := by kernel_rfl
  have i : isiD "tuple" (.tuple [.str "free"]) = some (.bool true) := by kernel_rfl
  have x1 : lenD [.tuple [.str "free"]] = some (.int 1) := rfl
  simp [s_law_l1, e, i, x1, li0, F.wp_free ok okT hn, F.same (ob7 _)]
  exact Sat.ret ⟨_, rfl⟩
/-- a tuple that is not of two items -/
theorem good_len (F : Facts call) {l : List D} (hk : PyData.canLay0 (.tuple l) = true) (hl : l.length ≠ 2) (e : eqD (.tuple l) (.tuple [.str "free"]) = some (.bool false)) (hp : call 36 [S.enc, T.enc, .tuple l] = M.ret (.bool false)) : Good call S T (.tuple l) := by
  intro s0 s2 s8 s9 s10 s11 s12 s13 s15
  have i : isiD "tuple" (.tuple l) = some (.bool true) := by simp [isiT _ hk, isiB, tyN]
  have x1 : lenD [.tuple l] = some (.int (l.length : Nat)) := rfl
  have hl2 : ¬ (l.length : Int) = 2 := by omega
  simp [s_law_l1, e, i, x1, hl2, hp, F.same (ob7 _)]
  exact Sat.ret ⟨_, rfl⟩
/-- a pair whose first item is another word -/
theorem good_pair (F : Facts call) {x y : D} (hk : PyData.canLay0 (.tuple [x, y]) = true) (e : eqD (.tuple [x, y]) (.tuple [.str "free"]) = some (.bool false)) (e2 : eqD x (.str "set") = some (.bool false)) (hp : call 36 [S.enc, T.enc, .tuple [x, y]] = M.ret (.bool false)) : Good call S T (.tuple [x, y]) := by
  intro s0 s2 s8 s9 s10 s11 s12 s13 s15
  have i : isiD "tuple" (.tuple [x, y]) = some (.bool true) := by simp [isiT _ hk, isiB, tyN]
  have x1 : lenD [.tuple [x, y]] = some (.int 2) := rfl
  have x0 : idxD (.tuple [x, y]) (.int 0) = some x := rfl
  simp [s_law_l1, e, i, x1, x0, e2, hp, F.same (ob7 _)]
  exact Sat.ret ⟨_, rfl⟩
theorem good_set_no (F : Facts call) {y : D} (hk : PyData.canLay0 (.tuple [.str "set", y]) = true) (e : eqD (.tuple [.str "set", y]) (.tuple [.str "free"]) = some (.bool false)) (h : y.canLay0 = true) (h2 : isiB y "tuple" = false) (hp : call 36 [S.enc, T.enc, .tuple [.str "set", y]] = M.ret (.bool false)) : Good call S T (.tuple [.str "set", y]) := by
  intro s0 s2 s8 s9 s10 s11 s12 s13 s15
  have i : isiD "tuple" (.tuple [.str "set", y]) = some (.bool true) := by simp [isiT _ hk, isiB, tyN]
  have x1 : lenD [.tuple [.str "set", y]] = some (.int 2) := rfl
  have x0 : idxD (.tuple [.str "set", y]) (.int 0) = some (.str "set") := rfl
  have x2 : idxD (.tuple [.str "set", y]) (.int 1) = some y := rfl
  have e2 : eqD (.str "set") (.str "set") = some (.bool true) := by kernel_rfl
  simp [s_law_l1, e, i, x1, x0, x2, e2, isiT _ h, h2, hp, F.same (ob7 _)]
  exact Sat.ret ⟨_, rfl⟩
theorem good_set (F : Facts call) (ok : S.Ok) (okT : T.Ok) (hn : T.nm = S.nm) (m : B8) : Good call S T (.tuple [.str "set", enc m]) := by
  intro s0 s2 s8 s9 s10 s11 s12 s13 s15
  have hk8 : okk 8 (.tuple [.str "set", enc m]) = true := by
    have h1 : okk 7 (.str "set") = true := by kernel_rfl
    have h2 := okk_enc 5 m
    show okk (7 + 1) _ = true
    rw [okk_tup]
    simp [h1, h2]
  have hk := okk_lay hk8
  have i : isiD "tuple" (.tuple [.str "set", enc m]) = some (.bool true) := by simp [isiT _ hk, isiB, tyN]
  have x1 : lenD [.tuple [.str "set", enc m]] = some (.int 2) := rfl
  have x0 : idxD (.tuple [.str "set", enc m]) (.int 0) = some (.str "set") := rfl
  have x2 : idxD (.tuple [.str "set", enc m]) (.int 1) = some (enc m) := rfl
  have e2 : eqD (.str "set") (.str "set") = some (.bool true) := by kernel_rfl
  have hb : (inN S.n m && decide (m ∈ otherF S T)) = decide (m ∈ otherF S T) := by
    by_cases z : m ∈ otherF S T
    · simp [z, ((mem_otherF ok).mp z).1]
    · simp [z]
  have e : eqD (.tuple [.str "set", enc m]) (.tuple [.str "free"]) = some (.bool false) := by
    have h2 : okk 8 (.tuple [.str "free"]) = true := by kernel_rfl
    have s1 := okk_shaped hk8 (by omega)
    have s2 := okk_shaped h2 (by omega)
    have v : (PyData.tuple [.str "set", enc m]).eqv (.tuple [.str "free"]) = false := by
      show (PyData.eqv (.str "set") (.str "free") && false) = false
      exact Bool.and_false _
    have : eqD (.tuple [.str "set", enc m]) (.tuple [.str "free"]) = (if (SeqAt.shaped (.tuple [.str "set", enc m]) && SeqAt.shaped (.tuple [.str "free"])) = true then some (PyData.bool ((PyData.tuple [.str "set", enc m]).eqv (.tuple [.str "free"]))) else none) := rfl
    rw [this, s1, s2, v]
    rfl
  have n0 : (bitsF m).filterMap (fun _ => (none : Option D)) = [] := by
    induction bitsF m with
    | nil => rfl
    | cons a l ih => simp [ih]
  have l0 : eqD (.list []) (.list []) = some (.bool true) := by kernel_rfl
  simp [s_law_l1, e, i, x1, x0, x2, e2, li0, F.wp_set ok okT hn m hk, hb]
  by_cases z : m ∈ otherF S T
  · have n1 : List.filterMap (fun x => (none : Option D)) (bitsF m) = [] := n0
    rw [if_pos z, n1]
    simp [l0, z, F.same (ob7 _)]
    exact Sat.ret ⟨_, rfl⟩
  · rw [if_neg z]
    simp [z, F.same (ob7 _)]
    exact Sat.ret ⟨_, rfl⟩
theorem good_set_bool (F : Facts call) (ok : S.Ok) (okT : T.Ok) (hn : T.nm = S.nm) : Good call S T (.tuple [.str "set", .tuple [.bool true]]) := by
  intro s0 s2 s8 s9 s10 s11 s12 s13 s15
  have hk : PyData.canLay0 (.tuple [.str "set", .tuple [.bool true]]) = true := by kernel_rfl
  have i : isiD "tuple" (.tuple [.str "set", .tuple [.bool true]]) = some (.bool true) := by kernel_rfl
  have i2 : isiD "tuple" (.tuple [.bool true]) = some (.bool true) := by kernel_rfl
  have i3 : isiD "bool" (.bool true) = some (.bool true) := by kernel_rfl
  have x1 : lenD [.tuple [.str "set", .tuple [.bool true]]] = some (.int 2) := rfl
  have x0 : idxD (.tuple [.str "set", .tuple [.bool true]]) (.int 0) = some (.str "set") := rfl
  have x2 : idxD (.tuple [.str "set", .tuple [.bool true]]) (.int 1) = some (.tuple [.bool true]) := rfl
  have e2 : eqD (.str "set") (.str "set") = some (.bool true) := by kernel_rfl
  have e : eqD (.tuple [.str "set", .tuple [.bool true]]) (.tuple [.str "free"]) = some (.bool false) := by kernel_rfl
  have l0 : eqD (.list [.bool true]) (.list []) = some (.bool false) := by kernel_rfl
  have im : ∃ b, inD (.tuple [.bool true]) (famL (otherF S T)) = some (.bool b) := by
    have h : inD (.tuple [.bool true]) (famL (otherF S T)) = (if (SeqAt.shaped (.tuple [.bool true]) && SeqAt.shaped (famL (otherF S T))) = true then some (memD (.tuple [.bool true]) ((otherF S T).map enc)) else none).map PyData.bool := rfl
    have h2 : SeqAt.shaped (.tuple [.bool true]) = true := by kernel_rfl
    rw [h, h2, shp_famL]
    exact ⟨_, rfl⟩
  obtain ⟨b, im⟩ := im
  simp [s_law_l1, e, i, x1, x0, x2, e2, li0, i2, im, F.wp_set_bool ok okT hn true hk]
  cases b
  · simp [F.same (ob7 _)]
    exact Sat.ret ⟨_, rfl⟩
  · simp [compL, i3, l0, F.same (ob7 _)]
    exact Sat.ret ⟨_, rfl⟩
end
theorem eq_free {v : D} (h : okk 8 v = true) (hv : PyData.eqv v (.tuple [.str "free"]) = false) : eqD v (.tuple [.str "free"]) = some (.bool false) := by
  have h2 : okk 8 (.tuple [.str "free"]) = true := by kernel_rfl
  have : eqD v (.tuple [.str "free"]) = (if (SeqAt.shaped v && SeqAt.shaped (.tuple [.str "free"])) = true then some (PyData.bool (PyData.eqv v (.tuple [.str "free"]))) else none) := rfl
  rw [this, okk_shaped h (by omega), okk_shaped h2 (by omega), hv]
  rfl
theorem good_list {call : Nat → List D → M D} {S T : Sys} (F : Facts call) (ok : S.Ok) (okT : T.Ok) (hn : T.nm = S.nm) {l : List D} (h : okk 8 (.tuple l) = true) : Good call S T (.list l) := by
  have h1 : (PyData.list l).canLay0 = true := by
    have := okk_lay h
    simpa [PyData.canLay0] using this
  have h3 : SeqAt.shaped (.list l) = true := shp_of h1 (by
    have := (okk_same 8 _ h).2
    have e : (PyData.list l).depth = (PyData.tuple l).depth := by simp [PyData.depth]
    omega)
  refine good_no F ok okT hn h1 rfl ?_
  have h2 : okk 8 (.tuple [.str "free"]) = true := by kernel_rfl
  have : eqD (.list l) (.tuple [.str "free"]) = (if (SeqAt.shaped (.list l) && SeqAt.shaped (.tuple [.str "free"])) = true then some (PyData.bool (PyData.eqv (.list l) (.tuple [.str "free"]))) else none) := rfl
  have hv : PyData.eqv (.list l) (.tuple [.str "free"]) = false := rfl
  rw [this, h3, okk_shaped h2 (by omega), hv]
  rfl
theorem okk_str8 (k : Nat) : okk (k + 1) (.str "set") = true := by
  show PyData.strOk "set" = true
  kernel_rfl
theorem idxL_last (l : List B8) (hl : l ≠ []) : idxD (famL l) (.int (-1)) = some (enc (l.getLast hl)) := by
  have h0 : 0 < l.length := List.length_pos_iff.mpr hl
  have hn : (l.map enc).length = l.length := List.length_map _
  show L2.atI (l.map enc) (-1) = _
  unfold L2.atI
  have : L2.ixN (l.map enc).length (-1) = some (l.length - 1) := by
    unfold L2.ixN
    rw [hn]
    simp
    omega
  rw [this]
  have h2 : l.length - 1 < l.length := by omega
  simp [List.getLast_eq_getElem, List.getElem?_eq_getElem h2]
theorem good_setl {call : Nat → List D → M D} {S T : Sys} (F : Facts call) (ok : S.Ok) (okT : T.Ok) (hn : T.nm = S.nm) (m : B8) : Good call S T (.tuple [.str "set", .list ((bitsF m).map fun i => PyData.int (i.val : Nat))]) := by
  have hk0 := okk_lay (okk_enc 6 m)
  have hk1 := (okk_same 8 _ (okk_enc 6 m)).2
  have ef : enc m = .tuple ((bitsF m).map fun i => PyData.int (i.val : Nat)) := enc_F m
  rw [ef] at hk0 hk1
  have h1 : (PyData.list ((bitsF m).map fun i => PyData.int (i.val : Nat))).canLay0 = true := by
    simpa only [PyData.canLay0] using hk0
  have hd : (PyData.list ((bitsF m).map fun i => PyData.int (i.val : Nat))).depth ≤ 8 := by
    simpa only [PyData.depth] using hk1
  have hk : PyData.canLay0 (.tuple [.str "set", .list ((bitsF m).map fun i => PyData.int (i.val : Nat))]) = true := by
    have : (PyData.str "set").canLay0 = true := by kernel_rfl
    simp only [PyData.canLay0, PyData.canLayAll0] at this h1 ⊢
    simp [this, h1]
  have e : eqD (.tuple [.str "set", .list ((bitsF m).map fun i => PyData.int (i.val : Nat))]) (.tuple [.str "free"]) = some (.bool false) := by
    have h2 : okk 8 (.tuple [.str "free"]) = true := by kernel_rfl
    have hv : PyData.eqv (.tuple [.str "set", .list ((bitsF m).map fun i => PyData.int (i.val : Nat))]) (.tuple [.str "free"]) = false := by
      show (PyData.eqv (.str "set") (.str "free") && false) = false
      exact Bool.and_false _
    have : eqD (.tuple [.str "set", .list ((bitsF m).map fun i => PyData.int (i.val : Nat))]) (.tuple [.str "free"]) = (if (SeqAt.shaped (.tuple [.str "set", .list ((bitsF m).map fun i => PyData.int (i.val : Nat))]) && SeqAt.shaped (.tuple [.str "free"])) = true then some (PyData.bool (PyData.eqv (.tuple [.str "set", .list ((bitsF m).map fun i => PyData.int (i.val : Nat))]) (.tuple [.str "free"]))) else none) := rfl
    rw [this, shp_of hk (by
      have z : (PyData.str "set").depth ≤ 1 := by simp [PyData.depth]
      simp only [PyData.depth, PyData.depthAll] at hd z ⊢
      omega), okk_shaped h2 (by omega), hv]
    rfl
  exact good_set_no F hk e h1 rfl (F.wp_set_no ok okT hn hk h1 rfl)
theorem good_none {call : Nat → List D → M D} {S T : Sys} (F : Facts call) (ok : S.Ok) (okT : T.Ok) (hn : T.nm = S.nm) (m : B8) : Good call S T (.tuple [.none, enc m]) := by
  have k8 : okk 8 (.tuple [.none, enc m]) = true := by
    have h1 := okk_enc 5 m
    show okk (7 + 1) _ = true
    rw [okk_tup]
    simp [h1]
  exact good_pair F (okk_lay k8) (eq_free k8 (by show (PyData.eqv .none (.str "free") && false) = false; exact Bool.and_false _)) (by kernel_rfl) (F.wp_none ok okT hn (okk_lay k8))
theorem good_three {call : Nat → List D → M D} {S T : Sys} (F : Facts call) (ok : S.Ok) (okT : T.Ok) (hn : T.nm = S.nm) (m m' : B8) : Good call S T (.tuple [.str "set", enc m, enc m']) := by
  have k8 : okk 8 (.tuple [.str "set", enc m, enc m']) = true := by
    have h1 := okk_enc 5 m
    have h2 := okk_enc 5 m'
    show okk (7 + 1) _ = true
    rw [okk_tup]
    simp [h1, h2, okk_str8 6]
  exact good_len F (okk_lay k8) (by simp) (eq_free k8 (by show (PyData.eqv (.str "set") (.str "free") && false) = false; exact Bool.and_false _)) (F.wp_len ok okT hn (okk_lay k8) (.inr (by simp)))
theorem addL {xs ys : List D} (h : xs.length + ys.length ≤ 16777216) : addD (.list xs) (.list ys) = some (.list (xs ++ ys)) := if_pos h
theorem tail89 {call : Nat → List D → M D} (F : Facts call) {S T : Sys} (g : GoodS S) (gT : GoodS T) (hn : T.nm = S.nm) {l : List D} (ll : l.length = 12) (hl : ∀ v ∈ l, Good call S T v) {a1 a2 a3 a4 a5 a6 a7 a8 a9 a10 a11 a12 : FS.S} {r : Ss} (e : s_law_l0 = .cons a1 (.cons a2 (.cons a3 (.cons a4 (.cons a5 (.cons a6 (.cons a7 (.cons a8 (.cons a9 (.cons a10 (.cons a11 (.cons a12 r)))))))))))) (s0 s2 s8 s9 s10 s11 s12 s14 s15 : Sl) : Sat (evSs call r [s0, .da cupD, s2, .da (Sys.enc S), .da (Sys.enc T), .da (.int (S.n : Nat)), .da (famL (allS S.n)), .da (.list [famL (otherF S T), famL (otherF T S)]), s8, s9, s10, s11, s12, .da (.list l), s14, s15]) fun f => ∃ ρ', f = .nx ρ' ∧ Pk ρ' := by
  unfold s_law_l0 at e
  injection e with _ e
  injection e with _ e
  injection e with _ e
  injection e with _ e
  injection e with _ e
  injection e with _ e
  injection e with _ e
  injection e with _ e
  injection e with _ e
  injection e with _ e
  injection e with _ e
  injection e with _ e
  subst e
  have ok := g.ok
  have okT := gT.ok
  have gs := fun m => good_set F ok okT hn m
  have l1 : (otherF S T).length ≤ 256 := Nat.le_trans (List.length_filter_le _ _) (circs_len ok)
  have l2 : (otherF T S).length ≤ 256 := Nat.le_trans (List.length_filter_le _ _) (circs_len okT)
  have l3 : (otherF S T).length + (otherF T S).length ≤ 16777216 := by omega
  have ane : allS S.n ≠ [] := fun z => by
    have : 0#8 ∈ allS S.n := (mem_allS ok.n8).mpr (by unfold inN; simp)
    rw [z] at this
    cases this
  have addF : ∀ a b : List B8, a.length + b.length ≤ 16777216 → addD (famL a) (famL b) = some (famL (a ++ b)) := fun a b h => by
    rw [add_famL]
    exact if_pos h
  have sl4 : slcD (famL (otherF S T ++ otherF T S)) none (some 4) = some (famL ((otherF S T ++ otherF T S).take 4)) := slc_to _ 4
  refine Sat.cons (fun ρ => ∃ l : List D, ρ = [s0, .da cupD, s2, .da (Sys.enc S), .da (Sys.enc T), .da (.int (S.n : Nat)), .da (famL (allS S.n)), .da (.list [famL (otherF S T), famL (otherF T S)]), s8, s9, s10, s11, s12, .da (.list l), s14, s15] ∧ l.length ≤ 100 ∧ ∀ v ∈ l, Good call S T v) ?_ fun ρ hρ => ?_
  · simp [li0, li1, addF _ _ l3, sl4, idxL_last _ ane, -List.map_append, -List.map_take, -List.take_append]
    have x1 := addL (xs := l) (ys := ((otherF S T ++ otherF T S).take 4).map fun x => PyData.tuple [.str "set", enc x]) (by simp only [List.length_map, List.length_take]; omega)
    rw [x1]
    simp only [opt_some, bnd_ret]
    refine Sat.bnd (F.law_set ok.n8) fun v hv => ?_
    obtain ⟨m, rfl, -⟩ := hv
    rw [addL (by simp only [List.length_append, List.length_map, List.length_take, List.length_cons, List.length_nil]; omega)]
    refine Sat.ret ⟨_, rfl, _, rfl, ?_, ?_⟩
    · simp only [List.length_append, List.length_map, List.length_take, List.length_cons, List.length_nil]; omega
    · intro v hv
      rcases List.mem_append.mp hv with hv | hv
      · rcases List.mem_append.mp hv with hv | hv
        · exact hl v hv
        · obtain ⟨m, _, rfl⟩ := List.mem_map.mp hv
          exact gs m
      · simp only [List.mem_cons, List.not_mem_nil, or_false] at hv
        rcases hv with rfl | rfl
        · exact gs m
        · exact good_setl F ok okT hn _
  obtain ⟨l', rfl, ll', hl'⟩ := hρ
  refine Sat.cons (fun ρ => ∃ t14 t15, ρ = [s0, .da cupD, s2, .da (Sys.enc S), .da (Sys.enc T), .da (.int (S.n : Nat)), .da (famL (allS S.n)), .da (.list [famL (otherF S T), famL (otherF T S)]), s8, s9, s10, s11, s12, .da (.list l'), t14, t15]) ?_ fun ρ hρ => ?_
  · have a0 : ∃ m, idxD (famL (allS S.n)) (.int 0) = some (enc m) := by
      cases h : allS S.n with
      | nil => exact absurd h ane
      | cons a r => exact ⟨a, by simp⟩
    obtain ⟨m0, a0⟩ := a0
    have hs : l'.length + 3 ≤ 16777216 := by omega
    simp [idxL_last _ ane, a0, hs]
    rw [addL (by simp only [List.length_cons, List.length_nil]; omega)]
    have hall : ∀ v ∈ l' ++ [PyData.tuple [.str "set", .tuple [.bool true]], .tuple [.none, enc m0], .tuple [.str "set", enc ((allS S.n).getLast ane), enc 0#8]], Good call S T v := by
      intro v hv
      rcases List.mem_append.mp hv with hv | hv
      · exact hl' v hv
      · simp only [List.mem_cons, List.not_mem_nil, or_false] at hv
        rcases hv with rfl | rfl | rfl
        · exact good_set_bool F ok okT hn
        · exact good_none F ok okT hn _
        · exact good_three F ok okT hn _ _
    have it : ∀ xs : List D, itemsD (.list xs) = some xs := fun _ => rfl
    simp only [opt_some, bnd_ret, it]
    generalize l' ++ [PyData.tuple [.str "set", .tuple [.bool true]], .tuple [.none, enc m0], .tuple [.str "set", enc ((allS S.n).getLast ane), enc 0#8]] = xs at hall
    have := forL_sat (body := evSs call s_law_l1) (i := 14) (g := id) (P := fun ρ => ∃ t14 t15, ρ = [s0, .da cupD, s2, .da (Sys.enc S), .da (Sys.enc T), .da (.int (S.n : Nat)), .da (famL (allS S.n)), .da (.list [famL (otherF S T), famL (otherF T S)]), s8, s9, s10, s11, s12, .da (.list l'), t14, t15]) (xs := xs) (ρ := [s0, .da cupD, s2, .da (Sys.enc S), .da (Sys.enc T), .da (.int (S.n : Nat)), .da (famL (allS S.n)), .da (.list [famL (otherF S T), famL (otherF T S)]), s8, s9, s10, s11, s12, .da (.list l'), s14, s15]) ⟨_, _, rfl⟩ fun ρ hρ x hx => by
        obtain ⟨t14, t15, rfl⟩ := hρ
        refine Sat.mono (hall x hx s0 s2 s8 s9 s10 s11 s12 (.da (.list l')) t15) fun f hf => ?_
        obtain ⟨t, rfl⟩ := hf
        exact ⟨_, rfl, _, _, rfl⟩
    rw [List.map_id] at this
    exact this
  obtain ⟨t14, t15, rfl⟩ := hρ
  refine Sat.cons Pk ?_ fun ρ hρ => ?_
  · cases h : otherF S T with
    | nil =>
      simp [li0]
      exact Sat.ret ⟨_, rfl, by exact ⟨_, _, _, _, _, _, _, _, _, _, _, _, _, _, _, rfl⟩⟩
    | cons c r =>
      have hc := (mem_otherF ok).mp (h ▸ List.mem_cons_self : c ∈ otherF S T)
      simp [li0, F.is_free ok hc.1, hc.2]
      have ib : isnD (.bool false) (.bool false) = some (.bool false) := rfl
      simp [ib]
      exact Sat.ret ⟨_, rfl, by exact ⟨_, _, _, _, _, _, _, _, _, _, _, _, _, _, _, rfl⟩⟩
  · exact Sat.ret ⟨_, rfl, hρ⟩
theorem turn89 {call : Nat → List D → M D} (F : Facts call) {ρ : En} (h : Pk ρ) : Sat (evSs call s_law_l0 ρ) fun f => ∃ ρ', f = .nx ρ' ∧ Pk ρ' := by
  obtain ⟨s0, s2, s3, s4, s5, s6, s7, s8, s9, s10, s11, s12, s13, s14, s15, rfl⟩ := h
  unfold s_law_l0
  refine Sat.cons (fun ρ => ∃ S T, ρ = [s0, .da cupD, s2, .da (Sys.enc S), .da (Sys.enc T), s5, s6, s7, s8, s9, s10, s11, s12, s13, s14, s15] ∧ GoodS S ∧ GoodS T ∧ T.nm = S.nm) ?_ fun ρ hρ => ?_
  · simp
    refine Sat.bnd F.law_coarse_pair fun a ha => ?_
    refine Sat.bnd F.law_pair fun b hb => ?_
    refine Sat.bnd F.law_pair fun c hc => ?_
    refine Sat.bnd (F.law_some (l := [a, b, c]) rfl (fun i x h => idx_list h) rfl (by simp) (by simp)) fun v hv => ?_
    have hv : Pair v := by
      simp only [List.mem_cons, List.not_mem_nil, or_false] at hv
      rcases hv with rfl | rfl | rfl <;> assumption
    obtain ⟨S, T, rfl, gS, gT, hn⟩ := hv
    simp
    exact Sat.ret (by exact ⟨_, rfl, S, T, rfl, gS, gT, hn⟩)
  obtain ⟨S, T, rfl, g, gT, hn⟩ := hρ
  have ok := g.ok
  have okT := gT.ok
  have nn : S.nm.length = S.n := rfl
  refine Sat.cons (fun ρ => ρ = [s0, .da cupD, s2, .da (Sys.enc S), .da (Sys.enc T), .da (.int (S.n : Nat)), s6, s7, s8, s9, s10, s11, s12, s13, s14, s15]) ?_ fun ρ hρ => ?_
  · simp [nn]
    exact Sat.ret rfl
  subst hρ
  refine Sat.cons (fun ρ => ρ = [s0, .da cupD, s2, .da (Sys.enc S), .da (Sys.enc T), .da (.int (S.n : Nat)), .da (famL (allS S.n)), s7, s8, s9, s10, s11, s12, s13, s14, s15]) ?_ fun ρ hρ => ?_
  · simp [F.law_sets ok.n8]
    exact Sat.ret rfl
  subst hρ
  refine Sat.cons (fun ρ => ρ = [s0, .da cupD, s2, .da (Sys.enc S), .da (Sys.enc T), .da (.int (S.n : Nat)), .da (famL (allS S.n)), .da (.list [famL (otherF S T), famL (otherF T S)]), s8, s9, s10, s11, s12, s13, s14, s15]) ?_ fun ρ hρ => ?_
  · simp [compL, F.law_free ok, F.law_free okT]
    have e2 : otherF T S = (allS S.n).filter fun m => isFree S m && !isFree T m := by
      have : T.n = S.n := by unfold Sys.n; rw [hn]
      unfold otherF
      rw [this]
    rw [fm_two, fm_two, e2]
    exact Sat.ret rfl
  subst hρ
  have oS : okk 7 (paperD "set" "free" (otherF S T)) = true := by
    cases otherF S T with
    | nil => kernel_rfl
    | cons c r =>
      have h1 : okk 6 (.str "set") = true := by kernel_rfl
      have h2 := okk_enc 4 c
      show okk (6 + 1) (.tuple [.str "set", enc c]) = true
      rw [okk_tup]
      simp [h1, h2]
  refine Sat.cons (fun ρ => ρ = [s0, .da cupD, s2, .da (Sys.enc S), .da (Sys.enc T), .da (.int (S.n : Nat)), .da (famL (allS S.n)), .da (.list [famL (otherF S T), famL (otherF T S)]), s8, s9, s10, .da (paperD "set" "free" (otherF S T)), s12, s13, s14, s15]) ?_ fun ρ hρ => ?_
  · cases otherF S T with
    | nil =>
      simp [li0, paperD]
      exact Sat.ret rfl
    | cons c r =>
      simp [li0, paperD]
      exact Sat.ret rfl
  subst hρ
  refine Sat.cons (fun ρ => ρ = [s0, .da cupD, s2, .da (Sys.enc S), .da (Sys.enc T), .da (.int (S.n : Nat)), .da (famL (allS S.n)), .da (.list [famL (otherF S T), famL (otherF T S)]), s8, s9, s10, .da (paperD "set" "free" (otherF S T)), s12, s13, s14, s15]) ?_ fun ρ hρ => ?_
  · simp [li0, li1, F.is_weaker ok okT hn, F.is_weaker okT ok hn.symm, F.weaker_paper ok okT hn, F.same, oS]
    exact Sat.ret rfl
  subst hρ
  have en : T.n = S.n := by unfold Sys.n; rw [hn]
  have l1 : (otherF S T).length ≤ 256 := Nat.le_trans (List.length_filter_le _ _) (circs_len ok)
  have l2 : (otherF T S).length ≤ 256 := Nat.le_trans (List.length_filter_le _ _) (circs_len okT)
  have oW : okk 7 (.str (orderW S T)) = true := by
    rw [orderW_eq ok okT hn]
    split
    · kernel_rfl
    · split
      · kernel_rfl
      · split <;> kernel_rfl
  have oZ : okk 7 (.str "same") = true := by kernel_rfl
  refine Sat.cons (fun ρ => ρ = [s0, .da cupD, s2, .da (Sys.enc S), .da (Sys.enc T), .da (.int (S.n : Nat)), .da (famL (allS S.n)), .da (.list [famL (otherF S T), famL (otherF T S)]), s8, s9, s10, .da (paperD "set" "free" (otherF S T)), .da (.str (orderW S T)), s13, s14, s15]) ?_ fun ρ hρ => ?_
  · rw [orderW_eq ok okT hn]
    have l3 : (otherF S T).length + (otherF T S).length ≤ 16777216 := by omega
    by_cases a : otherF S T = []
    · by_cases b : otherF T S = []
      · simp [li0, li1, a, b]
        exact Sat.ret rfl
      · rw [a] at l3
        simp at l3
        simp [li0, li1, a, b, l3]
        exact Sat.ret rfl
    · by_cases b : otherF T S = []
      · rw [b] at l3
        simp at l3
        simp [li0, li1, a, b, l3]
        exact Sat.ret rfl
      · simp [li0, li1, a, b, l3]
        exact Sat.ret rfl
  subst hρ
  refine Sat.cons (fun ρ => ρ = [s0, .da cupD, s2, .da (Sys.enc S), .da (Sys.enc T), .da (.int (S.n : Nat)), .da (famL (allS S.n)), .da (.list [famL (otherF S T), famL (otherF T S)]), s8, s9, s10, .da (paperD "set" "free" (otherF S T)), .da (.str (orderW S T)), s13, s14, s15]) ?_ fun ρ hρ => ?_
  · simp [F.order_word ok okT hn, F.order_word ok ok rfl, orderW_self, F.same, oW, oZ]
    exact Sat.ret rfl
  subst hρ
  refine Sat.cons (fun ρ => ρ = [s0, .da cupD, s2, .da (Sys.enc S), .da (Sys.enc T), .da (.int (S.n : Nat)), .da (famL (allS S.n)), .da (.list [famL (otherF S T), famL (otherF T S)]), s8, s9, s10, .da (paperD "set" "free" (otherF S T)), .da (.str (orderW S T)), s13, s14, s15]) ?_ fun ρ hρ => ?_
  · have wr := weaker_rk ok okT hn
    have h1 : ∀ m ∈ allS S.n, call 26 [T.enc, enc m] = M.ret (.int (rk T m : Nat)) := fun m hm => F.rank_of okT (m := m) (en ▸ (mem_allS ok.n8).mp hm)
    have h2 : ∀ m ∈ allS S.n, call 26 [S.enc, enc m] = M.ret (.int (rk S m : Nat)) := fun m hm => F.rank_of ok (m := m) ((mem_allS ok.n8).mp hm)
    simp [li0]
    rw [compA_mem (g := fun m => if decide (rk S m < rk T m) = true then some (enc m) else none) fun m hm => by
      rw [h1 m hm, bnd_ret, h2 m hm, bnd_ret]
      by_cases q : rk S m < rk T m <;> simp [q]]
    have fe : ((allS S.n).filterMap fun m => if decide (rk S m < rk T m) = true then some (enc m) else none) = ((allS S.n).filter fun m => decide (rk S m < rk T m)).map enc := fm_of (fun m => decide (rk S m < rk T m)) enc (fun _ => rfl) _
    have fq : PyData.list (((allS S.n).filter fun m => decide (rk S m < rk T m)).map enc) = famL ((allS S.n).filter fun m => decide (rk S m < rk T m)) := rfl
    have ff : ((allS S.n).filter fun m => decide (rk S m < rk T m)) = [] ↔ otherF S T = [] := by
      rw [wr, List.filter_eq_nil_iff]
      simp
    rw [fe]
    generalize ((allS S.n).filter fun m => decide (rk S m < rk T m)) = fl at ff fq
    by_cases z : otherF S T = []
    · simp [fq, ff.mpr z, z]
      exact Sat.ret rfl
    · have z2 : ¬ fl = [] := fun e => z (ff.mp e)
      simp [fq, z, z2]
      exact Sat.ret rfl
  subst hρ
  refine Sat.cons (fun ρ => ρ = [s0, .da cupD, s2, .da (Sys.enc S), .da (Sys.enc T), .da (.int (S.n : Nat)), .da (famL (allS S.n)), .da (.list [famL (otherF S T), famL (otherF T S)]), s8, s9, s10, .da (paperD "set" "free" (otherF S T)), .da (.str (orderW S T)), s13, s14, s15]) ?_ fun ρ hρ => ?_
  · have cw := coarser_weaker ok okT hn
    simp [li0, F.is_coarser ok okT hn]
    by_cases a : otherL S T = []
    · simp [a, cw a]
      exact Sat.ret rfl
    · simp [a]
      exact Sat.ret rfl
  subst hρ
  refine Sat.cons (fun ρ => ρ = [s0, .da cupD, s2, .da (Sys.enc S), .da (Sys.enc T), .da (.int (S.n : Nat)), .da (famL (allS S.n)), .da (.list [famL (otherF S T), famL (otherF T S)]), s8, s9, s10, .da (paperD "set" "free" (otherF S T)), .da (.str (orderW S T)), s13, s14, s15]) ?_ fun ρ hρ => ?_
  · have kS : pc (S.B.headD 0#8) = rkS S := rfl
    have kT : pc (T.B.headD 0#8) = rkS T := rfl
    by_cases a : rkS S = rkS T
    · have w := weaker_dual ok okT hn a
      simp [li0, idx_hd ok.ne, idx_hd okT.ne, -List.headD_eq_head?_getD, kS, kT, a, F.dual_of ok, F.dual_of okT, F.is_weaker (dual_ok ok) (dual_ok okT) hn, w]
      cases decide (otherF S T = []) <;> exact Sat.ret rfl
    · simp [li0, idx_hd ok.ne, idx_hd okT.ne, -List.headD_eq_head?_getD, kS, kT, a]
      exact Sat.ret rfl
  subst hρ
  have gf := good_free F ok okT hn
  have gs := fun m => good_set F ok okT hn m
  have lp : listD [paperD "set" "free" (otherF S T)] = some (match otherF S T with | [] => .list [.str "free"] | c :: _ => .list [.str "set", enc c]) := by
    cases otherF S T <;> rfl
  have ap : addD (paperD "set" "free" (otherF S T)) (.tuple [enc 0#8]) = some (match otherF S T with | [] => .tuple [.str "free", enc 0#8] | c :: _ => .tuple [.str "set", enc c, enc 0#8]) := by
    cases otherF S T <;> rfl
  refine Sat.cons (fun ρ => ∃ l : List D, ρ = [s0, .da cupD, s2, .da (Sys.enc S), .da (Sys.enc T), .da (.int (S.n : Nat)), .da (famL (allS S.n)), .da (.list [famL (otherF S T), famL (otherF T S)]), s8, s9, s10, .da (paperD "set" "free" (otherF S T)), .da (.str (orderW S T)), .da (.list l), s14, s15] ∧ l.length = 12 ∧ ∀ v ∈ l, Good call S T v) ?_ fun ρ hρ => ?_
  · simp [lp, ap]
    refine Sat.ret ⟨_, rfl, _, rfl, rfl, ?_⟩
    have kT : okk 8 (.tuple [.int (S.n : Nat)]) = true := rfl
    have e1 : PyData.tuple [.int (S.n : Nat)] = enc (one S.n) := by
      have := g.n6
      unfold enc
      rw [bits_one (by omega)]
      rfl
    intro v hv
    simp only [List.mem_cons, List.not_mem_nil, or_false] at hv
    rcases hv with rfl | rfl | rfl | rfl | rfl | rfl | rfl | rfl | rfl | rfl | rfl | rfl
    · cases otherF S T with
      | nil => exact gf
      | cons c r => exact gs c
    · cases otherF S T with
      | nil => exact good_no F ok okT hn (by kernel_rfl) (by kernel_rfl) (by kernel_rfl)
      | cons c r =>
        refine good_list F ok okT hn ?_
        have h1 := okk_enc 5 c
        show okk (7 + 1) _ = true
        rw [okk_tup]
        simp [h1, okk_str8 6]
    · cases h : otherF S T with
      | nil => exact good_pair F (by kernel_rfl) (by kernel_rfl) (by kernel_rfl) (F.wp_free2 ok okT hn (by kernel_rfl))
      | cons c r =>
        have k8 : okk 8 (.tuple [.str "set", enc c, enc 0#8]) = true := by
          have h1 := okk_enc 5 c
          have h2 := okk_enc 5 0#8
          show okk (7 + 1) _ = true
          rw [okk_tup]
          simp [h1, h2, okk_str8 6]
        exact good_len F (okk_lay k8) (by simp) (eq_free k8 (by show (PyData.eqv (.str "set") (.str "free") && false) = false; exact Bool.and_false _)) (F.wp_len ok okT hn (okk_lay k8) (.inr (by simp)))
    · exact good_no F ok okT hn (by kernel_rfl) (by kernel_rfl) (by kernel_rfl)
    · exact good_no F ok okT hn (by kernel_rfl) (by kernel_rfl) (by kernel_rfl)
    · exact good_len F (l := []) (by kernel_rfl) (by decide) (by kernel_rfl) (F.wp_len ok okT hn (l := []) (by kernel_rfl) (.inl rfl))
    · exact gf
    · exact good_len F (l := [.str "set"]) (by kernel_rfl) (by decide) (by kernel_rfl) (F.wp_word ok okT hn (by kernel_rfl) (by kernel_rfl) (by kernel_rfl) true (by kernel_rfl))
    · exact good_pair F (by kernel_rfl) (by kernel_rfl) (by kernel_rfl) (F.wp_free2 ok okT hn (by kernel_rfl))
    · exact good_len F (l := [.str "Free"]) (by kernel_rfl) (by decide) (by kernel_rfl) (F.wp_word ok okT hn (by kernel_rfl) (by kernel_rfl) (by kernel_rfl) false (by kernel_rfl))
    · exact good_set_no F (by kernel_rfl) (by kernel_rfl) (by kernel_rfl) (by kernel_rfl) (F.wp_set_no ok okT hn (by kernel_rfl) (by kernel_rfl) (by kernel_rfl))
    · rw [e1]
      exact gs _
  obtain ⟨l, rfl, ll, hl⟩ := hρ
  exact tail89 F g gT hn ll hl rfl _ _ _ _ _ _ _ _ _
theorem key89 {call : Nat → List D → M D} (F : Facts call) : Sat (M.bnd (evSs call s_law [.no, .da cupD, .no, .no, .no, .no, .no, .no, .no, .no, .no, .no, .no, .no, .no, .no]) endF) fun d => d = .bool true := by
  have e5 : rngD [.int 5] = some ((List.range 5).map fun i => .int (i : Nat)) := rng_nat (n := 5) (by omega)
  simp [s_law, e5, -List.map_cons]
  refine Sat.bnd (forL_sat (P := Pk) ⟨_, _, _, _, _, _, _, _, _, _, _, _, _, _, _, rfl⟩ fun ρ hρ x _ => ?_) fun f hf => ?_
  · obtain ⟨s0, s2, s3, s4, s5, s6, s7, s8, s9, s10, s11, s12, s13, s14, s15, rfl⟩ := hρ
    exact turn89 F ⟨_, _, _, _, _, _, _, _, _, _, _, _, _, _, _, rfl⟩
  · obtain ⟨_, rfl, _⟩ := hf
    exact Sat.ret rfl
theorem law_keeps : ∀ ns : List Int, ns.length ≤ 63 → ∃ c', M.bnd (evSs (run prg.tab (40 + 1)) prg.law.ss (lawEn prg.law.N.length)) endF (cupOf prg.k ns) = .ok (.bool true) c' := by
  intro ns _
  obtain ⟨d, c', h1, rfl⟩ := key89 facts (cupOf prg.k ns)
  exact ⟨c', h1⟩
end FS

-- part Lh

set_option Elab.async false
set_option linter.all false
set_option maxRecDepth 100000
set_option maxHeartbeats 0
namespace FS
open PySem PySem.Spec PyProof.Rows L2
abbrev Rw : PySem.W.OpenRow := PySem.W.OpenLaw.row PySem.Challenge.rw_freesets_k89_whole_weaker_systems
abbrev hk : PySem.W.Hook := He.hookX 4 prg.fa prg.fn [] prg.tf prg.ex
def ob (s : PySem.W.SharedT) : He.AlX := He.obsX 4 prg.fa prg.fn [] prg.tf prg.ex (HandSHeadRun.getT s)
theorem ob_eq (s : PySem.W.SharedT) : ob s = hk.obs s.abs := He.obsX_eq (HandSHeadRun.getT_eq s)
def loose0 : List Str := ["FreeError", "InvalidSystem", "InvalidName", "InvalidSet", "LETTERS", "DIGITS", "NAME", "is_whole", "fits_whole", "is_tuple_of", "is_rising", "fits_name", "fits_names", "fits_set", "union_in", "common_in", "less_in", "all_in", "sets_in", "THINGS", "BASES", "SETS", "fits_family", "swap_in", "break_in", "unlike_in", "is_bases_in", "fits_system", "need_system", "things_in"]
def loose1 : List Str := ["rank_in", "is_free_in", "need_things", "is_free", "closure_in", "is_flat_in", "rank_of", "dual_in", "dual_of", "need_two", "other_flats", "other_free", "is_coarser", "is_weaker", "is_one_of", "weaker_paper", "is_weaker_paper", "order_word", "_law_cup", "_law_roll", "_law_some", "_law_same", "_law_things", "_law_sets", "_law_set", "_law_within", "_law_common", "_law_less", "_law_both", "_law_tops"]
def loose2 : List Str := ["_law_no_ring", "_law_no_sum", "_law_bases", "_law_system_of", "_law_system", "_law_rank", "_law_free", "_law_short", "_law_pair", "_law_drawn_in", "_law_coarse_pair"]
def loose : List Str := loose0 ++ loose1 ++ loose2
theorem run_hd (w : World) : HandSHeadRun.RunEq Rw (PySem.W.view Rw.prog [78]) hk ob 3000 loose w := by
  intro os
  kernel_rfl
end FS
-- part end

set_option Elab.async false
set_option linter.all false
set_option maxRecDepth 100000
set_option maxHeartbeats 0
namespace FS
open PySem PySem.Spec PyProof.Rows L2
end FS
open PySem PySem.W PySem.Calls PyProof.Rows
theorem PySem.Challenge.cw_freesets_k89_whole_weaker_systems_holds : PySem.Challenge.rw_freesets_k89_whole_weaker_systems.Holds := by
  w_on; o_law
  refine HandSHeadRun.head_any (r := OpenLaw.row PySem.Challenge.rw_freesets_k89_whole_weaker_systems) (q := view (OpenLaw.row PySem.Challenge.rw_freesets_k89_whole_weaker_systems).prog [78]) (H := FS.hk) (ob := FS.ob) (M := 3000) (loose := FS.loose) (d := HandSHeadRun.topDef (OpenLaw.row PySem.Challenge.rw_freesets_k89_whole_weaker_systems).prog 78) (kwd := []) FS.ob_eq
    (by kernel_rfl) (fun s => by kernel_rfl) FS.run_hd (by kernel_rfl) (by kernel_rfl) (by kernel_rfl) (by rfl) (by first | assumption | decide +kernel) (by decide +kernel) ⟨rfl, rfl, rfl, rfl, rfl, by decide +kernel⟩ ?hw ?hc
  case hw => w_witness2
  case hc =>
    refine LamX.walk_ofTsE (l := PySem.Challenge.rw_freesets_k89_whole_weaker_systems) (n := 63) (k := 40 + 2) (x := "script") (CX := fun w => L2.CX (PySem.Challenge.rw_freesets_k89_whole_weaker_systems).prog w) rfl (by decide) (by kernel_rfl) ⟨rfl, by decide, by decide⟩ (fun w mg fa h Y G hmg0 => ?_) (fun w H s e s' z => ?_)
    · have hmg : mg ("law" : PySem.Str) = some (.ref fa) := by
        have e : (HandSHeadRun.topDef (OpenLaw.row PySem.Challenge.rw_freesets_k89_whole_weaker_systems).prog 78).name = ("law" : PySem.Str) := by kernel_rfl
        rw [← e]
        exact hmg0
      exact FS.law_end (p := FS.prg) (n := 40) FS.prg_cc FS.prg_lc FS.prg_chk FS.prg_bind FS.prg_bl FS.prg_bc (Nat.le_refl 63) FS.law_keeps Y G hmg
    · obtain ⟨_, _, _, _, _, _, _, _, _, _, _, _, z⟩ := z
      exact z
