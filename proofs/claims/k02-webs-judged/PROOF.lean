import PyProof.Rows.All
import Wide.All
import OpenK.AllK
import Wide.FinOn
import PyProof.ToksMono
import HandS.ForMost
import HandS.HeadHook1
import KE.DataAny
import HandS.TupAny
import HandS.Deep
import HandS.Codes
import KE.SortData
import KE.KDictSum
import KE.GoesDict
import KE.KDictCopyH
import PyProof.ReprLen
import HandS.List
import HandS.IsInst
import PyProof.Rows.StrJoin2
import PyProof.StrReplace2
import PyProof.StrCalls6
import HandS.ReplaceList
import HandS.Replace
import KE.GoesEnum
import KE.GoesMore
import HandS.Iter
import HandS.Comp
import HandS.Call
import HandS.HeadEnd
import HandS.Defaults
import HandS.EndBits
import HandS.DictComp
import HandS.Zip
import KE.GoesZip
import KE.DatumOrd
import PyProof.EqKinds
import PyProof.EqAt
import KE.KDictPairs
import PyProof.ListMulRoad
import PyProof.Rows.StrStrike
import PyProof.StrLawsOcc
import HandS.TupSets
import HandS.Head0
import HandS.Head1
import HandS.Head2
import HandS.HeadHook2
import PySem.Challenge.RW_giverounds_k02_whole_webs_judged
set_option Elab.async false
set_option linter.all false
set_option autoImplicit false
set_option maxRecDepth 100000
set_option maxHeartbeats 4000000
/-! A layer of plain data straight over the heap's own rules (texts keep their tokens). Values as trees, names' slots, the state of a def that runs. -/
namespace GB
open PySem PySem.Spec PyProof.Rows
open L2 (Key keyH keyIs mixKind Mod Look Vis Loc frs thn)

/-- a value as plain data; a text is its signs' numbers -/
inductive D where
  | non
  | bl (b : Bool)
  | int (i : Int)
  | str (s : List Nat)
  | tup (xs : List D)
  | lst (xs : List D)
  | dic (kvs : List (D × D))

def tx (s : List Nat) : Str := ⟨s.toArray⟩
theorem tx_len (s : List Nat) : (tx s).length = s.length := by simp [tx, Str.length]
theorem tx_list (s : List Nat) : (tx s).cps.toList = s := by simp [tx]
theorem tx_of (x : Str) : tx x.cps.toList = x := by cases x; simp [tx]
theorem tx_inj {s t : List Nat} (h : tx s = tx t) : s = t := by rw [← tx_list s, ← tx_list t, h]
theorem tx_append (s t : List Nat) : tx s ++ tx t = tx (s ++ t) := by
  show (⟨(tx s).cps ++ (tx t).cps⟩ : Str) = _
  simp [tx]

def keyD : Key → D
  | .inl i => .int i
  | .inr x => .str x.cps.toList

/-- a part of the heap that never changes any more -/
abbrev FH := Addr → Option Obj
def Sub (F F' : FH) : Prop := ∀ b o, F b = some o → F' b = some o
def upd (F : FH) (a : Addr) (o : Obj) : FH := fun b => if b = a then some o else F b
theorem upd_same {F : FH} {a : Addr} {o : Obj} : upd F a o a = some o := by unfold upd; rw [if_pos rfl]
theorem upd_ne {F : FH} {a b : Addr} {o : Obj} (h : b ≠ a) : upd F a o b = F b := by unfold upd; rw [if_neg h]
theorem Sub.refl (F : FH) : Sub F F := fun _ _ h => h
theorem Sub.trans {F G H : FH} (a : Sub F G) (b : Sub G H) : Sub F H := fun x o h => b x o (a x o h)
theorem ne_of_none {F : FH} {a b : Addr} {o : Obj} (h : F a = some o) (h' : F b = none) : a ≠ b := by
  rintro rfl; rw [h] at h'; cases h'
theorem Sub.new {F : FH} {a : Addr} {o : Obj} (h : F a = none) : Sub F (upd F a o) := fun b u e => by
  rw [upd_ne (ne_of_none e h)]; exact e

mutual
/-- at v stands the data d, told by the part F of the heap; every text's token is one that was given out (below T) -/
inductive Rep (w : World) (F : FH) (T : Nat) : Value → D → Prop
  | non : Rep w F T .none .non
  | bl (b : Bool) : Rep w F T (.bool b) (.bl b)
  | int (i : Int) (t : Tok) : Rep w F T (.int i t) (.int i)
  | str (s : List Nat) (t : Tok) : t ≠ 0 → t < T → s.length ≤ sizeLine → Rep w F T (.str (tx s) t) (.str s)
  | ref {a : Addr} {o : Obj} {d : D} : F a = some o → (a == sysModules) = false → ObjIs w F T o d → Rep w F T (.ref a) d
/-- an object that holds d -/
inductive ObjIs (w : World) (F : FH) (T : Nat) : Obj → D → Prop
  | tup {o : Obj} {vs : Array Value} {n : Nat} {ds : List D} : o.cls = .type "tuple" ∧ o.dict = none → o.data = .seq vs n → vs.size ≤ sizeLine → RepL w F T vs.toList ds → ObjIs w F T o (.tup ds)
  | lst {vs : Array Value} {n : Nat} {ds : List D} : vs.size ≤ sizeLine → RepL w F T vs.toList ds → ObjIs w F T { cls := .type "list", data := .seq vs n } (.lst ds)
  | dic {o : Obj} {es : Array DictEntry} {ep : Nat} {ks : List (Key × D)} {ds : List (D × D)} : o.ExactDict → o.data = .dict es ep → es.size ≤ sizeLine → RepK w F T es.toList ks → (ks.map (·.1)).Nodup →
      ds = ks.map (fun p => (keyD p.1, p.2)) → ObjIs w F T o (.dic ds)
inductive RepL (w : World) (F : FH) (T : Nat) : List Value → List D → Prop
  | nil : RepL w F T [] []
  | cons {v : Value} {d : D} {vs : List Value} {ds : List D} : Rep w F T v d → RepL w F T vs ds → RepL w F T (v :: vs) (d :: ds)
inductive RepK (w : World) (F : FH) (T : Nat) : List DictEntry → List (Key × D) → Prop
  | nil : RepK w F T [] []
  | cons {e : DictEntry} {k : Key} {d : D} {es : List DictEntry} {ks : List (Key × D)} : e.hash = keyH w k → Rep w F T e.key (keyD k) → Rep w F T e.val d → RepK w F T es ks → RepK w F T (e :: es) ((k, d) :: ks)
end

section
variable {w : World} {F F' : FH} {T T' : Nat}
mutual
theorem Rep.mono (s : Sub F F') (t : T ≤ T') : ∀ {v : Value} {d : D}, Rep w F T v d → Rep w F' T' v d
  | _, _, .non => .non
  | _, _, .bl b => .bl b
  | _, _, .int i u => .int i u
  | _, _, .str x u h1 h2 h3 => .str x u h1 (Nat.lt_of_lt_of_le h2 t) h3
  | _, _, .ref q z r => .ref (s _ _ q) z (ObjIs.mono s t r)
theorem ObjIs.mono (s : Sub F F') (t : T ≤ T') : ∀ {o : Obj} {d : D}, ObjIs w F T o d → ObjIs w F' T' o d
  | _, _, .tup a b z r => .tup a b z (RepL.mono s t r)
  | _, _, .lst z r => .lst z (RepL.mono s t r)
  | _, _, .dic a b z r n e => .dic a b z (RepK.mono s t r) n e
theorem RepL.mono (s : Sub F F') (t : T ≤ T') : ∀ {vs : List Value} {ds : List D}, RepL w F T vs ds → RepL w F' T' vs ds
  | _, _, .nil => .nil
  | _, _, .cons a r => .cons (Rep.mono s t a) (RepL.mono s t r)
theorem RepK.mono (s : Sub F F') (t : T ≤ T') : ∀ {es : List DictEntry} {ks : List (Key × D)}, RepK w F T es ks → RepK w F' T' es ks
  | _, _, .nil => .nil
  | _, _, .cons h k a r => .cons h (Rep.mono s t k) (Rep.mono s t a) (RepK.mono s t r)
end
theorem RepL.length : ∀ {vs : List Value} {ds : List D}, RepL w F T vs ds → vs.length = ds.length
  | _, _, .nil => rfl
  | _, _, .cons _ r => congrArg Nat.succ (RepL.length r)
theorem RepL.get : ∀ {vs : List Value} {ds : List D} {i : Nat} {d : D}, RepL w F T vs ds → ds[i]? = some d → ∃ v, vs[i]? = some v ∧ Rep w F T v d
  | _, _, 0, _, .cons a _, e => by simp at e; subst e; exact ⟨_, rfl, a⟩
  | _, _, i + 1, _, .cons _ r, e => by
    obtain ⟨v, h1, h2⟩ := RepL.get (i := i) r (by simpa using e)
    exact ⟨v, by simpa using h1, h2⟩
  | _, _, _, _, .nil, e => by simp at e
theorem RepL.get' : ∀ {vs : List Value} {ds : List D} {i : Nat} {v : Value}, RepL w F T vs ds → vs[i]? = some v → ∃ d, ds[i]? = some d ∧ Rep w F T v d
  | _, _, 0, _, .cons a _, e => by simp at e; subst e; exact ⟨_, rfl, a⟩
  | _, _, i + 1, _, .cons _ r, e => by
    obtain ⟨v, h1, h2⟩ := RepL.get' (i := i) r (by simpa using e)
    exact ⟨v, by simpa using h1, h2⟩
  | _, _, _, _, .nil, e => by simp at e
theorem RepL.append : ∀ {vs ws : List Value} {ds es : List D}, RepL w F T vs ds → RepL w F T ws es → RepL w F T (vs ++ ws) (ds ++ es)
  | _, _, _, _, .nil, b => b
  | _, _, _, _, .cons a r, b => .cons a (RepL.append r b)
theorem RepL.take : ∀ {vs : List Value} {ds : List D} (n : Nat), RepL w F T vs ds → RepL w F T (vs.take n) (ds.take n)
  | _, _, 0, _ => .nil
  | _, _, _ + 1, .nil => .nil
  | _, _, n + 1, .cons a r => .cons a (RepL.take n r)
theorem RepL.drop : ∀ {vs : List Value} {ds : List D} (n : Nat), RepL w F T vs ds → RepL w F T (vs.drop n) (ds.drop n)
  | _, _, 0, r => r
  | _, _, _ + 1, .nil => .nil
  | _, _, n + 1, .cons _ r => RepL.drop n r
theorem RepL.set {v : Value} {d : D} (x : Rep w F T v d) : ∀ {vs : List Value} {ds : List D} (i : Nat), RepL w F T vs ds → RepL w F T (vs.set i v) (ds.set i d)
  | _, _, _, .nil => .nil
  | _, _, 0, .cons _ r => .cons x r
  | _, _, i + 1, .cons a r => .cons a (RepL.set x i r)
theorem RepL.eraseIdx : ∀ {vs : List Value} {ds : List D} (i : Nat), RepL w F T vs ds → RepL w F T (vs.eraseIdx i) (ds.eraseIdx i)
  | _, _, _, .nil => .nil
  | _, _, 0, .cons _ r => r
  | _, _, i + 1, .cons a r => .cons a (RepL.eraseIdx i r)
theorem RepL.reverse {vs : List Value} {ds : List D} (h : RepL w F T vs ds) : RepL w F T vs.reverse ds.reverse := by
  induction vs generalizing ds with
  | nil => cases h; exact .nil
  | cons v r ih =>
    cases h with
    | cons a b =>
      rw [List.reverse_cons, List.reverse_cons]
      exact RepL.append (ih b) (.cons a .nil)
theorem RepL.dropLast {vs : List Value} {ds : List D} (h : RepL w F T vs ds) : RepL w F T vs.dropLast ds.dropLast := by
  rw [List.dropLast_eq_take, List.dropLast_eq_take, h.length]
  exact h.take _
theorem RepL.of_forall {vs : List Value} {ds : List D} (hl : vs.length = ds.length) (h : ∀ (i : Nat) v d, vs[i]? = some v → ds[i]? = some d → Rep w F T v d) : RepL w F T vs ds := by
  induction vs generalizing ds with
  | nil => cases ds with
    | nil => exact .nil
    | cons _ _ => simp at hl
  | cons v r ih => cases ds with
    | nil => simp at hl
    | cons d q => exact .cons (h 0 v d rfl rfl) (ih (by simpa using hl) fun i v' d' e1 e2 => h (i + 1) v' d' (by simpa using e1) (by simpa using e2))
theorem RepK.length : ∀ {es : List DictEntry} {ks : List (Key × D)}, RepK w F T es ks → es.length = ks.length
  | _, _, .nil => rfl
  | _, _, .cons _ _ _ r => congrArg Nat.succ (RepK.length r)
theorem Rep.key_is {v : Value} {k : Key} (h : Rep w F T v (keyD k)) : keyIs k v = true := by
  cases k with
  | inl i => cases h with
    | int _ t => exact L2.keyIs_int i t
    | ref _ _ r => cases r
  | inr x => cases h with
    | str _ t => rw [tx_of]; exact L2.keyIs_str x t
    | ref _ _ r => cases r
end

/-! ### slots -/
/-- what a name holds: nothing, data that never changes any more, a list or dict that this def alone holds, one of the caller's that it may change -/
inductive Slot where
  | un
  | val (d : D)
  | own (d : D)
  | par (d : D)
abbrev Rho := List Slot
/-- a value: data that never changes any more; a list or dict just made that nothing else holds; a text of any token -/
inductive Res where
  | val (d : D)
  | fresh (d : D)
  | weak (s : List Nat)
def Res.d : Res → D
  | .val d => d
  | .fresh d => d
  | .weak s => .str s
/-- an error: its class, what it keeps -/
structure Exc where
  cls : Str
  fs : List (Str × D)
inductive O (α : Type) where
  | ok (a : α) (ρ : Rho)
  | ex (e : Exc) (ρ : Rho)
abbrev DE := Rho → Option (O Res)
abbrev DT := Rho → Option (O Bool)
abbrev DA := Rho → Option (O (List D))

/-- the context: a def's body (or a comprehension's block) running -/
structure Cx where
  prog : Program
  w : World
  K : PySem.W.Frag
  mg : Str → Option Value
  base : Heap
  A : Around
  N : List Str
  /-- the names that this block stores -/
  asg : Nat → Bool
  /-- how many tokens were given out before, at least -/
  tz : Nat
  env : Env
  outer : List Env
  stack : List Env
  /-- what stood at the entry -/
  old : Addr → Prop
  /-- the cells that were made at the entry -/
  myc : Addr → Prop
  os0 : OsState
  xe : Value → Shared → Prop

/-- the records of this frame, of its callers -/
def Mine (X : Cx) (b : Addr) : Prop := b = X.env.locals ∨ X.myc b ∨ b ∈ frs X.stack

/-- where a def stands: what never changes any more, where its own lists lie, its names, the state -/
structure Cf where
  F : FH
  α : Nat → Addr
  ρ : Rho
  s : Shared
def isOwn (ρ : Rho) (i : Nat) : Prop := ∃ d, ρ[i]? = some (.own d) ∨ ρ[i]? = some (.par d)
def Owns (c : Cf) (b : Addr) : Prop := ∃ i, isOwn c.ρ i ∧ c.α i = b

/-- the list or dict at a is d; nothing that never changes leans on it -/
def D.isMut : D → Bool
  | .lst _ => true
  | .dic _ => true
  | _ => false
structure OwnAt (w : World) (base : Heap) (F : FH) (s : Shared) (a : Addr) (d : D) : Prop where
  nf : F a = none
  ns : (a == sysModules) = false
  nb : base.get? a = none
  mu : d.isMut = true
  ob : ∃ o, s.heap.get? a = some o ∧ ObjIs w F s.toks o d

def SlotOk (X : Cx) (c : Cf) (m : Str → Option Value) (i : Nat) (x : Str) : Slot → Prop
  | .un => True
  | .val d => ∃ u, Look X.env c.s.heap m x u ∧ Rep X.w c.F c.s.toks u d
  | .own d => Look X.env c.s.heap m x (.ref (c.α i)) ∧ OwnAt X.w X.base c.F c.s (c.α i) d ∧ ¬ X.old (c.α i) ∧ ¬ Mine X (c.α i)
  | .par d => Look X.env c.s.heap m x (.ref (c.α i)) ∧ OwnAt X.w X.base c.F c.s (c.α i) d ∧ ¬ Mine X (c.α i)

structure Cx.Ok (X : Cx) : Prop where
  mod : Mod X.K X.mg X.base
  kind : X.env.scope.kind = .function
  glob : X.env.globals = mainGlobals
  blt : X.env.builtins = builtinsNs
  nd : X.N.Nodup
  inj : ∀ x y c, X.env.cells.lookup x = some c → X.env.cells.lookup y = some c → x = y
  has : ∀ x, (X.env.kindOf x = some .cell ∨ X.env.kindOf x = some .free) → ∃ c, X.env.cells.lookup x = some c
  myc : ∀ x c, X.env.kindOf x = some .cell → X.env.cells.lookup x = some c → X.myc c
  hd : X.A.handled = none
  frames : X.A.frames = some X.stack
  stk : X.stack = X.outer ∨ (X.stack = X.env :: X.outer ∧ X.env.frame = some X.env.locals)
  bold : ∀ b o, X.base.get? b = some o → X.old b ∧ ¬ Mine X b
  mycf : ∀ a, X.myc a → a ∉ frs X.stack
  room : X.A.units + 200 < cLine
  deep : X.A.depth + 5 < recursionLimit
  guards : X.A.guards = some []

/-- the state of a def that runs -/
structure SR (X : Cx) (c : Cf) : Prop where
  ok : X.Ok
  os : c.s.os = X.os0
  bare : AllBare c.s.gens
  bk : ∀ b o, X.base.get? b = some o → c.s.heap.get? b = some o
  frm : c.s.heap.FunFrames X.base X.stack
  loc : ∃ m, c.s.heap.Ns X.env.locals m ∧ ∀ (i : Nat) (x : Str) (sl : Slot), X.N[i]? = some x → c.ρ[i]? = some sl → SlotOk X c m i x sl
  cell : ∀ x a, X.env.cells.lookup x = some a → ∃ v, c.s.heap.IsCell a v
  sub : ∀ b o, c.F b = some o → c.s.heap.get? b = some o
  mine : ∀ b, Mine X b → c.F b = none
  inj : ∀ i j, isOwn c.ρ i → isOwn c.ρ j → c.α i = c.α j → i = j
  olds : ∀ b, X.old b ∨ Mine X b → ∃ o, c.s.heap.get? b = some o
  tk : X.tz ≤ c.s.toks
  len : c.ρ.length = X.N.length
  cfree : ∀ x a, X.env.cells.lookup x = some a → c.F a = none ∧ a ≠ X.env.locals

/-- from one state to a later one -/
structure FrB (X : Cx) (c c' : Cf) : Prop where
  fm : Sub c.F c'.F
  tk : c.s.toks ≤ c'.s.toks
  hm : ∀ b o, c.s.heap.get? b = some o → ∃ o', c'.s.heap.get? b = some o'
  st : ∀ b o, c.s.heap.get? b = some o → ¬ Owns c b → ¬ Mine X b → c'.s.heap.get? b = some o ∧ ¬ Owns c' b ∧ (c.F b = none → c'.F b = none)
  fr : ∀ b o, b ∈ frs X.stack → b ≠ X.env.locals → c.s.heap.get? b = some o → ∃ sl, c'.s.heap.get? b = some { o with slots := sl }
  pr : ∀ (i : Nat) (d' : D), c'.ρ[i]? = some (.par d') → (∃ d, c.ρ[i]? = some (.par d)) ∧ c'.α i = c.α i
  ka : ∀ i, X.asg i = false → c'.α i = c.α i ∧ (isOwn c'.ρ i → isOwn c.ρ i)

/-- .. behind an expression: no list has been put elsewhere -/
structure Fr (X : Cx) (c c' : Cf) : Prop extends FrB X c c' where
  al : c'.α = c.α

/-- a value's data: as it never changes, or a text of any token -/
def WRep (w : World) (F : FH) (T : Nat) (v : Value) (d : D) : Prop := Rep w F T v d ∨ ∃ (s : List Nat) (t : Tok), v = .str (tx s) t ∧ d = .str s ∧ s.length ≤ sizeLine
/-- .. or a list or dict that someone holds, as it is now -/
def View (w : World) (c : Cf) (v : Value) (d : D) : Prop := WRep w c.F c.s.toks v d ∨ ∃ a o, v = .ref a ∧ (a == sysModules) = false ∧ c.s.heap.get? a = some o ∧ ObjIs w c.F c.s.toks o d ∧ d.isMut = true
theorem Rep.w {w : World} {F : FH} {T : Nat} {v : Value} {d : D} (h : Rep w F T v d) : WRep w F T v d := .inl h

/-- c0: the state ahead of the expression -/
def ResOk (X : Cx) (c0 c : Cf) : Res → Value → Prop
  | .val d, v => Rep X.w c.F c.s.toks v d
  | .weak s, v => ∃ t, v = .str (tx s) t ∧ s.length ≤ sizeLine
  | .fresh d, v => ∃ a, v = .ref a ∧ c0.s.heap.get? a = none ∧ OwnAt X.w X.base c.F c.s a d ∧ ¬ Owns c a ∧ ¬ Mine X a

section
variable {X : Cx} {c c' c0 c1 c2 : Cf}
theorem FrB.refl : FrB X c c := ⟨Sub.refl _, Nat.le_refl _, fun _ o h => ⟨o, h⟩, fun _ _ h n _ => ⟨h, n, fun z => z⟩, fun _ o _ _ h => ⟨o.slots, h⟩, fun _ d h => ⟨⟨d, h⟩, rfl⟩, fun _ _ => ⟨rfl, id⟩⟩
theorem FrB.trans (a : FrB X c c1) (b : FrB X c1 c2) : FrB X c c2 := by
  refine ⟨a.fm.trans b.fm, Nat.le_trans a.tk b.tk, fun x o h => ?_, fun x o h n q => ?_, fun x o z l h => ?_, fun i d h => ?_, fun i h => ⟨(b.ka i h).1.trans (a.ka i h).1, fun z => (a.ka i h).2 ((b.ka i h).2 z)⟩⟩
  · obtain ⟨o1, h1⟩ := a.hm x o h
    exact b.hm x o1 h1
  · obtain ⟨h1, n1, f1⟩ := a.st x o h n q
    obtain ⟨h2, n2, f2⟩ := b.st x o h1 n1 q
    exact ⟨h2, n2, fun z => f2 (f1 z)⟩
  · obtain ⟨sl, h1⟩ := a.fr x o z l h
    obtain ⟨sl', h2⟩ := b.fr x _ z l h1
    exact ⟨sl', h2⟩
  · obtain ⟨⟨d1, q1⟩, e1⟩ := b.pr i d h
    obtain ⟨q2, e2⟩ := a.pr i d1 q1
    exact ⟨q2, e1.trans e2⟩
theorem Fr.refl : Fr X c c := ⟨FrB.refl, rfl⟩
theorem Fr.trans (a : Fr X c c1) (b : Fr X c1 c2) : Fr X c c2 := ⟨a.toFrB.trans b.toFrB, b.al.trans a.al⟩
theorem SR.owned (S : SR X c) {b : Addr} (h : Owns c b) : (∃ d, OwnAt X.w X.base c.F c.s b d) ∧ ¬ Mine X b := by
  obtain ⟨i, ⟨d, q⟩, rfl⟩ := h
  obtain ⟨m, hm, sl⟩ := S.loc
  have hi : i < X.N.length := by
    rw [← S.len]
    rcases q with q | q <;> exact (List.getElem?_eq_some_iff.mp q).1
  have hx : X.N[i]? = some X.N[i] := by simp [hi]
  rcases q with q | q
  · have := sl i _ _ hx q
    exact ⟨⟨d, this.2.1⟩, this.2.2.2⟩
  · have := sl i _ _ hx q
    exact ⟨⟨d, this.2.1⟩, this.2.2⟩
theorem OwnAt.ex {w : World} {base : Heap} {F : FH} {s : Shared} {a : Addr} {d : D} (h : OwnAt w base F s a d) : ∃ o, s.heap.get? a = some o := let ⟨o, e, _⟩ := h.ob; ⟨o, e⟩
theorem SR.tkp (S : SR X c) (h : 0 < X.tz) : 0 < c.s.toks := Nat.lt_of_lt_of_le h S.tk
theorem SR.nown (S : SR X c) {b : Addr} (h : c.s.heap.get? b = none) : ¬ Owns c b := fun z => by
  obtain ⟨⟨d, o⟩, _⟩ := S.owned z
  obtain ⟨u, e⟩ := o.ex
  rw [h] at e; cases e
theorem SR.nownF (S : SR X c) {b : Addr} {o : Obj} (h : c.F b = some o) : ¬ Owns c b := fun z => by
  obtain ⟨⟨d, q⟩, _⟩ := S.owned z
  rw [q.nf] at h; cases h
theorem SR.fnone (S : SR X c) {b : Addr} (h : c.s.heap.get? b = none) : c.F b = none := by
  cases q : c.F b with
  | none => rfl
  | some o => rw [S.sub b o q] at h; cases h
theorem SR.nmine (S : SR X c) {b : Addr} (h : c.s.heap.get? b = none) : ¬ Mine X b := fun z => by
  obtain ⟨o, e⟩ := S.olds b (.inr z)
  rw [h] at e; cases e
theorem SR.kIn (S : SR X c) : X.K.In c.s.heap := S.ok.mod.kin.keeps S.bk
theorem SR.lim (S : SR X c) : c.s.heap.NoLimit := S.ok.mod.nolimit.keeps S.bk
theorem SR.new (S : SR X c) : c.s.heap.get? c.s.heap.objs.size = none := Heap.get?_none_of_le (Nat.le_refl _)

/-- what is known of a later heap in which all that this def holds still stands -/
theorem Look.keep' {env : Env} {h h' : Heap} {m : Str → Option Value} {x : Str} {u : Value} (k : ∀ y a, env.cells.lookup y = some a → ∀ v, h.IsCell a v → h'.IsCell a v) (l : Look env h m x u) : Look env h' m x u := by
  rcases l with l | ⟨k1, a, e, z⟩
  · exact .inl l
  · exact .inr ⟨k1, a, e, k x a e _ z⟩
theorem OwnAt.keep {w : World} {base : Heap} {F F' : FH} {s s' : Shared} {a : Addr} {d : D} (h : OwnAt w base F s a d) (sb : Sub F F') (tk : s.toks ≤ s'.toks) (hF : F' a = none) (hh : ∀ o, s.heap.get? a = some o → s'.heap.get? a = some o) : OwnAt w base F' s' a d := by
  obtain ⟨o, e, r⟩ := h.ob
  exact ⟨hF, h.ns, h.nb, h.mu, o, hh o e, r.mono sb tk⟩
theorem SlotOk.keep {m : Str → Option Value} {i : Nat} {x : Str} {sl : Slot} {s' : Shared} {F' : FH} (h : SlotOk X c m i x sl) (sb : Sub c.F F') (tk : c.s.toks ≤ s'.toks)
    (kc : ∀ y a, X.env.cells.lookup y = some a → ∀ v, c.s.heap.IsCell a v → s'.heap.IsCell a v)
    (ho : (∃ d, sl = .own d ∨ sl = .par d) → F' (c.α i) = none ∧ ∀ o, c.s.heap.get? (c.α i) = some o → s'.heap.get? (c.α i) = some o) : SlotOk X { c with F := F', s := s' } m i x sl := by
  cases sl with
  | un => trivial
  | val d => obtain ⟨u, l, r⟩ := h; exact ⟨u, Look.keep' kc l, r.mono sb tk⟩
  | own d => obtain ⟨l, oa, no, nm⟩ := h; obtain ⟨h1, h2⟩ := ho ⟨d, .inl rfl⟩; exact ⟨Look.keep' kc l, oa.keep sb tk h1 h2, no, nm⟩
  | par d => obtain ⟨l, oa, nm⟩ := h; obtain ⟨h1, h2⟩ := ho ⟨d, .inr rfl⟩; exact ⟨Look.keep' kc l, oa.keep sb tk h1 h2, nm⟩

/-- a later state in which this def's own things, what never changes any more, the module's things stand, and the frames up to their slots -/
theorem SR.later (S : SR X c) {s' : Shared} (ho : s'.os = c.s.os) (hg : AllBare s'.gens) (ht : c.s.toks ≤ s'.toks)
    (k : ∀ b o, c.s.heap.get? b = some o → b ∉ frs X.stack → s'.heap.get? b = some o) (fr : ∀ b o, c.s.heap.get? b = some o → b ∈ frs X.stack → ∃ sl, s'.heap.get? b = some { o with slots := sl }) :
    SR X { c with s := s' } ∧ Fr X c { c with s := s' } := by
  have any : ∀ b o, c.s.heap.get? b = some o → ∃ sl, s'.heap.get? b = some { o with slots := sl } := fun b o e => by
    by_cases hb : b ∈ frs X.stack
    · exact fr b o e hb
    · exact ⟨o.slots, k b o e hb⟩
  have nst : ∀ b, ¬ Mine X b → b ∉ frs X.stack := fun b n z => n (.inr (.inr z))
  have kc : ∀ y a, X.env.cells.lookup y = some a → ∀ v, c.s.heap.IsCell a v → s'.heap.IsCell a v := fun y a _ v ⟨o, e, d⟩ => by
    obtain ⟨sl, e'⟩ := any a o e
    exact ⟨_, e', d⟩
  refine ⟨⟨S.ok, ho.trans S.os, hg, fun b o e => k b o (S.bk b o e) (nst b (S.ok.bold b o e).2), S.frm.of_keeps fun b o e _ => let ⟨_, e'⟩ := any b o e; ⟨_, e', rfl⟩, ?_, fun x a e => ?_, fun b o e => k b o (S.sub b o e) ?_, S.mine, S.inj, fun b z => ?_, Nat.le_trans S.tk ht, S.len, S.cfree⟩,
    ⟨⟨Sub.refl _, ht, fun b o e => let ⟨_, e'⟩ := any b o e; ⟨_, e'⟩, fun b o e n q => ⟨k b o e (nst b q), n, id⟩, fun b o z _ e => fr b o e z, fun _ d h => ⟨⟨d, h⟩, rfl⟩, fun _ _ => ⟨rfl, id⟩⟩, rfl⟩⟩
  · obtain ⟨m, hm, sl⟩ := S.loc
    refine ⟨m, ?_, fun i x s h1 h2 => ?_⟩
    · obtain ⟨o, es, ep, e, d, r⟩ := hm
      obtain ⟨z, e'⟩ := any _ o e
      exact ⟨_, es, ep, e', d, r⟩
    · refine (sl i x s h1 h2).keep (Sub.refl _) ht kc fun ⟨d, q⟩ => ?_
      have ow : Owns c (c.α i) := ⟨i, ⟨d, by rcases q with rfl | rfl; exact .inl h2; exact .inr h2⟩, rfl⟩
      obtain ⟨⟨d', oa⟩, nm⟩ := S.owned ow
      exact ⟨oa.nf, fun o e => k _ o e (nst _ nm)⟩
  · obtain ⟨v, z⟩ := S.cell x a e
    exact ⟨v, kc x a e v z⟩
  · intro z
    have := S.mine b (.inr (.inr z))
    rw [e] at this; cases this
  · obtain ⟨o, e⟩ := S.olds b z
    obtain ⟨sl, e'⟩ := any b o e
    exact ⟨_, e'⟩
theorem SR.kept (S : SR X c) {s' : Shared} (k : ∀ b o, c.s.heap.get? b = some o → s'.heap.get? b = some o) (ht : c.s.toks ≤ s'.toks) (ho : s'.os = c.s.os := by rfl) (hg : s'.gens = c.s.gens := by rfl) : SR X { c with s := s' } ∧ Fr X c { c with s := s' } :=
  S.later ho (by rw [hg]; exact S.bare) ht (fun b o e _ => k b o e) fun b o e _ => ⟨o.slots, k b o e⟩

theorem ObjIs.nocell {w : World} {F : FH} {T : Nat} {o : Obj} {d : D} (h : ObjIs w F T o d) (v : Option Value) : o.data ≠ .cell v := by
  cases h with
  | tup _ e => rw [e]; exact fun z => nomatch z
  | lst => exact fun z => nomatch z
  | dic _ e => rw [e]; exact fun z => nomatch z
theorem ObjIs.nofields {w : World} {F : FH} {T : Nat} {o : Obj} {d : D} (h : ObjIs w F T o d) (v : Array Value) : o.data ≠ .fields v := by
  cases h with
  | tup _ e => rw [e]; exact fun z => nomatch z
  | lst => exact fun z => nomatch z
  | dic _ e => rw [e]; exact fun z => nomatch z
theorem SR.ncell (S : SR X c) {a : Addr} {o : Obj} {w : World} {F : FH} {T : Nat} {d : D} (e : c.s.heap.get? a = some o) (h : ObjIs w F T o d) (x : Str) : X.env.cells.lookup x ≠ some a := fun z => by
  obtain ⟨v, o', e', q⟩ := S.cell x a z
  rw [e] at e'; cases e'
  exact h.nocell v q
/-- what nobody holds is put among what never changes any more -/
theorem SR.freezeTmp (S : SR X c) {a : Addr} {o : Obj} {w : World} {F : FH} {T : Nat} {d : D} (e : c.s.heap.get? a = some o) (h : ObjIs w F T o d) (n : ¬ Owns c a) (nm : ¬ Mine X a) (f : c.F a = none) : SR X { c with F := upd c.F a o } := by
  have nc := S.ncell e h
  refine ⟨S.ok, S.os, S.bare, S.bk, S.frm, ?_, S.cell, fun b u h => ?_, fun b z => ?_, S.inj, S.olds, S.tk, S.len, fun x b h => ?_⟩
  · obtain ⟨m, hm, sl⟩ := S.loc
    refine ⟨m, hm, fun i x s h1 h2 => (sl i x s h1 h2).keep (Sub.new f) (Nat.le_refl _) (fun _ _ _ _ z => z) fun ⟨d, q⟩ => ⟨?_, fun _ z => z⟩⟩
    have ow : Owns c (c.α i) := ⟨i, ⟨d, by rcases q with rfl | rfl; exact .inl h2; exact .inr h2⟩, rfl⟩
    have ne : c.α i ≠ a := fun z => n (z ▸ ow)
    rw [upd_ne ne]
    obtain ⟨⟨d', oa⟩, _⟩ := S.owned ow
    exact oa.nf
  · have h : upd c.F a o b = some u := h
    show c.s.heap.get? b = some u
    by_cases hb : b = a
    · subst hb; rw [upd_same] at h; cases h; exact e
    · rw [upd_ne hb] at h; exact S.sub b u h
  · have hb : b ≠ a := by rintro rfl; exact nm z
    show upd c.F a o b = none
    rw [upd_ne hb]; exact S.mine b z
  · obtain ⟨h1, h3⟩ := S.cfree x b h
    refine ⟨?_, h3⟩
    show upd c.F a o b = none
    have : b ≠ a := by rintro rfl; exact nc x h
    rw [upd_ne this]; exact h1
theorem Fr.freezeTmp (f : Fr X c0 c) {a : Addr} {o : Obj} (h0 : c0.s.heap.get? a = none) (fa : c.F a = none) : Fr X c0 { c with F := upd c.F a o } := by
  refine ⟨⟨f.fm.trans (Sub.new fa), f.tk, f.hm, fun b u h n q => ?_, f.fr, f.pr, f.ka⟩, f.al⟩
  obtain ⟨h1, n1, f1⟩ := f.st b u h n q
  refine ⟨h1, n1, fun z => ?_⟩
  have ne : b ≠ a := by rintro rfl; rw [h0] at h; cases h
  show upd c.F a o b = none
  rw [upd_ne ne]
  exact f1 z
/-- a result as data that never changes any more (a text may keep any token) -/
theorem ResOk.froze {r : Res} {v : Value} (f : Fr X c0 c) (S : SR X c) (h : ResOk X c0 c r v) :
    ∃ F', Fr X c0 { c with F := F' } ∧ SR X { c with F := F' } ∧ WRep X.w F' c.s.toks v r.d ∧ ((∀ s, r ≠ .weak s) → Rep X.w F' c.s.toks v r.d) ∧ Sub c.F F' := by
  cases r with
  | val d => exact ⟨c.F, f, S, .inl h, fun _ => h, Sub.refl _⟩
  | weak s => obtain ⟨t, e, z⟩ := h; exact ⟨c.F, f, S, .inr ⟨s, t, e, rfl, z⟩, fun n => absurd rfl (n s), Sub.refl _⟩
  | fresh d =>
    obtain ⟨a, rfl, n, oa, no, nm⟩ := h
    obtain ⟨o, e, r⟩ := oa.ob
    have r' : Rep X.w (upd c.F a o) c.s.toks (.ref a) d := .ref upd_same oa.ns (r.mono (Sub.new oa.nf) (Nat.le_refl _))
    exact ⟨_, f.freezeTmp n oa.nf, S.freezeTmp e r no nm oa.nf, .inl r', fun _ => r', Sub.new oa.nf⟩
theorem FrB.back {a : Addr} (f : FrB X c c1) (h : c1.s.heap.get? a = none) : c.s.heap.get? a = none := by
  cases q : c.s.heap.get? a with
  | none => rfl
  | some o => obtain ⟨o', e⟩ := f.hm a o q; rw [h] at e; cases e
theorem ResOk.wide {r : Res} {v : Value} (h : ResOk X c1 c r v) (f : Fr X c0 c1) : ResOk X c0 c r v := by
  cases r with
  | val d => exact h
  | weak s => exact h
  | fresh d => obtain ⟨a, e, z, r⟩ := h; exact ⟨a, e, f.back z, r⟩
theorem SR.nsys (S : SR X c) : (c.s.heap.objs.size == sysModules) = false := by
  have := (S.ok.mod.glob.keeps S.bk).lt
  have e : mainGlobals = 3 := rfl
  have e1 : sysModules = 1 := rfl
  rw [beq_eq_false_iff_ne]
  intro h
  rw [h, e, e1] at this
  exact absurd this (by decide)
theorem SR.nbase (S : SR X c) {a : Addr} (hn : c.s.heap.get? a = none) : X.base.get? a = none := by
  cases q : X.base.get? a with
  | none => rfl
  | some u => have := S.bk a u q; rw [hn] at this; cases this
/-- a fresh list or dict at a new place -/
theorem SR.fresh (S : SR X c) {s' : Shared} {a : Addr} {o : Obj} {d : D} (k : ∀ b o, c.s.heap.get? b = some o → s'.heap.get? b = some o) (ht : c.s.toks ≤ s'.toks) (hn : c.s.heap.get? a = none) (e : s'.heap.get? a = some o)
    (h : ObjIs X.w c.F s'.toks o d) (hns : (a == sysModules) = false) (mu : d.isMut = true := by rfl) (ho : s'.os = c.s.os := by rfl) (hg : s'.gens = c.s.gens := by rfl) : Fr X c { c with s := s' } ∧ SR X { c with s := s' } ∧ ResOk X c { c with s := s' } (.fresh d) (.ref a) := by
  obtain ⟨S', f⟩ := S.kept k ht ho hg
  exact ⟨f, S', a, rfl, hn, ⟨S.fnone hn, hns, S.nbase hn, mu, o, e, h⟩, S.nown hn, S.nmine hn⟩
/-- .. as data that never changes any more -/
theorem SR.freshV (S : SR X c) {s' : Shared} {a : Addr} {o : Obj} {d : D} (k : ∀ b o, c.s.heap.get? b = some o → s'.heap.get? b = some o) (ht : c.s.toks ≤ s'.toks) (hn : c.s.heap.get? a = none) (e : s'.heap.get? a = some o)
    (h : ObjIs X.w c.F s'.toks o d) (hns : (a == sysModules) = false) (ho : s'.os = c.s.os := by rfl) (hg : s'.gens = c.s.gens := by rfl) : ∃ c', c'.s = s' ∧ c'.ρ = c.ρ ∧ Fr X c c' ∧ SR X c' ∧ ResOk X c c' (.val d) (.ref a) := by
  obtain ⟨S', f⟩ := S.kept k ht ho hg
  exact ⟨{ c with F := upd c.F a o, s := s' }, rfl, rfl, f.freezeTmp hn (S.fnone hn), S'.freezeTmp (c := { c with s := s' }) e h (S.nown hn) (S.nmine hn) (S.fnone hn), Rep.ref upd_same hns (h.mono (Sub.new (S.fnone hn)) (Nat.le_refl _))⟩

/-! ### what is wanted behind an expression -/
/-- an error as it lies behind a def: told by the class's name and what it keeps -/
def ExOk (X : Cx) (c : Cf) (e : Exc) (v : Value) : Prop := False
def KX {β : Type} (X : Cx) (c : Cf) : O β → Prop
  | .ok _ _ => True
  | .ex e ρ' => ∀ v c', c'.ρ = ρ' → FrB X c c' → SR X c' → ExOk X c' e v → X.xe v c'.s
/-- a value behind an expression that was begun at c -/
def PostE (X : Cx) (c : Cf) (o : O Res) (v : Value) (s' : Shared) : Prop := ∃ r c', c'.s = s' ∧ o = .ok r c'.ρ ∧ Fr X c c' ∧ SR X c' ∧ ResOk X c c' r v
def PostT (X : Cx) (c : Cf) (o : O Bool) (b : Bool) (s' : Shared) : Prop := ∃ c', c'.s = s' ∧ o = .ok b c'.ρ ∧ Fr X c c' ∧ SR X c'
def PostA (X : Cx) (c : Cf) (o : O (List D)) (vs : List Value) (s' : Shared) : Prop := ∃ ds c', c'.s = s' ∧ o = .ok ds c'.ρ ∧ Fr X c c' ∧ SR X c' ∧ RepL X.w c'.F c'.s.toks vs ds
structure PD (X : Cx) (e : Expr) (d : DE) : Prop where
  run : ∀ (c : Cf) (o : O Res), SR X c → d c.ρ = some o → KX X c o → wpAny (model X.prog X.w) X.A (eval e X.env) (PostE X c o) X.xe c.s
structure PDT (X : Cx) (e : Expr) (d : DT) : Prop where
  run : ∀ (c : Cf) (o : O Bool), SR X c → d c.ρ = some o → KX X c o → wpAny (model X.prog X.w) X.A (isTrue e X.env (eval e X.env)) (PostT X c o) X.xe c.s
/-- whatever the whole is (and, or) -/
structure PDW (X : Cx) (e : Expr) (d : DT) : Prop where
  run : ∀ (whole : Sem Value) (c : Cf) (o : O Bool), SR X c → d c.ρ = some o → KX X c o → wpAny (model X.prog X.w) X.A (isTrue e X.env whole) (PostT X c o) X.xe c.s
theorem PDW.pt {X : Cx} {e : Expr} {d : DT} (h : PDW X e d) : PDT X e d := ⟨h.run _⟩
theorem FrB.kx {β : Type} {o : O β} (f : FrB X c c1) (k : KX X c o) : KX X c1 o := by
  cases o with
  | ok _ _ => trivial
  | ex e ρ' => exact fun v c' q f' S x => k v c' q (f.trans f') S x
/-- one behind another -/
def obind {α β : Type} (x : Option (O α)) (k : α → Rho → Option (O β)) : Option (O β) := match x with
  | none => none
  | some (.ok a ρ) => k a ρ
  | some (.ex e ρ) => some (.ex e ρ)
theorem obind_some {α β : Type} {x : Option (O α)} {k : α → Rho → Option (O β)} {o : O β} (h : obind x k = some o) :
    (∃ a ρ, x = some (.ok a ρ) ∧ k a ρ = some o) ∨ ∃ e ρ, x = some (.ex e ρ) ∧ o = .ex e ρ := by
  cases x with
  | none => cases h
  | some z =>
    cases z with
    | ok a ρ => exact .inl ⟨a, ρ, rfl, h⟩
    | ex e ρ => exact .inr ⟨e, ρ, rfl, (Option.some.inj h).symm⟩
@[simp] theorem obind_ok {α β : Type} (a : α) (ρ : Rho) (k : α → Rho → Option (O β)) : obind (some (.ok a ρ)) k = k a ρ := Eq.trans rfl rfl
@[simp] theorem obind_ex {α β : Type} (e : Exc) (ρ : Rho) (k : α → Rho → Option (O β)) : obind (some (.ex e ρ)) k = some (.ex e ρ) := Eq.trans rfl rfl
@[simp] theorem obind_no {α β : Type} (k : α → Rho → Option (O β)) : obind none k = none := Eq.trans rfl rfl

/-- an expression, then what follows: d is its plain function, k the rest's; the value is put among what never changes any more -/
theorem PD.go {e : Expr} {d : DE} {β : Type} {k : Res → Rho → Option (O β)} {o : O β} {Q : Value → Shared → Prop} (h : PD X e d) (S : SR X c) (hd : obind (d c.ρ) k = some o) (kx : KX X c o)
    (hq : ∀ r c1 v, Fr X c c1 → SR X c1 → ResOk X c c1 r v → k r c1.ρ = some o → Q v c1.s) : wpAny (model X.prog X.w) X.A (eval e X.env) Q X.xe c.s := by
  rcases obind_some hd with ⟨r, ρ1, e1, hd1⟩ | ⟨x, ρ1, e1, rfl⟩
  · refine thn (h.run c _ S e1 trivial) fun v s1 ⟨r', c1, q, eo, f, S1, ro⟩ => ?_
    cases eo
    subst q
    exact hq _ c1 v f S1 ro hd1
  · refine thn (h.run c _ S e1 kx) fun v s1 ⟨r', c1, q, eo, f, S1, ro⟩ => ?_
    cases eo
theorem PDT.go {e : Expr} {d : DT} {β : Type} {k : Bool → Rho → Option (O β)} {o : O β} {Q : Bool → Shared → Prop} (h : PDT X e d) (S : SR X c) (hd : obind (d c.ρ) k = some o) (kx : KX X c o)
    (hq : ∀ b c1, Fr X c c1 → SR X c1 → k b c1.ρ = some o → Q b c1.s) : wpAny (model X.prog X.w) X.A (isTrue e X.env (eval e X.env)) Q X.xe c.s := by
  rcases obind_some hd with ⟨r, ρ1, e1, hd1⟩ | ⟨x, ρ1, e1, rfl⟩
  · refine thn (h.run c _ S e1 trivial) fun v s1 ⟨c1, q, eo, f, S1⟩ => ?_
    cases eo
    subst q
    exact hq _ c1 f S1 hd1
  · refine thn (h.run c _ S e1 kx) fun v s1 ⟨c1, q, eo, f, S1⟩ => ?_
    cases eo
theorem Rep.view {v : Value} {d : D} (h : Rep X.w c.F c.s.toks v d) : View X.w c v d := .inl (.inl h)
theorem WRep.view {v : Value} {d : D} (h : WRep X.w c.F c.s.toks v d) : View X.w c v d := .inl h
theorem View.obj {a : Addr} {d : D} (S : SR X c) (h : View X.w c (.ref a) d) : (a == sysModules) = false ∧ ∃ o, c.s.heap.get? a = some o ∧ ObjIs X.w c.F c.s.toks o d := by
  rcases h with (h | ⟨_, _, e, _⟩) | ⟨a', o, e, n, q, r, _⟩
  · cases h with
    | ref q n r => exact ⟨n, _, S.sub _ _ q, r⟩
  · cases e
  · cases e; exact ⟨n, o, q, r⟩
theorem View.keep {v : Value} {d : D} (f : Fr X c c1) (h : WRep X.w c.F c.s.toks v d) : View X.w c1 v d := .inl (h.elim (fun r => .inl (r.mono f.fm f.tk)) .inr)
/-- ends -/
theorem PostE.val {d : D} {v : Value} (S : SR X c) (r : Rep X.w c.F c.s.toks v d) : PostE X c (.ok (.val d) c.ρ) v c.s := ⟨_, c, rfl, rfl, Fr.refl, S, r⟩
theorem PostE.from {o : O Res} {v : Value} {s' : Shared} (f : Fr X c c1) (h : PostE X c1 o v s') : PostE X c o v s' := by
  obtain ⟨r, c', q, e, f', S, ro⟩ := h
  exact ⟨r, c', q, e, f.trans f', S, ro.wide f⟩
theorem PostT.from {o : O Bool} {v : Bool} {s' : Shared} (f : Fr X c c1) (h : PostT X c1 o v s') : PostT X c o v s' := by
  obtain ⟨c', q, e, f', S⟩ := h
  exact ⟨c', q, e, f.trans f', S⟩
/-- a value that hangs on no heap, more tokens given out -/
theorem PostE.tok {d : D} {v : Value} {t : Nat} (S : SR X c) (h : c.s.toks ≤ t) (r : Rep X.w c.F t v d) : PostE X c (.ok (.val d) c.ρ) v { c.s with toks := t } := by
  obtain ⟨S', f⟩ := S.kept (s' := { c.s with toks := t }) (fun _ _ e => e) h
  exact ⟨_, { c with s := { c.s with toks := t } }, rfl, rfl, f, S', r⟩
end
end GB
/-! Expressions: names, constants, arithmetic, comparisons, tests. -/
namespace GB
open PySem PySem.Spec PyProof.Rows
open L2 (Key keyH keyIs mixKind Mod Look Vis Loc frs thn)
mutual
/-- as the library's own data -/
def D.py : D → PyData
  | .non => .none
  | .bl b => .bool b
  | .int i => .int i
  | .str s => .str (tx s)
  | .tup xs => .tuple (D.pys xs)
  | .lst xs => .list (D.pys xs)
  | .dic kvs => .dict (D.pyk kvs)
def D.pys : List D → List PyData
  | [] => []
  | x :: xs => D.py x :: D.pys xs
def D.pyk : List (D × D) → List (PyData × PyData)
  | [] => []
  | (k, v) :: r => (D.py k, D.py v) :: D.pyk r
end
theorem D.pys_map : ∀ xs : List D, D.pys xs = xs.map D.py
  | [] => rfl
  | x :: xs => by rw [D.pys, D.pys_map xs]; rfl
mutual
/-- no dict in it -/
def D.flat : D → Bool
  | .tup xs => D.flats xs
  | .lst xs => D.flats xs
  | .dic _ => false
  | _ => true
def D.flats : List D → Bool
  | [] => true
  | x :: xs => D.flat x && D.flats xs
end
mutual
def D.deep : D → Nat
  | .tup xs => D.deeps xs + 1
  | .lst xs => D.deeps xs + 1
  | _ => 0
def D.deeps : List D → Nat
  | [] => 0
  | x :: xs => max (D.deep x) (D.deeps xs)
end
mutual
theorem D.lay : ∀ d : D, d.flat = true → d.py.plain = true ∧ d.py.depth = d.deep
  | .non, _ => by simp [D.py, PyData.plain, PyData.depth, D.deep]
  | .bl _, _ => by simp [D.py, PyData.plain, PyData.depth, D.deep]
  | .int _, _ => by simp [D.py, PyData.plain, PyData.depth, D.deep]
  | .str s, _ => by simp [D.py, PyData.plain, PyData.depth, D.deep]
  | .tup xs, h => by
    obtain ⟨h1, h2⟩ := D.lays xs (by simpa [D.flat] using h)
    simp [D.py, PyData.plain, PyData.depth, D.deep, h1, h2]
  | .lst xs, h => by
    obtain ⟨h1, h2⟩ := D.lays xs (by simpa [D.flat] using h)
    simp [D.py, PyData.plain, PyData.depth, D.deep, h1, h2]
  | .dic _, h => by simp [D.flat] at h
theorem D.lays : ∀ xs : List D, D.flats xs = true → PyData.plainAll (D.pys xs) = true ∧ PyData.depthAll (D.pys xs) = D.deeps xs
  | [], _ => by simp [D.pys, PyData.plainAll, PyData.depthAll, D.deeps]
  | x :: xs, h => by
    have h' : x.flat = true ∧ D.flats xs = true := by simpa [D.flats] using h
    obtain ⟨h1, h2⟩ := D.lay x h'.1
    obtain ⟨h3, h4⟩ := D.lays xs h'.2
    simp [D.pys, PyData.plainAll, PyData.depthAll, D.deeps, h1, h2, h3, h4]
end
/-- data that == may look at -/
def D.okEq (d : D) : Bool := d.flat && decide (d.deep ≤ 64)
theorem D.okEq_iff {d : D} : d.okEq = true ↔ d.flat = true ∧ d.deep ≤ 64 := by simp [D.okEq]

section
variable {w : World} {F : FH} {T : Nat} {h : Heap}
theorem keyD_py (k : Key) : (keyD k).py = match k with | .inl i => .int i | .inr x => .str x := by
  cases k with
  | inl i => simp [keyD, D.py]
  | inr x => simp [keyD, D.py, tx_of]
mutual
theorem Rep.reads (s : ∀ b o, F b = some o → h.get? b = some o) : ∀ {v : Value} {d : D}, Rep w F T v d → ∃ as, Reads h v d.py as
  | _, _, .non => ⟨_, by simp only [D.py]; exact .none⟩
  | _, _, .bl b => ⟨_, by simp only [D.py]; exact .bool b⟩
  | _, _, .int i t => ⟨_, by simp only [D.py]; exact .int i t⟩
  | _, _, .str x t _ _ _ => ⟨_, by simp only [D.py]; exact .str _ t⟩
  | _, _, .ref q _ r => ObjIs.reads s (s _ _ q) r
theorem ObjIs.reads (s : ∀ b o, F b = some o → h.get? b = some o) : ∀ {a : Addr} {o : Obj} {d : D}, h.get? a = some o → ObjIs w F T o d → ∃ as, Reads h (.ref a) d.py as
  | _, _, _, q, .tup c e z r => by
    obtain ⟨as, ra⟩ := RepL.reads s r
    exact ⟨_, by simp only [D.py]; exact .tuple q c.1 e ra⟩
  | _, _, _, q, .lst z r => by
    obtain ⟨as, ra⟩ := RepL.reads s r
    exact ⟨_, by simp only [D.py]; exact .list q rfl rfl ra⟩
  | _, _, _, q, .dic c e z r n ee => by
    obtain ⟨as, bs, ra, rb⟩ := RepK.reads s r
    subst ee
    exact ⟨_, by simp only [D.py]; exact .dict q c.1 e ra rb⟩
theorem RepL.reads (s : ∀ b o, F b = some o → h.get? b = some o) : ∀ {vs : List Value} {ds : List D}, RepL w F T vs ds → ∃ as, ReadsAll h vs (D.pys ds) as
  | _, _, .nil => ⟨_, by simp only [D.pys]; exact .nil⟩
  | _, _, .cons a r => by
    obtain ⟨as, ra⟩ := Rep.reads s a
    obtain ⟨bs, rb⟩ := RepL.reads s r
    exact ⟨_, by simp only [D.pys]; exact .cons ra rb⟩
theorem RepK.reads (s : ∀ b o, F b = some o → h.get? b = some o) : ∀ {es : List DictEntry} {ks : List (Key × D)}, RepK w F T es ks →
    ∃ as bs, ReadsAll h (es.map (·.key)) ((D.pyk (ks.map fun p => (keyD p.1, p.2))).map (·.1)) as ∧ ReadsAll h (es.map (·.val)) ((D.pyk (ks.map fun p => (keyD p.1, p.2))).map (·.2)) bs
  | _, _, .nil => ⟨_, _, by simp only [List.map_nil, D.pyk]; exact .nil, by simp only [List.map_nil, D.pyk]; exact .nil⟩
  | _, _, .cons _ k a r => by
    obtain ⟨as, ra⟩ := Rep.reads s k
    obtain ⟨bs, rb⟩ := Rep.reads s a
    obtain ⟨cs, ds, rc, rd⟩ := RepK.reads s r
    exact ⟨_, _, by simp only [List.map_cons, D.pyk]; exact .cons ra rc, by simp only [List.map_cons, D.pyk]; exact .cons rb rd⟩
end
theorem WRep.reads (s : ∀ b o, F b = some o → h.get? b = some o) {v : Value} {d : D} (r : WRep w F T v d) : ∃ as, Reads h v d.py as := by
  rcases r with r | ⟨x, t, rfl, rfl, _⟩
  · exact r.reads s
  · exact ⟨_, by simp only [D.py]; exact .str _ t⟩
theorem WRep.int_inv {v : Value} {i : Int} (r : WRep w F T v (.int i)) : ∃ t, v = .int i t := by
  rcases r with r | ⟨_, _, _, e, _⟩
  · cases r with
    | int _ t => exact ⟨t, rfl⟩
    | ref _ _ r => cases r
  · cases e
theorem WRep.bl_inv {v : Value} {b : Bool} (r : WRep w F T v (.bl b)) : v = .bool b := by
  rcases r with r | ⟨_, _, _, e, _⟩
  · cases r with
    | bl _ => rfl
    | ref _ _ r => cases r
  · cases e
theorem WRep.non_inv {v : Value} (r : WRep w F T v .non) : v = .none := by
  rcases r with r | ⟨_, _, _, e, _⟩
  · cases r with
    | non => rfl
    | ref _ _ r => cases r
  · cases e
theorem WRep.str_inv {v : Value} {s : List Nat} (r : WRep w F T v (.str s)) : ∃ t, v = .str (tx s) t ∧ s.length ≤ sizeLine := by
  rcases r with r | ⟨_, t, e, e', z⟩
  · cases r with
    | str _ t _ _ z => exact ⟨t, rfl, z⟩
    | ref _ _ r => cases r
  · cases e'; exact ⟨t, e, z⟩
theorem Rep.str_inv {v : Value} {s : List Nat} (r : Rep w F T v (.str s)) : ∃ t, v = .str (tx s) t ∧ t ≠ 0 ∧ t < T ∧ s.length ≤ sizeLine := by
  cases r with
  | str _ t a b c => exact ⟨t, rfl, a, b, c⟩
  | ref _ _ r => cases r
theorem WRep.tup_inv {v : Value} {ds : List D} (r : WRep w F T v (.tup ds)) : ∃ a o vs n, v = .ref a ∧ F a = some o ∧ o.cls = .type "tuple" ∧ o.data = .seq vs n ∧ vs.size ≤ sizeLine ∧ RepL w F T vs.toList ds ∧ Rep w F T v (.tup ds) := by
  rcases r with r | ⟨_, _, _, e, _⟩
  · cases id r with
    | ref q _ k => cases k with
      | tup a b c d => exact ⟨_, _, _, _, rfl, q, a.1, b, c, d, r⟩
  · cases e
theorem WRep.lst_inv {v : Value} {ds : List D} (r : WRep w F T v (.lst ds)) : ∃ a vs n, v = .ref a ∧ F a = some { cls := .type "list", data := .seq vs n } ∧ vs.size ≤ sizeLine ∧ RepL w F T vs.toList ds ∧ Rep w F T v (.lst ds) := by
  rcases r with r | ⟨_, _, _, e, _⟩
  · cases id r with
    | ref q _ k => cases k with
      | lst c d => exact ⟨_, _, _, rfl, q, c, d, r⟩
  · cases e
theorem WRep.rep {v : Value} {d : D} (r : WRep w F T v d) (n : ∀ s, d ≠ .str s) : Rep w F T v d := by
  rcases r with r | ⟨_, _, _, e, _⟩
  · exact r
  · exact absurd e (n _)
theorem View.reads {c : Cf} (s : ∀ b o, c.F b = some o → c.s.heap.get? b = some o) {v : Value} {d : D} (r : View w c v d) : ∃ as, Reads c.s.heap v d.py as := by
  rcases r with r | ⟨a, o, rfl, _, q, r, _⟩
  · exact r.reads s
  · exact r.reads s q
theorem View.int_inv {c : Cf} {v : Value} {i : Int} (r : View w c v (.int i)) : ∃ t, v = .int i t := by
  rcases r with r | ⟨a, o, rfl, _, q, r, _⟩
  · exact r.int_inv
  · cases r
theorem View.bl_inv {c : Cf} {v : Value} {b : Bool} (r : View w c v (.bl b)) : v = .bool b := by
  rcases r with r | ⟨a, o, rfl, _, q, r, _⟩
  · exact r.bl_inv
  · cases r
theorem View.non_inv {c : Cf} {v : Value} (r : View w c v .non) : v = .none := by
  rcases r with r | ⟨a, o, rfl, _, q, r, _⟩
  · exact r.non_inv
  · cases r
theorem View.str_inv {c : Cf} {v : Value} {s : List Nat} (r : View w c v (.str s)) : ∃ t, v = .str (tx s) t ∧ s.length ≤ sizeLine := by
  rcases r with r | ⟨a, o, rfl, _, q, r, _⟩
  · exact r.str_inv
  · cases r
theorem View.lst_inv {c : Cf} (s : ∀ b o, c.F b = some o → c.s.heap.get? b = some o) {v : Value} {ds : List D} (r : View w c v (.lst ds)) : ∃ a vs n, v = .ref a ∧ c.s.heap.get? a = some { cls := .type "list", data := .seq vs n } ∧ vs.size ≤ sizeLine ∧ RepL w c.F c.s.toks vs.toList ds := by
  rcases r with r | ⟨a, o, rfl, _, q, r, _⟩
  · obtain ⟨a, vs, n, e, q, z, l, _⟩ := r.lst_inv
    exact ⟨a, vs, n, e, s _ _ q, z, l⟩
  · cases r with
    | lst z l => exact ⟨a, _, _, rfl, q, z, l⟩
theorem View.tup_inv {c : Cf} (s : ∀ b o, c.F b = some o → c.s.heap.get? b = some o) {v : Value} {ds : List D} (r : View w c v (.tup ds)) : ∃ a o vs n, v = .ref a ∧ c.s.heap.get? a = some o ∧ o.cls = .type "tuple" ∧ o.data = .seq vs n ∧ vs.size ≤ sizeLine ∧ RepL w c.F c.s.toks vs.toList ds := by
  rcases r with r | ⟨a, o, rfl, _, q, r, _⟩
  · obtain ⟨a, o, vs, n, e, q, h1, h2, z, l, _⟩ := r.tup_inv
    exact ⟨a, o, vs, n, e, s _ _ q, h1, h2, z, l⟩
  · cases r with
    | tup h1 h2 z l => exact ⟨a, o, _, _, rfl, q, h1.1, h2, z, l⟩
/-- its type's name; it has no dict of its own -/
def tyOf : D → String
  | .str _ => "str"
  | .lst _ => "list"
  | .tup _ => "tuple"
  | .dic _ => "dict"
  | .int _ => "int"
  | .bl _ => "bool"
  | .non => "NoneType"
theorem ObjIs.isT {T : Nat} {o : Obj} {d : D} (h : ObjIs w F T o d) : o.cls = .type (tyOf d) ∧ o.dict = none := by
  cases h with
  | tup a => exact a
  | lst => exact ⟨rfl, rfl⟩
  | dic a => exact ⟨a.1, a.2.1⟩
theorem View.isT {c : Cf} (s : ∀ b o, c.F b = some o → c.s.heap.get? b = some o) {v : Value} {d : D} (r : View w c v d) (hd : tyOf d = "str" ∨ tyOf d = "list" ∨ tyOf d = "tuple" ∨ tyOf d = "dict") : c.s.TypeIs v (tyOf d) ∧ ∀ b, v = .ref b → ∃ ob, c.s.heap.get? b = some ob ∧ ob.dict = none := by
  have obj : ∀ {a : Addr} {o : Obj}, c.s.heap.get? a = some o → ObjIs w c.F c.s.toks o d → c.s.TypeIs (.ref a) (tyOf d) ∧ ∀ b, Value.ref a = .ref b → ∃ ob, c.s.heap.get? b = some ob ∧ ob.dict = none := fun {a o} q r =>
    ⟨⟨o, q, r.isT.1⟩, fun b e => by cases e; exact ⟨o, q, r.isT.2⟩⟩
  rcases r with (r | ⟨x, t, rfl, rfl, _⟩) | ⟨a, o, rfl, _, q, r, _⟩
  · cases r with
    | ref q _ r => exact obj (s _ _ q) r
    | str x t => exact ⟨typeIs_str _ _ _, fun b e => nomatch e⟩
    | _ => rcases hd with h | h | h | h <;> simp [tyOf] at h
  · exact ⟨typeIs_str _ _ _, fun b e => nomatch e⟩
  · exact obj q r
theorem View.dic_inv {c : Cf} (s : ∀ b o, c.F b = some o → c.s.heap.get? b = some o) {v : Value} {ds : List (D × D)} (r : View w c v (.dic ds)) : ∃ a o es ep ks, v = .ref a ∧ (a == sysModules) = false ∧ c.s.heap.get? a = some o ∧ o.ExactDict ∧ o.data = .dict es ep ∧ es.size ≤ sizeLine ∧ RepK w c.F c.s.toks es.toList ks ∧
    (ks.map (·.1)).Nodup ∧ ds = ks.map (fun p => (keyD p.1, p.2)) := by
  rcases r with (r | ⟨_, _, _, e, _⟩) | ⟨a, o, rfl, n, q, r, _⟩
  · cases r with
    | ref q n r => cases r with
      | dic h1 h2 z l k1 k2 => exact ⟨_, _, _, _, _, rfl, n, s _ _ q, h1, h2, z, l, k1, k2⟩
  · cases e
  · cases r with
    | dic h1 h2 z l k1 k2 => exact ⟨_, _, _, _, _, rfl, n, q, h1, h2, z, l, k1, k2⟩
theorem WRep.mono {F' : FH} {T' : Nat} (s : Sub F F') (t : T ≤ T') {v : Value} {d : D} (r : WRep w F T v d) : WRep w F' T' v d := r.elim (fun r => .inl (r.mono s t)) .inr
end

section
variable {X : Cx} {c c0 c1 : Cf} {a b e : Expr} {da db dc : DE} {pos : Pos}
/-! ### names, constants -/
def dVar (i : Nat) : DE := fun ρ => match ρ[i]? with
  | some (.val d) => some (.ok (.val d) ρ)
  | some (.own d) => some (.ok (.val d) (ρ.set i (.val d)))
  | _ => none
def dC (d : D) : DE := fun ρ => some (.ok (.val d) ρ)
/-- the name's own list or dict, put among what never changes any more -/
theorem SR.freezeVar (S : SR X c) {i : Nat} {d : D} (h : c.ρ[i]? = some (.own d)) :
    ∃ F', Fr X c { c with F := F', ρ := c.ρ.set i (.val d) } ∧ SR X { c with F := F', ρ := c.ρ.set i (.val d) } ∧ Rep X.w F' c.s.toks (.ref (c.α i)) d := by
  have hi : i < c.ρ.length := (List.getElem?_eq_some_iff.mp h).1
  have ow : Owns c (c.α i) := ⟨i, ⟨d, .inl h⟩, rfl⟩
  obtain ⟨_, nm⟩ := S.owned ow
  have hx : X.N[i]? = some (X.N[i]'(by rw [← S.len]; exact hi)) := by simp
  obtain ⟨m, hm, sl⟩ := S.loc
  have si := sl i _ _ hx h
  obtain ⟨lk, oa, _, _⟩ := si
  obtain ⟨o, e, r⟩ := oa.ob
  have lkup : ∀ (j : Nat), (c.ρ.set i (Slot.val d))[j]? = if i = j then some (.val d) else c.ρ[j]? := fun j => by
    rw [List.getElem?_set]
    by_cases z : i = j
    · subst z; simp [hi]
    · simp [z]
  have other : ∀ (j : Nat), isOwn (c.ρ.set i (.val d)) j → j ≠ i ∧ isOwn c.ρ j := fun j ⟨x, q⟩ => by
    rw [lkup] at q
    by_cases z : i = j
    · rw [if_pos z] at q
      rcases q with q | q <;> cases q
    · rw [if_neg z] at q
      exact ⟨fun w => z w.symm, ⟨x, q⟩⟩
  have rr : Rep X.w (upd c.F (c.α i) o) c.s.toks (.ref (c.α i)) d := .ref upd_same oa.ns (r.mono (Sub.new oa.nf) (Nat.le_refl _))
  refine ⟨upd c.F (c.α i) o, ⟨⟨Sub.new oa.nf, Nat.le_refl _, fun _ o h => ⟨o, h⟩, fun b u q n nm' => ⟨q, fun ⟨j, jo, jb⟩ => ?_, fun z => ?_⟩, fun _ o _ _ h => ⟨o.slots, h⟩, fun j x q => ?_, fun j _ => ⟨rfl, fun w => (other j w).2⟩⟩, rfl⟩,
    ⟨S.ok, S.os, S.bare, S.bk, S.frm, ⟨m, hm, fun j x s h1 h2 => ?_⟩, S.cell, fun b u q => ?_, fun b z => ?_, fun j k q1 q2 q3 => ?_, S.olds, S.tk, by rw [List.length_set]; exact S.len, fun x b q => ?_⟩, rr⟩
  · exact n ⟨j, (other j jo).2, jb⟩
  · have : b ≠ c.α i := by rintro rfl; exact n ow
    show upd c.F (c.α i) o b = none
    rw [upd_ne this]; exact z
  · have q : (c.ρ.set i (.val d))[j]? = some (.par x) := q
    rw [lkup] at q
    by_cases z : i = j
    · rw [if_pos z] at q; cases q
    · rw [if_neg z] at q; exact ⟨⟨x, q⟩, rfl⟩
  · have h2 : (c.ρ.set i (.val d))[j]? = some s := h2
    rw [lkup] at h2
    by_cases z : i = j
    · subst z
      rw [if_pos rfl] at h2; cases h2
      rw [hx] at h1; cases h1
      exact ⟨_, lk, rr⟩
    · rw [if_neg z] at h2
      refine (sl j x s h1 h2).keep (Sub.new oa.nf) (Nat.le_refl _) (fun _ _ _ _ z => z) fun ⟨y, hy⟩ => ⟨?_, fun _ z => z⟩
      have jo : isOwn c.ρ j := ⟨y, by rcases hy with rfl | rfl; exact .inl h2; exact .inr h2⟩
      have ne : c.α j ≠ c.α i := fun w => z (S.inj j i jo ⟨d, .inl h⟩ w).symm
      rw [upd_ne ne]
      obtain ⟨⟨y', oy⟩, _⟩ := S.owned ⟨j, jo, rfl⟩
      exact oy.nf
  · have q : upd c.F (c.α i) o b = some u := q
    by_cases hb : b = c.α i
    · subst hb; rw [upd_same] at q; cases q; exact e
    · rw [upd_ne hb] at q; exact S.sub b u q
  · have : b ≠ c.α i := by rintro rfl; exact nm z
    show upd c.F (c.α i) o b = none
    rw [upd_ne this]; exact S.mine b z
  · exact S.inj j k (other j q1).2 (other k q2).2 q3
  · obtain ⟨q1, q2⟩ := S.cfree x b q
    refine ⟨?_, q2⟩
    have : b ≠ c.α i := by rintro rfl; exact S.ncell e r x q
    show upd c.F (c.α i) o b = none
    rw [upd_ne this]; exact q1
/-- a name is loaded -/
theorem SR.name (S : SR X c) {x : Str} {m : Str → Option Value} {u : Value} (hm : c.s.heap.Ns X.env.locals m) (l : Look X.env c.s.heap m x u) {Q : Value → Shared → Prop} {E : Value → Shared → Prop} (q : Q u c.s)
    (hd : (x == ("__debug__" : Str)) = false) (hcd : (x == ("__classdict__" : Str)) = false) : wpAny (model X.prog X.w) X.A (eval (.Name x pos) X.env) Q E c.s := by
  rcases l with ⟨hk, e⟩ | ⟨hk, a, hc, hcell⟩
  · exact wpAny_Name (wpAny_loadName_local S.ok.kind hk hm e q) hd
  · rcases hk with hk | hk
    · exact wpAny_Name (wpAny_loadName_cell S.ok.kind hk hc hcell q) hd
    · exact wpAny_Name (wpAny_loadName_free S.ok.kind hk hc hcell q hcd) hd
theorem pd_var (i : Nat) {x : Str} (hN : X.N[i]? = some x := by rfl) (hd : (x == ("__debug__" : Str)) = false := by decide) (hcd : (x == ("__classdict__" : Str)) = false := by decide) : PD X (.Name x pos) (dVar i) := by
  refine ⟨fun c o S hdv _ => ?_⟩
  obtain ⟨m, hm, sl⟩ := S.loc
  unfold dVar at hdv
  cases h : c.ρ[i]? with
  | none => rw [h] at hdv; cases hdv
  | some s =>
    rw [h] at hdv
    cases s with
    | un => cases hdv
    | par d => cases hdv
    | val d =>
      cases hdv
      obtain ⟨u, l, r⟩ := sl i x _ hN h
      exact S.name hm l (PostE.val S r) hd hcd
    | own d =>
      cases hdv
      obtain ⟨l, oa, _⟩ := sl i x _ hN h
      obtain ⟨F', f, S', r⟩ := S.freezeVar h
      exact S.name hm l ⟨.val d, { c with F := F', ρ := c.ρ.set i (.val d) }, rfl, rfl, f, S', r⟩ hd hcd
theorem pd_int {i j} : PD X (.Constant (.int i) j pos) (dC (.int i)) := ⟨fun c o S h _ => by
  cases h; exact wpAny_Constant_int (PostE.tok S (Nat.le_succ _) (.int i _))⟩
theorem pd_bl {b j} : PD X (.Constant (.bool b) j pos) (dC (.bl b)) := ⟨fun c o S h _ => by
  cases h; exact Constant_bool (PostE.val S (.bl b))⟩
theorem pd_non {j} : PD X (.Constant .none j pos) (dC .non) := ⟨fun c o S h _ => by
  cases h; exact Constant_none (PostE.val S .non)⟩
theorem pd_str {x : Str} {j} (s : List Nat) (h : x = tx s := by decide +kernel) (hl : s.length ≤ 1000000 := by decide) (htz : 0 < X.tz := by exact Nat.zero_lt_one) : PD X (.Constant (.str x) j pos) (dC (.str s)) := ⟨fun c o S hd _ => by
  cases hd; subst h
  exact Calls.Constant_str (PostE.tok S (Nat.le_succ _) (.str s _ (Nat.ne_of_gt (S.tkp htz)) (Nat.lt_succ_self _) (Nat.le_trans hl (by decide))))⟩
/-- a global name of the def -/
def Gl (X : Cx) (x : Str) : Prop := X.env.kindOf x = some .globalImplicit
theorem SR.glob (S : SR X c) {E : Value → Shared → Prop} {x : Str} {u : Value} {Q : Value → Shared → Prop} (hg : Gl X x) (hm : X.mg x = some u) (h : Q u c.s)
    (hd : (x == ("__debug__" : Str)) = false := by decide) : wpAny (model X.prog X.w) X.A (eval (.Name x pos) X.env) Q E c.s :=
  Calls.Name_function_global S.ok.kind hg (Calls.loadGlobal_global (by rw [S.ok.glob]; exact S.ok.mod.glob.keeps S.bk) hm h) hd
theorem SR.bltn (S : SR X c) {E : Value → Shared → Prop} {x : Str} {u : Value} {Q : Value → Shared → Prop} (hg : Gl X x) (hm : X.mg x = none) (hv : bootBuiltins x = some u) (h : Q u c.s)
    (hn : x ≠ "__name__" := by decide) (hd : (x == ("__debug__" : Str)) = false := by decide) : wpAny (model X.prog X.w) X.A (eval (.Name x pos) X.env) Q E c.s := by
  obtain ⟨mb, h1, h2⟩ := S.ok.mod.blt
  exact Calls.Name_function_global S.ok.kind hg (Calls.loadGlobal_builtin (by rw [S.ok.glob]; exact S.ok.mod.glob.keeps S.bk) hm (by rw [S.ok.blt]; exact h1.keeps S.bk) ((h2 x hn).trans hv) h) hd
def dW (s : List Nat) : DE := fun ρ => some (.ok (.weak s) ρ)
theorem pd_gstr {x : Str} {z : Str} (s : List Nat) (hm : ∃ t, X.mg x = some (.str z t)) (h : z = tx s := by decide +kernel) (hl : s.length ≤ 1000000 := by decide) (hg : Gl X x := by rfl) (hd : (x == ("__debug__" : Str)) = false := by decide) : PD X (.Name x pos) (dW s) := ⟨fun c o S hdv _ => by
  obtain ⟨t, hm⟩ := hm
  subst h
  cases hdv
  exact S.glob hg hm ⟨.weak s, c, rfl, rfl, Fr.refl, S, t, rfl, Nat.le_trans hl (by decide)⟩ hd⟩
theorem pd_gint {x : Str} {i : Int} (hm : ∃ t, X.mg x = some (.int i t)) (hg : Gl X x := by rfl) (hd : (x == ("__debug__" : Str)) = false := by decide) : PD X (.Name x pos) (dC (.int i)) := ⟨fun c o S hdv _ => by
  obtain ⟨t, hm⟩ := hm
  cases hdv
  exact S.glob hg hm (PostE.val S (.int i t)) hd⟩

/-! ### two operands -/
def dBin (f : D → D → Option Res) (a b : DE) : DE := fun ρ => obind (a ρ) fun x ρ1 => obind (b ρ1) fun y ρ2 => match f x.d y.d with
  | some z => some (.ok z ρ2)
  | none => none
/-- the operation f does what g tells -/
def OpD (X : Cx) (f : Value → Value → Sem Value) (g : D → D → Option Res) : Prop := ∀ (c : Cf) (x y : Value) (d e : D) (r : Res), SR X c → View X.w c x d → View X.w c y e → g d e = some r →
  wpAny (model X.prog X.w) X.A (f x y) (PostE X c (.ok r c.ρ)) X.xe c.s
/-- two expressions in a row -/
theorem two {β : Type} {k : Res → Res → Rho → Option (O β)} {o : O β} {Q : Value → Value → Shared → Prop} (ha : PD X a da) (hb : PD X b db) (S : SR X c) (hd : obind (da c.ρ) (fun x ρ1 => obind (db ρ1) fun y ρ2 => k x y ρ2) = some o) (kx : KX X c o)
    (hq : ∀ x y c1 u v, Fr X c c1 → SR X c1 → View X.w c1 u x.d → View X.w c1 v y.d → k x y c1.ρ = some o → Q u v c1.s) :
    wpAny (model X.prog X.w) X.A (eval a X.env) (fun u s1 => wpAny (model X.prog X.w) X.A (eval b X.env) (fun v s2 => Q u v s2) X.xe s1) X.xe c.s := by
  refine ha.go S hd kx fun x c1 u f1 S1 r1 hd1 => ?_
  obtain ⟨F1, f1', S1', w1, _, _⟩ := r1.froze f1 S1
  refine hb.go (c := { c1 with F := F1 }) S1' hd1 (f1'.toFrB.kx kx) fun y c2 v f2 S2 r2 hd2 => ?_
  obtain ⟨F2, f2', S2', w2, _, _⟩ := r2.froze f2 S2
  exact hq x y { c2 with F := F2 } u v (f1'.trans f2') S2' (w1.mono f2'.fm f2'.tk).view w2.view hd2
theorem pd_bin {op : Operator} {f : D → D → Option Res} (ho : OpD X (binaryOp op) f) (ha : PD X a da) (hb : PD X b db) : PD X (.BinOp a op b pos) (dBin f da db) := by
  refine ⟨fun c o S hd kx => ?_⟩
  refine wpAny_BinOp (two (k := fun x y ρ2 => match f x.d y.d with | some z => some (.ok z ρ2) | none => none) (Q := fun u v s2 => wpAny (model X.prog X.w) X.A (binaryOp op u v) (PostE X c o) X.xe s2) ha hb S hd kx fun x y c1 u v f1 S1 r1 r2 hk => ?_)
  cases hz : f x.d y.d with
  | none => rw [hz] at hk; cases hk
  | some z =>
    rw [hz] at hk; cases hk
    exact thn (ho c1 u v _ _ z S1 r1 r2 hz) fun _ _ q => PostE.from f1 q

/-! ### arithmetic -/
def fInt (C : Int → Int → Bool) (g : Int → Int → Int) : D → D → Option Res
  | .int i, .int j => if C i j = true then some (.val (.int (g i j))) else none
  | _, _ => none
theorem op_intC {f : Value → Value → Sem Value} {C : Int → Int → Bool} {g : Int → Int → Int}
    (rule : ∀ (i j : Int) (t u : Tok) (s : Shared) (Q : Value → Shared → Prop) (E : Value → Shared → Prop), C i j = true → Q (.int (g i j) s.toks) { s with toks := s.toks + 1 } → wpAny (model X.prog X.w) X.A (f (.int i t) (.int j u)) Q E s) : OpD X f (fInt C g) := by
  intro c x y d e r S r1 r2 h
  cases d with
  | int i => cases e with
    | int j =>
      obtain ⟨t, rfl⟩ := r1.int_inv
      obtain ⟨u, rfl⟩ := r2.int_inv
      have h : (if C i j = true then some (Res.val (.int (g i j))) else none) = some r := h
      by_cases q : C i j = true
      · rw [if_pos q] at h; cases h
        exact rule i j t u c.s _ _ q (PostE.tok S (Nat.le_succ _) (.int _ _))
      · rw [if_neg q] at h; cases h
    | _ => cases h
  | _ => cases h
abbrev noC : Int → Int → Bool := fun _ _ => true
def fSub : D → D → Option Res := fInt noC fun i j => i - j
def cMul (i j : Int) : Bool := decide (i.natAbs < 2 ^ 64) || decide (j.natAbs < 2 ^ 64)
def cDiv (_ j : Int) : Bool := decide (0 < j ∧ j.natAbs < 1073741824)
def cPow (i j : Int) : Bool := decide (0 ≤ j ∧ j.natAbs ≤ 1000000 ∧ i.natAbs < 2 ^ 64)
def cPos (_ j : Int) : Bool := decide (0 < j)
def fMul : D → D → Option Res := fInt cMul fun i j => i * j
def fDiv : D → D → Option Res := fInt cDiv fun i j => i / j
def fMod : D → D → Option Res := fInt cPos fun i j => i % j
def fPow : D → D → Option Res := fInt cPow fun i j => i ^ j.toNat
def fShl : D → D → Option Res := fInt cPow fun i j => i * 2 ^ j.toNat
theorem op_sub : OpD X (binaryOp .Sub) fSub := op_intC fun _ _ _ _ _ _ _ _ q => sub_int q
theorem op_mul : OpD X (binaryOp .Mult) fMul := op_intC fun i j _ _ _ _ _ hc q => mul_int q (by
  have hc : i.natAbs < 2 ^ 64 ∨ j.natAbs < 2 ^ 64 := by simpa [cMul] using hc
  have hc : (-(2 ^ 64) < i ∧ i < 2 ^ 64) ∨ (-(2 ^ 64) < j ∧ j < 2 ^ 64) := by omega
  rcases hc with ⟨h1, h2⟩ | ⟨h1, h2⟩
  · exact .of_left (intBits_le_64 h1 h2)
  · exact .of_right (intBits_le_64 h1 h2))
theorem op_div : OpD X (binaryOp .FloorDiv) fDiv := op_intC fun i j _ _ _ _ _ hc q => by
  obtain ⟨h1, h2⟩ : 0 < j ∧ j.natAbs < 1073741824 := by simpa [cDiv] using hc
  have h2 : j < 1073741824 := by omega
  exact floordiv_int (by omega) (by rw [Int.fdiv_eq_ediv_of_nonneg i (by omega)]; exact q) (.inl (PyProof.noPylong_small (by omega)))
theorem op_mod : OpD X (binaryOp .Mod) fMod := op_intC fun i j _ _ _ _ _ hc q => by
  have h1 : 0 < j := by simpa [cPos] using hc
  exact mod_int' (by omega) (by rw [Int.fmod_eq_emod_of_nonneg i (by omega)]; exact q)
theorem op_pow : OpD X (binaryOp .Pow) fPow := op_intC fun i j _ _ _ _ _ hc q => by
  obtain ⟨h1, h2, h3⟩ : 0 ≤ j ∧ j.natAbs ≤ 1000000 ∧ i.natAbs < 2 ^ 64 := by simpa [cPow] using hc
  have h2 : j ≤ 1000000 := by omega
  exact pow_int_small h1 h2 h3 q
theorem op_shl : OpD X (binaryOp .LShift) fShl := op_intC fun i j _ _ _ _ _ hc q => by
  obtain ⟨h1, h2, h3⟩ : 0 ≤ j ∧ j.natAbs ≤ 1000000 ∧ i.natAbs < 2 ^ 64 := by simpa [cPow] using hc
  have h2 : j ≤ 1000000 := by omega
  exact lshift_int_small h1 h2 h3 q
def fAnd : D → D → Option Res := fInt noC Builtin.bitAnd
def fXor : D → D → Option Res := fInt noC Builtin.bitXor
theorem op_and : OpD X (binaryOp .BitAnd) fAnd := op_intC fun _ _ _ _ _ _ _ _ q => and_int q
theorem op_xor : OpD X (binaryOp .BitXor) fXor := op_intC fun _ _ _ _ _ _ _ _ q => xor_int q
/-- texts of any token are not served -/
def Res.isWeak : Res → Bool
  | .weak _ => true
  | _ => false
theorem Res.nweak {r : Res} (h : r.isWeak = false) : ∀ s, r ≠ .weak s := fun s e => by subst e; cases h
def dBinG (f : D → D → Option Res) (a b : DE) : DE := fun ρ => obind (a ρ) fun x ρ1 => obind (b ρ1) fun y ρ2 => if x.isWeak || y.isWeak then none else match f x.d y.d with
  | some z => some (.ok z ρ2)
  | none => none
def OpG (X : Cx) (f : Value → Value → Sem Value) (g : D → D → Option Res) : Prop := ∀ (c : Cf) (x y : Value) (d e : D) (r : Res), SR X c → Rep X.w c.F c.s.toks x d → Rep X.w c.F c.s.toks y e → g d e = some r →
  wpAny (model X.prog X.w) X.A (f x y) (PostE X c (.ok r c.ρ)) X.xe c.s
theorem OpD.g {f : Value → Value → Sem Value} {g : D → D → Option Res} (h : OpD X f g) : OpG X f g := fun c x y d e r S r1 r2 q => h c x y d e r S r1.view r2.view q
theorem twoG {β : Type} {k : Res → Res → Rho → Option (O β)} {o : O β} {Q : Value → Value → Shared → Prop} (ha : PD X a da) (hb : PD X b db) (S : SR X c) (hd : obind (da c.ρ) (fun x ρ1 => obind (db ρ1) fun y ρ2 => if x.isWeak || y.isWeak then none else k x y ρ2) = some o) (kx : KX X c o)
    (hq : ∀ x y c1 u v, Fr X c c1 → SR X c1 → Rep X.w c1.F c1.s.toks u x.d → Rep X.w c1.F c1.s.toks v y.d → k x y c1.ρ = some o → Q u v c1.s) :
    wpAny (model X.prog X.w) X.A (eval a X.env) (fun u s1 => wpAny (model X.prog X.w) X.A (eval b X.env) (fun v s2 => Q u v s2) X.xe s1) X.xe c.s := by
  refine ha.go S hd kx fun x c1 u f1 S1 r1 hd1 => ?_
  obtain ⟨F1, f1', S1', _, w1, _⟩ := r1.froze f1 S1
  refine hb.go (c := { c1 with F := F1 }) S1' hd1 (f1'.toFrB.kx kx) fun y c2 v f2 S2 r2 hd2 => ?_
  obtain ⟨F2, f2', S2', _, w2, _⟩ := r2.froze f2 S2
  by_cases z : (x.isWeak || y.isWeak) = true
  · rw [if_pos z] at hd2; cases hd2
  · rw [if_neg z] at hd2
    have zz : x.isWeak = false ∧ y.isWeak = false := by simpa using z
    exact hq x y { c2 with F := F2 } u v (f1'.trans f2') S2' ((w1 (Res.nweak zz.1)).mono f2'.fm f2'.tk) (w2 (Res.nweak zz.2)) hd2
theorem pd_binG {op : Operator} {f : D → D → Option Res} (ho : OpG X (binaryOp op) f) (ha : PD X a da) (hb : PD X b db) : PD X (.BinOp a op b pos) (dBinG f da db) := by
  refine ⟨fun c o S hd kx => ?_⟩
  refine wpAny_BinOp (twoG (k := fun x y ρ2 => match f x.d y.d with | some z => some (.ok z ρ2) | none => none) (Q := fun u v s2 => wpAny (model X.prog X.w) X.A (binaryOp op u v) (PostE X c o) X.xe s2) ha hb S hd kx fun x y c1 u v f1 S1 r1 r2 hk => ?_)
  cases hz : f x.d y.d with
  | none => rw [hz] at hk; cases hk
  | some z =>
    rw [hz] at hk; cases hk
    exact thn (ho c1 u v _ _ z S1 r1 r2 hz) fun _ _ q => PostE.from f1 q
def fAdd : D → D → Option Res
  | .int i, .int j => some (.val (.int (i + j)))
  | .str s, .str t => if s.length + t.length ≤ 16777216 then some (.val (.str (s ++ t))) else none
  | .lst s, .lst t => if s.length + t.length ≤ 16777216 then some (.fresh (.lst (s ++ t))) else none
  | .tup s, .tup t => if s.length + t.length ≤ 16777216 then some (.val (.tup (s ++ t))) else none
  | _, _ => none
theorem PostE.newV {d : D} {s' : Shared} {a : Addr} {o : Obj} (S : SR X c) (k : ∀ b o, c.s.heap.get? b = some o → s'.heap.get? b = some o) (ht : c.s.toks ≤ s'.toks) (hn : c.s.heap.get? a = none) (e : s'.heap.get? a = some o)
    (h : ObjIs X.w c.F s'.toks o d) (hns : (a == sysModules) = false) (ho : s'.os = c.s.os := by rfl) (hg : s'.gens = c.s.gens := by rfl) : PostE X c (.ok (.val d) c.ρ) (.ref a) s' := by
  obtain ⟨c', e1, e2, f, S', r⟩ := S.freshV k ht hn e h hns ho hg
  exact ⟨_, c', e1, by rw [e2], f, S', r⟩
theorem PostE.new {d : D} {s' : Shared} {a : Addr} {o : Obj} (S : SR X c) (k : ∀ b o, c.s.heap.get? b = some o → s'.heap.get? b = some o) (ht : c.s.toks ≤ s'.toks) (hn : c.s.heap.get? a = none) (e : s'.heap.get? a = some o)
    (h : ObjIs X.w c.F s'.toks o d) (hns : (a == sysModules) = false) (mu : d.isMut = true := by rfl) (ho : s'.os = c.s.os := by rfl) (hg : s'.gens = c.s.gens := by rfl) : PostE X c (.ok (.fresh d) c.ρ) (.ref a) s' := by
  obtain ⟨f, S', r⟩ := S.fresh k ht hn e h hns mu ho hg
  exact ⟨_, { c with s := s' }, rfl, rfl, f, S', r⟩
/-- a new list, a new tuple at the heap's end -/
theorem PostE.pushL {vs : Array Value} {n : Nat} {ds : List D} {t : Nat} (S : SR X c) (ht : c.s.toks ≤ t) (z : vs.size ≤ sizeLine) (r : RepL X.w c.F t vs.toList ds) :
    PostE X c (.ok (.fresh (.lst ds)) c.ρ) (.ref c.s.heap.objs.size) { c.s with heap := c.s.heap.push { cls := .type "list", data := .seq vs n }, toks := t } :=
  PostE.new S (fun b o e => Heap.get?_push_of_some _ e) ht S.new (Heap.get?_push_size _ rfl) (.lst z r) S.nsys
theorem PostE.pushT {vs : Array Value} {n : Nat} {ds : List D} {t : Nat} (S : SR X c) (ht : c.s.toks ≤ t) (z : vs.size ≤ sizeLine) (r : RepL X.w c.F t vs.toList ds) :
    PostE X c (.ok (.val (.tup ds)) c.ρ) (.ref c.s.heap.objs.size) { c.s with heap := c.s.heap.push { cls := .type "tuple", data := .seq vs n }, toks := t } :=
  PostE.newV S (fun b o e => Heap.get?_push_of_some _ e) ht S.new (Heap.get?_push_size _ rfl) (.tup ⟨rfl, rfl⟩ rfl z r) S.nsys
theorem size_len {vs : Array Value} {n : Nat} (h : vs.toList.length = n) : vs.size = n := by simpa using h
theorem rep_strs {w : World} {F : FH} {T : Nat} {s : List Nat} {t : Tok} (h : Rep w F T (.str (tx s) t) (.str s)) : t ≠ 0 ∧ t < T := by
  obtain ⟨t', e, a, b, _⟩ := h.str_inv
  injection e with _ e2
  subst e2
  exact ⟨a, b⟩
theorem op_add (htz : 0 < X.tz := by exact Nat.zero_lt_one) : OpG X (binaryOp .Add) fAdd := by
  intro c x y d e r S r1 r2 h
  cases d with
  | int i => cases e with
    | int j =>
      cases h
      obtain ⟨t, rfl⟩ := r1.w.int_inv
      obtain ⟨u, rfl⟩ := r2.w.int_inv
      exact add_int (PostE.tok S (Nat.le_succ _) (.int _ _))
    | _ => cases h
  | str i => cases e with
    | str j =>
      have h : (if i.length + j.length ≤ 16777216 then some (Res.val (.str (i ++ j))) else none) = some r := h
      by_cases q : i.length + j.length ≤ 16777216
      · rw [if_pos q] at h; cases h
        obtain ⟨t, rfl, a1, b1, z1⟩ := r1.str_inv
        obtain ⟨u, rfl, a2, b2, z2⟩ := r2.str_inv
        refine PySem.P.add_str ?_
        have l1 : ((tx i).length == 0) = decide (i = []) := by rw [tx_len]; cases i <;> simp
        have l2 : ((tx j).length == 0) = decide (j = []) := by rw [tx_len]; cases j <;> simp
        rw [l1, l2]
        by_cases e1 : i = []
        · rw [if_pos (by simpa using e1)]
          subst e1
          exact PostE.val S r2
        · rw [if_neg (by simpa using e1)]
          by_cases e2 : j = []
          · rw [if_pos (by simpa using e2)]
            subst e2
            simp only [List.append_nil]
            exact PostE.val S r1
          · rw [if_neg (by simpa using e2), tx_append]
            have hz : (i ++ j).length ≤ sizeLine := by rw [List.length_append, sizeLine_eq]; exact q
            exact ⟨by rw [tx_len]; exact hz, PostE.tok S (Nat.le_succ _) (.str _ _ (Nat.ne_of_gt (S.tkp htz)) (Nat.lt_succ_self _) hz)⟩
      · rw [if_neg q] at h; cases h
    | _ => cases h
  | lst i => cases e with
    | lst j =>
      have h : (if i.length + j.length ≤ 16777216 then some (Res.fresh (.lst (i ++ j))) else none) = some r := h
      by_cases q : i.length + j.length ≤ 16777216
      · rw [if_pos q] at h; cases h
        obtain ⟨a, vs, n, rfl, e1, z1, l1, _⟩ := r1.w.lst_inv
        obtain ⟨b, ws, m, rfl, e2, z2, l2, _⟩ := r2.w.lst_inv
        have hl : vs.size + ws.size ≤ sizeLine := by rw [size_len l1.length, size_len l2.length, sizeLine_eq]; exact q
        refine PySem.P.add_list (S.sub _ _ e1) (S.sub _ _ e2) ?_ hl
        exact PostE.pushL (n := _) S (Nat.le_refl _) (by rw [Array.size_append]; exact hl) (by rw [Array.toList_append]; exact l1.append l2)
      · rw [if_neg q] at h; cases h
    | _ => cases h
  | tup i => cases e with
    | tup j =>
      have h : (if i.length + j.length ≤ 16777216 then some (Res.val (.tup (i ++ j))) else none) = some r := h
      by_cases q : i.length + j.length ≤ 16777216
      · rw [if_pos q] at h; cases h
        obtain ⟨a, oa, vs, n, rfl, e1, c1, d1, z1, l1, _⟩ := r1.w.tup_inv
        obtain ⟨b, ob, ws, m, rfl, e2, c2, d2, z2, l2, _⟩ := r2.w.tup_inv
        have hl : vs.size + ws.size ≤ sizeLine := by rw [size_len l1.length, size_len l2.length, sizeLine_eq]; exact q
        have t1 : IsTup c.s.heap a vs.toList.toArray := by rw [Array.toArray_toList]; exact ⟨oa, S.sub _ _ e1, c1, n, d1⟩
        have t2 : IsTup c.s.heap b ws.toList.toArray := by rw [Array.toArray_toList]; exact ⟨ob, S.sub _ _ e2, c2, m, d2⟩
        by_cases ei : vs.toList = []
        · have : i = [] := List.eq_nil_of_length_eq_zero (by rw [← l1.length, ei]; rfl)
          subst this
          rw [ei] at t1
          exact L2.cat_tup0 t1 t2 (PostE.val S r2)
        · refine HT.cat_tup t1 t2 ei (fun ej => ?_) (fun ej => ?_) (by simpa using hl)
          · have : j = [] := List.eq_nil_of_length_eq_zero (by rw [← l2.length, ej]; rfl)
            subst this
            simp only [List.append_nil]
            exact PostE.val S r1
          · exact PostE.pushT (n := _) S (Nat.le_refl _) (by simpa using hl) (by simpa using l1.append l2)
      · rw [if_neg q] at h; cases h
    | _ => cases h
  | _ => cases h
end
end GB
/-! Comparisons, truth, and, or, not, conditional expressions; names that are looked at. -/
namespace GB
open PySem PySem.Spec PyProof.Rows
open L2 (Key keyH keyIs mixKind Mod Look Vis Loc frs thn)
section
variable {X : Cx} {c c0 c1 : Cf} {a b e : Expr} {rest : List Expr} {da db dc : DE} {ta tb tc : DT} {pos : Pos}
theorem View.same {v : Value} {d : D} (h : c.s = c1.s) (hF : c.F = c1.F) (r : View X.w c v d) : View X.w c1 v d := by
  unfold View at r ⊢
  rw [← h, ← hF]; exact r
/-! ### == -/
def fEq (neg : Bool) : D → D → Option Res
  | .int i, .int j => some (.val (.bl (xor neg (decide (i = j)))))
  | .str s, .str t => some (.val (.bl (xor neg (decide (s = t)))))
  | .bl a, .bl b => some (.val (.bl (xor neg (decide (a = b)))))
  | d, e => if d.okEq && e.okEq then some (.val (.bl (xor neg (PyData.eqv d.py e.py)))) else none
theorem fEq_gen {neg : Bool} {d e : D} {z : Res} (h : fEq neg d e = some z) : (∃ i j, d = .int i ∧ e = .int j ∧ z = .val (.bl (xor neg (decide (i = j))))) ∨ (∃ s t, d = .str s ∧ e = .str t ∧ z = .val (.bl (xor neg (decide (s = t))))) ∨
    (∃ a b, d = .bl a ∧ e = .bl b ∧ z = .val (.bl (xor neg (decide (a = b))))) ∨ (d.okEq = true ∧ e.okEq = true ∧ z = .val (.bl (xor neg (PyData.eqv d.py e.py)))) := by
  have gen : (if (d.okEq && e.okEq) = true then some (Res.val (.bl (xor neg (PyData.eqv d.py e.py)))) else none) = some z → d.okEq = true ∧ e.okEq = true ∧ z = .val (.bl (xor neg (PyData.eqv d.py e.py))) := fun q => by
    by_cases c : (d.okEq && e.okEq) = true
    · rw [if_pos c] at q
      cases q
      simp at c
      exact ⟨c.1, c.2, rfl⟩
    · rw [if_neg c] at q; cases q
  cases d <;> cases e <;> first
    | exact .inr (.inr (.inr (gen h)))
    | (cases h; exact .inl ⟨_, _, rfl, rfl, rfl⟩)
    | (cases h; exact .inr (.inl ⟨_, _, rfl, rfl, rfl⟩))
    | (cases h; exact .inr (.inr (.inl ⟨_, _, rfl, rfl, rfl⟩)))
theorem units_min {n m : Nat} (S : SR X c) (h : m ≤ 64) : X.A.units + min n m < cLine := by
  have h1 := S.ok.room
  have h2 : min n m ≤ m := Nat.min_le_right _ _
  omega
theorem PostE.bl {k k' : Bool} (S : SR X c) (e : k' = k) : PostE X c (.ok (.val (.bl k)) c.ρ) (.bool k') c.s := by
  subst e; exact PostE.val S (.bl _)
theorem tx_beq (s t : List Nat) : ((tx s).cps.toList == (tx t).cps.toList) = decide (s = t) := by
  rw [tx_list, tx_list]
  by_cases e : s = t
  · subst e; simp
  · simp [e]
theorem op_eq : OpD X (compareOp .Eq) (fEq false) := by
  intro c x y d e r S r1 r2 h
  rcases fEq_gen h with ⟨i, j, rfl, rfl, rfl⟩ | ⟨s, t, rfl, rfl, rfl⟩ | ⟨a, b, rfl, rfl, rfl⟩ | ⟨h1, h2, rfl⟩
  · obtain ⟨_, rfl⟩ := r1.int_inv
    obtain ⟨_, rfl⟩ := r2.int_inv
    exact PySem.P.eq_int (PostE.bl S (by simp [Bool.beq_eq_decide_eq]))
  · obtain ⟨_, rfl, _⟩ := r1.str_inv
    obtain ⟨_, rfl, _⟩ := r2.str_inv
    exact PySem.P.eq_str (PostE.bl S (by rw [tx_beq]; simp))
  · obtain rfl := r1.bl_inv
    obtain rfl := r2.bl_inv
    exact PyProof.Rows.eq_bool (PostE.bl S (by rw [Bool.beq_eq_decide_eq]; simp))
  · obtain ⟨as, ra⟩ := r1.reads S.sub
    obtain ⟨bs, rb⟩ := r2.reads S.sub
    obtain ⟨l1, l2⟩ := D.lay d (D.okEq_iff.mp h1).1
    obtain ⟨l3, l4⟩ := D.lay e (D.okEq_iff.mp h2).1
    exact SeqAt.eq_plain ra rb l1 l3 (units_min S (by rw [l4]; exact (D.okEq_iff.mp h2).2)) (PostE.bl S (by simp))
theorem op_ne : OpD X (compareOp .NotEq) (fEq true) := by
  intro c x y d e r S r1 r2 h
  rcases fEq_gen h with ⟨i, j, rfl, rfl, rfl⟩ | ⟨s, t, rfl, rfl, rfl⟩ | ⟨a, b, rfl, rfl, rfl⟩ | ⟨h1, h2, rfl⟩
  · obtain ⟨_, rfl⟩ := r1.int_inv
    obtain ⟨_, rfl⟩ := r2.int_inv
    exact PySem.P.ne_int (PostE.bl S (by simp [bne, Bool.beq_eq_decide_eq]))
  · obtain ⟨_, rfl, _⟩ := r1.str_inv
    obtain ⟨_, rfl, _⟩ := r2.str_inv
    exact PySem.P.ne_str (PostE.bl S (by rw [bne, tx_beq]; simp))
  · obtain rfl := r1.bl_inv
    obtain rfl := r2.bl_inv
    exact PyProof.Rows.ne_bool (PostE.bl S (by rw [bne, Bool.beq_eq_decide_eq]; simp))
  · obtain ⟨as, ra⟩ := r1.reads S.sub
    obtain ⟨bs, rb⟩ := r2.reads S.sub
    obtain ⟨l1, l2⟩ := D.lay d (D.okEq_iff.mp h1).1
    obtain ⟨l3, l4⟩ := D.lay e (D.okEq_iff.mp h2).1
    exact SeqAt.ne_plain ra rb l1 l3 (units_min S (by rw [l4]; exact (D.okEq_iff.mp h2).2)) (PostE.bl S (by simp))
/-! ### the order of numbers and texts -/
def fLt (p : Int → Int → Bool) (q : List Nat → List Nat → Bool) : D → D → Option Res
  | .int i, .int j => some (.val (.bl (p i j)))
  | .str s, .str t => some (.val (.bl (q s t)))
  | _, _ => none
theorem op_ord {f : Value → Value → Sem Value} {p : Int → Int → Bool} {q : List Nat → List Nat → Bool}
    (hi : ∀ (i j : Int) (t u : Tok) (s : Shared) (Q : Value → Shared → Prop) (E : Value → Shared → Prop), Q (.bool (p i j)) s → wpAny (model X.prog X.w) X.A (f (.int i t) (.int j u)) Q E s)
    (hs : ∀ (i j : Str) (t u : Tok) (s : Shared) (Q : Value → Shared → Prop) (E : Value → Shared → Prop), Q (.bool (q i.cps.toList j.cps.toList)) s → wpAny (model X.prog X.w) X.A (f (.str i t) (.str j u)) Q E s) : OpD X f (fLt p q) := by
  intro c x y d e r S r1 r2 h
  cases d with
  | int i => cases e with
    | int j =>
      cases h
      obtain ⟨_, rfl⟩ := r1.int_inv
      obtain ⟨_, rfl⟩ := r2.int_inv
      exact hi _ _ _ _ _ _ _ (PostE.bl S rfl)
    | _ => cases h
  | str s => cases e with
    | str t =>
      cases h
      obtain ⟨_, rfl, _⟩ := r1.str_inv
      obtain ⟨_, rfl, _⟩ := r2.str_inv
      exact hs _ _ _ _ _ _ _ (PostE.bl S (by rw [tx_list, tx_list]))
    | _ => cases h
  | _ => cases h
def fLtD := fLt (fun i j => decide (i < j)) (fun s t => decide (s < t))
def fGtD := fLt (fun i j => decide (j < i)) (fun s t => decide (t < s))
def fLeD := fLt (fun i j => decide (i ≤ j)) (fun s t => !decide (t < s))
def fGeD := fLt (fun i j => decide (j ≤ i)) (fun s t => !decide (s < t))
theorem op_lt : OpD X (compareOp .Lt) fLtD := op_ord (fun _ _ _ _ _ _ _ q => lt_int q) fun _ _ _ _ _ _ _ q => PySem.P.lt_str q
theorem op_gt : OpD X (compareOp .Gt) fGtD := op_ord (fun _ _ _ _ _ _ _ q => gt_int q) fun _ _ _ _ _ _ _ q => PySem.P.gt_str q
theorem op_le : OpD X (compareOp .LtE) fLeD := op_ord (fun _ _ _ _ _ _ _ q => le_int q) fun _ _ _ _ _ _ _ q => PySem.P.le_str q
theorem op_ge : OpD X (compareOp .GtE) fGeD := op_ord (fun _ _ _ _ _ _ _ q => ge_int q) fun _ _ _ _ _ _ _ q => PySem.P.ge_str q
/-! ### dicts: keys are numbers and texts -/
def D.key : D → Option Key
  | .int i => some (.inl i)
  | .str s => some (.inr (tx s))
  | _ => none
theorem keyD_key (k : Key) : (keyD k).key = some k := by
  cases k with
  | inl i => rfl
  | inr x => show some (Sum.inr (tx x.cps.toList)) = _; rw [tx_of]
theorem key_keyD {d : D} {k : Key} (h : d.key = some k) : d = keyD k := by
  cases d with
  | int i => cases h; rfl
  | str s => cases h; show D.str s = .str (tx s).cps.toList; rw [tx_list]
  | _ => cases h
def dLook (ds : List (D × D)) (k : Key) : Option D := (ds.find? fun p => decide (p.1.key = some k)).map (·.2)
theorem View.key {v : Value} {d : D} {k : Key} (h : View X.w c v d) (e : d.key = some k) : keyIs k v = true := by
  cases d with
  | int i => cases e; obtain ⟨t, rfl⟩ := h.int_inv; exact L2.keyIs_int i t
  | str s => cases e; obtain ⟨t, rfl, _⟩ := h.str_inv; exact L2.keyIs_str _ t
  | _ => cases e
/-- the entries as the library tells them -/
theorem RepK.pairs {w : World} {P : Program} {F : FH} {T : Nat} : ∀ {es : List DictEntry} {ks : List (Key × D)}, RepK w F T es ks →
    ∃ kvs : List (Key × Value), Pairs (mixKind P w) es kvs ∧ kvs.map (·.1) = ks.map (·.1) ∧ RepL w F T (kvs.map (·.2)) (ks.map (·.2)) ∧ (∀ e ∈ es, ∃ k, keyIs k e.key = true ∧ e.hash = keyH w k)
  | _, _, .nil => ⟨[], .nil, rfl, .nil, fun _ h => by simp at h⟩
  | _, _, @RepK.cons _ _ _ e k d es ks hh kr vr r => by
    obtain ⟨kvs, p1, p2, p3, p4⟩ := RepK.pairs (P := P) r
    refine ⟨(k, e.val) :: kvs, .cons kr.key_is rfl p1, by simp [p2], .cons vr p3, fun e' he' => ?_⟩
    rcases List.mem_cons.mp he' with rfl | q
    · exact ⟨k, kr.key_is, hh⟩
    · exact p4 e' q
theorem dictOf {P : Program} {w : World} {h : Heap} {a : Addr} {o : Obj} {es : Array DictEntry} {ep : Nat} {F : FH} {T : Nat} {ks : List (Key × D)} (q : h.get? a = some o) (hx : o.ExactDict) (hd : o.data = .dict es ep) (r : RepK w F T es.toList ks) (n : (ks.map (·.1)).Nodup) :
    ∃ kvs : List (Key × Value), h.DictOf (mixKind P w) a kvs ∧ kvs.map (·.1) = ks.map (·.1) ∧ RepL w F T (kvs.map (·.2)) (ks.map (·.2)) := by
  obtain ⟨kvs, p1, p2, p3, p4⟩ := r.pairs (P := P)
  exact ⟨kvs, ⟨o, es, ep, q, hx, hd, fun e he => p4 e (by simpa using he), p1, by rw [p2]; exact n⟩, p2, p3⟩
theorem dLook_keys (ks : List (Key × D)) (k : Key) : dLook (ks.map fun p => (keyD p.1, p.2)) k = (ks.find? fun p => decide (p.1 = k)).map (·.2) := by
  induction ks with
  | nil => rfl
  | cons p r ih =>
    unfold dLook at ih ⊢
    rw [List.map_cons, List.find?_cons, List.find?_cons]
    have e : decide ((keyD p.1).key = some k) = decide (p.1 = k) := by rw [keyD_key]; simp
    simp only [e]
    cases decide (p.1 = k) with
    | true => rfl
    | false => exact ih
theorem valueAt_rep {w : World} {F : FH} {T : Nat} : ∀ {kvs : List (Key × Value)} {ks : List (Key × D)} (k : Key), kvs.map (·.1) = ks.map (·.1) → RepL w F T (kvs.map (·.2)) (ks.map (·.2)) →
    (valueAt kvs k = none ∧ dLook (ks.map fun p => (keyD p.1, p.2)) k = none) ∨ ∃ v d, valueAt kvs k = some v ∧ dLook (ks.map fun p => (keyD p.1, p.2)) k = some d ∧ Rep w F T v d := by
  intro kvs ks k h r
  rw [dLook_keys]
  unfold valueAt
  induction kvs generalizing ks with
  | nil =>
    cases ks with
    | nil => exact .inl ⟨rfl, rfl⟩
    | cons _ _ => simp at h
  | cons p q ih =>
    cases ks with
    | nil => simp at h
    | cons p' q' =>
      simp only [List.map_cons, List.cons.injEq] at h
      simp only [List.map_cons] at r
      cases r with
      | cons r1 r2 =>
        rw [List.find?_cons, List.find?_cons, h.1]
        by_cases e : p'.1 = k
        · exact .inr ⟨p.2, p'.2, by simp [e], by simp [e], r1⟩
        · simp only [e, decide_false]
          exact ih h.2 r2
/-! ### in -/
/-- a text in a text; a value in a list or tuple; a key in a dict -/
def fIn (neg : Bool) : D → D → Option Res
  | .str [c], .str t => some (.val (.bl (xor neg (decide (c ∈ t)))))
  | .str s, .str t => some (.val (.bl (xor neg (!(Builtin.Str.occurrences (tx t) (tx s) 0 (tx t).length 1).isEmpty))))
  | d, .lst ds => if d.okEq && (D.lst ds).okEq then some (.val (.bl (xor neg (ds.any fun z => PyData.eqv z.py d.py)))) else none
  | d, .tup ds => if d.okEq && (D.tup ds).okEq then some (.val (.bl (xor neg (ds.any fun z => PyData.eqv z.py d.py)))) else none
  | d, .dic ks => match d.key with
    | some k => some (.val (.bl (xor neg (dLook ks k).isSome)))
    | none => none
  | _, _ => none
theorem any_pys (ds : List D) (d : D) : ((D.pys ds).any fun z => PyData.eqv z d.py) = ds.any fun z => PyData.eqv z.py d.py := by
  rw [D.pys_map, List.any_map]; rfl
theorem fIn_gen {neg : Bool} {d e : D} {z : Res} (h : fIn neg d e = some z) : (∃ c t, d = .str [c] ∧ e = .str t ∧ z = .val (.bl (xor neg (decide (c ∈ t))))) ∨
    (∃ s t, d = .str s ∧ e = .str t ∧ z = .val (.bl (xor neg (!(Builtin.Str.occurrences (tx t) (tx s) 0 (tx t).length 1).isEmpty)))) ∨
    (∃ ds, e = .lst ds ∧ d.okEq = true ∧ e.okEq = true ∧ z = .val (.bl (xor neg (ds.any fun z => PyData.eqv z.py d.py)))) ∨
    (∃ ds, e = .tup ds ∧ d.okEq = true ∧ e.okEq = true ∧ z = .val (.bl (xor neg (ds.any fun z => PyData.eqv z.py d.py)))) ∨
    (∃ ks k, e = .dic ks ∧ d.key = some k ∧ z = .val (.bl (xor neg (dLook ks k).isSome))) := by
  unfold fIn at h
  split at h
  · cases h; exact .inl ⟨_, _, rfl, rfl, rfl⟩
  · cases h; exact .inr (.inl ⟨_, _, rfl, rfl, rfl⟩)
  · rename_i ds
    by_cases c : (d.okEq && (D.lst ds).okEq) = true
    · rw [if_pos c] at h; cases h; simp at c
      exact .inr (.inr (.inl ⟨_, rfl, c.1, c.2, rfl⟩))
    · rw [if_neg c] at h; cases h
  · rename_i ds
    by_cases c : (d.okEq && (D.tup ds).okEq) = true
    · rw [if_pos c] at h; cases h; simp at c
      exact .inr (.inr (.inr (.inl ⟨_, rfl, c.1, c.2, rfl⟩)))
    · rw [if_neg c] at h; cases h
  · rename_i ks
    split at h
    · rename_i k hk; cases h; exact .inr (.inr (.inr (.inr ⟨_, k, rfl, hk, rfl⟩)))
    · cases h
  · cases h
theorem room_in (S : SR X c) {d e : Nat} (h : d ≤ 64) : X.A.units + 1 + min e d < cLine := by
  have h1 := S.ok.room
  have h2 : min e d ≤ d := Nat.min_le_right _ _
  omega
theorem op_in : OpD X (compareOp .In) (fIn false) := by
  intro c x y d e r S r1 r2 h
  rcases fIn_gen h with ⟨k, t, rfl, rfl, rfl⟩ | ⟨s, t, rfl, rfl, rfl⟩ | ⟨ds, rfl, h1, h2, rfl⟩ | ⟨ds, rfl, h1, h2, rfl⟩ | ⟨ks, k, rfl, hk, rfl⟩
  · obtain ⟨_, rfl, _⟩ := r1.str_inv
    obtain ⟨_, rfl, _⟩ := r2.str_inv
    refine PyProof.Rows.in_str (PostE.bl S ?_)
    have := PySem.StrLaws.found_one (tx t) k
    rw [tx_list] at this
    show (!(Builtin.Str.occurrences (tx t) ⟨#[k]⟩ 0 (tx t).length 1).isEmpty) = _
    rw [Bool.false_xor]; exact this
  · obtain ⟨_, rfl, _⟩ := r1.str_inv
    obtain ⟨_, rfl, _⟩ := r2.str_inv
    exact PyProof.Rows.in_str (PostE.bl S (by simp))
  · obtain ⟨as, ra⟩ := r1.reads S.sub
    obtain ⟨bs, rb⟩ := r2.reads S.sub
    simp only [D.py] at rb
    obtain ⟨l1, l2⟩ := D.lay d (D.okEq_iff.mp h1).1
    obtain ⟨l3, l4⟩ := D.lays ds (by simpa [D.flat] using (D.okEq_iff.mp h2).1)
    exact SeqAt.in_list_data rb ra l3 l1 (room_in S (by rw [l2]; exact (D.okEq_iff.mp h1).2)) (PostE.bl S (by rw [any_pys]; simp))
  · obtain ⟨as, ra⟩ := r1.reads S.sub
    obtain ⟨bs, rb⟩ := r2.reads S.sub
    simp only [D.py] at rb
    obtain ⟨l1, l2⟩ := D.lay d (D.okEq_iff.mp h1).1
    obtain ⟨l3, l4⟩ := D.lays ds (by simpa [D.flat] using (D.okEq_iff.mp h2).1)
    exact SeqAt.in_tuple_data rb ra l3 l1 (room_in S (by rw [l2]; exact (D.okEq_iff.mp h1).2)) (PostE.bl S (by rw [any_pys]; simp))
  · obtain ⟨a, o, es, ep, kz, rfl, ns, q, hx, hd, _, rk, nd, rfl⟩ := r2.dic_inv S.sub
    obtain ⟨kvs, dd, e1, e2⟩ := dictOf (P := X.prog) q hx hd rk nd
    refine wpAny_in_of (r1.key hk) ns dd.mapOf ?_
    have : (valueAt kvs k).isSome = (dLook (kz.map fun p => (keyD p.1, p.2)) k).isSome := by
      rcases valueAt_rep k e1 e2 with ⟨v1, v2⟩ | ⟨v, d', v1, v2, _⟩ <;> rw [v1, v2] <;> rfl
    rw [this]
    simpa using PostE.tok S (Nat.le_succ _) (.bl _)
theorem op_notIn : OpD X (compareOp .NotIn) (fIn true) := by
  intro c x y d e r S r1 r2 h
  rcases fIn_gen h with ⟨k, t, rfl, rfl, rfl⟩ | ⟨s, t, rfl, rfl, rfl⟩ | ⟨ds, rfl, h1, h2, rfl⟩ | ⟨ds, rfl, h1, h2, rfl⟩ | ⟨ks, k, rfl, hk, rfl⟩
  · obtain ⟨_, rfl, _⟩ := r1.str_inv
    obtain ⟨_, rfl, _⟩ := r2.str_inv
    refine PyProof.Rows.notIn_str (PostE.bl S ?_)
    have := PySem.StrLaws.found_one (tx t) k
    rw [tx_list] at this
    show (!(!(Builtin.Str.occurrences (tx t) ⟨#[k]⟩ 0 (tx t).length 1).isEmpty)) = _
    rw [Bool.true_xor]; exact congrArg Bool.not this
  · obtain ⟨_, rfl, _⟩ := r1.str_inv
    obtain ⟨_, rfl, _⟩ := r2.str_inv
    exact PyProof.Rows.notIn_str (PostE.bl S (by simp))
  · obtain ⟨as, ra⟩ := r1.reads S.sub
    obtain ⟨bs, rb⟩ := r2.reads S.sub
    simp only [D.py] at rb
    obtain ⟨l1, l2⟩ := D.lay d (D.okEq_iff.mp h1).1
    obtain ⟨l3, l4⟩ := D.lays ds (by simpa [D.flat] using (D.okEq_iff.mp h2).1)
    exact SeqAt.notIn_list_data rb ra l3 l1 (room_in S (by rw [l2]; exact (D.okEq_iff.mp h1).2)) (PostE.bl S (by rw [any_pys]; simp))
  · obtain ⟨as, ra⟩ := r1.reads S.sub
    obtain ⟨bs, rb⟩ := r2.reads S.sub
    simp only [D.py] at rb
    obtain ⟨l1, l2⟩ := D.lay d (D.okEq_iff.mp h1).1
    obtain ⟨l3, l4⟩ := D.lays ds (by simpa [D.flat] using (D.okEq_iff.mp h2).1)
    exact SeqAt.notIn_tuple_data rb ra l3 l1 (room_in S (by rw [l2]; exact (D.okEq_iff.mp h1).2)) (PostE.bl S (by rw [any_pys]; simp))
  · obtain ⟨a, o, es, ep, kz, rfl, ns, q, hx, hd, _, rk, nd, rfl⟩ := r2.dic_inv S.sub
    obtain ⟨kvs, dd, e1, e2⟩ := dictOf (P := X.prog) q hx hd rk nd
    refine wpAny_notIn_of (r1.key hk) ns dd.mapOf ?_
    have : (valueAt kvs k).isSome = (dLook (kz.map fun p => (keyD p.1, p.2)) k).isSome := by
      rcases valueAt_rep k e1 e2 with ⟨v1, v2⟩ | ⟨v, d', v1, v2, _⟩ <;> rw [v1, v2] <;> rfl
    rw [this]
    simpa using PostE.tok S (Nat.le_succ _) (.bl _)
/-! ### is None -/
def D.isNon : D → Bool
  | .non => true
  | _ => false
theorem View.non_dec {v : Value} {d : D} (r : View X.w c v d) : (v == Value.none) = d.isNon := by
  rcases r with (r | ⟨_, _, rfl, rfl, _⟩) | ⟨a, o, rfl, _, _, r, _⟩
  · cases r with
    | ref _ _ r => cases r <;> rfl
    | _ => rfl
  · rfl
  · cases r <;> rfl
def fIs (neg : Bool) : D → D → Option Res
  | d, .non => some (.val (.bl (xor neg d.isNon)))
  | _, _ => none
theorem op_is : OpD X (compareOp .Is) (fIs false) := by
  intro c x y d e r S r1 r2 h
  cases e with
  | non => cases h; obtain rfl := r2.non_inv; exact is_none_gen (PostE.bl S (by rw [r1.non_dec]; simp))
  | _ => cases h
theorem op_isnot : OpD X (compareOp .IsNot) (fIs true) := by
  intro c x y d e r S r1 r2 h
  cases e with
  | non => cases h; obtain rfl := r2.non_inv; exact isnot_none_gen (PostE.bl S (by rw [r1.non_dec]; simp))
  | _ => cases h

/-! ### tests -/
/-- a True or False as a test -/
def dB (d : DE) : DT := fun ρ => obind (d ρ) fun r ρ1 => match r.d with
  | .bl b => some (.ok b ρ1)
  | _ => none
/-- what values count for in a test -/
def D.truth : D → Bool
  | .non => false
  | .bl b => b
  | .int i => i != 0
  | .str s => !s.isEmpty
  | .tup xs => !xs.isEmpty
  | .lst xs => !xs.isEmpty
  | .dic kvs => !kvs.isEmpty
def dTru (d : DE) : DT := fun ρ => obind (d ρ) fun r ρ1 => some (.ok r.d.truth ρ1)
theorem PostT.val {b : Bool} (S : SR X c) : PostT X c (.ok b c.ρ) b c.s := ⟨c, rfl, rfl, Fr.refl, S⟩
theorem PostT.tok {b : Bool} {t : Nat} (S : SR X c) (h : c.s.toks ≤ t) : PostT X c (.ok b c.ρ) b { c.s with toks := t } := by
  obtain ⟨S', f⟩ := S.kept (s' := { c.s with toks := t }) (fun _ _ e => e) h
  exact ⟨{ c with s := { c.s with toks := t } }, rfl, rfl, f, S'⟩
theorem isE_len {α β : Type} {xs : List α} {ys : List β} (h : xs.length = ys.length) : xs.isEmpty = ys.isEmpty := by
  cases xs <;> cases ys <;> simp_all
theorem line63 : (sizeLine : Nat) < 2 ^ 63 := by rw [sizeLine_eq]; decide
theorem tru_ok {v : Value} {d : D} (S : SR X c) (r : View X.w c v d) : wpAny (model X.prog X.w) X.A (truthy v) (PostT X c (.ok d.truth c.ρ)) X.xe c.s := by
  have hl := line63
  cases d with
  | non => obtain rfl := r.non_inv; exact truthy_none (PostT.val S)
  | bl b => obtain rfl := r.bl_inv; exact wpAny_truthy_bool (PostT.val S)
  | int i => obtain ⟨t, rfl⟩ := r.int_inv; exact PySem.P.truthy_int (PostT.val S)
  | str s =>
    obtain ⟨t, rfl, z⟩ := r.str_inv
    refine PySem.P.truthy_str (by rw [tx_len]; omega) ?_
    have : (((tx s).length : Int) != 0) = (D.str s).truth := by rw [tx_len]; cases s <;> rfl
    rw [this]
    exact PostT.tok S (by omega)
  | lst ds =>
    obtain ⟨a, vs, n, rfl, q, z, l⟩ := r.lst_inv S.sub
    refine wpAny_truthy_list ⟨_, q, rfl, n, rfl⟩ (by omega) ?_
    have : (!vs.isEmpty) = (D.lst ds).truth := by
      show (!vs.isEmpty) = !ds.isEmpty
      rw [← isE_len l.length]; simp
    rw [this]
    exact PostT.tok S (by omega)
  | tup ds =>
    obtain ⟨a, o, vs, n, rfl, q, h1, h2, z, l⟩ := r.tup_inv S.sub
    refine truthy_tuple ⟨o, q, h1, n, h2⟩ (by omega) ?_
    have : (!vs.isEmpty) = (D.tup ds).truth := by
      show (!vs.isEmpty) = !ds.isEmpty
      rw [← isE_len l.length]; simp
    rw [this]
    exact PostT.tok S (by omega)
  | dic ds =>
    obtain ⟨a, o, es, ep, ks, rfl, ns, q, hx, hd, z, rk, nd, rfl⟩ := r.dic_inv S.sub
    obtain ⟨kvs, dd, e1, e2⟩ := dictOf (P := X.prog) q hx hd rk nd
    have hlen : kvs.length = ks.length := by have := congrArg List.length e1; simpa using this
    have hes : es.size = ks.length := by simpa using rk.length
    refine wpAny_truthy_dict ns dd (by omega) ?_
    have : (!kvs.isEmpty) = (D.dic (ks.map fun p => (keyD p.1, p.2))).truth := by
      show (!kvs.isEmpty) = !(ks.map fun p => (keyD p.1, p.2)).isEmpty
      rw [isE_len (xs := kvs) (ys := ks.map fun p => (keyD p.1, p.2)) (by simpa using hlen)]
    rw [this]
    exact PostT.tok S (by omega)
/-- any expression whose test is its value's truth -/
theorem pdt_tru (h : PD X a da) (he : ∀ whole, isTrue a X.env whole = (do let v ← whole; standAt a.pos; holding [v] (truthy v)) := by intro _; rfl) : PDT X a (dTru da) := by
  refine ⟨fun c o S hd kx => ?_⟩
  refine isTrue_plain (h.go S hd kx fun r c1 v f S1 ro hk => ?_) (he _)
  obtain ⟨F1, f1, S2, w, _, _⟩ := ro.froze f S1
  cases hk
  exact thn (tru_ok (c := { c1 with F := F1 }) S2 w.view) fun _ _ q => PostT.from f1 q
theorem pdt_cmp {op : CmpOp} {f : D → D → Option Res} (ho : OpD X (compareOp op) f) (ha : PD X a da) (hb : PD X b db) (hm : behindInMarks op b = false) : PDT X (.Compare a [op] [b] pos) (dB (dBin f da db)) := by
  refine ⟨fun c o S hd kx => ?_⟩
  have hd' : obind (da c.ρ) (fun x ρ1 => obind (db ρ1) fun y ρ2 => match f x.d y.d with | some z => (match z.d with | .bl b => some (.ok b ρ2) | _ => none) | none => none) = some o := by
    rw [← hd]
    unfold dB dBin
    cases da c.ρ with
    | none => rfl
    | some q => cases q with
      | ex _ _ => rfl
      | ok x ρ1 =>
        simp only [obind_ok]
        cases db ρ1 with
        | none => rfl
        | some q => cases q with
          | ex _ _ => rfl
          | ok y ρ2 =>
            simp only [obind_ok]
            cases f x.d y.d <;> rfl
  refine wpAny_isTrue_Compare1 (two (Q := fun u v s2 => wpAny (model X.prog X.w) X.A (compareOp op u v) (fun c' s3 => wpAny (model X.prog X.w) X.A (truthy c') (PostT X c o) X.xe s3) X.xe s2) ha hb S hd' kx fun x y c1 u v f1 S1 r1 r2 hk => ?_) hm
  cases hz : f x.d y.d with
  | none => rw [hz] at hk; cases hk
  | some z =>
    rw [hz] at hk
    have hk : (match z.d with | .bl b => some (O.ok b c1.ρ) | _ => none) = some o := hk
    refine thn (ho c1 u v _ _ z S1 r1 r2 hz) fun v' s3 ⟨r, c2, e, eo, f2, S2, ro⟩ => ?_
    subst e
    injection eo with eo1 eo2
    subst eo1
    obtain ⟨F3, f3, S3, w3, _, _⟩ := ro.froze f2 S2
    have zd : ∃ b, z.d = .bl b ∧ o = .ok b c1.ρ := by
      cases h : z.d with
      | bl b => rw [h] at hk; cases hk; exact ⟨b, rfl, rfl⟩
      | _ => rw [h] at hk; cases hk
    obtain ⟨b, e1, e2⟩ := zd
    rw [e1] at w3
    obtain rfl := w3.view (c := { c2 with F := F3 }).bl_inv
    subst e2
    refine wpAny_truthy_bool ⟨{ c2 with F := F3 }, rfl, ?_, f1.trans f3, S3⟩
    rw [eo2]
theorem pd_cmp {op : CmpOp} {f : D → D → Option Res} (ho : OpD X (compareOp op) f) (ha : PD X a da) (hb : PD X b db) (hm : behindInMarks op b = false) : PD X (.Compare a [op] [b] pos) (dBin f da db) := by
  refine ⟨fun c o S hd kx => ?_⟩
  refine wpAny_Compare1 (two (k := fun x y ρ2 => match f x.d y.d with | some z => some (.ok z ρ2) | none => none) (Q := fun u v s2 => wpAny (model X.prog X.w) X.A (compareOp op u v) (PostE X c o) X.xe s2) ha hb S hd kx fun x y c1 u v f1 S1 r1 r2 hk => ?_) hm
  cases hz : f x.d y.d with
  | none => rw [hz] at hk; cases hk
  | some z =>
    rw [hz] at hk; cases hk
    exact thn (ho c1 u v _ _ z S1 r1 r2 hz) fun _ _ q => PostE.from f1 q
def dNotT (t : DT) : DT := fun ρ => obind (t ρ) fun b ρ1 => some (.ok (!b) ρ1)
def dAndT (t u : DT) : DT := fun ρ => obind (t ρ) fun b ρ1 => if b = true then u ρ1 else some (.ok false ρ1)
def dOrT (t u : DT) : DT := fun ρ => obind (t ρ) fun b ρ1 => if b = true then some (.ok true ρ1) else u ρ1
def dIf (t : DT) (a b : DE) : DE := fun ρ => obind (t ρ) fun c ρ1 => if c = true then a ρ1 else b ρ1
/-- and, or of values of which all but the last are True or False -/
def dAndV (a b : DE) : DE := fun ρ => obind (a ρ) fun r ρ1 => match r.d with
  | .bl c => if c = true then b ρ1 else some (.ok (.val (.bl false)) ρ1)
  | _ => none
def dOrV (a b : DE) : DE := fun ρ => obind (a ρ) fun r ρ1 => match r.d with
  | .bl c => if c = true then some (.ok (.val (.bl true)) ρ1) else b ρ1
  | _ => none
def dNotV (a : DE) : DE := fun ρ => obind (a ρ) fun r ρ1 => some (.ok (.val (.bl (!r.d.truth))) ρ1)
theorem pdt_not (h : PDT X a ta) : PDT X (.UnaryOp .Not a pos) (dNotT ta) := by
  refine ⟨fun c o S hd kx => ?_⟩
  exact isTrue_not (h.go S hd kx fun b c1 f S1 hk => by cases hk; exact ⟨c1, rfl, rfl, f, S1⟩)
theorem pdw_and1 (ha : PDT X a ta) : PDW X (.BoolOp .And [a] pos) ta := by
  refine ⟨fun wh c o S hd kx => ?_⟩
  refine isTrue_and (thn (ha.run c o S hd kx) fun b s1 e => ?_)
  cases b with
  | true => exact isTrue_and_nil e
  | false => exact e
theorem pdw_or1 (ha : PDT X a ta) : PDW X (.BoolOp .Or [a] pos) ta := by
  refine ⟨fun wh c o S hd kx => ?_⟩
  refine isTrue_or (thn (ha.run c o S hd kx) fun b s1 e => ?_)
  cases b with
  | false => exact isTrue_or_nil e
  | true => exact e
theorem pdw_and (ha : PDT X a ta) (hb : PDW X (.BoolOp .And (b :: rest) pos) tb) : PDW X (.BoolOp .And (a :: b :: rest) pos) (dAndT ta tb) := by
  refine ⟨fun wh c o S hd kx => ?_⟩
  refine isTrue_and (ha.go S hd kx fun b c1 f S1 hk => ?_)
  cases b with
  | true => exact thn (hb.run wh c1 o S1 hk (f.toFrB.kx kx)) fun _ _ q => PostT.from f q
  | false => cases hk; exact ⟨c1, rfl, rfl, f, S1⟩
theorem pdw_or (ha : PDT X a ta) (hb : PDW X (.BoolOp .Or (b :: rest) pos) tb) : PDW X (.BoolOp .Or (a :: b :: rest) pos) (dOrT ta tb) := by
  refine ⟨fun wh c o S hd kx => ?_⟩
  refine isTrue_or (ha.go S hd kx fun b c1 f S1 hk => ?_)
  cases b with
  | false => exact thn (hb.run wh c1 o S1 hk (f.toFrB.kx kx)) fun _ _ q => PostT.from f q
  | true => cases hk; exact ⟨c1, rfl, rfl, f, S1⟩
theorem pd_ifExp {t : Expr} (ht : PDT X t tc) (ha : PD X a da) (hb : PD X b db) : PD X (.IfExp t a b pos) (dIf tc da db) := by
  refine ⟨fun c o S hd kx => ?_⟩
  refine wpAny_IfExp (ht.go S hd kx fun k c1 f S1 hk => ?_)
  cases k with
  | true => exact thn (ha.run c1 o S1 hk (f.toFrB.kx kx)) fun _ _ q => PostE.from f q
  | false => exact thn (hb.run c1 o S1 hk (f.toFrB.kx kx)) fun _ _ q => PostE.from f q
theorem pd_one {op} (h : PD X a da) : PD X (.BoolOp op [a] pos) da := ⟨fun c o S hd kx => BoolOp_one (h.run c o S hd kx)⟩
theorem pd_and (ha : PD X a da) (hb : PD X (.BoolOp .And (b :: rest) pos) db) : PD X (.BoolOp .And (a :: b :: rest) pos) (dAndV da db) := by
  refine ⟨fun c o S hd kx => ?_⟩
  refine BoolOp_and (ha.go S hd kx fun r c1 v f S1 ro hk => ?_)
  obtain ⟨F1, f1, S2, w, _, _⟩ := ro.froze f S1
  cases h : r.d with
  | bl k =>
    rw [h] at hk w
    obtain rfl := w.bl_inv
    refine wpAny_truthy_bool ?_
    cases k with
    | true => exact thn (hb.run { c1 with F := F1 } o S2 hk (f1.toFrB.kx kx)) fun _ _ q => PostE.from f1 q
    | false => cases hk; exact ⟨_, { c1 with F := F1 }, rfl, rfl, f1, S2, .bl false⟩
  | _ => rw [h] at hk; cases hk
theorem pd_or (ha : PD X a da) (hb : PD X (.BoolOp .Or (b :: rest) pos) db) : PD X (.BoolOp .Or (a :: b :: rest) pos) (dOrV da db) := by
  refine ⟨fun c o S hd kx => ?_⟩
  refine BoolOp_or (ha.go S hd kx fun r c1 v f S1 ro hk => ?_)
  obtain ⟨F1, f1, S2, w, _, _⟩ := ro.froze f S1
  cases h : r.d with
  | bl k =>
    rw [h] at hk w
    obtain rfl := w.bl_inv
    refine wpAny_truthy_bool ?_
    cases k with
    | false => exact thn (hb.run { c1 with F := F1 } o S2 hk (f1.toFrB.kx kx)) fun _ _ q => PostE.from f1 q
    | true => cases hk; exact ⟨_, { c1 with F := F1 }, rfl, rfl, f1, S2, .bl true⟩
  | _ => rw [h] at hk; cases hk
theorem pd_not (ha : PD X a da) : PD X (.UnaryOp .Not a pos) (dNotV da) := by
  refine ⟨fun c o S hd kx => ?_⟩
  refine UnaryOp_ (ha.go S hd kx fun r c1 v f S1 ro hk => ?_)
  obtain ⟨F1, f1, S2, w, _, _⟩ := ro.froze f S1
  cases hk
  refine not_of (thn (tru_ok (c := { c1 with F := F1 }) S2 w.view) fun b s3 ⟨c3, e, eo, f3, S3⟩ => ?_)
  subst e
  injection eo with e1 e2
  subst e1
  exact ⟨.val (.bl (!r.d.truth)), c3, rfl, by rw [← e2], f1.trans f3, S3, Rep.bl _⟩
end
end GB
/-! Operands that are looked at (a name's own list is not put away), comparisons, chains, subscripts, slices, displays, arguments. -/
namespace GB
open PySem PySem.Spec PyProof.Rows
open L2 (Key keyH keyIs mixKind Mod Look Vis Loc frs thn)
section
variable {X : Cx} {c c0 c1 c2 : Cf} {a b e : Expr} {rest : List Expr} {da db dc : DE} {ta tb tc : DT} {pos : Pos}
/-- what a name holds now -/
def Rho.at (ρ : Rho) (i : Nat) : Option D := match ρ[i]? with
  | some (.val d) => some d
  | some (.own d) => some d
  | some (.par d) => some d
  | _ => none
theorem SR.look (S : SR X c) {i : Nat} {x : Str} {d : D} (hN : X.N[i]? = some x) (h : c.ρ.at i = some d) : ∃ m u, c.s.heap.Ns X.env.locals m ∧ Look X.env c.s.heap m x u ∧ View X.w c u d := by
  obtain ⟨m, hm, sl⟩ := S.loc
  unfold Rho.at at h
  split at h
  · rename_i e; cases h
    obtain ⟨u, l, r⟩ := sl i x _ hN e
    exact ⟨m, u, hm, l, r.view⟩
  · rename_i e; cases h
    obtain ⟨l, oa, _⟩ := sl i x _ hN e
    obtain ⟨o, q, r⟩ := oa.ob
    exact ⟨m, _, hm, l, .inr ⟨_, o, rfl, oa.ns, q, r, oa.mu⟩⟩
  · rename_i e; cases h
    obtain ⟨l, oa, _⟩ := sl i x _ hN e
    obtain ⟨o, q, r⟩ := oa.ob
    exact ⟨m, _, hm, l, .inr ⟨_, o, rfl, oa.ns, q, r, oa.mu⟩⟩
  · cases h
/-! ### an operand that is used at once -/
abbrev DV := Rho → Option (O D)
def PostV (X : Cx) (c : Cf) (o : O D) (v : Value) (s' : Shared) : Prop := ∃ d c', c'.s = s' ∧ o = .ok d c'.ρ ∧ Fr X c c' ∧ SR X c' ∧ View X.w c' v d
structure PV (X : Cx) (e : Expr) (p : DV) : Prop where
  run : ∀ (c : Cf) (o : O D), SR X c → p c.ρ = some o → KX X c o → wpAny (model X.prog X.w) X.A (eval e X.env) (PostV X c o) X.xe c.s
def dSee (d : DE) : DV := fun ρ => obind (d ρ) fun r ρ1 => some (.ok r.d ρ1)
def dLookAt (i : Nat) : DV := fun ρ => match ρ.at i with
  | some d => some (.ok d ρ)
  | none => none
theorem pv_of (h : PD X e da) : PV X e (dSee da) := by
  refine ⟨fun c o S hd kx => ?_⟩
  refine h.go S hd kx fun r c1 v f S1 ro hk => ?_
  obtain ⟨F1, f1, S2, w, _, _⟩ := ro.froze f S1
  cases hk
  exact ⟨_, { c1 with F := F1 }, rfl, rfl, f1, S2, w.view⟩
theorem pv_var (i : Nat) {x : Str} (hN : X.N[i]? = some x := by rfl) (hd : (x == ("__debug__" : Str)) = false := by decide) (hcd : (x == ("__classdict__" : Str)) = false := by decide) : PV X (.Name x pos) (dLookAt i) := by
  refine ⟨fun c o S h _ => ?_⟩
  unfold dLookAt at h
  cases q : c.ρ.at i with
  | none => rw [q] at h; cases h
  | some d =>
    rw [q] at h; cases h
    obtain ⟨m, u, hm, l, r⟩ := S.look hN q
    exact S.name hm l ⟨d, c, rfl, rfl, Fr.refl, S, r⟩ hd hcd
theorem PV.go {p : DV} {β : Type} {k : D → Rho → Option (O β)} {o : O β} {Q : Value → Shared → Prop} (h : PV X e p) (S : SR X c) (hd : obind (p c.ρ) k = some o) (kx : KX X c o)
    (hq : ∀ d c1 v, Fr X c c1 → SR X c1 → View X.w c1 v d → k d c1.ρ = some o → Q v c1.s) : wpAny (model X.prog X.w) X.A (eval e X.env) Q X.xe c.s := by
  rcases obind_some hd with ⟨r, ρ1, e1, hd1⟩ | ⟨x, ρ1, e1, rfl⟩
  · refine thn (h.run c _ S e1 trivial) fun v s1 ⟨r', c1, q, eo, f, S1, ro⟩ => ?_
    cases eo
    subst q
    exact hq _ c1 v f S1 ro hd1
  · refine thn (h.run c _ S e1 kx) fun v s1 ⟨r', c1, q, eo, f, S1, ro⟩ => ?_
    cases eo
/-! ### an operand that is used behind another one -/
inductive LV where
  | val (d : D)
  | nm (i : Nat)
def LV.res (ρ : Rho) : LV → Option D
  | .val d => some d
  | .nm i => ρ.at i
abbrev DL := Rho → Option (O LV)
def Late (X : Cx) (c : Cf) (v : Value) : LV → Prop
  | .val d => WRep X.w c.F c.s.toks v d
  | .nm i => v = .ref (c.α i) ∧ i < X.N.length ∧ ∀ d, c.ρ[i]? ≠ some (.val d)
theorem Late.keep {v : Value} {l : LV} (h : Late X c v l) (f : Fr X c c1) (S : SR X c1) {d : D} (hl : l.res c1.ρ = some d) (nv : ∀ i, l = .nm i → ∀ d, c1.ρ[i]? ≠ some (.val d)) : View X.w c1 v d := by
  cases l with
  | val d' => cases hl; exact View.keep f h
  | nm i =>
    obtain ⟨rfl, hi, _⟩ := h
    have hl : c1.ρ.at i = some d := hl
    have hx : X.N[i]? = some X.N[i] := by simp [hi]
    obtain ⟨m, hm, sl⟩ := S.loc
    unfold Rho.at at hl
    rw [← f.al]
    split at hl
    · rename_i e; exact absurd e (nv i rfl _)
    · rename_i e; cases hl
      obtain ⟨l, oa, _⟩ := sl i _ _ hx e
      obtain ⟨o, q, r⟩ := oa.ob
      exact .inr ⟨_, o, rfl, oa.ns, q, r, oa.mu⟩
    · rename_i e; cases hl
      obtain ⟨l, oa, _⟩ := sl i _ _ hx e
      obtain ⟨o, q, r⟩ := oa.ob
      exact .inr ⟨_, o, rfl, oa.ns, q, r, oa.mu⟩
    · cases hl
def PostL (X : Cx) (c : Cf) (o : O LV) (v : Value) (s' : Shared) : Prop := ∃ l c', c'.s = s' ∧ o = .ok l c'.ρ ∧ Fr X c c' ∧ SR X c' ∧ Late X c' v l
structure PL (X : Cx) (e : Expr) (p : DL) : Prop where
  run : ∀ (c : Cf) (o : O LV), SR X c → p c.ρ = some o → KX X c o → wpAny (model X.prog X.w) X.A (eval e X.env) (PostL X c o) X.xe c.s
def dLate (d : DE) : DL := fun ρ => obind (d ρ) fun r ρ1 => some (.ok (.val r.d) ρ1)
def dLateAt (i : Nat) : DL := fun ρ => match ρ[i]? with
  | some (.val d) => some (.ok (.val d) ρ)
  | some (.own _) => some (.ok (.nm i) ρ)
  | some (.par _) => some (.ok (.nm i) ρ)
  | _ => none
theorem pl_of (h : PD X e da) : PL X e (dLate da) := by
  refine ⟨fun c o S hd kx => ?_⟩
  refine h.go S hd kx fun r c1 v f S1 ro hk => ?_
  obtain ⟨F1, f1, S2, w, _, _⟩ := ro.froze f S1
  cases hk
  exact ⟨_, { c1 with F := F1 }, rfl, rfl, f1, S2, w⟩
theorem pl_var (i : Nat) {x : Str} (hN : X.N[i]? = some x := by rfl) (hd : (x == ("__debug__" : Str)) = false := by decide) (hcd : (x == ("__classdict__" : Str)) = false := by decide) : PL X (.Name x pos) (dLateAt i) := by
  refine ⟨fun c o S h _ => ?_⟩
  have hi : i < X.N.length := (List.getElem?_eq_some_iff.mp hN).1
  obtain ⟨m, hm, sl⟩ := S.loc
  unfold dLateAt at h
  split at h
  · rename_i e; cases h
    obtain ⟨u, l, r⟩ := sl i x _ hN e
    exact S.name hm l ⟨_, c, rfl, rfl, Fr.refl, S, .inl r⟩ hd hcd
  · rename_i e; cases h
    obtain ⟨l, oa, _⟩ := sl i x _ hN e
    exact S.name hm l ⟨_, c, rfl, rfl, Fr.refl, S, rfl, hi, fun d q => by rw [e] at q; cases q⟩ hd hcd
  · rename_i e; cases h
    obtain ⟨l, oa, _⟩ := sl i x _ hN e
    exact S.name hm l ⟨_, c, rfl, rfl, Fr.refl, S, rfl, hi, fun d q => by rw [e] at q; cases q⟩ hd hcd
  · cases h
theorem PL.go {p : DL} {β : Type} {k : LV → Rho → Option (O β)} {o : O β} {Q : Value → Shared → Prop} (h : PL X e p) (S : SR X c) (hd : obind (p c.ρ) k = some o) (kx : KX X c o)
    (hq : ∀ d c1 v, Fr X c c1 → SR X c1 → Late X c1 v d → k d c1.ρ = some o → Q v c1.s) : wpAny (model X.prog X.w) X.A (eval e X.env) Q X.xe c.s := by
  rcases obind_some hd with ⟨r, ρ1, e1, hd1⟩ | ⟨x, ρ1, e1, rfl⟩
  · refine thn (h.run c _ S e1 trivial) fun v s1 ⟨r', c1, q, eo, f, S1, ro⟩ => ?_
    cases eo
    subst q
    exact hq _ c1 v f S1 ro hd1
  · refine thn (h.run c _ S e1 kx) fun v s1 ⟨r', c1, q, eo, f, S1, ro⟩ => ?_
    cases eo
/-- the value behind: what it was, or what the name's list is now -/
def LV.now (ρ : Rho) : LV → Option D
  | .val d => some d
  | .nm i => match ρ[i]? with
    | some (.own d) => some d
    | some (.par d) => some d
    | _ => none
theorem Late.now {v : Value} {l : LV} (h : Late X c v l) (f : Fr X c c1) (S : SR X c1) {d : D} (hl : l.now c1.ρ = some d) : View X.w c1 v d := by
  cases l with
  | val d' => cases hl; exact View.keep f h
  | nm i =>
    have hl : (match c1.ρ[i]? with | some (.own d) => some d | some (.par d) => some d | _ => none) = some d := hl
    refine h.keep f S (d := d) ?_ fun j ej d' q => ?_
    · show c1.ρ.at i = some d
      unfold Rho.at
      split at hl <;> rename_i e <;> first | (rw [e]; exact hl) | cases hl
    · cases ej
      rw [q] at hl; cases hl
/-! ### two operands that are looked at -/
def dOp2 (f : D → D → Option Res) (l : DL) (p : DV) : DE := fun ρ => obind (l ρ) fun x ρ1 => obind (p ρ1) fun y ρ2 => match x.now ρ2 with
  | some d => (match f d y with
    | some z => some (.ok z ρ2)
    | none => none)
  | none => none
theorem twoV {l : DL} {p : DV} {β : Type} {k : D → D → Rho → Option (O β)} {o : O β} {Q : Value → Value → Shared → Prop} (ha : PL X a l) (hb : PV X b p) (S : SR X c)
    (hd : obind (l c.ρ) (fun x ρ1 => obind (p ρ1) fun y ρ2 => match x.now ρ2 with | some d => k d y ρ2 | none => none) = some o) (kx : KX X c o)
    (hq : ∀ x y c1 u v, Fr X c c1 → SR X c1 → View X.w c1 u x → View X.w c1 v y → k x y c1.ρ = some o → Q u v c1.s) :
    wpAny (model X.prog X.w) X.A (eval a X.env) (fun u s1 => wpAny (model X.prog X.w) X.A (eval b X.env) (fun v s2 => Q u v s2) X.xe s1) X.xe c.s := by
  refine ha.go S hd kx fun x c1 u f1 S1 r1 hd1 => ?_
  refine hb.go S1 hd1 (f1.toFrB.kx kx) fun y c2 v f2 S2 r2 hd2 => ?_
  cases h : x.now c2.ρ with
  | none => rw [h] at hd2; cases hd2
  | some d =>
    rw [h] at hd2
    exact hq d y c2 u v (f1.trans f2) S2 (r1.now f2 S2 h) r2 hd2
theorem pd_cmpV {op : CmpOp} {f : D → D → Option Res} {l : DL} {p : DV} (ho : OpD X (compareOp op) f) (ha : PL X a l) (hb : PV X b p) (hm : behindInMarks op b = false) : PD X (.Compare a [op] [b] pos) (dOp2 f l p) := by
  refine ⟨fun c o S hd kx => ?_⟩
  refine wpAny_Compare1 (twoV (k := fun x y ρ2 => match f x y with | some z => some (.ok z ρ2) | none => none) (Q := fun u v s2 => wpAny (model X.prog X.w) X.A (compareOp op u v) (PostE X c o) X.xe s2) ha hb S hd kx fun x y c1 u v f1 S1 r1 r2 hk => ?_) hm
  cases hz : f x y with
  | none => rw [hz] at hk; cases hk
  | some z =>
    rw [hz] at hk; cases hk
    exact thn (ho c1 u v _ _ z S1 r1 r2 hz) fun _ _ q => PostE.from f1 q
def dTst (f : D → D → Option Res) (l : DL) (p : DV) : DT := fun ρ => obind (l ρ) fun x ρ1 => obind (p ρ1) fun y ρ2 => match x.now ρ2 with
  | some d => (match f d y with
    | some (.val (.bl b)) => some (.ok b ρ2)
    | _ => none)
  | none => none
theorem cmp_tst {op : CmpOp} {f : D → D → Option Res} {o : O Bool} {u v : Value} {x y : D} (ho : OpD X (compareOp op) f) (f1 : Fr X c c1) (S1 : SR X c1) (r1 : View X.w c1 u x) (r2 : View X.w c1 v y)
    (hk : (match f x y with | some (.val (.bl b)) => some (.ok b c1.ρ) | _ => none) = some o) : wpAny (model X.prog X.w) X.A (compareOp op u v) (fun c' s3 => wpAny (model X.prog X.w) X.A (truthy c') (PostT X c o) X.xe s3) X.xe c1.s := by
  cases hz : f x y with
  | none => rw [hz] at hk; cases hk
  | some z =>
    rw [hz] at hk
    have zd : ∃ b, z = .val (.bl b) ∧ o = .ok b c1.ρ := by
      cases z with
      | val d => cases d with
        | bl b => cases hk; exact ⟨b, rfl, rfl⟩
        | _ => cases hk
      | _ => cases hk
    obtain ⟨b, rfl, rfl⟩ := zd
    refine thn (ho c1 u v _ _ _ S1 r1 r2 hz) fun v' s3 ⟨r, c2, e, eo, f2, S2, ro⟩ => ?_
    subst e
    injection eo with eo1 eo2
    subst eo1
    have ro : Rep X.w c2.F c2.s.toks v' (.bl b) := ro
    obtain rfl := ro.w.bl_inv
    refine wpAny_truthy_bool ⟨c2, rfl, ?_, f1.trans f2, S2⟩
    rw [eo2]
theorem pdt_cmpV {op : CmpOp} {f : D → D → Option Res} {l : DL} {p : DV} (ho : OpD X (compareOp op) f) (ha : PL X a l) (hb : PV X b p) (hm : behindInMarks op b = false) : PDT X (.Compare a [op] [b] pos) (dTst f l p) := by
  refine ⟨fun c o S hd kx => ?_⟩
  exact wpAny_isTrue_Compare1 (twoV (k := fun x y ρ2 => match f x y with | some (.val (.bl b)) => some (.ok b ρ2) | _ => none) (Q := fun u v s2 => wpAny (model X.prog X.w) X.A (compareOp op u v) (fun c' s3 => wpAny (model X.prog X.w) X.A (truthy c') (PostT X c o) X.xe s3) X.xe s2)
    ha hb S hd kx fun x y c1 u v f1 S1 r1 r2 hk => cmp_tst ho f1 S1 r1 r2 hk) hm
/-- a op1 b op2 e -/
def dChain (f g : D → D → Option Res) (a b : DL) (e : DV) : DT := fun ρ => obind (a ρ) fun x ρ1 => obind (b ρ1) fun y ρ2 => match x.now ρ2, y.now ρ2 with
  | some d, some d' => (match f d d' with
    | some (.val (.bl true)) => obind (e ρ2) fun z ρ3 => (match y.now ρ3 with
      | some d2 => (match g d2 z with
        | some (.val (.bl w)) => some (.ok w ρ3)
        | _ => none)
      | none => none)
    | some (.val (.bl false)) => some (.ok false ρ2)
    | _ => none)
  | _, _ => none
theorem pdt_chain {op op' : CmpOp} {f g : D → D → Option Res} {l1 l2 : DL} {p : DV} {e3 : Expr} (ho : OpD X (compareOp op) f) (ho' : OpD X (compareOp op') g) (ha : PL X a l1) (hb : PL X b l2) (he : PV X e3 p)
    (hm : lastMarks [op, op'] [b, e3] = false := by with_unfolding_all rfl) : PDT X (.Compare a [op, op'] [b, e3] pos) (dChain f g l1 l2 p) := by
  refine ⟨fun c o S hd kx => ?_⟩
  refine isTrue_chain (ha.go S hd kx fun x c1 u f1 S1 r1 hd1 => test_link (hb.go S1 hd1 (f1.toFrB.kx kx) fun y c2 v f2 S2 r2 hd2 => ?_)) hm
  cases h1 : x.now c2.ρ with
  | none => rw [h1] at hd2; cases hd2
  | some d =>
    cases h2 : y.now c2.ρ with
    | none => rw [h1, h2] at hd2; cases hd2
    | some d' =>
      rw [h1, h2] at hd2
      dsimp only at hd2
      cases hz : f d d' with
      | none => rw [hz] at hd2; cases hd2
      | some z =>
        rw [hz] at hd2
        have zd : ∃ k, z = .val (.bl k) := by
          cases z with
          | val d => cases d with
            | bl b => exact ⟨b, rfl⟩
            | _ => cases hd2
          | _ => cases hd2
        obtain ⟨k, rfl⟩ := zd
        refine thn (ho c2 u v _ _ _ S2 (r1.now f2 S2 h1) (r2.now Fr.refl S2 h2) hz) fun v' s3 ⟨r, c3, e, eo, f3, S3, ro⟩ => ?_
        subst e
        injection eo with eo1 eo2
        subst eo1
        have ro : Rep X.w c3.F c3.s.toks v' (.bl k) := ro
        obtain rfl := ro.w.bl_inv
        refine wpAny_truthy_bool ?_
        have fa := (f1.trans f2).trans f3
        cases k with
        | false => cases hd2; exact ite_ff ⟨c3, rfl, by rw [eo2], fa, S3⟩
        | true =>
          have hd3 : obind (p c3.ρ) (fun z ρ3 => (match y.now ρ3 with | some d2 => (match g d2 z with | some (.val (.bl w)) => some (.ok w ρ3) | _ => none) | none => none)) = some o := by rw [← eo2]; exact hd2
          refine ite_tt (test_last (he.go S3 hd3 (fa.toFrB.kx kx) fun z c4 w' f4 S4 r4 hd4 => ?_))
          cases h4 : y.now c4.ρ with
          | none => rw [h4] at hd4; cases hd4
          | some d2 =>
            rw [h4] at hd4
            exact cmp_tst (c := c) ho' (fa.trans f4) S4 (r2.now (f3.trans f4) S4 h4) r4 hd4
/-- .. as a value -/
def dOfT (t : DT) : DE := fun ρ => obind (t ρ) fun b ρ1 => some (.ok (.val (.bl b)) ρ1)
theorem pd_chain {op op' : CmpOp} {f g : D → D → Option Res} {l1 l2 : DL} {p : DV} {e3 : Expr} (ho : OpD X (compareOp op) f) (ho' : OpD X (compareOp op') g) (ha : PL X a l1) (hb : PL X b l2) (he : PV X e3 p)
    (hm : lastMarks [op, op'] [b, e3] = false := by with_unfolding_all rfl) : PD X (.Compare a [op, op'] [b, e3] pos) (dOfT (dChain f g l1 l2 p)) := by
  refine ⟨fun c o S hdo kx => ?_⟩
  have hd : obind (l1 c.ρ) (fun x ρ1 => obind (l2 ρ1) fun y ρ2 => match x.now ρ2, y.now ρ2 with
      | some d, some d' => (match f d d' with
        | some (.val (.bl true)) => obind (p ρ2) fun z ρ3 => (match y.now ρ3 with
          | some d2 => (match g d2 z with
            | some (.val (.bl w)) => some (.ok (Res.val (.bl w)) ρ3)
            | _ => none)
          | none => none)
        | some (.val (.bl false)) => some (.ok (.val (.bl false)) ρ2)
        | _ => none)
      | _, _ => none) = some o := by
    rw [← hdo]
    unfold dOfT dChain
    cases l1 c.ρ with
    | none => rfl
    | some q => cases q with
      | ex _ _ => rfl
      | ok x ρ1 =>
        simp only [obind_ok]
        cases l2 ρ1 with
        | none => rfl
        | some q => cases q with
          | ex _ _ => rfl
          | ok y ρ2 =>
            simp only [obind_ok]
            cases x.now ρ2 with
            | none => rfl
            | some d => cases y.now ρ2 with
              | none => rfl
              | some d' =>
                dsimp only
                cases f d d' with
                | none => rfl
                | some z => cases z with
                  | fresh _ => rfl
                  | weak _ => rfl
                  | val z => cases z with
                    | bl k => cases k with
                      | false => rfl
                      | true =>
                        dsimp only
                        cases p ρ2 with
                        | none => rfl
                        | some q => cases q with
                          | ex _ _ => rfl
                          | ok z ρ3 =>
                            simp only [obind_ok]
                            cases y.now ρ3 with
                            | none => rfl
                            | some d2 =>
                              dsimp only
                              cases g d2 z with
                              | none => rfl
                              | some z => cases z with
                                | val z => cases z <;> rfl
                                | _ => rfl
                    | _ => rfl
  refine Compare_chain (ha.go S hd kx fun x c1 u f1 S1 r1 hd1 => chain_link (hb.go S1 hd1 (f1.toFrB.kx kx) fun y c2 v f2 S2 r2 hd2 => ?_)) hm
  cases h1 : x.now c2.ρ with
  | none => rw [h1] at hd2; cases hd2
  | some d =>
    cases h2 : y.now c2.ρ with
    | none => rw [h1, h2] at hd2; cases hd2
    | some d' =>
      rw [h1, h2] at hd2
      dsimp only at hd2
      cases hz : f d d' with
      | none => rw [hz] at hd2; cases hd2
      | some z =>
        rw [hz] at hd2
        have zd : ∃ k, z = .val (.bl k) := by
          cases z with
          | val d => cases d with
            | bl b => exact ⟨b, rfl⟩
            | _ => cases hd2
          | _ => cases hd2
        obtain ⟨k, rfl⟩ := zd
        refine thn (ho c2 u v _ _ _ S2 (r1.now f2 S2 h1) (r2.now Fr.refl S2 h2) hz) fun v' s3 ⟨r, c3, e, eo, f3, S3, ro⟩ => ?_
        subst e
        injection eo with eo1 eo2
        subst eo1
        have ro : Rep X.w c3.F c3.s.toks v' (.bl k) := ro
        obtain rfl := ro.w.bl_inv
        refine wpAny_truthy_bool ?_
        have fa := (f1.trans f2).trans f3
        cases k with
        | false => cases hd2; exact ite_ff ⟨.val (.bl false), c3, rfl, by rw [eo2], fa, S3, Rep.bl false⟩
        | true =>
          have hd3 : obind (p c3.ρ) (fun z ρ3 => (match y.now ρ3 with | some d2 => (match g d2 z with | some (.val (.bl w)) => some (.ok (Res.val (.bl w)) ρ3) | _ => none) | none => none)) = some o := by rw [← eo2]; exact hd2
          refine ite_tt (chain_last (he.go S3 hd3 (fa.toFrB.kx kx) fun z c4 w' f4 S4 r4 hd4 => ?_))
          cases h4 : y.now c4.ρ with
          | none => rw [h4] at hd4; cases hd4
          | some d2 =>
            rw [h4] at hd4
            dsimp only at hd4
            cases hg : g d2 z with
            | none => rw [hg] at hd4; cases hd4
            | some z' =>
              rw [hg] at hd4
              have zd : ∃ k, z' = .val (.bl k) ∧ o = .ok z' c4.ρ := by
                cases z' with
                | val d => cases d with
                  | bl b => cases hd4; exact ⟨b, rfl, rfl⟩
                  | _ => cases hd4
                | _ => cases hd4
              obtain ⟨k, rfl, rfl⟩ := zd
              exact thn (ho' c4 v w' _ _ _ S4 (r2.now (f3.trans f4) S4 h4) r4 hg) fun _ _ q => PostE.from (fa.trans f4) q
end
end GB
/-! Subscripts, slices, displays, argument lists. -/
namespace GB
open PySem PySem.Spec PyProof.Rows
open L2 (Key keyH keyIs mixKind Mod Look Vis Loc frs thn)
section
variable {X : Cx} {c c0 c1 c2 : Cf} {a b e : Expr} {es rest : List Expr} {da db dc : DE} {ta tb tc : DT} {pos : Pos}
/-! ### o[i] -/
def fIx : D → D → Option Res
  | .lst ds, .int i => (L2.atI ds i).map .val
  | .tup ds, .int i => (L2.atI ds i).map .val
  | .str s, .int i => (L2.atI s i).map fun k => .val (.str [k])
  | .dic ks, d => match d.key with
    | some k => (dLook ks k).map .val
    | none => none
  | _, _ => none
theorem RepL.atI {w : World} {F : FH} {T : Nat} {vs : List Value} {ds : List D} {i : Int} {d : D} (r : RepL w F T vs ds) (h : L2.atI ds i = some d) : ∃ v, L2.atI vs i = some v ∧ Rep w F T v d := by
  unfold L2.atI at h ⊢
  rw [r.length]
  cases q : L2.ixN ds.length i with
  | none => rw [q] at h; cases h
  | some j =>
    rw [q] at h
    exact r.get h
def PlainIx (b : Expr) : Prop := ∀ o i, subscripted b false o i = operate [o, i] (getItem o i)
theorem ix_ok {x y : Value} {d e' : D} {r : Res} (htz : 0 < X.tz) (S : SR X c) (r1 : View X.w c x d) (r2 : View X.w c y e') (h : fIx d e' = some r) (hs : PlainIx b) :
    wpAny (model X.prog X.w) X.A (subscriptTail a b x y) (PostE X c (.ok r c.ρ)) X.xe c.s := by
  have hn := line63
  cases d with
  | lst ds =>
    cases e' with
    | int i =>
      obtain ⟨t, rfl⟩ := r2.int_inv
      obtain ⟨p, vs, n, rfl, q, z, l⟩ := r1.lst_inv S.sub
      have h : (L2.atI ds i).map Res.val = some r := h
      obtain ⟨d, hd, rfl⟩ := Option.map_eq_some_iff.mp h
      obtain ⟨v, hv, rv⟩ := l.atI hd
      obtain ⟨j, h1, h2, h3, h4, h5⟩ := L2.atI_get hv
      have hl : vs.toList.length = vs.size := by simp
      rw [hl] at h1 h3 h4 h5
      have il : c.s.heap.IsList p vs := ⟨_, q, rfl, n, rfl⟩
      have fin : PostE X c (.ok (.val d) c.ρ) v c.s := PostE.val S rv
      by_cases h0 : 0 ≤ i
      · have hj : i.toNat = j := by
          rw [seqIndex_of h0 h5] at h1
          exact Option.some.inj h1
        exact item_listR il h0 (by omega) (by rw [hj]; simpa using h2) fin (hs _ _)
      · have hj : (i + (vs.size : Int)).toNat = j := by
          rw [seqIndex_neg (by omega) h4] at h1
          exact Option.some.inj h1
        exact subscriptTail_builtinR (x := v) il.typeIs slot_list_getitem.lookup
          (wpAny_getItem_list_neg (Q := fun r' s' => r' = v ∧ PostE X c (.ok (.val d) c.ρ) r' s') il (by omega) (by omega) (by omega) (by rw [hj]; simpa using h2) ⟨rfl, fin⟩) (hs _ _)
    | _ => cases h
  | tup ds =>
    cases e' with
    | int i =>
      obtain ⟨t, rfl⟩ := r2.int_inv
      obtain ⟨p, o, vs, n, rfl, q, hc, hd', z, l⟩ := r1.tup_inv S.sub
      have h : (L2.atI ds i).map Res.val = some r := h
      obtain ⟨d, hd, rfl⟩ := Option.map_eq_some_iff.mp h
      obtain ⟨v, hv, rv⟩ := l.atI hd
      obtain ⟨j, h1, h2, h3, h4, h5⟩ := L2.atI_get hv
      have hl : vs.toList.length = vs.size := by simp
      rw [hl] at h1 h3 h4 h5
      have il : IsTup c.s.heap p vs := ⟨_, q, hc, n, hd'⟩
      exact subscriptTail_builtinR (x := v) il.typeIs slot_tuple_getitem.lookup
        (getItem_tuple (j := j) (Q := fun r' s' => r' = v ∧ PostE X c (.ok (.val d) c.ρ) r' s') il (by omega) (by omega) h1 (by simpa using h2) ⟨rfl, PostE.val S rv⟩) (hs _ _)
    | _ => cases h
  | str s =>
    cases e' with
    | int i =>
      obtain ⟨t', rfl⟩ := r2.int_inv
      obtain ⟨t, rfl, z⟩ := r1.str_inv
      have h : (L2.atI s i).map (fun k => Res.val (.str [k])) = some r := h
      obtain ⟨k, hk, rfl⟩ := Option.map_eq_some_iff.mp h
      obtain ⟨j, h1, h2, h3, h4, h5⟩ := L2.atI_get hk
      exact tail_any (typeIs_str c.s (tx s) t) slot_str_getitem.lookup (getItem_str (c := k) (by
        have e1 : decide (i < -(2 ^ 63 : Int)) = false := decide_eq_false (by omega)
        have e2 : decide (i ≥ 2 ^ 63) = false := decide_eq_false (by omega)
        rw [e1, e2, Bool.or_false]) (by rw [tx_len, h1]; simpa [tx] using h2) (PostE.tok S (Nat.le_succ _) (.str [k] _ (Nat.ne_of_gt (S.tkp htz)) (Nat.lt_succ_self _) (Nat.le_trans (Nat.le_refl 1) (by decide))))) (hs _ _)
    | _ => cases h
  | dic ks =>
    have h : (match e'.key with | some k => (dLook ks k).map Res.val | none => none) = some r := h
    cases hk : e'.key with
    | none => rw [hk] at h; cases h
    | some k =>
      rw [hk] at h
      obtain ⟨d, hd, rfl⟩ := Option.map_eq_some_iff.mp h
      obtain ⟨p, o, es, ep, kz, rfl, ns, q, hx, hd', _, rk, nd, rfl⟩ := r1.dic_inv S.sub
      obtain ⟨kvs, dd, e1, e2⟩ := dictOf (P := X.prog) q hx hd' rk nd
      rcases valueAt_rep k e1 e2 with ⟨v1, v2⟩ | ⟨v, d', v1, v2, rv⟩
      · rw [v2] at hd; cases hd
      · rw [v2] at hd; cases hd
        exact tail_any dd.typeIs PySem.F.slot_dict_getitem.lookup (wpAny_getItem_of (r2.key hk) dd.mapOf v1 (PostE.tok S (Nat.le_succ _) (rv.mono (Sub.refl _) (Nat.le_succ _)))) (hs _ _)
  | _ => cases h
theorem pd_ix {l : DL} {p : DV} (ha : PL X a l) (hb : PV X b p) (hs : PlainIx b := by exact fun _ _ => rfl) (htz : 0 < X.tz := by exact Nat.zero_lt_one) : PD X (.Subscript a b pos) (dOp2 fIx l p) := by
  refine ⟨fun c o S hd kx => ?_⟩
  refine Subscript_ (twoV (k := fun x y ρ2 => match fIx x y with | some z => some (.ok z ρ2) | none => none) (Q := fun u v s2 => wpAny (model X.prog X.w) X.A (subscriptTail a b u v) (PostE X c o) X.xe s2) ha hb S hd kx fun x y c1 u v f1 S1 r1 r2 hk => ?_)
  cases hz : fIx x y with
  | none => rw [hz] at hk; cases hk
  | some z =>
    rw [hz] at hk; cases hk
    exact thn (ix_ok htz S1 r1 r2 hz hs) fun _ _ q => PostE.from f1 q
/-! ### slices -/
def cutL {α : Type} (xs : List α) (lo hi : Option Int) : List α := (xs.drop (HT.sIx xs.length 0 lo)).take (HT.sIx xs.length xs.length hi - HT.sIx xs.length 0 lo)
theorem RepL.cut {w : World} {F : FH} {T : Nat} {vs : List Value} {ds : List D} (r : RepL w F T vs ds) (lo hi : Option Int) : RepL w F T (cutL vs lo hi) (cutL ds lo hi) := by
  unfold cutL
  rw [r.length]
  exact (r.drop _).take _
theorem cutL_length {α : Type} (xs : List α) (lo hi : Option Int) : (cutL xs lo hi).length ≤ xs.length := by
  unfold cutL
  rw [List.length_take, List.length_drop]
  omega
theorem cutL_map {α β : Type} (g : α → β) (xs : List α) (lo hi : Option Int) : cutL (xs.map g) lo hi = (cutL xs lo hi).map g := by
  unfold cutL
  rw [List.length_map, ← List.map_drop, ← List.map_take]
theorem cutL_whole {α : Type} (xs : List α) (lo hi : Option Int) (h : HT.sIx xs.length 0 lo = 0 ∧ HT.sIx xs.length xs.length hi = xs.length) : cutL xs lo hi = xs := by
  unfold cutL
  rw [h.1, h.2]
  simp
theorem cutS_tx (s : List Nat) (lo hi : Option Int) : L2.cutS (tx s) lo hi = tx (cutL s lo hi) := by
  unfold L2.cutS cutL
  rw [tx_list, tx_len]
  rfl
abbrev DO := Rho → Option (O (Option Int))
def dNoO : DO := fun ρ => some (.ok none ρ)
def dSomeO (p : DV) : DO := fun ρ => obind (p ρ) fun r ρ1 => match r with
  | .int i => some (.ok (some i) ρ1)
  | _ => none
structure PO (X : Cx) (e : Option Expr) (d : DO) : Prop where
  run : ∀ (c : Cf) (o : O (Option Int)), SR X c → d c.ρ = some o → KX X c o → wpAny (model X.prog X.w) X.A (evalPart e X.env) (fun u s' => ∃ i c', c'.s = s' ∧ o = .ok i c'.ρ ∧ Fr X c c' ∧ SR X c' ∧ IsPart u i) X.xe c.s
theorem po_none : PO X none dNoO := by
  refine ⟨fun c o S hd _ => ?_⟩
  cases hd
  rw [evalPart_none]
  exact wpAny_pure ⟨none, c, rfl, rfl, Fr.refl, S, .none⟩
theorem po_some {p : DV} (h : PV X e p) : PO X (some e) (dSomeO p) := by
  refine ⟨fun c o S hd kx => ?_⟩
  rw [evalPart_some]
  refine h.go S hd kx fun d c1 v f S1 r hk => ?_
  cases d with
  | int i =>
    cases hk
    obtain ⟨t, rfl⟩ := r.int_inv
    exact ⟨some i, c1, rfl, rfl, f, S1, .int i t⟩
  | _ => cases hk
theorem PO.go {oe : Option Expr} {p : DO} {β : Type} {k : Option Int → Rho → Option (O β)} {o : O β} {Q : Value → Shared → Prop} (h : PO X oe p) (S : SR X c) (hd : obind (p c.ρ) k = some o) (kx : KX X c o)
    (hq : ∀ d c1 v, Fr X c c1 → SR X c1 → IsPart v d → k d c1.ρ = some o → Q v c1.s) : wpAny (model X.prog X.w) X.A (evalPart oe X.env) Q X.xe c.s := by
  rcases obind_some hd with ⟨r, ρ1, e1, hd1⟩ | ⟨x, ρ1, e1, rfl⟩
  · refine thn (h.run c _ S e1 trivial) fun v s1 ⟨r', c1, q, eo, f, S1, ro⟩ => ?_
    cases eo
    subst q
    exact hq _ c1 v f S1 ro hd1
  · refine thn (h.run c _ S e1 kx) fun v s1 ⟨r', c1, q, eo, f, S1, ro⟩ => ?_
    cases eo
/-- a text of any token is served as such -/
def fSl (lo hi : Option Int) : D → Option Res
  | .lst ds => some (.fresh (.lst (cutL ds lo hi)))
  | .tup ds => some (.val (.tup (cutL ds lo hi)))
  | .str s => some (.val (.str (cutL s lo hi)))
  | _ => none
/-- what is cut, held to its end: a value of good tokens, or a name -/
inductive GV where
  | val (d : D)
  | nm (i : Nat)
abbrev DG := Rho → Option (O LV)
/-- like PL, the texts of good tokens -/
def LateG (X : Cx) (c : Cf) (v : Value) : LV → Prop
  | .val d => Rep X.w c.F c.s.toks v d
  | .nm i => v = .ref (c.α i) ∧ i < X.N.length ∧ ∀ d, c.ρ[i]? ≠ some (.val d)
theorem LateG.late {v : Value} {l : LV} (h : LateG X c v l) : Late X c v l := by
  cases l with
  | val d => exact Rep.w h
  | nm i => exact h
structure PG (X : Cx) (e : Expr) (p : DL) : Prop where
  run : ∀ (c : Cf) (o : O LV), SR X c → p c.ρ = some o → KX X c o → wpAny (model X.prog X.w) X.A (eval e X.env) (fun v s' => ∃ l c', c'.s = s' ∧ o = .ok l c'.ρ ∧ Fr X c c' ∧ SR X c' ∧ LateG X c' v l) X.xe c.s
def dGood (d : DE) : DL := fun ρ => obind (d ρ) fun r ρ1 => if r.isWeak then none else some (.ok (.val r.d) ρ1)
theorem pg_of (h : PD X e da) : PG X e (dGood da) := by
  refine ⟨fun c o S hd kx => ?_⟩
  refine h.go S hd kx fun r c1 v f S1 ro hk => ?_
  obtain ⟨F1, f1, S2, _, w, _⟩ := ro.froze f S1
  by_cases z : r.isWeak = true
  · rw [if_pos z] at hk; cases hk
  · rw [if_neg z] at hk
    cases hk
    exact ⟨_, { c1 with F := F1 }, rfl, rfl, f1, S2, w (Res.nweak (by simpa using z))⟩
theorem pg_var (i : Nat) {x : Str} (hN : X.N[i]? = some x := by rfl) (hd : (x == ("__debug__" : Str)) = false := by decide) (hcd : (x == ("__classdict__" : Str)) = false := by decide) : PG X (.Name x pos) (dLateAt i) := by
  refine ⟨fun c o S h _ => ?_⟩
  have hi : i < X.N.length := (List.getElem?_eq_some_iff.mp hN).1
  obtain ⟨m, hm, sl⟩ := S.loc
  unfold dLateAt at h
  split at h
  · rename_i e; cases h
    obtain ⟨u, l, r⟩ := sl i x _ hN e
    exact S.name hm l ⟨_, c, rfl, rfl, Fr.refl, S, r⟩ hd hcd
  · rename_i e; cases h
    obtain ⟨l, oa, _⟩ := sl i x _ hN e
    exact S.name hm l ⟨_, c, rfl, rfl, Fr.refl, S, rfl, hi, fun d q => by rw [e] at q; cases q⟩ hd hcd
  · rename_i e; cases h
    obtain ⟨l, oa, _⟩ := sl i x _ hN e
    exact S.name hm l ⟨_, c, rfl, rfl, Fr.refl, S, rfl, hi, fun d q => by rw [e] at q; cases q⟩ hd hcd
  · cases h
theorem PG.go {p : DL} {β : Type} {k : LV → Rho → Option (O β)} {o : O β} {Q : Value → Shared → Prop} (h : PG X e p) (S : SR X c) (hd : obind (p c.ρ) k = some o) (kx : KX X c o)
    (hq : ∀ d c1 v, Fr X c c1 → SR X c1 → LateG X c1 v d → k d c1.ρ = some o → Q v c1.s) : wpAny (model X.prog X.w) X.A (eval e X.env) Q X.xe c.s := by
  rcases obind_some hd with ⟨r, ρ1, e1, hd1⟩ | ⟨x, ρ1, e1, rfl⟩
  · refine thn (h.run c _ S e1 trivial) fun v s1 ⟨r', c1, q, eo, f, S1, ro⟩ => ?_
    cases eo
    subst q
    exact hq _ c1 v f S1 ro hd1
  · refine thn (h.run c _ S e1 kx) fun v s1 ⟨r', c1, q, eo, f, S1, ro⟩ => ?_
    cases eo
/-- seen with good tokens -/
def ViewG (w : World) (c : Cf) (v : Value) (d : D) : Prop := Rep w c.F c.s.toks v d ∨ ∃ a o, v = .ref a ∧ (a == sysModules) = false ∧ c.s.heap.get? a = some o ∧ ObjIs w c.F c.s.toks o d ∧ d.isMut = true
theorem ViewG.view {w : World} {v : Value} {d : D} (h : ViewG w c v d) : View w c v d := h.elim (fun r => .inl (.inl r)) .inr
theorem ViewG.str_inv {w : World} {v : Value} {s : List Nat} (h : ViewG w c v (.str s)) : Rep w c.F c.s.toks v (.str s) := by
  rcases h with h | ⟨_, _, _, _, _, h, _⟩
  · exact h
  · cases h
theorem ViewG.tup_inv {w : World} {v : Value} {s : List D} (h : ViewG w c v (.tup s)) (S : ∀ b o, c.F b = some o → c.s.heap.get? b = some o) : View w c v (.tup s) := h.view
theorem LateG.now {v : Value} {l : LV} (h : LateG X c v l) (f : Fr X c c1) (S : SR X c1) {d : D} (hl : l.now c1.ρ = some d) : ViewG X.w c1 v d := by
  cases l with
  | val d' => cases hl; exact .inl (Rep.mono f.fm f.tk h)
  | nm i =>
    have v' := Late.now (h.late) f S hl
    obtain ⟨rfl, _, _⟩ := h
    rcases v' with (r | ⟨_, _, e, _⟩) | r
    · exact .inl r
    · cases e
    · exact .inr r
def dSl (a : DL) (lo hi : DO) : DE := fun ρ => obind (a ρ) fun x ρ1 => obind (lo ρ1) fun l ρ2 => obind (hi ρ2) fun h ρ3 => match x.now ρ3 with
  | some d => (match fSl l h d with
    | some z => some (.ok z ρ3)
    | none => none)
  | none => none
theorem sl_ok {v vl vu : Value} {lo hi : Option Int} {sl : Addr} {d : D} {r : Res} (htz : 0 < X.tz) (S : SR X c) (rv : ViewG X.w c v d) (hs : c.s.heap.IsSliceOf sl vl vu .none) (pl : IsPart vl lo) (pu : IsPart vu hi) (h : fSl lo hi d = some r) :
    ∃ T id, typeLookup (.type T) "__getitem__" = pure (some (.builtin id)) ∧ c.s.TypeIs v T ∧ wpAny (model X.prog X.w) X.A (getItem v (.ref sl)) (PostE X c (.ok r c.ρ)) X.xe c.s := by
  cases d with
  | lst ds =>
    cases h
    obtain ⟨a, vs, n, rfl, q, z, l⟩ := rv.view.lst_inv S.sub
    have il : c.s.heap.IsList a vs := ⟨_, q, rfl, n, rfl⟩
    refine ⟨"list", _, slot_list_getitem.lookup, il.typeIs, ?_⟩
    refine wpAny_getItem_list_slice il hs pl pu .none (by simp) ?_ z
    have e : slicePick vs lo hi none = (cutL vs.toList lo hi).toArray := by
      have := L2.slicePick_cut vs.toList lo hi
      rw [Array.toArray_toList] at this
      exact this
    rw [e]
    exact PostE.pushL S (Nat.le_refl _) (by rw [List.size_toArray]; exact Nat.le_trans (cutL_length _ _ _) (by simpa using z)) (by rw [List.toList_toArray]; exact l.cut lo hi)
  | tup ds =>
    cases h
    obtain ⟨a, o, vs, n, rfl, q, hc, hd, z, l⟩ := rv.view.tup_inv S.sub
    have il : IsTup c.s.heap a vs := ⟨_, q, hc, n, hd⟩
    refine ⟨"tuple", _, PyProof.Rows.slot_tuple_getitem.lookup, il.typeIs, ?_⟩
    have hlen : vs.size = ds.length := size_len l.length
    by_cases w : HT.sIx vs.size 0 lo = 0 ∧ HT.sIx vs.size vs.size hi = vs.size
    · refine L2.getItem_tuple_whole il hs pl pu w ?_
      rw [hlen] at w
      rw [cutL_whole ds lo hi w]
      rcases rv with r | ⟨a', o', e, ns, q', oi, mu⟩
      · exact PostE.val S r
      · cases mu
    · refine HT.getItem_tuple_cut il hs pl pu w ?_ z
      have e : (List.take (HT.sIx vs.size vs.size hi - HT.sIx vs.size 0 lo) (List.drop (HT.sIx vs.size 0 lo) vs.toList)).toArray = (cutL vs.toList lo hi).toArray := by unfold cutL; rw [Array.length_toList]
      rw [e]
      exact PostE.pushT S (Nat.le_refl _) (by rw [List.size_toArray]; exact Nat.le_trans (cutL_length _ _ _) (by simpa using z)) (by rw [List.toList_toArray]; exact l.cut lo hi)
  | str s =>
    cases h
    have rs := rv.str_inv
    obtain ⟨t, rfl, t1, t2, z⟩ := rs.str_inv
    obtain ⟨os, hos, hcs, hds⟩ := hs
    obtain ⟨l, rfl, rfl⟩ := L2.IsPart.raw pl
    obtain ⟨u, rfl, rfl⟩ := L2.IsPart.raw pu
    refine ⟨"str", _, PySem.F.slot_str_getitem.lookup, typeIs_str _ _ _, ?_⟩
    refine wpAny_getItem_str_slice (l := l) (u := u) (st := none) ⟨os, hos, hcs, hds⟩ rfl ?_
    have e := L2.sliceText_cut (tx s) (l.map (·.1)) (u.map (·.1))
    rw [cutS_tx] at e
    unfold PySem.StrLaws.sliceText at e
    show Made.post (if ((1 : Int) == 1 && (Builtin.Str.strSliceIndices (l.map (·.1)) (u.map (·.1)) 1 (tx s).length).length == (tx s).length) = true then Made.val (.str (tx s) t)
      else Made.str ⟨((Builtin.Str.strSliceIndices (l.map (·.1)) (u.map (·.1)) 1 (tx s).length).filterMap ((tx s).cps[·]?)).toArray⟩) _ c.s
    by_cases cc : ((1 : Int) == 1 && (Builtin.Str.strSliceIndices (l.map (·.1)) (u.map (·.1)) 1 (tx s).length).length == (tx s).length) = true
    · rw [if_pos cc] at e ⊢
      have e' : s = cutL s (l.map (·.1)) (u.map (·.1)) := tx_inj e
      rw [← e']
      exact PostE.val S rs
    · rw [if_neg cc] at e ⊢
      rw [e]
      have hz : (cutL s (l.map (·.1)) (u.map (·.1))).length ≤ sizeLine := Nat.le_trans (cutL_length _ _ _) z
      exact ⟨by rw [tx_len]; exact hz, PostE.tok S (Nat.le_succ _) (.str _ _ (Nat.ne_of_gt (S.tkp htz)) (Nat.lt_succ_self _) hz)⟩
  | _ => cases h
end
end GB
/-! A text gone through sign by sign, its tokens told; list(text), what a text is collected to; the end of slices; displays; argument lists. -/
namespace GB
open PySem PySem.Spec PyProof.Rows
open L2 (Key keyH keyIs mixKind Mod Look Vis Loc frs thn)
section
variable {prog : Program} {w : World} {A : Around} {E : Value → Shared → Prop} {s : Shared} {R : Result → Shared → Prop}
theorem next_sign {I : Addr} {x : Str} {t : Tok} {i c : Nat} {Q : Option Value → Shared → Prop} (hit : s.heap.IsStrIter I (strIterType x) x t i) (hx : x.cps[i]? = some c)
    (hQ : ∀ h', h'.IsStrIter I (strIterType x) x t (i + 1) → Heap.SameBut I s.heap h' → Q (some (.str ⟨#[c]⟩ s.toks)) { s with heap := h', toks := s.toks + 1 }) : wpAny (model prog w) A (pyNext (.ref I)) Q E s := by
  cases ha : x.cps.all (· < 128)
  · have e : strIterType x = "str_iterator" := by simp [strIterType, ha]
    rw [e] at hit hQ
    exact wpAny_pyNext_wide_item hit hx hQ
  · have e : strIterType x = "str_ascii_iterator" := by simp [strIterType, ha]
    rw [e] at hit hQ
    exact wpAny_pyNext_ascii_item hit hx hQ
theorem next_end {I : Addr} {x : Str} {t : Tok} {i : Nat} {Q : Option Value → Shared → Prop} (hh : A.handled = none) (hit : s.heap.IsStrIter I (strIterType x) x t i) (hx : x.cps[i]? = none)
    (hQ : ∀ h', Heap.ExtBut I s.heap h' → Q none { s with heap := h' }) : wpAny (model prog w) A (pyNext (.ref I)) Q E s := by
  cases ha : x.cps.all (· < 128)
  · have e : strIterType x = "str_iterator" := by simp [strIterType, ha]
    rw [e] at hit
    exact wpAny_pyNext_wide_end hh hit hx hQ
  · have e : strIterType x = "str_ascii_iterator" := by simp [strIterType, ha]
    rw [e] at hit
    exact wpAny_pyNext_ascii_end hh hit hx hQ
/-- the signs gone through so far, tokens from T0 below T -/
def Signs (x : Str) (T0 T : Nat) (acc : Array Value) (i : Nat) : Prop := acc.size = i ∧ ∀ (j : Nat) v, acc[j]? = some v → ∃ c u, x.cps[j]? = some c ∧ v = .str ⟨#[c]⟩ u ∧ T0 ≤ u ∧ u < T
theorem Signs.push {x : Str} {T0 T T' : Nat} {acc : Array Value} {i c : Nat} {u : Tok} (h : Signs x T0 T acc i) (hc : x.cps[i]? = some c) (h0 : T0 ≤ u) (h1 : u < T') (h2 : T ≤ T') : Signs x T0 T' (acc.push (.str ⟨#[c]⟩ u)) (i + 1) := by
  refine ⟨by rw [Array.size_push, h.1], fun j v e => ?_⟩
  rw [Array.getElem?_push] at e
  by_cases hj : j = acc.size
  · rw [if_pos hj] at e
    cases e
    exact ⟨c, u, by rw [hj, h.1]; exact hc, rfl, h0, h1⟩
  · rw [if_neg hj] at e
    obtain ⟨c', u', a1, a2, a3, a4⟩ := h.2 j v e
    exact ⟨c', u', a1, a2, a3, Nat.lt_of_lt_of_le a4 h2⟩
/-- the loop of list.extend over a text -/
theorem sign_loop (hh : A.handled = none) (x : Str) (t : Tok) (S I : Addr) (hSI : S ≠ I) (res : Value) (T0 : Nat) (hn : x.cps.size ≤ sizeLine) :
    ∀ (k i : Nat) (s : Shared) (acc : Array Value) (c : Nat), x.cps.size - i = k → i ≤ x.cps.size → s.heap.IsStrIter I (strIterType x) x t i → s.heap.get? S = some { cls := .type "list", dict := none, data := .seq acc c, slots := #[] } → Signs x T0 s.toks acc i → T0 ≤ s.toks →
    (∀ s' acc' c', (∀ b o, b ≠ S → b ≠ I → s.heap.get? b = some o → s'.heap.get? b = some o) → s'.gens = s.gens → s'.drawn = s.drawn → s'.os = s.os → s.toks ≤ s'.toks → s'.heap.get? S = some { cls := .type "list", dict := none, data := .seq acc' c', slots := #[] } → Signs x T0 s'.toks acc' x.cps.size → R (.ok (.ret res)) s') →
    codeAny (model prog w) A (.builtin "list.extend.loop" ⟨[.ref S, .ref I, res], []⟩) R s := by
  intro k
  induction k with
  | zero =>
    intro i s acc c hk hi hst hS hacc hT hR
    have hin : i = x.cps.size := by omega
    subst hin
    refine codeAny_builtin PySem.F.entry_extend_loop ?_
    rw [Around.under_plainId PySem.F.plain_extend_loop _]
    show wpAny _ A.in1 (pyNext (.ref I) >>= _) _ _ s
    refine wpAny_bind (next_end hh hst (by simp) fun h' hk' => ?_)
    exact wpAny_pure (hR { s with heap := h' } acc c (fun b o _ hb e => hk' b o hb e) rfl rfl rfl (Nat.le_refl _) (hk' S _ hSI hS) hacc)
  | succ k ih =>
    intro i s acc c hk hi hst hS hacc hT hR
    have hlt : i < x.cps.size := by omega
    refine codeAny_builtin PySem.F.entry_extend_loop ?_
    rw [Around.under_plainId PySem.F.plain_extend_loop _]
    show wpAny _ A.in1 (pyNext (.ref I) >>= _) _ _ s
    refine wpAny_bind (next_sign hst (c := x.cps[i]) (by simp [hlt]) fun h' hst' hk' => ?_)
    have hS' : h'.get? S = some { cls := .type "list", dict := none, data := .seq acc c, slots := #[] } := (hk'.2 S hSI).trans hS
    show wpAny _ A.in1 (updateSeq S (·.push (.str ⟨#[x.cps[i]]⟩ s.toks)) >>= _) _ _ _
    refine wpAny_bind ?_
    have hz1 : acc.size ≤ sizeLine := by rw [hacc.1]; omega
    have hz2 : (acc.push (.str ⟨#[x.cps[i]]⟩ s.toks)).size ≤ sizeLine + 1 := by rw [Array.size_push, hacc.1]; omega
    refine wpAny_updateSeq (s := { s with heap := h', toks := s.toks + 1 }) hS' rfl (wpAny_pure ⟨plainId_quiet PySem.F.plain_extend_loop _, ih (i + 1) _ (acc.push (.str ⟨#[x.cps[i]]⟩ s.toks)) _ (by omega) hlt ?_ (Heap.get?_update_self _ hS' rfl)
      (hacc.push (by simp [hlt]) hT (Nat.lt_succ_self _) (Nat.le_succ _)) (Nat.le_succ_of_le hT) fun s'' acc' c' hk'' g d o ht hS'' hacc' => ?_⟩) hz1 hz2
    · obtain ⟨ob, e, r⟩ := hst'
      exact ⟨ob, (Heap.get?_update_other _ _ hSI).trans e, r⟩
    · refine hR s'' acc' c' (fun b o hb hb' e => hk'' b o hb hb' ?_) g d o (Nat.le_trans (Nat.le_succ _) ht) hS'' hacc'
      exact (Heap.get?_update_other _ _ (Ne.symm hb)).trans ((hk'.2 b hb').trans e)
/-- what .extend of a text does to an empty list -/
theorem sign_extend (hh : A.handled = none) (x : Str) (t : Tok) (S : Addr) (res : Value) (c₀ : Nat) (hS : s.heap.get? S = some { cls := .type "list", data := .seq #[] c₀ })
    (hR : ∀ h' tk acc' c', (∀ b o, b ≠ S → s.heap.get? b = some o → h'.get? b = some o) → s.toks ≤ tk → h'.get? S = some { cls := .type "list", dict := none, data := .seq acc' c', slots := #[] } →
      Signs x s.toks tk acc' x.cps.size → R (.ok (.ret res)) { s with heap := h', toks := tk }) (hn : x.cps.size ≤ sizeLine) :
    wpAny (model prog w) A.in1 (Builtin.List.listExtendWith (.ref S) (.str x t) res)
      (fun fin s' => match fin with | .done f => R (.ok f) s' | .again c' => c'.quiet = true ∧ codeAny (model prog w) A c' R s') (fun e s' => R (.error e) s') s := by
  have hSI : S ≠ s.heap.objs.size := Nat.ne_of_lt (Heap.lt_size hS)
  unfold Builtin.List.listExtendWith
  refine wpAny_bind (wpAny_typeOf (T := "str") (v := .str x t) rfl ?_)
  have h1 : Builtin.List.listSameRef (.ref S) (.str x t) = false := rfl
  have h2 : (Value.type "str" == Value.type "list") = false := by decide
  have h3 : (Value.type "str" == Value.type "tuple") = false := by decide
  simp only [h1, h2, h3, Bool.or_false, Bool.false_eq_true, if_false]
  refine wpAny_bind (wpAny_pyIter_strU ?_)
  refine wpAny_bind (wpAny_holding ?_)
  unfold Builtin.List.listLengthHint
  refine wpAny_bind (wpAny_specialOf (T := "str") (v := .str x t) rfl PySem.F.str_len ?_)
  wp_delta
  refine wpAny_bind (wpAny_isInstance (T := "str") (v := .str x t) (b := true) rfl (by rw [isSubtype_type]; kernel_rfl) ?_)
  show wpAny _ _ (typeOf (Value.str x t) >>= _) _ _ _
  refine wpAny_bind (wpAny_typeOf (T := "str") (v := .str x t) rfl ?_)
  refine wpAny_pure ?_
  rw [if_neg (by decide)]
  refine wpAny_pure ⟨plainId_quiet PySem.F.plain_extend_loop _, sign_loop hh x t S s.heap.objs.size hSI _ s.toks hn x.cps.size 0 _ #[] _ rfl (Nat.zero_le _) ⟨_, Heap.get?_push_size _ rfl, rfl, rfl⟩ (Heap.get?_push_of_some _ hS) ⟨rfl, fun j v e => by simp at e⟩ (Nat.le_refl _) fun s' acc' c' hk g d o ht hS' hacc => ?_⟩
  have es : s' = { s with heap := s'.heap, toks := s'.toks } := by
    obtain ⟨h', g', d', t', o'⟩ := s'
    simp only at g d o
    subst g d o
    rfl
  rw [es]
  refine hR s'.heap s'.toks acc' c' (fun b ob hb e => hk b ob hb (fun z => ?_) (Heap.get?_push_of_some _ e)) ht hS' hacc
  rw [z] at e
  exact absurd (Heap.lt_size e) (Nat.lt_irrefl _)
/-- list(text) -/
theorem call_list_text {Q : Value → Shared → Prop} (hh : A.handled = none) (x : Str) (t : Tok)
    (hQ : ∀ h' tk acc' c', (∀ b o, s.heap.get? b = some o → h'.get? b = some o) → s.toks ≤ tk →
      h'.get? s.heap.objs.size = some { cls := .type "list", dict := none, data := .seq acc' c', slots := #[] } → Signs x s.toks tk acc' x.cps.size → Q (.ref s.heap.objs.size) { s with heap := h', toks := tk }) (hn : x.cps.size ≤ sizeLine) :
    wpAny (model prog w) A (call (.type "list") [.str x t]) Q E s := by
  refine callType_codes (Q₁ := fun obj s₁ => obj = .ref s.heap.objs.size ∧ s₁ = { s with heap := s.heap.push { cls := .type "list", data := .seq #[] } }) PySem.F.called_list (PySem.F.typeCall_list_1 _) PySem.F.entry_list_init
    (code_list_new _ ⟨rfl, rfl⟩) fun obj s₁ h₁ => ?_
  obtain ⟨rfl, rfl⟩ := h₁
  have hS : (s.heap.push { cls := .type "list", data := .seq #[] }).get? s.heap.objs.size = some { cls := .type "list", data := .seq #[] } := Heap.get?_push_size _ rfl
  refine ⟨⟨_, hS, rfl⟩, PySem.F.args_list_init_2 _ _, ?_⟩
  show wpAny _ _ (do let old ← Builtin.List.listItems (.ref s.heap.objs.size); Builtin.List.listUpdate (.ref s.heap.objs.size) (fun _ => #[]); letGo old.toList.reverse; Builtin.List.listExtendWith (.ref s.heap.objs.size) (.str x t) .none) _ _ _
  refine wpAny_bind ?_
  unfold Builtin.List.listItems
  refine wpAny_bind (wpAny_seqItems hS rfl (wpAny_pure ?_))
  show wpAny _ _ (updateSeq s.heap.objs.size (fun _ => #[]) >>= fun _ => letGo (#[] : Array Value).toList.reverse >>= fun _ => Builtin.List.listExtendWith (.ref s.heap.objs.size) (.str x t) .none) _ _ _
  refine wpAny_bind (wpAny_updateSeq hS rfl ?_)
  have hS₂ := Heap.get?_update_self (Obj.mapSeq (fun _ => (#[] : Array Value))) hS rfl
  refine wpAny_bind (wpAny_letGo ?_)
  refine sign_extend (A := A.in1) hh x t _ .none _ hS₂ (fun h' tk acc' c' hk ht hS' hacc => ?_) hn
  refine ⟨rfl, hQ h' tk acc' c' (fun b o e => hk b o (Nat.ne_of_lt (Heap.lt_size e)) ?_) ht hS' hacc⟩
  exact (Heap.get?_update_other _ _ (Nat.ne_of_gt (Heap.lt_size e))).trans (Heap.get?_push_of_some _ e)
/-- what a text is collected to -/
theorem collect_text {Q : List Value → Shared → Prop} (hh : A.handled = none) (x : Str) (t : Tok)
    (hQ : ∀ h' tk acc, (∀ b o, s.heap.get? b = some o → h'.get? b = some o) → s.toks ≤ tk → Signs x s.toks tk acc x.cps.size → Q acc.toList { s with heap := h', toks := tk }) (hn : x.cps.size ≤ sizeLine) :
    wpAny (model prog w) A (collect (.str x t)) Q E s := by
  unfold collect
  refine wpAny_bind (wpAny_runValue (codeAny_builtin PySem.F.entry_proto_collect ?_))
  rw [Around.under_plainId PySem.F.plain_proto_collect _]
  show wpAny _ A.in1 (newList [] >>= fun l => again (.builtin "list.__iadd__" ⟨[l, .str x t], []⟩)) _ _ s
  refine wpAny_bind (wpAny_newObj_type ?_)
  refine wpAny_pure ⟨plainId_quiet PySem.F.plain_list_iadd _, codeAny_builtin PySem.F.entry_list_iadd ?_⟩
  rw [Around.under_plainId PySem.F.plain_list_iadd _]
  show wpAny _ A.in1 (Builtin.List.listExtendWith (.ref s.heap.objs.size) (.str x t) (.ref s.heap.objs.size)) _ _ _
  have hS : (s.heap.push { cls := .type "list", data := .seq ([] : List Value).toArray }).get? s.heap.objs.size = some { cls := .type "list", data := .seq #[] } := Heap.get?_push_size _ rfl
  let R0 : Result → Shared → Prop := fun r s' => r = .ok (.ret (.ref s.heap.objs.size)) ∧ ∃ h' tk acc' c', s' = { s with heap := h', toks := tk } ∧ (∀ b o, s.heap.get? b = some o → h'.get? b = some o) ∧ s.toks ≤ tk ∧
    h'.get? s.heap.objs.size = some { cls := .type "list", dict := none, data := .seq acc' c', slots := #[] } ∧ Signs x s.toks tk acc' x.cps.size
  have base : wpAny (model prog w) A.in1 (Builtin.List.listExtendWith (.ref s.heap.objs.size) (.str x t) (.ref s.heap.objs.size))
      (fun fin s' => match fin with | .done f => R0 (.ok f) s' | .again c' => c'.quiet = true ∧ codeAny (model prog w) A c' R0 s') (fun e s' => R0 (.error e) s') { s with heap := s.heap.push { cls := .type "list", data := .seq ([] : List Value).toArray } } :=
    sign_extend (R := R0) (s := { s with heap := s.heap.push { cls := .type "list", data := .seq ([] : List Value).toArray } }) hh x t s.heap.objs.size (.ref s.heap.objs.size) 0 hS (fun h' tk acc' c' hk ht hS' hacc =>
      ⟨rfl, h', tk, acc', c', rfl, fun b o e => hk b o (Nat.ne_of_lt (Heap.lt_size e)) (Heap.get?_push_of_some _ e), ht, hS', hacc⟩) hn
  refine wpAny_mono base (fun fin s' q => ?_) fun e s' q => ?_
  · have last : ∀ h' tk acc' c', (∀ b o, s.heap.get? b = some o → h'.get? b = some o) → s.toks ≤ tk → h'.get? s.heap.objs.size = some { cls := .type "list", dict := none, data := .seq acc' c', slots := #[] } → Signs x s.toks tk acc' x.cps.size →
        wpAny (model prog w) A (load s.heap.objs.size >>= fun o => match o.data with | .seq xs _ => pure xs.toList | _ => unsupported "internal:collect") Q E { s with heap := h', toks := tk } := fun h' tk acc' c' hk ht hS' hacc => by
      refine wpAny_bind (wpAny_load hS' ?_)
      exact wpAny_pure (hQ h' tk acc' hk ht hacc)
    cases fin with
    | done f =>
      obtain ⟨e, h', tk, acc', c', e1, hk, ht, hS', hacc⟩ := q
      cases e
      subst e1
      exact last h' tk acc' c' hk ht hS' hacc
    | again c' =>
      refine ⟨q.1, codeAny_mono q.2 fun r s' q => ?_⟩
      obtain ⟨e, h', tk, acc', c', e1, hk, ht, hS', hacc⟩ := q
      subst e
      subst e1
      exact last h' tk acc' c' hk ht hS' hacc
  · obtain ⟨e, _⟩ := q
    cases e
def signs (s : List Nat) : List D := s.map fun c => .str [c]
theorem Signs.rep {F : FH} {s : List Nat} {T0 T : Nat} {acc : Array Value} (h : Signs (tx s) T0 T acc s.length) (h0 : 0 < T0) : RepL w F T acc.toList (signs s) := by
  refine RepL.of_forall (by simp [signs, h.1]) fun i v d e1 e2 => ?_
  obtain ⟨c, u, q1, rfl, q3, q4⟩ := h.2 i v (by simpa using e1)
  have e3 : s[i]? = some c := by simpa [tx] using q1
  have : d = .str [c] := by
    unfold signs at e2
    rw [List.getElem?_map, e3] at e2
    exact (Option.some.inj e2).symm
  subst this
  exact .str [c] u (fun z => by rw [z] at q3; exact absurd q3 (Nat.not_le.mpr h0)) q4 (Nat.le_trans (Nat.le_refl 1) (by decide))
end
end GB
/-! Slices, displays, argument lists, calls of built-ins. -/
namespace GB
open PySem PySem.Spec PyProof.Rows
open L2 (Key keyH keyIs mixKind Mod Look Vis Loc frs thn)
section
variable {X : Cx} {c c0 c1 c2 : Cf} {a b e : Expr} {es rest : List Expr} {da db dc : DE} {ta tb tc : DT} {pos p2 : Pos}
/-- e[lo:hi] -/
theorem pd_slice {l : DL} {lo hi : Option Expr} {dlo dhi : DO} (ha : PG X e l) (hl : PO X lo dlo) (hh : PO X hi dhi) (htz : 0 < X.tz := by exact Nat.zero_lt_one) : PD X (.Subscript e (.Slice lo hi none p2) pos) (dSl l dlo dhi) := by
  refine ⟨fun c o S hd kx => ?_⟩
  refine Subscript_ (ha.go S hd kx fun x c1 v f1 S1 r1 hd1 => ?_)
  refine wpAny_Slice (hl.go S1 hd1 (f1.toFrB.kx kx) fun i c2 vl f2 S2 pl hd2 => hh.go S2 hd2 ((f1.trans f2).toFrB.kx kx) fun j c3 vu f3 S3 pu hd3 => ?_)
  rw [evalPart_none]
  refine wpAny_pure ?_
  have fa := (f1.trans f2).trans f3
  obtain ⟨S4, f4⟩ := S3.kept (s' := { c3.s with heap := c3.s.heap.push { cls := .type "slice", data := .fields #[vl, vu, .none] } }) (fun b o e => Heap.get?_push_of_some _ e) (Nat.le_refl _)
  cases hx : x.now c3.ρ with
  | none => rw [hx] at hd3; cases hd3
  | some d =>
    rw [hx] at hd3
    cases hz : fSl i j d with
    | none => simp only [hz] at hd3; cases hd3
    | some z =>
      simp only [hz] at hd3
      cases hd3
      have rv : ViewG X.w { c3 with s := { c3.s with heap := c3.s.heap.push { cls := .type "slice", data := .fields #[vl, vu, .none] } } } v d := r1.now ((f2.trans f3).trans f4) S4 hx
      obtain ⟨T, id, hT, ht, hg⟩ := sl_ok htz S4 rv (Heap.IsSliceOf.new ..) pl pu hz
      exact tail_any (ops := [.ref c3.s.heap.objs.size, v]) ht hT (thn hg fun _ _ q => PostE.from (fa.trans f4) q) (by with_unfolding_all rfl)
/-! ### argument lists, displays -/
structure PA (X : Cx) (es : List Expr) (d : DA) : Prop where
  run : ∀ (pos : Pos) (c : Cf) (o : O (List D)), SR X c → d c.ρ = some o → KX X c o → wpAny (model X.prog X.w) X.A (spliced (backTo pos (starEach es X.env))) (PostA X c o) X.xe c.s
def dNil : DA := fun ρ => some (.ok [] ρ)
def dCons (a : DE) (r : DA) : DA := fun ρ => obind (a ρ) fun x ρ1 => if x.isWeak then none else obind (r ρ1) fun xs ρ2 => some (.ok (x.d :: xs) ρ2)
theorem pa_nil : PA X [] dNil := ⟨fun pos c o S h _ => by cases h; exact Calls.spliced_nil ⟨[], c, rfl, rfl, Fr.refl, S, .nil⟩⟩
theorem PA.go {d : DA} {β : Type} {k : List D → Rho → Option (O β)} {o : O β} {Q : List Value → Shared → Prop} (h : PA X es d) (S : SR X c) (hd : obind (d c.ρ) k = some o) (kx : KX X c o)
    (hq : ∀ ds c1 vs, Fr X c c1 → SR X c1 → RepL X.w c1.F c1.s.toks vs ds → k ds c1.ρ = some o → Q vs c1.s) : wpAny (model X.prog X.w) X.A (spliced (backTo pos (starEach es X.env))) Q X.xe c.s := by
  rcases obind_some hd with ⟨r, ρ1, e1, hd1⟩ | ⟨x, ρ1, e1, rfl⟩
  · refine thn (h.run pos c _ S e1 trivial) fun v s1 ⟨r', c1, q, eo, f, S1, ro⟩ => ?_
    cases eo
    subst q
    exact hq _ c1 v f S1 ro hd1
  · refine thn (h.run pos c _ S e1 kx) fun v s1 ⟨r', c1, q, eo, f, S1, ro⟩ => ?_
    cases eo
theorem pa_cons {d : DA} (ha : PD X e da) (hr : PA X es d) (hs : starEach (e :: es) X.env = (false, eval e X.env) :: starEach es X.env := by rfl) : PA X (e :: es) (dCons da d) := by
  refine ⟨fun pos c o S hd kx => ?_⟩
  rw [hs]
  show wpAny _ _ (spliced ((false, eval e X.env) :: backTo pos (starEach es X.env))) _ _ _
  refine Calls.spliced_cons (ha.go S hd kx fun x c1 v f1 S1 ro hd1 => ?_)
  obtain ⟨F1, f1', S1', _, w1, _⟩ := ro.froze f1 S1
  by_cases z : x.isWeak = true
  · rw [if_pos z] at hd1; cases hd1
  · rw [if_neg z] at hd1
    have rx := w1 (Res.nweak (by simpa using z))
    refine hr.go (c := { c1 with F := F1 }) S1' hd1 (f1'.toFrB.kx kx) fun xs c2 vs f2 S2 rs hd2 => ?_
    cases hd2
    exact ⟨_, c2, rfl, rfl, f1'.trans f2, S2, .cons (rx.mono f2.fm f2.tk) rs⟩
def dTup (a : DA) : DE := fun ρ => obind (a ρ) fun xs ρ1 => if xs.length ≤ 1000 then some (.ok (.val (.tup xs)) ρ1) else none
def dLst (a : DA) : DE := fun ρ => obind (a ρ) fun xs ρ1 => if xs.length ≤ 1000 then some (.ok (.fresh (.lst xs)) ρ1) else none
theorem le_line {n : Nat} (h : n ≤ 1000) : n ≤ sizeLine := Nat.le_trans h (by decide)
theorem pd_tup {d : DA} {x1} (h : PA X es d) : PD X (.Tuple es x1 pos) (dTup d) := by
  refine ⟨fun c o S hd kx => ?_⟩
  refine wpAny_Tuple_spliced (h.go S hd kx fun ds c1 vs f1 S1 r hk => ?_)
  by_cases z : ds.length ≤ 1000
  · rw [if_pos z] at hk; cases hk
    exact ⟨by rw [r.length]; exact le_line z, PostE.from f1 (PostE.pushT (n := _) S1 (Nat.le_refl _) (by rw [List.size_toArray, r.length]; exact le_line z) (by rw [List.toList_toArray]; exact r))⟩
  · rw [if_neg z] at hk; cases hk
theorem pd_lst {d : DA} (h : PA X es d) : PD X (.List es pos) (dLst d) := by
  refine ⟨fun c o S hd kx => ?_⟩
  refine wpAny_List_spliced (h.go S hd kx fun ds c1 vs f1 S1 r hk => ?_)
  by_cases z : ds.length ≤ 1000
  · rw [if_pos z] at hk; cases hk
    exact ⟨by rw [r.length]; exact le_line z, PostE.from f1 (PostE.pushL (n := _) S1 (Nat.le_refl _) (by rw [List.size_toArray, r.length]; exact le_line z) (by rw [List.toList_toArray]; exact r))⟩
  · rw [if_neg z] at hk; cases hk
/-! ### calls of built-ins -/
/-- one argument that is looked at -/
def C1 (X : Cx) (f : Value) (g : D → Option Res) : Prop := ∀ (c : Cf) (v : Value) (d : D) (r : Res), SR X c → ViewG X.w c v d → g d = some r → wpAny (model X.prog X.w) X.A (call f [v]) (PostE X c (.ok r c.ρ)) X.xe c.s
/-- arguments -/
def CA (X : Cx) (f : Value) (g : List D → Option Res) : Prop := ∀ (c : Cf) (vs : List Value) (ds : List D) (r : Res), SR X c → RepL X.w c.F c.s.toks vs ds → g ds = some r → wpAny (model X.prog X.w) X.A (call f vs) (PostE X c (.ok r c.ρ)) X.xe c.s
def dCall1 (g : D → Option Res) (a : DL) : DE := fun ρ => obind (a ρ) fun l ρ1 => match l.now ρ1 with
  | some d => (match g d with
    | some z => some (.ok z ρ1)
    | none => none)
  | none => none
def dCallA (g : List D → Option Res) (a : DA) : DE := fun ρ => obind (a ρ) fun ds ρ1 => match g ds with
  | some z => some (.ok z ρ1)
  | none => none
theorem arg1 {f : Value} {g : D → Option Res} {l : DL} {o : O Res} (hc : C1 X f g) (ha : PG X e l) (S : SR X c) (hd : dCall1 g l c.ρ = some o) (kx : KX X c o) (hs : starEach [e] X.env = [(false, eval e X.env)]) :
    wpAny (model X.prog X.w) X.A (spliced (backTo pos (starEach [e] X.env))) (fun us s1 => wpAny (model X.prog X.w) X.A (call f us) (PostE X c o) X.xe s1) X.xe c.s := by
  rw [hs]
  show wpAny _ _ (spliced [(false, eval e X.env)]) _ _ _
  refine Calls.spliced_cons (ha.go S hd kx fun x c1 v f1 S1 ro hd1 => Calls.spliced_nil ?_)
  cases hx : x.now c1.ρ with
  | none => rw [hx] at hd1; cases hd1
  | some d =>
    rw [hx] at hd1
    cases hz : g d with
    | none => simp only [hz] at hd1; cases hd1
    | some z =>
      simp only [hz] at hd1; cases hd1
      exact thn (hc c1 v d z S1 (ro.now Fr.refl S1 hx) hz) fun _ _ q => PostE.from f1 q
variable {x id T : Str} {p : Pos}
theorem pd_call1B {i : String} {g : D → Option Res} {l : DL} (hc : C1 X (.builtin i) g) (hm : X.mg x = none) (ha : PG X e l) (hg : Gl X x := by rfl) (hv : bootBuiltins x = some (.builtin i) := by first | rfl | decide +kernel) (hn : x ≠ "__name__" := by decide) (hdb : (x == ("__debug__" : Str)) = false := by decide)
    (hs : starEach [e] X.env = [(false, eval e X.env)] := by rfl) : PD X (.Call (.Name x p) [e] [] pos) (dCall1 g l) := by
  refine ⟨fun c o S hd kx => ?_⟩
  refine wpAny_Call_Name_kw (S.bltn hg hm hv ?_ hn hdb)
  exact PyProof.Rows.callWith_builtin1 (arg1 hc ha S hd kx hs) hs rfl
theorem pd_call1T {i : String} {g : D → Option Res} {l : DL} (hc : C1 X (.type i) g) (hm : X.mg x = none) (ha : PG X e l) (hg : Gl X x := by rfl) (hv : bootBuiltins x = some (.type i) := by first | rfl | decide +kernel) (hn : x ≠ "__name__" := by decide) (hdb : (x == ("__debug__" : Str)) = false := by decide)
    (hs : starEach [e] X.env = [(false, eval e X.env)] := by rfl) : PD X (.Call (.Name x p) [e] [] pos) (dCall1 g l) := by
  refine ⟨fun c o S hd kx => ?_⟩
  refine wpAny_Call_Name_kw (S.bltn hg hm hv ?_ hn hdb)
  exact PyProof.Rows.callWith_type1 (arg1 hc ha S hd kx hs) hs rfl
theorem argA {f : Value} {g : List D → Option Res} {d : DA} {o : O Res} (hc : CA X f g) (ha : PA X es d) (S : SR X c) (hd : dCallA g d c.ρ = some o) (kx : KX X c o) :
    wpAny (model X.prog X.w) X.A (spliced (backTo pos (starEach es X.env))) (fun us s1 => wpAny (model X.prog X.w) X.A (call f us) (PostE X c o) X.xe s1) X.xe c.s := by
  refine ha.go S hd kx fun ds c1 vs f1 S1 r hk => ?_
  cases hz : g ds with
  | none => simp only [hz] at hk; cases hk
  | some z =>
    simp only [hz] at hk; cases hk
    exact thn (hc c1 vs ds z S1 r hz) fun _ _ q => PostE.from f1 q
theorem pd_callB {i : String} {g : List D → Option Res} {d : DA} (hc : CA X (.builtin i) g) (hm : X.mg x = none) (ha : PA X (e :: es) d) (hg : Gl X x := by rfl) (hv : bootBuiltins x = some (.builtin i) := by first | rfl | decide +kernel) (hn : x ≠ "__name__" := by decide) (hdb : (x == ("__debug__" : Str)) = false := by decide)
    (he : starEach (e :: es) X.env = (false, eval e X.env) :: starEach es X.env := by rfl) (hpl : (backTo pos (starEach es X.env)).any (·.1) = false := by rfl) : PD X (.Call (.Name x p) (e :: es) [] pos) (dCallA g d) := by
  refine ⟨fun c o S hd kx => ?_⟩
  refine wpAny_Call_Name_kw (S.bltn hg hm hv ?_ hn hdb)
  exact PyProof.Rows.callWith_builtin1 (argA hc ha S hd kx) he hpl
/-! ### len -/
def fLen : D → Option Res
  | .str s => some (.val (.int s.length))
  | .lst ds => some (.val (.int ds.length))
  | .tup ds => some (.val (.int ds.length))
  | .dic ds => some (.val (.int ds.length))
  | _ => none
theorem PostE.int {i : Int} {u : Tok} {t : Nat} (S : SR X c) (h : c.s.toks ≤ t) : PostE X c (.ok (.val (.int i)) c.ρ) (.int i u) { c.s with toks := t } := PostE.tok S h (.int i u)
theorem c1_len : C1 X (.builtin "len") fLen := by
  intro c v d r S rv h
  have hl := line63
  cases d with
  | str s =>
    cases h
    obtain ⟨t, rfl, z⟩ := rv.view.str_inv
    refine len_str (by rw [tx_len]; omega) ?_
    rw [tx_len]
    exact PostE.int S (by omega)
  | lst ds =>
    cases h
    obtain ⟨a, vs, n, rfl, q, z, l⟩ := rv.view.lst_inv S.sub
    refine Calls.call_len_list ⟨_, q, rfl, n, rfl⟩ (by omega) ?_
    rw [size_len l.length]
    exact PostE.int S (by omega)
  | tup ds =>
    cases h
    obtain ⟨a, o, vs, n, rfl, q, h1, h2, z, l⟩ := rv.view.tup_inv S.sub
    refine len_tuple ⟨o, q, h1, n, h2⟩ (by omega) ?_
    rw [size_len l.length]
    exact PostE.int S (by omega)
  | dic ds =>
    cases h
    obtain ⟨a, o, es, ep, ks, rfl, ns, q, hx, hd, z, rk, nd, rfl⟩ := rv.view.dic_inv S.sub
    obtain ⟨kvs, dd, e1, e2⟩ := dictOf (P := X.prog) q hx hd rk nd
    have hlen : kvs.length = ks.length := by have := congrArg List.length e1; simpa using this
    have hes : es.size = ks.length := by simpa using rk.length
    refine call_len_dict ns dd (by omega) ?_
    rw [List.length_map, ← hlen]
    exact PostE.int S (by omega)
  | _ => cases h
end
end GB
/-! Built-ins: int, abs, divmod, max, min, sum, all, any, tuple, list, isinstance, repr. -/
namespace GB
open PySem PySem.Spec PyProof.Rows
open L2 (Key keyH keyIs mixKind Mod Look Vis Loc frs thn)
section
variable {X : Cx} {c c0 c1 c2 : Cf} {w : World} {F : FH} {T : Nat}
theorem RepL.one {vs : List Value} {d : D} (r : RepL w F T vs [d]) : ∃ v, vs = [v] ∧ Rep w F T v d := by
  cases r with
  | cons a b => cases b; exact ⟨_, rfl, a⟩
theorem RepL.two {vs : List Value} {d e : D} (r : RepL w F T vs [d, e]) : ∃ v w', vs = [v, w'] ∧ Rep w F T v d ∧ Rep w F T w' e := by
  cases r with
  | cons a b => obtain ⟨w, rfl, rw⟩ := b.one; exact ⟨_, _, rfl, a, rw⟩
theorem Rep.int_inv {v : Value} {i : Int} (r : Rep w F T v (.int i)) : ∃ t, v = .int i t := r.w.int_inv
/-! ### ints -/
def fInt1 : D → Option Res
  | .int i => some (.val (.int i))
  | .bl b => some (.val (.int (if b then 1 else 0)))
  | _ => none
theorem c1_int : C1 X (.type "int") fInt1 := by
  intro c v d r S rv h
  cases d with
  | int i =>
    cases h
    obtain ⟨t, rfl⟩ := rv.view.int_inv
    exact call_int_int (PostE.int S (Nat.le_refl _))
  | bl b =>
    cases h
    obtain rfl := rv.view.bl_inv
    exact call_int_bool (PostE.int S (Nat.le_succ _))
  | _ => cases h
def fAbs : D → Option Res
  | .int i => some (.val (.int (if i < 0 then -i else i)))
  | _ => none
theorem c1_abs : C1 X (.builtin "abs") fAbs := by
  intro c v d r S rv h
  cases d with
  | int i =>
    cases h
    obtain ⟨t, rfl⟩ := rv.view.int_inv
    exact wpAny_with_toks (Nat.le_refl _) (call_abs_int fun u tk ht => PostE.int S ht)
  | _ => cases h
def fDivmod : List D → Option Res
  | [.int i, .int j] => if 0 < j ∧ j.natAbs < 1073741824 then some (.val (.tup [.int (i / j), .int (i % j)])) else none
  | _ => none
theorem ca_divmod : CA X (.builtin "divmod") fDivmod := by
  intro c vs ds r S rl h
  unfold fDivmod at h
  split at h
  · rename_i i j
    by_cases q : 0 < j ∧ j.natAbs < 1073741824
    · rw [if_pos q] at h; cases h
      obtain ⟨v, w', rfl, rv, rw'⟩ := rl.two
      obtain ⟨t, rfl⟩ := rv.int_inv
      obtain ⟨u, rfl⟩ := rw'.int_inv
      refine divmod_int (by omega) ?_ (.inl (PyProof.noPylong_small (by omega)))
      rw [Int.fdiv_eq_ediv_of_nonneg i (by omega), Int.fmod_eq_emod_of_nonneg i (by omega)]
      exact PostE.pushT (n := _) S (by omega) (by show 2 ≤ sizeLine; decide) (.cons (.int _ _) (.cons (.int _ _) .nil))
    · rw [if_neg q] at h; cases h
  · cases h
/-- the ints of a list of ints -/
def intsD : List D → Option (List Int)
  | [] => some []
  | .int i :: r => (intsD r).map (i :: ·)
  | _ => none
theorem RepL.ints : ∀ {vs : List Value} {ds : List D} {ns : List Int}, RepL w F T vs ds → intsD ds = some ns → IntsAre vs ns
  | _, [], _, .nil, h => by cases h; exact .nil
  | _, d :: ds, _, .cons a r, h => by
    cases d with
    | int i =>
      obtain ⟨ms, h1, rfl⟩ := Option.map_eq_some_iff.mp h
      obtain ⟨t, rfl⟩ := a.int_inv
      exact .cons i t (r.ints h1)
    | _ => cases h
def boolsD : List D → Option (List Bool)
  | [] => some []
  | .bl i :: r => (boolsD r).map (i :: ·)
  | _ => none
theorem RepL.bools : ∀ {vs : List Value} {ds : List D} {ns : List Bool}, RepL w F T vs ds → boolsD ds = some ns → vs = ns.map Value.bool
  | _, [], _, .nil, h => by cases h; rfl
  | _, d :: ds, _, .cons a r, h => by
    cases d with
    | bl i =>
      obtain ⟨ms, h1, rfl⟩ := Option.map_eq_some_iff.mp h
      obtain rfl := a.w.bl_inv
      rw [List.map_cons, r.bools h1]
    | _ => cases h
/-- max, min of two ints, or of a list of ints -/
def maxL : List Int → Int
  | [] => 0
  | [a] => a
  | a :: b :: r => max a (maxL (b :: r))
def minL : List Int → Int
  | [] => 0
  | [a] => a
  | a :: b :: r => min a (minL (b :: r))
theorem maxL_mem : ∀ {ns : List Int}, ns ≠ [] → maxL ns ∈ ns ∧ ∀ y ∈ ns, y ≤ maxL ns
  | [], h => absurd rfl h
  | [a], _ => by simp [maxL]
  | a :: b :: r, _ => by
    obtain ⟨h1, h2⟩ := maxL_mem (ns := b :: r) (by simp)
    unfold maxL
    refine ⟨?_, fun y hy => ?_⟩
    · rcases Int.le_total a (maxL (b :: r)) with h | h
      · rw [Int.max_eq_right h]; exact List.mem_cons_of_mem _ h1
      · rw [Int.max_eq_left h]; exact List.mem_cons_self
    · rcases List.mem_cons.mp hy with rfl | hy
      · exact Int.le_max_left _ _
      · exact Int.le_trans (h2 y hy) (Int.le_max_right _ _)
theorem minL_mem : ∀ {ns : List Int}, ns ≠ [] → minL ns ∈ ns ∧ ∀ y ∈ ns, minL ns ≤ y
  | [], h => absurd rfl h
  | [a], _ => by simp [minL]
  | a :: b :: r, _ => by
    obtain ⟨h1, h2⟩ := minL_mem (ns := b :: r) (by simp)
    unfold minL
    refine ⟨?_, fun y hy => ?_⟩
    · rcases Int.le_total a (minL (b :: r)) with h | h
      · rw [Int.min_eq_left h]; exact List.mem_cons_self
      · rw [Int.min_eq_right h]; exact List.mem_cons_of_mem _ h1
    · rcases List.mem_cons.mp hy with rfl | hy
      · exact Int.min_le_left _ _
      · exact Int.le_trans (Int.min_le_right _ _) (h2 y hy)
def fMax2 : List D → Option Res
  | [.int i, .int j] => some (.val (.int (max i j)))
  | _ => none
def fMin2 : List D → Option Res
  | [.int i, .int j] => some (.val (.int (min i j)))
  | _ => none
theorem PostE.keptI {i : Int} {u : Tok} {h' : Heap} {tk : Nat} (S : SR X c) (k : ∀ b o, c.s.heap.get? b = some o → h'.get? b = some o) (ht : c.s.toks ≤ tk) : PostE X c (.ok (.val (.int i)) c.ρ) (.int i u) { c.s with heap := h', toks := tk } := by
  obtain ⟨S', f⟩ := S.kept (s' := { c.s with heap := h', toks := tk }) k ht
  exact ⟨_, { c with s := { c.s with heap := h', toks := tk } }, rfl, rfl, f, S', .int i u⟩
theorem PostE.keptB {b : Bool} {h' : Heap} {tk : Nat} (S : SR X c) (k : ∀ b o, c.s.heap.get? b = some o → h'.get? b = some o) (ht : c.s.toks ≤ tk) : PostE X c (.ok (.val (.bl b)) c.ρ) (.bool b) { c.s with heap := h', toks := tk } := by
  obtain ⟨S', f⟩ := S.kept (s' := { c.s with heap := h', toks := tk }) k ht
  exact ⟨_, { c with s := { c.s with heap := h', toks := tk } }, rfl, rfl, f, S', .bl b⟩
theorem ca_max2 : CA X (.builtin "max") fMax2 := by
  intro c vs ds r S rl h
  unfold fMax2 at h
  split at h
  · rename_i i j
    cases h
    obtain ⟨v, w', rfl, rv, rw'⟩ := rl.two
    obtain ⟨t, rfl⟩ := rv.int_inv
    obtain ⟨u, rfl⟩ := rw'.int_inv
    refine wpAny_with_toks (Nat.le_refl _) (max_two_ints S.ok.hd fun h' tk k ht => ?_)
    by_cases hj : j > i
    · rw [if_pos hj, Int.max_eq_right (by omega)]; exact PostE.keptI S k ht
    · rw [if_neg hj, Int.max_eq_left (by omega)]; exact PostE.keptI S k ht
  · cases h
theorem ca_min2 : CA X (.builtin "min") fMin2 := by
  intro c vs ds r S rl h
  unfold fMin2 at h
  split at h
  · rename_i i j
    cases h
    obtain ⟨v, w', rfl, rv, rw'⟩ := rl.two
    obtain ⟨t, rfl⟩ := rv.int_inv
    obtain ⟨u, rfl⟩ := rw'.int_inv
    refine wpAny_with_toks (Nat.le_refl _) (min_two_ints S.ok.hd fun h' tk k ht => ?_)
    by_cases hj : j < i
    · rw [if_pos hj, Int.min_eq_right (by omega)]; exact PostE.keptI S k ht
    · rw [if_neg hj, Int.min_eq_left (by omega)]; exact PostE.keptI S k ht
  · cases h
def fMaxL : D → Option Res
  | .lst ds => match intsD ds with
    | some ns => if ns = [] then none else some (.val (.int (maxL ns)))
    | none => none
  | _ => none
def fMinL : D → Option Res
  | .lst ds => match intsD ds with
    | some ns => if ns = [] then none else some (.val (.int (minL ns)))
    | none => none
  | _ => none
theorem lst_list {v : Value} {ds : List D} (S : SR X c) (rv : View X.w c v (.lst ds)) : ∃ (a : Addr) (vs : List Value), v = .ref a ∧ c.s.heap.IsList a vs.toArray ∧ vs.length ≤ sizeLine ∧ RepL X.w c.F c.s.toks vs ds := by
  obtain ⟨a, vs, n, rfl, q, z, l⟩ := rv.lst_inv S.sub
  exact ⟨a, vs.toList, rfl, by rw [Array.toArray_toList]; exact ⟨_, q, rfl, n, rfl⟩, by simpa using z, l⟩
theorem c1_maxL : C1 X (.builtin "max") fMaxL := by
  intro c v d r S rv h
  cases d with
  | lst ds =>
    have h : (match intsD ds with | some ns => if ns = [] then none else some (Res.val (.int (maxL ns))) | none => none) = some r := h
    cases hn : intsD ds with
    | none => rw [hn] at h; cases h
    | some ns =>
      rw [hn] at h
      by_cases q : ns = []
      · simp only [if_pos q] at h; cases h
      · simp only [if_neg q] at h; cases h
        obtain ⟨a, vs, rfl, il, z, l⟩ := lst_list S rv.view
        refine wpAny_with_toks (Nat.le_refl _) (L2.max_raw S.ok.hd il (l.ints hn) (List.length_pos_iff.mpr q) fun h' tk m t' k h1 h2 ht => ?_)
        have e : m = maxL ns := Int.le_antisymm ((maxL_mem q).2 m h1) (h2 _ (maxL_mem q).1)
        rw [e]
        exact PostE.keptI S k ht
  | _ => cases h
theorem c1_minL : C1 X (.builtin "min") fMinL := by
  intro c v d r S rv h
  cases d with
  | lst ds =>
    have h : (match intsD ds with | some ns => if ns = [] then none else some (Res.val (.int (minL ns))) | none => none) = some r := h
    cases hn : intsD ds with
    | none => rw [hn] at h; cases h
    | some ns =>
      rw [hn] at h
      by_cases q : ns = []
      · simp only [if_pos q] at h; cases h
      · simp only [if_neg q] at h; cases h
        obtain ⟨a, vs, rfl, il, z, l⟩ := lst_list S rv.view
        refine wpAny_with_toks (Nat.le_refl _) (L2.min_raw S.ok.hd il (l.ints hn) (List.length_pos_iff.mpr q) fun h' tk m t' k h1 h2 ht => ?_)
        have e : m = minL ns := Int.le_antisymm (h2 _ (minL_mem q).1) ((minL_mem q).2 m h1)
        rw [e]
        exact PostE.keptI S k ht
  | _ => cases h
def fSum : D → Option Res
  | .lst ds => (intsD ds).map fun ns => .val (.int ns.sum)
  | _ => none
theorem c1_sum : C1 X (.builtin "sum") fSum := by
  intro c v d r S rv h
  cases d with
  | lst ds =>
    obtain ⟨ns, hn, rfl⟩ := Option.map_eq_some_iff.mp (show (intsD ds).map (fun ns => Res.val (.int ns.sum)) = some r from h)
    obtain ⟨a, vs, rfl, il, z, l⟩ := lst_list S rv.view
    exact wpAny_with_toks (Nat.le_refl _) (L2.sum_raw S.ok.hd il (l.ints hn) fun h' tk t' k ht => PostE.keptI S k ht)
  | _ => cases h
def fAll : D → Option Res
  | .lst ds => (boolsD ds).map fun ns => .val (.bl (ns.all id))
  | _ => none
def fAny : D → Option Res
  | .lst ds => (boolsD ds).map fun ns => .val (.bl (ns.any id))
  | _ => none
theorem new_notin {a : Addr} {o : Obj} {h : Heap} (e : h.get? a = some o) : a ∉ [h.objs.size] := fun hm => by
  rw [List.mem_singleton.mp hm] at e
  exact absurd (Heap.lt_size e) (Nat.lt_irrefl _)
theorem c1_all : C1 X (.builtin "all") fAll := by
  intro c v d r S rv h
  cases d with
  | lst ds =>
    obtain ⟨ns, hn, rfl⟩ := Option.map_eq_some_iff.mp (show (boolsD ds).map (fun ns => Res.val (.bl (ns.all id))) = some r from h)
    obtain ⟨a, vs, rfl, il, z, l⟩ := lst_list S rv.view
    have hb := l.bools hn
    refine wpAny_with_toks (Nat.le_refl _) (call_all_walk (L2.iter_any il fun s₂ e2 st hne => ?_))
    subst e2
    refine ⟨_, _, _, _, _, _, _, rfl, Walks.list (A := X.A.in1) S.ok.hd _ a hne vs.toArray, st, L2.truth_bools hb, fun h' tk hk ht => ?_⟩
    have e : (List.range vs.toArray.size).all (fun i => ns.getD i false) = ns.all id := by
      rw [← L2.all_range, hb, List.size_toArray, List.length_map]
    rw [e]
    exact PostE.keptB S (fun b o eo => hk b o (new_notin eo) (Heap.get?_push_of_some _ eo)) ht
  | _ => cases h
theorem c1_any : C1 X (.builtin "any") fAny := by
  intro c v d r S rv h
  cases d with
  | lst ds =>
    obtain ⟨ns, hn, rfl⟩ := Option.map_eq_some_iff.mp (show (boolsD ds).map (fun ns => Res.val (.bl (ns.any id))) = some r from h)
    obtain ⟨a, vs, rfl, il, z, l⟩ := lst_list S rv.view
    have hb := l.bools hn
    refine wpAny_with_toks (Nat.le_refl _) (call_any_walk (L2.iter_any il fun s₂ e2 st hne => ?_))
    subst e2
    refine ⟨_, _, _, _, _, _, _, rfl, Walks.list (A := X.A.in1) S.ok.hd _ a hne vs.toArray, st, L2.truth_bools hb, fun h' tk hk ht => ?_⟩
    have e : (List.range vs.toArray.size).any (fun i => ns.getD i false) = ns.any id := by
      rw [← L2.any_range, hb, List.size_toArray, List.length_map]
    rw [e]
    exact PostE.keptB S (fun b o eo => hk b o (new_notin eo) (Heap.get?_push_of_some _ eo)) ht
  | _ => cases h
/-! ### tuple(x), list(x) -/
def fTuple : D → Option Res
  | .lst ds => some (.val (.tup ds))
  | .tup ds => some (.val (.tup ds))
  | _ => none
theorem c1_tuple : C1 X (.type "tuple") fTuple := by
  intro c v d r S rv h
  cases d with
  | lst ds =>
    cases h
    obtain ⟨a, vs, rfl, il, z, l⟩ := lst_list S rv.view
    refine call_tuple_list il (fun h' k => ?_) (by simpa using z)
    obtain ⟨S1, f1⟩ := S.kept (s' := { c.s with heap := h' }) k (Nat.le_refl _)
    exact PostE.from f1 (PostE.pushT (c := { c with s := { c.s with heap := h' } }) (n := _) (t := c.s.toks) S1 (Nat.le_refl _) (by simpa using z) (by simpa using l))
  | tup ds =>
    cases h
    obtain ⟨a, o, vs, n, rfl, q, h1, h2, z, l⟩ := rv.view.tup_inv S.sub
    refine call_tuple_same ⟨o, q, h1, n, h2⟩ ?_
    rcases rv with r | ⟨a', o', e, ns, q', oi, mu⟩
    · exact PostE.val S r
    · cases mu
  | _ => cases h
def fList : D → Option Res
  | .lst ds => some (.fresh (.lst ds))
  | .tup ds => some (.fresh (.lst ds))
  | .str s => some (.fresh (.lst (signs s)))
  | .dic kvs => some (.fresh (.lst (kvs.map (·.1))))
  | _ => none
theorem RepK.keys : ∀ {es : List DictEntry} {ks : List (Key × D)}, RepK w F T es ks → RepL w F T (es.map (·.key)) ((ks.map fun p => (keyD p.1, p.2)).map (·.1))
  | _, _, .nil => .nil
  | _, _, .cons _ q _ r => .cons q (RepK.keys r)
theorem RepK.vals : ∀ {es : List DictEntry} {ks : List (Key × D)}, RepK w F T es ks → RepL w F T (es.map (·.val)) ((ks.map fun p => (keyD p.1, p.2)).map (·.2))
  | _, _, .nil => .nil
  | _, _, .cons _ _ q r => .cons q (RepK.vals r)
theorem items_keys {es : Array DictEntry} {acc : Array Value} (h : ItemsOf (fun i v => ∃ hi : i < es.size, v = es[i].key) acc es.size) : acc.toList = es.toList.map (·.key) := by
  refine List.ext_getElem? fun j => ?_
  by_cases hj : j < es.size
  · have hj' : j < acc.size := by rw [h.1]; exact hj
    have e1 : acc.toList[j]? = some acc[j] := by
      rw [Array.getElem?_toList]; exact Array.getElem?_eq_getElem hj'
    obtain ⟨_, e2⟩ := h.2 j _ (by rw [← Array.getElem?_toList]; exact e1)
    rw [e1, e2, List.getElem?_map]
    simp [hj]
  · rw [List.getElem?_eq_none (by simp [h.1]; omega), List.getElem?_eq_none (by simp; omega)]
theorem c1_list (htz : 0 < X.tz := by exact Nat.zero_lt_one) : C1 X (.type "list") fList := by
  intro c v d r S rv h
  cases d with
  | lst ds =>
    cases h
    obtain ⟨a, vs, n, rfl, q, z, l⟩ := rv.view.lst_inv S.sub
    exact call_list_seq a (.inl rfl) q rfl rfl (fun h' c' kp e => PostE.new S kp (Nat.le_refl _) S.new e (.lst z l) S.nsys) z
  | tup ds =>
    cases h
    obtain ⟨a, o, vs, n, rfl, q, h1, h2, z, l⟩ := rv.view.tup_inv S.sub
    exact call_list_seq a (.inr rfl) q h1 h2 (fun h' c' kp e => PostE.new S kp (Nat.le_refl _) S.new e (.lst z l) S.nsys) z
  | str s =>
    cases h
    obtain ⟨t, rfl, z⟩ := rv.view.str_inv
    have hz : (tx s).cps.size = s.length := by simp [tx]
    refine call_list_text S.ok.hd (tx s) t (fun h' tk acc' c' k ht e sg => ?_) (by rw [hz]; exact z)
    rw [hz] at sg
    exact PostE.new (s' := { c.s with heap := h', toks := tk }) S k ht S.new e (.lst (by rw [sg.1]; exact z) (sg.rep (S.tkp htz))) S.nsys
  | dic kvs =>
    cases h
    obtain ⟨a, o, es, ep, ks, rfl, ns, q, hx, hd, z, rk, nd, rfl⟩ := rv.view.dic_inv S.sub
    refine wpAny_with_toks (Nat.le_refl _) (PySem.W.kdl_call (KdlSrc.rawDict ns) S.ok.hd ⟨o, q, hx, hd⟩ z fun h' tk acc' c' k e it ht => ?_)
    have ek := items_keys it
    exact PostE.new (s' := { c.s with heap := h', toks := tk }) S k ht S.new e (.lst (by have := congrArg List.length ek; simp at this; omega) (by rw [ek]; exact rk.keys.mono (Sub.refl _) ht)) S.nsys
  | _ => cases h
end
end GB
/-! sorted, isinstance, repr. -/
namespace GB
open PySem PySem.Spec PyProof.Rows PySem.W
open L2 (Key keyH keyIs mixKind Mod Look Vis Loc frs thn)
def leD : D → D → Bool := dataLe false D.py
def sortD (ds : List D) : List D := ds.mergeSort leD
def D.tupNE : D → Bool
  | .tup (_ :: _) => true
  | _ => false
def D.plainS : D → Bool
  | .tup _ => false
  | .non => false
  | _ => true
def okSort (ds : List D) : Bool := (ds.all fun d => d.flat && decide (d.deep ≤ 64)) && (ds.all fun d => ds.all fun e => alike d.py e.py) && (ds.all D.tupNE || ds.all D.plainS)
theorem okSort_iff {ds : List D} (h : okSort ds = true) : (∀ d ∈ ds, d.flat = true ∧ d.deep ≤ 64) ∧ (∀ d ∈ ds, ∀ e ∈ ds, alike d.py e.py = true) ∧ ((∀ d ∈ ds, d.tupNE = true) ∨ ∀ d ∈ ds, d.plainS = true) := by
  unfold okSort at h
  simp only [Bool.and_eq_true, Bool.or_eq_true, List.all_eq_true, decide_eq_true_eq] at h
  exact ⟨h.1.1, h.1.2, h.2⟩
theorem okSort_al {ds : List D} (h : okSort ds = true) : AllAlike (ds.map D.py) := by
  intro d hd e he
  obtain ⟨x, hx, rfl⟩ := List.mem_map.mp hd
  obtain ⟨y, hy, rfl⟩ := List.mem_map.mp he
  exact (okSort_iff h).2.1 x hx y hy
theorem okSort_so {ds : List D} (h : okSort ds = true) : Sortable (ds.map D.py) := by
  rcases (okSort_iff h).2.2 with h3 | h3
  · refine .inl fun d hd => ?_
    obtain ⟨x, hx, rfl⟩ := List.mem_map.mp hd
    have := h3 x hx
    cases x with
    | tup xs =>
      cases xs with
      | nil => simp [D.tupNE] at this
      | cons y ys => exact ⟨y.py, D.pys ys, by simp [D.py, D.pys]⟩
    | _ => simp [D.tupNE] at this
  · refine .inr fun d hd => ?_
    obtain ⟨x, hx, rfl⟩ := List.mem_map.mp hd
    have := h3 x hx
    cases x with
    | tup xs => simp [D.plainS] at this
    | non => simp [D.plainS] at this
    | _ => exact ⟨by simp [D.py], by simp [D.py]⟩
theorem okSort_de {ds : List D} (h : okSort ds = true) {d : D} (hd : d ∈ ds) : d.py.depth ≤ 64 := by
  obtain ⟨f, g⟩ := (okSort_iff h).1 d hd
  rw [(D.lay d f).2]; exact g
section
variable {X : Cx} {c c0 c1 c2 : Cf} {w : World} {F : FH} {T : Nat}
theorem RepL.each : ∀ {vs : List Value} {ds : List D}, RepL w F T vs ds → EachIs (fun v d => Rep w F T v d) vs ds
  | _, _, .nil => .nil
  | _, _, .cons a r => .cons a r.each
theorem each_repL : ∀ {vs : List Value} {ds : List D}, EachIs (fun v d => Rep w F T v d) vs ds → RepL w F T vs ds
  | _, _, .nil => .nil
  | _, _, .cons a r => .cons a (each_repL r)
theorem RepL.eachReads {h : Heap} (s : ∀ b o, F b = some o → h.get? b = some o) : ∀ {vs : List Value} {ds : List D}, RepL w F T vs ds → EachIs (fun v d => ∃ as, Reads h v (D.py d) as) vs ds
  | _, _, .nil => .nil
  | _, _, .cons a r => .cons (a.reads s) (r.eachReads s)
end
section
open PySem.Calls PyProof.Rows
variable {prog : Program} {w : World} {A : Around} {E : Value → Shared → Prop} {s : Shared}
/-- sorted(x) where x's items are collected and none of them is a list or dict -/
theorem sorted_coll {x : Value} {β : Type} {R : Nat → Value → β → Prop} {bs : List β} {enc : β → PyData} {Q : Value → Shared → Prop}
    (hc : ∀ (E' : Value → Shared → Prop) (Q' : List Value → Shared → Prop), (∀ h' tk acc, (∀ b o, s.heap.get? b = some o → h'.get? b = some o) → s.toks ≤ tk → EachIs (R tk) acc bs → Q' acc { s with heap := h', toks := tk }) → wpAny (model prog w) A.in1 (collect x) Q' E' s)
    (ha : argsOk "sorted" ⟨[x], []⟩) (er : ∀ h v b tk, R tk v b → Reads h v (enc b) []) (hal : AllAlike (bs.map enc)) (hk : Sortable (bs.map enc)) (hL : bs.length ≤ sizeLine) (hu : ∀ b, b ∈ bs → A.units + 2 + (enc b).depth < cLine)
    (h : ∀ (h1 h' : Heap) tk out c, (∀ b o, s.heap.get? b = some o → h1.get? b = some o) → (∀ b o, s.heap.get? b = some o → h'.get? b = some o) → s.toks ≤ tk → h'.get? h1.objs.size = some (seqObj "list" (List.toArray out) c) → EachIs (R tk) out (bs.mergeSort (dataLe false enc)) → Q (.ref h1.objs.size) { s with heap := h', toks := tk }) :
    wpAny (model prog w) A (call (.builtin "sorted") [x]) Q E s := by
  refine call_function_entry kind_sorted plain_sorted entry_sorted ha ?_
  unfold Builtin.«sorted»
  refine wpAny_bind (m := checkCount "sorted" 1 1 _) (wpAny_pure ?_)
  refine wpAny_bind (hc _ _ fun h1 tk acc k1 ht ea => ?_)
  have hlen : acc.length = bs.length := ea.length
  refine wpAny_bind (wpAny_newList ?_ (by rw [hlen]; exact hL))
  have hat : (h1.push (seqObj "list" acc.toArray 0)).get? h1.objs.size = some (seqObj "list" acc.toArray 0) := Heap.get?_push_size _ rfl
  have er' : ∀ (g : Heap), EachIs (fun v b => ∃ as, Reads g v (enc b) as ∧ h1.objs.size ∉ as) acc bs := fun g => ea.mono fun v b r => ⟨[], er g v b tk r, by simp⟩
  refine wpAny_bind (wpAny_holding (wpAny_mono (E := fun _ _ => False) (list_sort_data (A := A.in1) (s := { s with heap := h1.push (seqObj "list" acc.toArray 0), toks := tk }) hat ea (er' _) hal hk hL
    (fun b hb => by have := hu b hb; show A.units + 1 + 1 + _ < _; omega) (Q := fun _ s' => Q (.ref h1.objs.size) s') fun out hol eo => ?_) (fun _ s' q => ?_) fun _ _ z => z.elim))
  · obtain ⟨c, hcc⟩ := sortedHeap_at (vs := acc) (out := out.toArray) hat
    refine h h1 _ tk out c k1 (fun b o e0 => ?_) ht hcc eo
    have e1 := k1 b o e0
    have hlt := Heap.lt_size e1
    have e2 := Heap.get?_push_of_some (seqObj "list" acc.toArray 0) e1
    exact (sortedHeap_old (Nat.ne_of_lt hlt) (Heap.lt_size e2)).trans e2
  · exact wpAny_pure ⟨_, rfl, q⟩
end
section
variable {X : Cx} {c c0 c1 c2 : Cf}
theorem SR.newer (S : SR X c) {h1 : Heap} (k : ∀ b o, c.s.heap.get? b = some o → h1.get? b = some o) : c.s.heap.get? h1.objs.size = none ∧ (h1.objs.size == sysModules) = false := by
  refine ⟨?_, ?_⟩
  · cases q : c.s.heap.get? h1.objs.size with
    | none => rfl
    | some o => exact absurd (Heap.lt_size (k _ o q)) (Nat.lt_irrefl _)
  · have := ((S.ok.mod.glob.keeps S.bk).keeps k).lt
    have e : mainGlobals = 3 := rfl
    have e1 : sysModules = 1 := rfl
    rw [beq_eq_false_iff_ne]
    intro h
    rw [h, e, e1] at this
    exact absurd this (by decide)
def fSorted : D → Option Res
  | .lst ds => if okSort ds = true then some (.fresh (.lst (sortD ds))) else none
  | .str s => if okSort (signs s) = true then some (.fresh (.lst (sortD (signs s)))) else none
  | .dic kvs => if okSort (kvs.map (·.1)) = true then some (.fresh (.lst (sortD (kvs.map (·.1))))) else none
  | _ => none
theorem sort_room (S : SR X c) {d : D} (h : d.py.depth ≤ 64) : X.A.units + 2 + d.py.depth < cLine := by
  have := S.ok.room
  omega
theorem PostE.sorted {vs : List Value} {ds : List D} {h' h1 : Heap} {tk n : Nat} (S : SR X c) (k1 : ∀ b o, c.s.heap.get? b = some o → h1.get? b = some o) (k : ∀ b o, c.s.heap.get? b = some o → h'.get? b = some o) (ht : c.s.toks ≤ tk) (hz : ds.length ≤ sizeLine)
    (e : h'.get? h1.objs.size = some (seqObj "list" vs.toArray n)) (ea : EachIs (fun v d => Rep X.w c.F tk v d) vs (sortD ds)) : PostE X c (.ok (.fresh (.lst (sortD ds))) c.ρ) (.ref h1.objs.size) { c.s with heap := h', toks := tk } := by
  obtain ⟨hn, hs⟩ := S.newer k1
  have hl : vs.length = ds.length := by rw [ea.length]; exact List.length_mergeSort _
  exact PostE.new (s' := { c.s with heap := h', toks := tk }) S k ht hn e (.lst (by rw [List.size_toArray, hl]; exact hz) (each_repL ea)) hs
theorem bare_key {w : World} {F : FH} {T : Nat} {v : Value} {k : Key} (h : Heap) (r : Rep w F T v (keyD k)) : Reads h v (keyD k).py [] := by
  cases k with
  | inl i => obtain ⟨t, rfl⟩ := r.int_inv; simp only [keyD, D.py]; exact .int i t
  | inr x => obtain ⟨t, rfl, _⟩ := r.str_inv; simp only [keyD, D.py]; exact .str _ t
theorem bare_sign {w : World} {F : FH} {T : Nat} {v : Value} {s : List Nat} (h : Heap) (r : Rep w F T v (.str s)) : Reads h v (D.str s).py [] := by
  obtain ⟨t, rfl, _⟩ := r.str_inv; simp only [D.py]; exact .str _ t
theorem each_mem' {α β : Type} {R : α → β → Prop} : ∀ {vs : List α} {bs : List β}, EachIs R vs bs → EachIs (fun v b => R v b ∧ b ∈ bs) vs bs
  | _, _, .nil => .nil
  | _, _, .cons a r => .cons ⟨a, List.mem_cons_self⟩ ((each_mem' r).mono fun _ _ z => ⟨z.1, List.mem_cons_of_mem _ z.2⟩)
theorem c1_sorted (htz : 0 < X.tz := by exact Nat.zero_lt_one) : C1 X (.builtin "sorted") fSorted := by
  intro c v d r S rv h
  cases d with
  | lst ds =>
    have h : (if okSort ds = true then some (Res.fresh (.lst (sortD ds))) else none) = some r := h
    by_cases q : okSort ds = true
    · rw [if_pos q] at h; cases h
      obtain ⟨a, vs, rfl, il, z, l⟩ := lst_list S rv.view
      refine sorted_data (R := fun v d => Rep X.w c.F c.s.toks v d) (enc := D.py) (bs := ds) il l.each (l.eachReads S.sub) (okSort_al q) (okSort_so q) (by rw [← l.length]; exact z) (fun b hb => sort_room S (okSort_de q hb)) fun out hol eo => ?_
      obtain ⟨ep, he'⟩ := PyProof.Rows.sortedAll_at c.s.heap vs out.toArray
      have hl : out.length = ds.length := hol
      refine PostE.new (a := c.s.heap.objs.size + 1) (s' := { c.s with heap := sortedAll c.s.heap vs out.toArray }) S (fun _ _ => PyProof.Rows.sortedAll_old) (Nat.le_refl _) (Heap.get?_none_of_le (Nat.le_succ _)) he' (.lst (by rw [List.size_toArray, hl, ← l.length]; exact z) (each_repL eo)) ?_
      have := (S.ok.mod.glob.keeps S.bk).lt
      have e : mainGlobals = 3 := rfl
      have e1 : sysModules = 1 := rfl
      rw [beq_eq_false_iff_ne, e1]
      rw [e] at this
      exact fun z => absurd (Nat.lt_of_lt_of_le this (Nat.le_of_lt (Nat.lt_of_lt_of_le (Nat.lt_succ_self _) (Nat.le_of_eq z)))) (by decide)
    · rw [if_neg q] at h; cases h
  | str s =>
    have h : (if okSort (signs s) = true then some (Res.fresh (.lst (sortD (signs s)))) else none) = some r := h
    by_cases q : okSort (signs s) = true
    · rw [if_pos q] at h; cases h
      obtain ⟨t, rfl, z⟩ := rv.view.str_inv
      have hz : (tx s).cps.size = s.length := by simp [tx]
      have hl : (signs s).length = s.length := by simp [signs]
      refine sorted_coll (R := fun tk v d => Rep X.w c.F tk v d ∧ d ∈ signs s) (enc := D.py) (bs := signs s) (fun E' Q' hQ' => ?_) (PyProof.Rows.args_sorted1 _) (fun h v b tk z => ?_) (okSort_al q) (okSort_so q) (by rw [hl]; exact z) (fun b hb => sort_room S (okSort_de q hb)) fun h1 h' tk out n k1 k ht e eo => ?_
      · refine collect_text (A := X.A.in1) S.ok.hd (tx s) t (fun h' tk acc k ht sg => ?_) (by rw [hz]; exact z)
        rw [hz] at sg
        exact hQ' h' tk acc.toList k ht (each_mem' ((sg.rep (S.tkp htz)).each))
      · obtain ⟨z1, z2⟩ := z
        obtain ⟨k, _, rfl⟩ := List.mem_map.mp z2
        exact bare_sign h z1
      · exact PostE.sorted S k1 k ht (by rw [hl]; exact z) e (eo.mono fun _ _ z => z.1)
    · rw [if_neg q] at h; cases h
  | dic kvs =>
    have h : (if okSort (kvs.map (·.1)) = true then some (Res.fresh (.lst (sortD (kvs.map (·.1))))) else none) = some r := h
    by_cases q : okSort (kvs.map (·.1)) = true
    · rw [if_pos q] at h; cases h
      obtain ⟨a, o, es, ep, ks, rfl, ns, qa, hx, hd, z, rk, nd, rfl⟩ := rv.view.dic_inv S.sub
      have hl : ((ks.map fun p => (keyD p.1, p.2)).map (·.1)).length = es.size := by simpa using rk.length.symm
      refine sorted_coll (R := fun tk v d => Rep X.w c.F tk v d ∧ d ∈ (ks.map fun p => (keyD p.1, p.2)).map (·.1)) (enc := D.py) (bs := (ks.map fun p => (keyD p.1, p.2)).map (·.1)) (fun E' Q' hQ' => ?_) (PyProof.Rows.args_sorted1 _) (fun h v b tk z => ?_) (okSort_al q) (okSort_so q) (by rw [hl]; exact z) (fun b hb => sort_room S (okSort_de q hb)) fun h1 h' tk out n k1 k ht e eo => ?_
      · refine wpAny_with_toks (Nat.le_refl _) (kdu_collect (A := X.A.in1) (KdlSrc.rawDict ns) S.ok.hd ⟨o, qa, hx, hd⟩ z fun h' tk acc k it ht => ?_)
        have ek := items_keys it
        exact hQ' h' tk acc.toList k ht (each_mem' (by rw [ek]; exact (rk.keys.mono (Sub.refl _) ht).each))
      · obtain ⟨z1, z2⟩ := z
        obtain ⟨p, hp, rfl⟩ := List.mem_map.mp z2
        obtain ⟨p', _, rfl⟩ := List.mem_map.mp hp
        exact bare_key h z1
      · exact PostE.sorted S k1 k ht (by rw [hl]; exact z) e (eo.mono fun _ _ z => z.1)
    · rw [if_neg q] at h; cases h
  | _ => cases h
end
end GB
/-! isinstance, repr, a list of one's own that changes, methods. -/
namespace GB
open PySem PySem.Spec PyProof.Rows PySem.W
open L2 (Key keyH keyIs mixKind Mod Look Vis Loc frs thn)
section
variable {X : Cx} {c c0 c1 c2 : Cf} {a b e : Expr} {es rest : List Expr} {da db dc : DE} {pos p2 cpos apos : Pos}
/-! ### isinstance(x, T), T a built-in class -/
def D.ty : D → String
  | .non => "NoneType"
  | .bl _ => "bool"
  | .int _ => "int"
  | .str _ => "str"
  | .tup _ => "tuple"
  | .lst _ => "list"
  | .dic _ => "dict"
def isiB (t c : String) : Bool := t == c || (t == "bool" && c == "int")
def cls6 : List String := ["str", "int", "bool", "tuple", "list", "dict"]
theorem isi_kit : ∀ t ∈ ["NoneType", "bool", "int", "str", "tuple", "list", "dict"], ∀ c ∈ cls6, L2.kitB t c = some (isiB t c) := by decide +kernel
theorem D.ty_mem (d : D) : d.ty ∈ ["NoneType", "bool", "int", "str", "tuple", "list", "dict"] := by cases d <;> simp [D.ty]
theorem isi_ok {v : Value} {d : D} {T : String} (hT : T ∈ cls6) (S : SR X c) (rv : View X.w c v d) : wpAny (model X.prog X.w) X.A (call (.builtin "isinstance") [v, .type T]) (PostE X c (.ok (.val (.bl (isiB d.ty T))) c.ρ)) X.xe c.s := by
  have hk := L2.kit_ty (K := X.K) (isi_kit _ d.ty_mem _ hT)
  refine wpAny_with_toks (Nat.le_refl _) ?_
  have fin : ∀ tk, c.s.toks ≤ tk → PostE X c (.ok (.val (.bl (isiB d.ty T))) c.ρ) (.bool (isiB d.ty T)) { c.s with toks := tk } := fun tk ht => PostE.tok S ht (.bl _)
  cases d with
  | non => obtain rfl := rv.non_inv; exact PySem.W.kia_one PySem.W.kitx_none S.kIn True.intro hk (fun z => nomatch z) fin
  | bl b => obtain rfl := rv.bl_inv; exact PySem.W.kia_one PySem.W.kitx_bool S.kIn True.intro hk (fun z => nomatch z) fin
  | int i => obtain ⟨t, rfl⟩ := rv.int_inv; exact PySem.W.kia_one PySem.W.kitx_int S.kIn True.intro hk (fun z => nomatch z) fin
  | str s => obtain ⟨t, rfl, _⟩ := rv.str_inv; exact PySem.W.kia_one PySem.W.kitx_str S.kIn True.intro hk (fun z => nomatch z) fin
  | lst ds => obtain ⟨a, vs, n, rfl, q, _⟩ := rv.lst_inv S.sub; exact PySem.W.kia_one PySem.W.kitx_list S.kIn ⟨_, q, rfl⟩ hk (fun z => nomatch z) fin
  | tup ds => obtain ⟨a, o, vs, n, rfl, q, h1, _⟩ := rv.tup_inv S.sub; exact PySem.W.kia_one PySem.W.kitx_tuple S.kIn ⟨_, q, h1⟩ hk (fun z => nomatch z) fin
  | dic ds => obtain ⟨a, o, es, ep, ks, rfl, ns, q, hx, _⟩ := rv.dic_inv S.sub; exact PySem.W.kia_one PySem.W.kitx_dict S.kIn ⟨_, q, hx.1⟩ hk (fun z => nomatch z) fin
def dIsi (T : String) (l : DL) : DE := fun ρ => obind (l ρ) fun x ρ1 => match x.now ρ1 with
  | some d => some (.ok (.val (.bl (isiB d.ty T))) ρ1)
  | none => none
theorem pd_isi {x y : Str} {T : String} {l : DL} {p py : Pos} (hT : T ∈ cls6 := by decide) (hm : X.mg x = none) (hmT : X.mg y = none) (hvT : bootBuiltins y = some (.type T) := by first | rfl | decide +kernel) (ha : PL X e l) (hx : bootBuiltins x = some (.builtin "isinstance") := by first | rfl | decide +kernel)
    (hg : Gl X x := by rfl) (hgT : Gl X y := by rfl) (hn : x ≠ "__name__" := by decide) (hdb : (x == ("__debug__" : Str)) = false := by decide) (hnT : y ≠ "__name__" := by decide) (hdbT : (y == ("__debug__" : Str)) = false := by decide)
    (hs : starEach [e, .Name y py] X.env = [(false, eval e X.env), (false, eval (.Name y py) X.env)] := by rfl) (hs2 : starEach [.Name y py] X.env = [(false, eval (.Name y py) X.env)] := by rfl) : PD X (.Call (.Name x p) [e, .Name y py] [] pos) (dIsi T l) := by
  refine ⟨fun c o S hd kx => ?_⟩
  refine wpAny_Call_Name_kw (S.bltn hg hm hx ?_ hn hdb)
  refine PyProof.Rows.callWith_builtin1 ?_ (by rw [hs, hs2]) (by rw [hs2]; rfl)
  rw [hs]
  show wpAny _ _ (spliced [(false, eval e X.env), (false, eval (.Name y py) X.env)]) _ _ _
  refine Calls.spliced_cons (ha.go S hd kx fun l c1 v f1 S1 ro hd1 => Calls.spliced_cons (S1.bltn hgT hmT hvT (Calls.spliced_nil ?_) hnT hdbT))
  cases hx : l.now c1.ρ with
  | none => rw [hx] at hd1; cases hd1
  | some d =>
    rw [hx] at hd1; cases hd1
    exact thn (isi_ok hT S1 (ro.now Fr.refl S1 hx)) fun _ _ q => PostE.from f1 q
/-! ### repr -/
mutual
/-- all ints are short, the texts' signs are signs; no dict -/
def D.num : D → Bool
  | .int i => decide (i.natAbs < 10 ^ 55)
  | .str s => PyData.strOk (tx s)
  | .tup xs => D.nums xs
  | .lst xs => D.nums xs
  | .dic _ => false
  | _ => true
def D.nums : List D → Bool
  | [] => true
  | x :: xs => D.num x && D.nums xs
end
def D.okShow (d : D) : Bool := d.num && decide (d.deep ≤ 64) && decide (d.py.weight ≤ 250000)
theorem natAbs_log {n : Nat} (h : n < 10 ^ 55) : n.log2 < 1920 := by
  by_cases z : n = 0
  · subst z; decide
  · have : n < 2 ^ 1920 := Nat.lt_trans h (by decide +kernel)
    exact (Nat.log2_lt z).mpr this
theorem strOk_short {x : Str} (h : PyData.strOk x = true) : (x.cps.toList.all fun c => decide (c < 16 ^ 8)) = true := by
  have e : PyData.leavesShort 60 (.str x) = true := PyData.leavesShort_of_canLay0 60 (.str x) (by simpa [PyData.canLay0] using h) (by simp [PyData.intsShort])
  simpa [PyData.leavesShort] using e
mutual
theorem D.short : ∀ d : D, d.num = true → d.py.leavesShort 60 = true ∧ d.py.showable = true ∧ d.py.hasDict = false ∧ d.flat = true
  | .non, _ => by simp [D.py, PyData.leavesShort, PyData.showable, PyData.hasDict, D.flat]
  | .bl _, _ => by simp [D.py, PyData.leavesShort, PyData.showable, PyData.hasDict, D.flat]
  | .int i, h => by
    have h' : i.natAbs < 10 ^ 55 := by simpa [D.num] using h
    have e := int_text_length_le10 (k := 55) (by decide) h'
    have e2 : (PyData.shown (.int i)).length ≤ 60 := by
      show (Str.ofString (toString i)).length ≤ 60
      rw [PySem.ofString_length]; omega
    refine ⟨?_, ?_, ?_, ?_⟩
    · simp only [D.py, PyData.leavesShort]; exact decide_eq_true e2
    · simp only [D.py, PyData.showable]; exact decide_eq_true (natAbs_log h')
    · simp [D.py, PyData.hasDict]
    · simp [D.flat]
  | .str s, h => by
    have h' : PyData.strOk (tx s) = true := by simpa [D.num] using h
    refine ⟨?_, by simp [D.py, PyData.showable], by simp [D.py, PyData.hasDict], by simp [D.flat]⟩
    simp only [D.py, PyData.leavesShort]
    exact strOk_short h'
  | .tup xs, g => by
    have := D.shorts xs (by simpa [D.num] using g)
    simpa only [D.py, PyData.leavesShort, PyData.showable, PyData.hasDict, D.flat] using this
  | .lst xs, g => by
    have := D.shorts xs (by simpa [D.num] using g)
    simpa only [D.py, PyData.leavesShort, PyData.showable, PyData.hasDict, D.flat] using this
  | .dic _, h => by simp [D.num] at h
theorem D.shorts : ∀ xs : List D, D.nums xs = true → PyData.leavesShortAll 60 (D.pys xs) = true ∧ PyData.showableAll (D.pys xs) = true ∧ PyData.hasDictAll (D.pys xs) = false ∧ D.flats xs = true
  | [], _ => by simp [D.pys, PyData.leavesShortAll, PyData.showableAll, PyData.hasDictAll, D.flats]
  | x :: xs, g => by
    have g' : x.num = true ∧ D.nums xs = true := by simpa [D.nums] using g
    obtain ⟨a1, a2, a3, a4⟩ := D.short x g'.1
    obtain ⟨b1, b2, b3, b4⟩ := D.shorts xs g'.2
    simp [D.pys, PyData.leavesShortAll, PyData.showableAll, PyData.hasDictAll, D.flats, a1, a2, a3, a4, b1, b2, b3, b4]
end
theorem D.shows {d : D} (h : d.okShow = true) : d.py.showable = true ∧ d.py.shown.length ≤ sizeLine ∧ d.py.hasDict = false ∧ d.py.depth ≤ 64 := by
  have h' : (d.num = true ∧ d.deep ≤ 64) ∧ d.py.weight ≤ 250000 := by simpa [D.okShow] using h
  obtain ⟨⟨h2, h3⟩, h4⟩ := h'
  obtain ⟨a, b, c, f⟩ := D.short d h2
  refine ⟨b, ?_, c, by rw [(D.lay d f).2]; exact h3⟩
  have q := PyData.shown_le 60 (by decide) d.py a
  rw [sizeLine_eq]
  omega
/-- what repr tells -/
def D.shown (d : D) : List Nat := d.py.shown.cps.toList
def fRepr : D → Option Res
  | d => if d.okShow = true then some (.weak d.shown) else none
theorem c1_repr : C1 X (.builtin "repr") fRepr := by
  intro c v d r S rv h
  have h : (if d.okShow = true then some (Res.weak d.shown) else none) = some r := h
  by_cases q : d.okShow = true
  · rw [if_pos q] at h; cases h
    obtain ⟨hs, hl, hn, hdp⟩ := D.shows q
    obtain ⟨as, rd⟩ := rv.view.reads S.sub
    have fin : ∀ (h' : Heap) (t : Tok) (tk : Nat), (∀ b o, c.s.heap.get? b = some o → h'.get? b = some o) → c.s.toks ≤ tk → PostE X c (.ok (.weak d.shown) c.ρ) (.str d.py.shown t) { c.s with heap := h', toks := tk } := fun h' t tk hk ht => by
      obtain ⟨S', f⟩ := S.kept (s' := { c.s with heap := h', toks := tk }) hk ht
      refine ⟨_, { c with s := { c.s with heap := h', toks := tk } }, rfl, rfl, f, S', t, ?_, ?_⟩
      · unfold D.shown; rw [tx_of]
      · unfold D.shown; simpa [Str.length] using hl
    refine wpAny_with_toks (Nat.le_refl _) ?_
    have hu := S.ok.room
    have hg := S.ok.guards
    generalize hp : d.py = p at rd hs hl hn hdp fin
    cases rd with
    | none => exact PySem.P.repr_of_none (fin c.s.heap _ _ fun _ _ e => e)
    | bool b => exact PySem.P.repr_of_bool (fin c.s.heap _ _ fun _ _ e => e)
    | int i t => exact PySem.P.repr_of_int (by simpa [PyData.showable] using hs) (fin c.s.heap _ _ fun _ _ e => e)
    | str y t => exact PySem.P.repr_of_str (fin c.s.heap _ _ fun _ _ e => e) hl
    | list h1 h2 h3 h4 => exact repr_of_reads' (.list h1 h2 h3 h4) hs (fun z => absurd z (by rw [hn]; simp)) hg (by omega) (fun _ _ e => e) (fun h' t tk hk => fin h' t tk hk) hl
    | tuple h1 h2 h3 h4 => exact repr_of_reads' (.tuple h1 h2 h3 h4) hs (fun z => absurd z (by rw [hn]; simp)) hg (by omega) (fun _ _ e => e) (fun h' t tk hk => fin h' t tk hk) hl
    | dict h1 h2 h3 h4 h5 => simp [PyData.hasDict] at hn
  · rw [if_neg q] at h; cases h
/-! ### a list or dict of one's own changes -/
def Slot.put : Slot → D → Slot
  | .own _, d => .own d
  | .par _, d => .par d
  | s, _ => s
theorem funs_of {h h' base : Heap} : ∀ (l : List Env), (∀ b ∈ frs l, ∀ o, h.get? b = some o → h'.get? b = some o) → h.FunFrames base l → h'.FunFrames base l := by
  intro l
  induction l with
  | nil => intro _ _; trivial
  | cons env r ih =>
    intro hs hl
    obtain ⟨hk, ⟨L, o, hf, hn, ho, hd⟩, hr⟩ := hl
    have e : frs (env :: r) = L :: frs r := by unfold frs; rw [List.filterMap_cons, hf]
    exact ⟨hk, ⟨L, o, hf, hn, hs L (by rw [e]; exact List.mem_cons_self) o ho, hd⟩, ih (fun b hb => hs b (by rw [e]; exact List.mem_cons_of_mem _ hb)) hr⟩
theorem SR.write (S : SR X c) {i : Nat} {sl : Slot} {d d' : D} {o' : Obj} {s' : Shared} (h : c.ρ[i]? = some sl) (hs : sl = .own d ∨ sl = .par d) (k : ∀ b o, b ≠ c.α i → c.s.heap.get? b = some o → s'.heap.get? b = some o) (e : s'.heap.get? (c.α i) = some o')
    (r : ObjIs X.w c.F s'.toks o' d') (mu : d'.isMut = true) (ht : c.s.toks ≤ s'.toks) (ho : s'.os = c.s.os := by rfl) (hg : s'.gens = c.s.gens := by rfl) :
    SR X { c with ρ := c.ρ.set i (sl.put d'), s := s' } ∧ Fr X c { c with ρ := c.ρ.set i (sl.put d'), s := s' } := by
  have hi : i < c.ρ.length := (List.getElem?_eq_some_iff.mp h).1
  have io : isOwn c.ρ i := ⟨d, by rw [h]; rcases hs with rfl | rfl; exact .inl rfl; exact .inr rfl⟩
  have ow : Owns c (c.α i) := ⟨i, io, rfl⟩
  obtain ⟨⟨d0, oa0⟩, nm⟩ := S.owned ow
  have hx : X.N[i]? = some (X.N[i]'(by rw [← S.len]; exact hi)) := by simp
  have lkup : ∀ (j : Nat), (c.ρ.set i (sl.put d'))[j]? = if i = j then some (sl.put d') else c.ρ[j]? := fun j => by
    rw [List.getElem?_set]
    by_cases z : i = j
    · subst z; simp [hi]
    · simp [z]
  have own_iff : ∀ j, isOwn (c.ρ.set i (sl.put d')) j → isOwn c.ρ j := fun j ⟨x, q⟩ => by
    rw [lkup] at q
    by_cases z : i = j
    · subst z; exact io
    · rw [if_neg z] at q; exact ⟨x, q⟩
  have nstk : c.α i ∉ frs X.stack := fun z => nm (.inr (.inr z))
  have frk : ∀ b o, b ∈ frs X.stack → c.s.heap.get? b = some o → s'.heap.get? b = some o := fun b o z q => k b o (fun w => nstk (w ▸ z)) q
  have frk' : ∀ b ∈ frs X.stack, ∀ o, c.s.heap.get? b = some o → s'.heap.get? b = some o := fun b hb o q => frk b o hb q
  have cellk : ∀ y a, X.env.cells.lookup y = some a → ∀ v, c.s.heap.IsCell a v → s'.heap.IsCell a v := fun y a hy v ⟨o, q, dd⟩ => by
    obtain ⟨oo, qq, rr⟩ := oa0.ob
    exact ⟨o, k a o (fun z => S.ncell qq rr y (z ▸ hy)) q, dd⟩
  refine ⟨⟨S.ok, ho.trans S.os, by rw [hg]; exact S.bare, fun b o q => k b o (fun z => ?_) (S.bk b o q), ?_, ?_, fun y a hy => ?_, fun b o q => k b o (fun z => ?_) (S.sub b o q), S.mine, fun j l q1 q2 q3 => S.inj j l (own_iff j q1) (own_iff l q2) q3, fun b z => ?_, Nat.le_trans S.tk ht, by rw [List.length_set]; exact S.len, S.cfree⟩,
    ⟨⟨Sub.refl _, ht, fun b o q => ?_, fun b o q n _ => ⟨k b o (fun z => n (z ▸ ow)) q, fun ⟨j, jo, jb⟩ => n ⟨j, own_iff j jo, jb⟩, id⟩, fun b o z _ q => ⟨o.slots, frk b o z q⟩, fun j x q => ?_, fun j _ => ⟨rfl, own_iff j⟩⟩, rfl⟩⟩
  · rw [z] at q; rw [oa0.nb] at q; cases q
  · exact funs_of X.stack frk' S.frm
  · obtain ⟨m, hm, slk⟩ := S.loc
    refine ⟨m, ?_, fun j x s h1 h2 => ?_⟩
    · obtain ⟨o, es, ep, q, dd, rr⟩ := hm
      exact ⟨o, es, ep, k _ _ (fun z => nm (.inl z.symm)) q, dd, rr⟩
    · have h2 : (c.ρ.set i (sl.put d'))[j]? = some s := h2
      rw [lkup] at h2
      by_cases z : i = j
      · subst z
        rw [if_pos rfl] at h2; cases h2
        have old := slk i x _ h1 h
        rcases hs with rfl | rfl
        · obtain ⟨l, oa, no, nm'⟩ := old
          exact ⟨Look.keep' cellk l, ⟨oa.nf, oa.ns, oa.nb, mu, o', e, r⟩, no, nm'⟩
        · obtain ⟨l, oa, nm'⟩ := old
          exact ⟨Look.keep' cellk l, ⟨oa.nf, oa.ns, oa.nb, mu, o', e, r⟩, nm'⟩
      · rw [if_neg z] at h2
        refine (slk j x s h1 h2).keep (Sub.refl _) ht cellk fun ⟨y, hy⟩ => ?_
        have jo : isOwn c.ρ j := ⟨y, by rcases hy with rfl | rfl; exact .inl h2; exact .inr h2⟩
        obtain ⟨⟨y', oy⟩, _⟩ := S.owned ⟨j, jo, rfl⟩
        exact ⟨oy.nf, fun o q => k _ o (fun w => z (S.inj j i jo io w).symm) q⟩
  · obtain ⟨v, z⟩ := S.cell y a hy
    exact ⟨v, cellk y a hy v z⟩
  · rw [z] at q; rw [oa0.nf] at q; cases q
  · obtain ⟨o, q⟩ := S.olds b z
    by_cases w : b = c.α i
    · subst w; exact ⟨o', e⟩
    · exact ⟨o, k b o w q⟩
  · by_cases w : b = c.α i
    · subst w; exact ⟨o', e⟩
    · exact ⟨o, k b o w q⟩
  · have q : (c.ρ.set i (sl.put d'))[j]? = some (.par x) := q
    rw [lkup] at q
    by_cases z : i = j
    · subst z
      rw [if_pos rfl] at q
      rcases hs with rfl | rfl
      · cases q
      · exact ⟨⟨d, h⟩, rfl⟩
    · rw [if_neg z] at q; exact ⟨⟨x, q⟩, rfl⟩
end
end GB
/-! Methods: of what is looked at; of a list of one's own, which changes. -/
namespace GB
open PySem PySem.Spec PyProof.Rows
open L2 (Key keyH keyIs mixKind Mod Look Vis Loc frs thn)
section
variable {X : Cx} {c c0 c1 c2 : Cf} {a b e o : Expr} {es rest : List Expr} {da db dc : DE} {pos p2 cpos apos : Pos} {name : Str} {T id : String}
/-- a method of a value that is looked at -/
def CM (X : Cx) (T id : String) (g : D → List D → Option Res) : Prop := ∀ (c : Cf) (v : Value) (d : D) (us : List Value) (ds : List D) (r : Res), SR X c → ViewG X.w c v d → RepL X.w c.F c.s.toks us ds → g d ds = some r → wpAny (model X.prog X.w) X.A (call (.builtin id) (v :: us)) (PostE X c (.ok r c.ρ)) X.xe c.s
def dMeth (T : String) (g : D → List D → Option Res) (l : DL) (a : DA) : DE := fun ρ => obind (l ρ) fun x ρ1 => match x.now ρ1 with
  | some d1 => if tyOf d1 = T then obind (a ρ1) fun ds ρ2 => (match x.now ρ2 with
    | some d => (match g d ds with
      | some z => some (.ok z ρ2)
      | none => none)
    | none => none) else none
  | none => none
theorem ty4 {d : D} {T : String} (h : tyOf d = T) (hT : T = "str" ∨ T = "list" ∨ T = "tuple" ∨ T = "dict") : tyOf d = "str" ∨ tyOf d = "list" ∨ tyOf d = "tuple" ∨ tyOf d = "dict" := by rw [h]; exact hT
theorem pd_meth {g : D → List D → Option Res} {l : DL} {d : DA} (hm : CM X T id g) (pa : PlainAttrs T) (slot : PySem.Slot T name id) (hty : typeOf (.builtin id) = pure (.type "method_descriptor")) (ho : PG X o l) (ha : PA X (e :: es) d)
    (hT : T = "str" ∨ T = "list" ∨ T = "tuple" ∨ T = "dict" := by decide)
    (hbase : attributeBase o name X.env (eval o X.env) = eval o X.env := by rfl)
    (hfew : ((backTo cpos (starEach (e :: es) X.env)).all (fun x => !x.1) && (backToKw cpos (keywordEach [] X.env)).all (fun x => x.1.isSome)
      && decide ((e :: es).length + ([] : List Keyword).length + (if ([] : List Keyword).isEmpty then 0 else 1) < 30)) = true := by rfl)
    (hline : (apos.endLine == cpos.line) = true := by rfl) (hs : starEach (e :: es) X.env = (false, eval e X.env) :: starEach es X.env := by rfl) (hplain : (backTo cpos (starEach es X.env)).any (·.1) = false := by rfl) :
    PD X (.Call (.Attribute o name apos) (e :: es) [] cpos) (dMeth T g l d) := by
  refine ⟨fun c o S hd kx => ?_⟩
  refine wpAny_Call_method_late hbase hfew hline rfl (ho.go S hd kx fun x c1 v f1 S1 ro hd1 => ?_)
  cases h1 : x.now c1.ρ with
  | none => rw [h1] at hd1; cases hd1
  | some d1 =>
    simp only [h1] at hd1
    by_cases ht : tyOf d1 = T
    · rw [if_pos ht] at hd1
      obtain ⟨q1, q2⟩ := (ro.now Fr.refl S1 h1).view.isT S1.sub (ty4 ht hT)
      rw [ht] at q1
      refine ⟨T, id, pa, slot, hty, q1, q2, ?_⟩
      have hA := ha.go (pos := cpos) (Q := fun us s2 => wpAny (model X.prog X.w) X.A (call (.builtin id) (v :: us)) (PostE X c o) X.xe s2) S1 hd1 (f1.toFrB.kx kx) fun ds c2 us f2 S2 rs hd2 => by
        cases h2 : x.now c2.ρ with
        | none => rw [h2] at hd2; cases hd2
        | some d2 =>
          simp only [h2] at hd2
          cases hz : g d2 ds with
          | none => rw [hz] at hd2; cases hd2
          | some z =>
            simp only [hz] at hd2; cases hd2
            exact thn (hm c2 v d2 us ds z S2 (ro.now f2 S2 h2) rs hz) fun _ _ q => PostE.from (f1.trans f2) q
      rw [hs] at hA ⊢
      exact Calls.callWith_builtin (by show (false || (backTo cpos (starEach es X.env)).any (·.1)) = false; rw [hplain] <;> rfl) (Calls.evalArgs_plain hA)
    · rw [if_neg ht] at hd1; cases hd1
def dMeth0 (T : String) (g : D → List D → Option Res) (l : DL) : DE := fun ρ => obind (l ρ) fun x ρ1 => match x.now ρ1 with
  | some d => if tyOf d = T then (match g d [] with
      | some z => some (.ok z ρ1)
      | none => none) else none
  | none => none
theorem pd_meth0 {g : D → List D → Option Res} {l : DL} (hm : CM X T id g) (pa : PlainAttrs T) (slot : PySem.Slot T name id) (hty : typeOf (.builtin id) = pure (.type "method_descriptor")) (ho : PG X o l)
    (hT : T = "str" ∨ T = "list" ∨ T = "tuple" ∨ T = "dict" := by decide) (hbase : attributeBase o name X.env (eval o X.env) = eval o X.env := by rfl) (hline : (apos.endLine == cpos.line) = true := by rfl) :
    PD X (.Call (.Attribute o name apos) [] [] cpos) (dMeth0 T g l) := by
  refine ⟨fun c o S hd kx => ?_⟩
  refine wpAny_Call_method0_late hbase hline (ho.go S hd kx fun x c1 v f1 S1 ro hd1 => ?_)
  cases h1 : x.now c1.ρ with
  | none => rw [h1] at hd1; cases hd1
  | some d =>
    simp only [h1] at hd1
    by_cases ht : tyOf d = T
    · rw [if_pos ht] at hd1
      obtain ⟨q1, q2⟩ := (ro.now Fr.refl S1 h1).view.isT S1.sub (ty4 ht hT)
      rw [ht] at q1
      cases hz : g d [] with
      | none => rw [hz] at hd1; cases hd1
      | some z =>
        simp only [hz] at hd1; cases hd1
        exact ⟨T, id, pa, slot, hty, q1, q2, Calls.callWith_builtin rfl (PySem.evalArgs_none (thn (hm c1 v d [] [] z S1 (ro.now Fr.refl S1 h1) .nil hz) fun _ _ q => PostE.from f1 q))⟩
    · rw [if_neg ht] at hd1; cases hd1
/-! ### a method that changes a list of one's own -/
def CW (X : Cx) (id : String) (g : D → List D → Option (Res × D)) : Prop := ∀ (c : Cf) (i : Nat) (sl : Slot) (d : D) (us : List Value) (ds : List D) (r : Res) (d' : D), SR X c → c.ρ[i]? = some sl → (sl = .own d ∨ sl = .par d) → RepL X.w c.F c.s.toks us ds → g d ds = some (r, d') →
  wpAny (model X.prog X.w) X.A (call (.builtin id) (.ref (c.α i) :: us)) (PostE X c (.ok r (c.ρ.set i (sl.put d')))) X.xe c.s
def Slot.mine : Slot → Option D
  | .own d => some d
  | .par d => some d
  | _ => none
theorem Slot.mine_iff {s : Slot} {d : D} (h : s.mine = some d) : s = .own d ∨ s = .par d := by
  cases s with
  | own d => cases h; exact .inl rfl
  | par d => cases h; exact .inr rfl
  | _ => cases h
def dWr (g : D → List D → Option (Res × D)) (i : Nat) (ds : List D) : Rho → Option (O Res) := fun ρ => match ρ[i]? with
  | some sl => (match sl.mine with
    | some d => (match g d ds with
      | some (r, d') => some (.ok r (ρ.set i (sl.put d')))
      | none => none)
    | none => none)
  | none => none
def dMethW (T : String) (g : D → List D → Option (Res × D)) (i : Nat) (a : DA) : DE := fun ρ => match (ρ[i]?).bind Slot.mine with
  | some d1 => if tyOf d1 = T then obind (a ρ) (dWr g i) else none
  | none => none
theorem mine_view (S : SR X c) {i : Nat} {x : Str} {d : D} (hN : X.N[i]? = some x) (h : (c.ρ[i]?).bind Slot.mine = some d) : ∃ m, c.s.heap.Ns X.env.locals m ∧ Look X.env c.s.heap m x (.ref (c.α i)) ∧ View X.w c (.ref (c.α i)) d := by
  obtain ⟨sl, h1, h2⟩ := Option.bind_eq_some_iff.mp h
  obtain ⟨m, hm, slk⟩ := S.loc
  have := slk i x sl hN h1
  rcases Slot.mine_iff h2 with rfl | rfl
  · obtain ⟨l, oa, _⟩ := this
    obtain ⟨o, q, r⟩ := oa.ob
    exact ⟨m, hm, l, .inr ⟨_, o, rfl, oa.ns, q, r, oa.mu⟩⟩
  · obtain ⟨l, oa, _⟩ := this
    obtain ⟨o, q, r⟩ := oa.ob
    exact ⟨m, hm, l, .inr ⟨_, o, rfl, oa.ns, q, r, oa.mu⟩⟩
theorem wr_ok {g : D → List D → Option (Res × D)} {i : Nat} {us : List Value} {ds : List D} {oo : O Res} (hw : CW X id g) (f1 : Fr X c c1) (S1 : SR X c1) (rs : RepL X.w c1.F c1.s.toks us ds) (hd : dWr g i ds c1.ρ = some oo) :
    wpAny (model X.prog X.w) X.A (call (.builtin id) (.ref (c1.α i) :: us)) (PostE X c oo) X.xe c1.s := by
  unfold dWr at hd
  cases h1 : c1.ρ[i]? with
  | none => rw [h1] at hd; cases hd
  | some sl =>
    simp only [h1] at hd
    cases h2 : sl.mine with
    | none => rw [h2] at hd; cases hd
    | some d =>
      simp only [h2] at hd
      cases h3 : g d ds with
      | none => rw [h3] at hd; cases hd
      | some p =>
        obtain ⟨r, d'⟩ := p
        simp only [h3] at hd; cases hd
        exact thn (hw c1 i sl d us ds r d' S1 h1 (Slot.mine_iff h2) rs h3) fun _ _ q => PostE.from f1 q
theorem pd_methW {g : D → List D → Option (Res × D)} {d : DA} (i : Nat) {x : Str} {px : Pos} (hm : CW X id g) (pa : PlainAttrs T) (slot : PySem.Slot T name id) (hty : typeOf (.builtin id) = pure (.type "method_descriptor")) (ha : PA X (e :: es) d)
    (hN : X.N[i]? = some x := by rfl) (hT : T = "str" ∨ T = "list" ∨ T = "tuple" ∨ T = "dict" := by decide)
    (hbase : attributeBase (.Name x px) name X.env (eval (.Name x px) X.env) = eval (.Name x px) X.env := by rfl)
    (hfew : ((backTo cpos (starEach (e :: es) X.env)).all (fun x => !x.1) && (backToKw cpos (keywordEach [] X.env)).all (fun x => x.1.isSome)
      && decide ((e :: es).length + ([] : List Keyword).length + (if ([] : List Keyword).isEmpty then 0 else 1) < 30)) = true := by rfl)
    (hline : (apos.endLine == cpos.line) = true := by rfl) (hs : starEach (e :: es) X.env = (false, eval e X.env) :: starEach es X.env := by rfl) (hplain : (backTo cpos (starEach es X.env)).any (·.1) = false := by rfl)
    (hd : (x == ("__debug__" : Str)) = false := by decide) (hcd : (x == ("__classdict__" : Str)) = false := by decide) :
    PD X (.Call (.Attribute (.Name x px) name apos) (e :: es) [] cpos) (dMethW T g i d) := by
  refine ⟨fun c o S hdo kx => ?_⟩
  unfold dMethW at hdo
  cases h1 : (c.ρ[i]?).bind Slot.mine with
  | none => rw [h1] at hdo; cases hdo
  | some d1 =>
    simp only [h1] at hdo
    by_cases ht : tyOf d1 = T
    · rw [if_pos ht] at hdo
      obtain ⟨m, hmm, l, rv⟩ := mine_view S hN h1
      refine wpAny_Call_method_late hbase hfew hline rfl (S.name hmm l ?_ hd hcd)
      obtain ⟨q1, q2⟩ := rv.isT S.sub (ty4 ht hT)
      rw [ht] at q1
      refine ⟨T, id, pa, slot, hty, q1, q2, ?_⟩
      have hA := ha.go (pos := cpos) (Q := fun us s2 => wpAny (model X.prog X.w) X.A (call (.builtin id) (.ref (c.α i) :: us)) (PostE X c o) X.xe s2) S hdo kx fun ds c2 us f2 S2 rs hd2 => by
        have := wr_ok hm f2 S2 rs hd2
        rw [f2.al] at this
        exact this
      rw [hs] at hA ⊢
      exact Calls.callWith_builtin (by show (false || (backTo cpos (starEach es X.env)).any (·.1)) = false; rw [hplain] <;> rfl) (Calls.evalArgs_plain hA)
    · rw [if_neg ht] at hdo; cases hdo
def dMethW0 (T : String) (g : D → List D → Option (Res × D)) (i : Nat) : DE := fun ρ => match (ρ[i]?).bind Slot.mine with
  | some d1 => if tyOf d1 = T then dWr g i [] ρ else none
  | none => none
theorem pd_methW0 {g : D → List D → Option (Res × D)} (i : Nat) {x : Str} {px : Pos} (hm : CW X id g) (pa : PlainAttrs T) (slot : PySem.Slot T name id) (hty : typeOf (.builtin id) = pure (.type "method_descriptor"))
    (hN : X.N[i]? = some x := by rfl) (hT : T = "str" ∨ T = "list" ∨ T = "tuple" ∨ T = "dict" := by decide)
    (hbase : attributeBase (.Name x px) name X.env (eval (.Name x px) X.env) = eval (.Name x px) X.env := by rfl) (hline : (apos.endLine == cpos.line) = true := by rfl)
    (hd : (x == ("__debug__" : Str)) = false := by decide) (hcd : (x == ("__classdict__" : Str)) = false := by decide) :
    PD X (.Call (.Attribute (.Name x px) name apos) [] [] cpos) (dMethW0 T g i) := by
  refine ⟨fun c o S hdo kx => ?_⟩
  unfold dMethW0 at hdo
  cases h1 : (c.ρ[i]?).bind Slot.mine with
  | none => rw [h1] at hdo; cases hdo
  | some d1 =>
    simp only [h1] at hdo
    by_cases ht : tyOf d1 = T
    · rw [if_pos ht] at hdo
      obtain ⟨m, hmm, l, rv⟩ := mine_view S hN h1
      refine wpAny_Call_method0_late hbase hline (S.name hmm l ?_ hd hcd)
      obtain ⟨q1, q2⟩ := rv.isT S.sub (ty4 ht hT)
      rw [ht] at q1
      exact ⟨T, id, pa, slot, hty, q1, q2, Calls.callWith_builtin rfl (PySem.evalArgs_none (wr_ok hm Fr.refl S .nil hdo))⟩
    · rw [if_neg ht] at hdo; cases hdo
/-! ### append, pop, extend -/
theorem own_lst (S : SR X c) {i : Nat} {sl : Slot} {ds : List D} (h : c.ρ[i]? = some sl) (hs : sl = .own (.lst ds) ∨ sl = .par (.lst ds)) : ∃ (vs : List Value) (n : Nat), c.s.heap.get? (c.α i) = some { cls := .type "list", data := .seq vs.toArray n } ∧ vs.length ≤ sizeLine ∧ RepL X.w c.F c.s.toks vs ds := by
  have io : isOwn c.ρ i := ⟨_, by rw [h]; rcases hs with rfl | rfl; exact .inl rfl; exact .inr rfl⟩
  obtain ⟨m, hm, slk⟩ := S.loc
  have hi : i < X.N.length := by rw [← S.len]; exact (List.getElem?_eq_some_iff.mp h).1
  have hx : X.N[i]? = some X.N[i] := by simp [hi]
  have q := slk i _ sl hx h
  have oa : OwnAt X.w X.base c.F c.s (c.α i) (.lst ds) := by
    rcases hs with rfl | rfl
    · exact q.2.1
    · exact q.2.1
  obtain ⟨o, e, r⟩ := oa.ob
  cases r with
  | @lst vs n _ z l => exact ⟨vs.toList, n, by rw [Array.toArray_toList]; exact e, by simpa using z, l⟩
theorem lst_put (S : SR X c) {i : Nat} {sl : Slot} {ds ds' : List D} {its its' : List Value} {n : Nat} {f : Array Value → Array Value} {t : Nat} (h : c.ρ[i]? = some sl) (hs : sl = .own (.lst ds) ∨ sl = .par (.lst ds))
    (e : c.s.heap.get? (c.α i) = some { cls := .type "list", data := .seq its.toArray n }) (hf : f its.toArray = its'.toArray) (r : RepL X.w c.F c.s.toks its' ds') (z : its'.length ≤ sizeLine) (ht : c.s.toks ≤ t) :
    SR X { c with ρ := c.ρ.set i (sl.put (.lst ds')), s := { c.s with heap := c.s.heap.update (c.α i) (Obj.mapSeq f), toks := t } } ∧ Fr X c { c with ρ := c.ρ.set i (sl.put (.lst ds')), s := { c.s with heap := c.s.heap.update (c.α i) (Obj.mapSeq f), toks := t } } := by
  have q := PySem.IsL.update e f
  rw [hf] at q
  exact S.write h hs (fun b o hb hu => (Heap.get?_update_other c.s.heap (Obj.mapSeq f) (Ne.symm hb)).trans hu) q (.lst (by rw [List.size_toArray]; exact z) (by rw [List.toList_toArray]; exact r.mono (Sub.refl _) ht)) rfl ht
def gAppend : D → List D → Option (Res × D)
  | .lst ds, [d] => if ds.length < 16777216 then some (.val .non, .lst (ds ++ [d])) else none
  | _, _ => none
theorem cw_append : CW X "list.append" gAppend := by
  intro c i sl d us ds r d' S h hs rs hg
  unfold gAppend at hg
  split at hg
  · rename_i ds0 d0
    by_cases q : ds0.length < 16777216
    · rw [if_pos q] at hg; cases hg
      obtain ⟨u, rfl, ru⟩ := rs.one
      obtain ⟨its, n, e, z, l⟩ := own_lst S h hs
      have hz : its.length < sizeLine := by rw [l.length, sizeLine_eq]; exact q
      refine call_meets PySem.F.slot_list_append ⟨_, e, rfl⟩ PySem.F.entry_list_append (PySem.F.args_list_append_2 _ _) (PySem.list_append (c.α i) its.toArray n u (by rw [List.size_toArray]; exact Nat.le_of_lt hz)) ⟨e, ?_⟩
      obtain ⟨S', f⟩ := lst_put (its' := its ++ [u]) (ds' := ds0 ++ [d0]) (t := c.s.toks) S h hs e (f := fun xs => xs.push u) (by simp) (l.append (.cons ru .nil)) (by rw [List.length_append]; exact hz) (Nat.le_refl _)
      exact ⟨.val .non, _, rfl, rfl, f, S', Rep.non⟩
    · rw [if_neg q] at hg; cases hg
  · cases hg
def gPop : D → List D → Option (Res × D)
  | .lst ds, [] => (ds[ds.length - 1]?).map fun d => (.val d, .lst ds.dropLast)
  | .lst ds, [.int i] => if i.natAbs < 2 ^ 63 then (match seqIndex? i ds.length with
      | some k => (ds[k]?).map fun d => (.val d, .lst (ds.eraseIdx k))
      | none => none) else none
  | _, _ => none
theorem cw_pop : CW X "list.pop" gPop := by
  intro c i sl d us ds r d' S h hs rs hg
  unfold gPop at hg
  split at hg
  · rename_i ds0
    obtain ⟨d1, hd1, e1⟩ := Option.map_eq_some_iff.mp hg
    cases e1
    cases rs
    obtain ⟨its, n, e, z, l⟩ := own_lst S h hs
    obtain ⟨u, hu, ru⟩ := l.get hd1
    have hy' : its.toArray[its.toArray.size - 1]? = some u := by
      show its.toArray[its.length - 1]? = some u
      rw [← Array.getElem?_toList, l.length]
      exact hu
    refine call_meets PySem.F.slot_list_pop ⟨_, e, rfl⟩ PySem.F.entry_list_pop (PySem.F.args_list_pop_1 _) (MeetsSeq.list_pop_last (c.α i) its.toArray n u hy' (by rw [List.size_toArray]; omega)) ⟨e, ?_⟩
    obtain ⟨S', f⟩ := lst_put (its' := its.dropLast) (ds' := ds0.dropLast) (t := c.s.toks) S h hs e (f := fun xs => xs.eraseIdxIfInBounds (its.toArray.size - 1)) (by
      show its.toArray.eraseIdxIfInBounds (its.toArray.size - 1) = its.dropLast.toArray
      rw [List.size_toArray, List.eraseIdxIfInBounds_toArray, PyProof.Rows.Copied.eraseIdx_last]) l.dropLast (by rw [List.length_dropLast]; omega) (Nat.le_refl _)
    exact ⟨.val d1, _, rfl, rfl, f, S', ru⟩
  · rename_i ds0 j
    by_cases q : j.natAbs < 2 ^ 63
    · rw [if_pos q] at hg
      cases hk : seqIndex? j ds0.length with
      | none => rw [hk] at hg; cases hg
      | some k =>
        rw [hk] at hg
        obtain ⟨d1, hd1, e1⟩ := Option.map_eq_some_iff.mp hg
        cases e1
        obtain ⟨w, rfl, rw1⟩ := rs.one
        obtain ⟨t, rfl⟩ := rw1.int_inv
        obtain ⟨its, n, e, z, l⟩ := own_lst S h hs
        obtain ⟨u, hu, ru⟩ := l.get hd1
        refine call_meets PySem.F.slot_list_pop ⟨_, e, rfl⟩ PySem.F.entry_list_pop (PySem.F.args_list_pop_2 _ _)
          (MeetsSeq.list_pop_at (c.α i) its.toArray n j t k u (fitsIndex_both (by omega) (by omega)) (by rw [List.size_toArray, l.length]; exact hk) (by rw [← Array.getElem?_toList]; exact hu) (by rw [List.size_toArray]; omega)) ⟨e, ?_⟩
        obtain ⟨S', f⟩ := lst_put (its' := its.eraseIdx k) (ds' := ds0.eraseIdx k) (t := c.s.toks) S h hs e (f := fun xs => xs.eraseIdxIfInBounds k) (by
          show its.toArray.eraseIdxIfInBounds k = (its.eraseIdx k).toArray
          rw [List.eraseIdxIfInBounds_toArray]) (l.eraseIdx k) (by have := L2.len_erase its k; omega) (Nat.le_refl _)
        exact ⟨.val d1, _, rfl, rfl, f, S', ru⟩
    · rw [if_neg q] at hg; cases hg
  · cases hg
end
end GB
/-! join, replace, index, count. -/
namespace GB
open PySem PySem.Spec PyProof.Rows Builtin.Str
open L2 (Key keyH keyIs mixKind Mod Look Vis Loc frs thn)
section
variable {X : Cx} {c c0 c1 c2 : Cf} {a b e o : Expr} {es rest : List Expr} {da db dc : DE} {pos p2 cpos apos : Pos} {w : World} {F : FH} {T : Nat}
/-! ### join -/
def strsD : List D → Option (List (List Nat))
  | [] => some []
  | .str s :: r => (strsD r).map (s :: ·)
  | _ => none
theorem RepL.strs : ∀ {vs : List Value} {ds : List D} {ts : List (List Nat)}, RepL w F T vs ds → strsD ds = some ts → ∃ l : List (Str × Tok), vs = strValues l ∧ l.map (·.1) = ts.map tx ∧ ∀ p ∈ l, p.2 ≠ 0 ∧ p.2 < T
  | _, [], _, .nil, h => by cases h; exact ⟨[], rfl, rfl, fun _ h => by simp at h⟩
  | _, d :: ds, _, .cons a r, h => by
    cases d with
    | str s =>
      obtain ⟨ms, h1, rfl⟩ := Option.map_eq_some_iff.mp h
      obtain ⟨t, rfl, t1, t2, _⟩ := a.str_inv
      obtain ⟨l, rfl, e, hp⟩ := r.strs h1
      refine ⟨(tx s, t) :: l, rfl, by simp [e], fun p hm => ?_⟩
      rcases List.mem_cons.mp hm with rfl | hm
      · exact ⟨t1, t2⟩
      · exact hp p hm
    | _ => cases h
def joinT (z : List Nat) : List (List Nat) → List Nat
  | [] => []
  | p :: r => p ++ (r.map (z ++ ·)).flatten
theorem glued_tx (z : List Nat) (ts : List (List Nat)) : glued (tx z) (ts.map tx) = tx (joinT z ts) := by
  have fold : ∀ (r : List (List Nat)) (acc : Array Nat), ((r.map tx).foldl (fun acc p => acc ++ (tx z).cps ++ p.cps) acc).toList = acc.toList ++ (r.map (z ++ ·)).flatten := by
    intro r
    induction r with
    | nil => intro acc; simp
    | cons p r ih =>
      intro acc
      rw [List.map_cons, List.foldl_cons, ih]
      simp [tx]
  cases ts with
  | nil => rfl
  | cons p r =>
    have h := fold r (tx p).cps
    unfold glued joinT
    have e : (tx p).cps.toList = p := tx_list p
    rw [e] at h
    have : ((r.map tx).foldl (fun acc p => acc ++ (tx z).cps ++ p.cps) (tx p).cps) = (p ++ (r.map (z ++ ·)).flatten).toArray := by
      rw [← h]
    show (⟨(r.map tx).foldl (fun acc p => acc ++ (tx z).cps ++ p.cps) (tx p).cps⟩ : Str) = tx _
    rw [this]; rfl
def gJoin : D → List D → Option Res
  | .str z, [.lst ds] => match strsD ds with
    | some ts => if (ts.map fun t => t.length + z.length).sum ≤ 16777216 then some (.val (.str (joinT z ts))) else none
    | none => none
  | .str z, [.tup ds] => match strsD ds with
    | some ts => if (ts.map fun t => t.length + z.length).sum ≤ 16777216 then some (.val (.str (joinT z ts))) else none
    | none => none
  | _, _ => none
theorem fold_sum (z : List Nat) : ∀ (ts : List (List Nat)) (k : Nat), ((ts.map tx).foldl (· + ·.length + (tx z).length) k) = k + (ts.map fun t => t.length + z.length).sum
  | [], k => by simp
  | t :: ts, k => by
    rw [List.map_cons, List.foldl_cons, fold_sum z ts, List.map_cons, List.sum_cons, tx_len, tx_len]
    omega
theorem joinT_len (z : List Nat) (ts : List (List Nat)) : (joinT z ts).length ≤ (ts.map fun t => t.length + z.length).sum := by
  have fl : ∀ r : List (List Nat), ((r.map (z ++ ·)).flatten).length ≤ (r.map fun t => t.length + z.length).sum := by
    intro r
    induction r with
    | nil => simp
    | cons t r ih => simp only [List.map_cons, List.flatten_cons, List.length_append, List.sum_cons]; omega
  cases ts with
  | nil => simp [joinT]
  | cons t r =>
    have := fl r
    simp only [joinT, List.length_append, List.map_cons, List.sum_cons]
    omega
theorem join_post (htz : 0 < X.tz) (S : SR X c) {z : List Nat} {ts : List (List Nat)} {l : List (Str × Tok)} (hl : l.map (·.1) = ts.map tx) (hp : ∀ p ∈ l, p.2 ≠ 0 ∧ p.2 < c.s.toks) (hz : (ts.map fun t => t.length + z.length).sum ≤ 16777216) :
    (joinMade (tx z) l).post (PostE X c (.ok (.val (.str (joinT z ts))) c.ρ)) c.s := by
  have hlen : (joinT z ts).length ≤ sizeLine := by rw [sizeLine_eq]; exact Nat.le_trans (joinT_len z ts) hz
  have made : (Made.str (glued (tx z) (l.map (·.1)))).post (PostE X c (.ok (.val (.str (joinT z ts))) c.ρ)) c.s := by
    rw [hl, glued_tx]
    exact ⟨by rw [tx_len]; exact hlen, PostE.tok S (Nat.le_succ _) (.str _ _ (Nat.ne_of_gt (S.tkp htz)) (Nat.lt_succ_self _) hlen)⟩
  match l, hl, hp, made with
  | [], _, _, made => exact made
  | [p], hl, hp, _ =>
    cases ts with
    | nil => simp at hl
    | cons t r =>
      cases r with
      | cons _ _ => simp at hl
      | nil =>
        have e : p.1 = tx t := by simpa using hl
        obtain ⟨h1, h2⟩ := hp p List.mem_cons_self
        have ej : joinT z [t] = t := by simp [joinT]
        rw [ej] at hlen ⊢
        show PostE X c _ (.str p.1 p.2) c.s
        rw [e]
        exact PostE.val S (.str _ _ h1 h2 hlen)
  | p :: q :: r, _, _, made => exact made
theorem cm_join (htz : 0 < X.tz := by exact Nat.zero_lt_one) : CM X "str" "str.join" gJoin := by
  intro c v d us ds r S rv rs h
  unfold gJoin at h
  split at h
  · rename_i z ds0
    cases hs : strsD ds0 with
    | none => rw [hs] at h; cases h
    | some ts =>
      rw [hs] at h
      by_cases q : (ts.map fun t => t.length + z.length).sum ≤ 16777216
      · simp only [if_pos q] at h; cases h
        obtain ⟨t, rfl, _⟩ := rv.view.str_inv
        obtain ⟨u, rfl, ru⟩ := rs.one
        obtain ⟨a, vs, rfl, il, hz, l⟩ := lst_list S ru.view
        obtain ⟨l', rfl, e, hp⟩ := l.strs hs
        refine call_meets PySem.F.slot_str_join (typeIs_str _ _ _) PySem.F.entry_str_join (PySem.F.args_str_join_2 _ _) (meets_str_join_list (tx z) t a l' ?_) ⟨il, join_post htz S e hp q⟩
        unfold Builtin.Str.tooLong
        rw [e, List.foldl_toArray, fold_sum, sizeLine_eq]
        exact decide_eq_false (by omega)
      · simp only [if_neg q] at h; cases h
  · rename_i z ds0
    cases hs : strsD ds0 with
    | none => rw [hs] at h; cases h
    | some ts =>
      rw [hs] at h
      by_cases q : (ts.map fun t => t.length + z.length).sum ≤ 16777216
      · simp only [if_pos q] at h; cases h
        obtain ⟨t, rfl, _⟩ := rv.view.str_inv
        obtain ⟨u, rfl, ru⟩ := rs.one
        obtain ⟨a, o, vs, n, rfl, qa, h1, h2, hz, l⟩ := ru.view.tup_inv S.sub
        obtain ⟨l', el, e, hp⟩ := l.strs hs
        have hv : vs = (strValues l').toArray := by rw [← el]
        subst hv
        refine call_meets PySem.F.slot_str_join (typeIs_str _ _ _) PySem.F.entry_str_join (PySem.F.args_str_join_2 _ _) (meets_str_join_tuple (tx z) t a l' ?_) ⟨⟨o, n, qa, h1, h2⟩, join_post htz S e hp q⟩
        unfold Builtin.Str.tooLong
        rw [e, List.foldl_toArray, fold_sum, sizeLine_eq]
        exact decide_eq_false (by omega)
      · simp only [if_neg q] at h; cases h
  · cases h
/-! ### replace -/
def repT (y z x : List Nat) : List Nat := (Txt.replace (tx x) (tx y) (tx z)).cps.toList
theorem repl_ok {x y z : List Nat} {t u v : Tok} (htz : 0 < X.tz) (S : SR X c) (rt : Rep X.w c.F c.s.toks (.str (tx x) t) (.str x)) (hu : u ≠ 0) (hv : v ≠ 0) (huv : u ≠ v) (hyz : y ≠ z) (hb : x.length + (x.length + 1) * z.length ≤ 16777216) :
    wpAny (model X.prog X.w) X.A (call (.builtin "str.replace") [.str (tx x) t, .str (tx y) u, .str (tx z) v]) (PostE X c (.ok (.val (.str (repT y z x))) c.ρ)) X.xe c.s := by
  have e16 : (2 : Nat) ^ 24 = 16777216 := by decide
  have hyz' : (tx y == tx z) = false := beq_eq_false_iff_ne.mpr fun e => hyz (tx_inj e)
  have hl : Builtin.Str.tooLong ((tx x).length + (Builtin.Str.occurrences (tx x) (tx y) 0 (tx x).length ((tx x).length + 1)).length * (tx z).length) = false := by
    have h1 := StrLaws.occ_length_le (tx x) (tx y) 0 (tx x).length ((tx x).length + 1)
    have h2 : (Builtin.Str.occurrences (tx x) (tx y) 0 (tx x).length ((tx x).length + 1)).length * (tx z).length ≤ ((tx x).length + 1) * (tx z).length := Nat.mul_le_mul_right _ h1
    rw [tx_len] at h2
    unfold Builtin.Str.tooLong sizeLine
    rw [tx_len x, tx_len z] at *
    exact decide_eq_false (by omega)
  refine call_gives PySem.F.slot_str_replace (typeIs_str _ _ _) PySem.F.entry_str_replace (PySem.F.args_str_replace_3 _ _ _)
    (gives_str_replace (tx x) (tx y) (tx z) t u v fun _ => ⟨by simp [hu, hv], by simp [huv], hyz', hl⟩) ?_
  have hr : tx (repT y z x) = Txt.replace (tx x) (tx y) (tx z) := tx_of _
  have hlen : (repT y z x).length ≤ sizeLine := by
    have := TK.replace_len (tx x) (tx y) (tx z)
    rw [← hr, tx_len, tx_len, tx_len] at this
    rw [sizeLine_eq]; omega
  cases hc : ((Builtin.Str.occurrences (tx x) (tx y) 0 (tx x).length ((tx x).length + 1)).isEmpty || ((tx y).length == 0 && (tx z).length == 0))
  · have e : Txt.replace (tx x) (tx y) (tx z) = glued (tx z) (partsBetween (tx x) (Builtin.Str.occurrences (tx x) (tx y) 0 (tx x).length ((tx x).length + 1)) (tx y).length) := by
      unfold Txt.replace; rw [hc]; rfl
    simp only [Bool.false_eq_true, if_false]
    rw [← e, ← hr]
    exact ⟨by rw [tx_len]; exact hlen, PostE.tok S (Nat.le_succ _) (.str _ _ (Nat.ne_of_gt (S.tkp htz)) (Nat.lt_succ_self _) hlen)⟩
  · have e : Txt.replace (tx x) (tx y) (tx z) = tx x := by
      unfold Txt.replace; rw [hc]; rfl
    simp only [if_true]
    have e2 : repT y z x = x := tx_inj (hr.trans e)
    rw [e2]
    exact PostE.val S rt
def dRepl (z : List Nat) (l : DL) (a : DE) : DE := fun ρ => obind (l ρ) fun x ρ1 => match x with
  | .val (.str s) => obind (a ρ1) fun y ρ2 => if y.isWeak then none else (match y.d with
    | .str t => if t ≠ z ∧ s.length + (s.length + 1) * z.length ≤ 16777216 then some (.ok (.val (.str (repT t z s))) ρ2) else none
    | _ => none)
  | _ => none
/-- o.replace(e, "..") -/
theorem pd_repl {l : DL} {x : Str} {j : Nat} {cp : Pos} (z : List Nat) (ho : PG X o l) (ha : PD X e da) (hx : x = tx z := by decide +kernel)
    (hst : starEach [e, .Constant (.str x) j cp] X.env = [(false, eval e X.env), (false, eval (.Constant (.str x) j cp) X.env)] := by rfl)
    (hbase : attributeBase o "replace" X.env (eval o X.env) = eval o X.env := by rfl) (hline : (apos.endLine == cpos.line) = true := by rfl) (htz : 0 < X.tz := by exact Nat.zero_lt_one) :
    PD X (.Call (.Attribute o "replace" apos) [e, .Constant (.str x) j cp] [] cpos) (dRepl z l da) := by
  subst hx
  refine ⟨fun c o S hd kx => ?_⟩
  refine PySem.Call_method2 hbase hst hline (ho.go S hd kx fun x c1 v f1 S1 ro hd1 => ?_)
  cases x with
  | nm i => cases hd1
  | val d =>
    cases d with
    | str s =>
      have ro : Rep X.w c1.F c1.s.toks v (.str s) := ro
      obtain ⟨t, rfl, _⟩ := id ro.str_inv
      refine ⟨"str", _, PySem.F.plainAttrs_str, PySem.F.slot_str_replace, PySem.F.type_str_replace, typeIs_str _ _ _, (fun _ e => nomatch e), Calls.callWith_builtin rfl (Calls.evalArgs_plain (Calls.spliced_cons ?_))⟩
      refine ha.go S1 hd1 (f1.toFrB.kx kx) fun y c2 u f2 S2 ry hd2 => ?_
      obtain ⟨F2, f2', S2', _, w2, _⟩ := ry.froze f2 S2
      by_cases zz : y.isWeak = true
      · rw [if_pos zz] at hd2; cases hd2
      · rw [if_neg zz] at hd2
        have ry' := w2 (Res.nweak (by simpa using zz))
        cases hyd : y.d with
        | str q =>
          rw [hyd] at hd2 ry'
          dsimp only at hd2
          by_cases cc : q ≠ z ∧ s.length + (s.length + 1) * z.length ≤ 16777216
          · rw [if_pos cc] at hd2; cases hd2
            obtain ⟨u', rfl, u1, u2, _⟩ := ry'.str_inv
            refine Calls.spliced_cons (Calls.Constant_str ?_)
            refine Calls.spliced_nil ?_
            obtain ⟨S3, f3⟩ := S2'.kept (s' := { c2.s with toks := c2.s.toks + 1 }) (fun _ _ e => e) (Nat.le_succ _)
            exact thn (repl_ok (c := { c2 with F := F2, s := { c2.s with toks := c2.s.toks + 1 } }) htz S3 (ro.mono (f2'.trans f3).fm (f2'.trans f3).tk) u1 (Nat.ne_of_gt (S2.tkp htz)) (Nat.ne_of_lt u2) cc.1 cc.2) fun _ _ q => PostE.from ((f1.trans f2').trans f3) q
          · rw [if_neg cc] at hd2; cases hd2
        | _ => rw [hyd] at hd2; cases hd2
    | _ => cases hd1
/-! ### index, count -/
def gIndexS : D → List D → Option Res
  | .str s, [.str t] => match Builtin.Str.occurrences (tx s) (tx t) 0 (tx s).length 1 with
    | i :: _ => some (.val (.int (i : Nat)))
    | [] => none
  | _, _ => none
theorem cm_indexS : CM X "str" "str.index" gIndexS := by
  intro c v d us ds r S rv rs h
  unfold gIndexS at h
  split at h
  · rename_i s t
    cases ho : Builtin.Str.occurrences (tx s) (tx t) 0 (tx s).length 1 with
    | nil => rw [ho] at h; cases h
    | cons i rest =>
      rw [ho] at h; cases h
      obtain ⟨t1, rfl, _⟩ := rv.view.str_inv
      obtain ⟨u, rfl, ru⟩ := rs.one
      obtain ⟨t2, rfl, _⟩ := ru.w.str_inv
      exact PySem.SC.index ho (PostE.int S (Nat.le_succ _))
  · cases h
def gCountS : D → List D → Option Res
  | .str s, [.str t] => some (.val (.int (Txt.count (tx s) (tx t))))
  | _, _ => none
theorem cm_countS : CM X "str" "str.count" gCountS := by
  intro c v d us ds r S rv rs h
  unfold gCountS at h
  split at h
  · cases h
    obtain ⟨t1, rfl, _⟩ := rv.view.str_inv
    obtain ⟨u, rfl, ru⟩ := rs.one
    obtain ⟨t2, rfl, _⟩ := ru.w.str_inv
    exact PySem.SC.count (PostE.int S (Nat.le_succ _))
  · cases h
end
end GB
/-! Names are stored; statements. -/
namespace GB
open PySem PySem.Spec PyProof.Rows
open L2 (Key keyH keyIs mixKind Mod Look Vis Loc frs thn)
section
variable {X : Cx} {c c0 c1 c2 : Cf} {a b e o : Expr} {es rest : List Expr} {da db dc : DE} {pos p2 cpos apos : Pos}
def slotOf : Res → Slot
  | .val d => .val d
  | .fresh d => .own d
  | .weak _ => .un
theorem funs_of2 {h h' base : Heap} : ∀ (l : List Env), (∀ b ∈ frs l, ∀ o, h.get? b = some o → (∀ vs, o.data ≠ .fields vs) → ∃ o', h'.get? b = some o' ∧ ∀ vs, o'.data ≠ .fields vs) → h.FunFrames base l → h'.FunFrames base l := by
  intro l
  induction l with
  | nil => intro _ _; trivial
  | cons env r ih =>
    intro hs hl
    obtain ⟨hk, ⟨L, o, hf, hn, ho, hd⟩, hr⟩ := hl
    have e : frs (env :: r) = L :: frs r := by unfold frs; rw [List.filterMap_cons, hf]
    obtain ⟨o', h1, h2⟩ := hs L (by rw [e]; exact List.mem_cons_self) o ho hd
    exact ⟨hk, ⟨L, o', hf, hn, h1, h2⟩, ih (fun b hb => hs b (by rw [e]; exact List.mem_cons_of_mem _ hb)) hr⟩
theorem cell_ne (S : SR X c) {x : Str} {a : Addr} (h : X.env.cells.lookup x = some a) : a ≠ X.env.locals := (S.cfree x a h).2
/-- what a name's store leaves: all but what it stores -/
structure Sto (X : Cx) (c c' : Cf) (r : Res) (v : Value) : Prop where
  fm : Sub c.F c'.F
  tk : c.s.toks ≤ c'.s.toks
  st : ∀ b o, c.s.heap.get? b = some o → ¬ Owns c b → ¬ Mine X b → (∀ d, r = .fresh d → v ≠ .ref b) → c'.s.heap.get? b = some o ∧ ¬ Owns c' b ∧ (c.F b = none → c'.F b = none)
theorem SR.put (S0 : SR X c0) (f : FrB X c0 c) (S : SR X c) {r : Res} {v : Value} (ro : ResOk X c0 c r v) {i : Nat} {x : Str} (hN : X.N[i]? = some x) (has : X.asg i = true) {m m' : Str → Option Value} {s' : Shared} {Lx : Addr}
    (hm : c.s.heap.Ns X.env.locals m) (slk : ∀ (i : Nat) (x : Str) (sl : Slot), X.N[i]? = some x → c.ρ[i]? = some sl → SlotOk X c m i x sl)
    (hLx : Lx = X.env.locals ∨ (∃ y, X.env.cells.lookup y = some Lx ∧ X.myc Lx)) (same : ∀ b, b ≠ Lx → s'.heap.get? b = c.s.heap.get? b) (there : ∃ ob, s'.heap.get? Lx = some ob ∧ ∀ vs, ob.data ≠ .fields vs)
    (hm' : s'.heap.Ns X.env.locals m') (hx : Look X.env s'.heap m' x v) (hy : ∀ y u, y ≠ x → Look X.env c.s.heap m y u → Look X.env s'.heap m' y u) (hc : ∀ y a, X.env.cells.lookup y = some a → ∀ w, c.s.heap.IsCell a w → ∃ w', s'.heap.IsCell a w')
    (ht : c.s.toks ≤ s'.toks) (ho : s'.os = c.s.os) (hg : s'.gens = c.s.gens) : ∃ c', c'.s = s' ∧ c'.ρ = c.ρ.set i (slotOf r) ∧ FrB X c0 c' ∧ SR X c' ∧ Sto X c c' r v := by
  have hi : i < c.ρ.length := by rw [S.len]; exact (List.getElem?_eq_some_iff.mp hN).1
  have mLx : Mine X Lx := by
    rcases hLx with h | ⟨y, _, h⟩
    · exact .inl h
    · exact .inr (.inl h)
  have keep : ∀ b o, b ≠ Lx → c.s.heap.get? b = some o → s'.heap.get? b = some o := fun b o z q => (same b z).trans q
  -- the new owner's place
  let α' : Nat → Addr := fun j => if j = i then (match v with | .ref a => a | _ => 0) else c.α j
  have αne : ∀ j, j ≠ i → α' j = c.α j := fun j z => if_neg z
  have lkup : ∀ (j : Nat), (c.ρ.set i (slotOf r))[j]? = if i = j then some (slotOf r) else c.ρ[j]? := fun j => by
    rw [List.getElem?_set]
    by_cases z : i = j
    · subst z; simp [hi]
    · simp [z]
  have nfLx : ∀ F : FH, F Lx = none → ∀ b o, F b = some o → b ≠ Lx := fun F z b o q w => by rw [w, z] at q; cases q
  have cF : c.F Lx = none := S.mine Lx mLx
  -- what the others hold stays
  have other : ∀ (j : Nat) (y : Str) (sl : Slot), j ≠ i → X.N[j]? = some y → c.ρ[j]? = some sl → SlotOk X { F := c.F, α := α', ρ := c.ρ.set i (slotOf r), s := s' } m' j y sl := fun j y sl hj h1 h2 => by
    have yx : y ≠ x := fun z => hj (by
      rw [z] at h1
      obtain ⟨q1, e1⟩ := List.getElem?_eq_some_iff.mp h1
      obtain ⟨q2, e2⟩ := List.getElem?_eq_some_iff.mp hN
      exact (List.getElem_inj S.ok.nd).mp (e1.trans e2.symm))
    have old := slk j y sl h1 h2
    have oak : ∀ d, OwnAt X.w X.base c.F c.s (c.α j) d → ¬ Mine X (c.α j) → OwnAt X.w X.base c.F s' (α' j) d := fun d oa nm => by
      rw [αne j hj]
      exact oa.keep (Sub.refl _) ht oa.nf fun o q => keep _ o (fun z => nm (z ▸ mLx)) q
    cases sl with
    | un => trivial
    | val d => obtain ⟨u, l, rr⟩ := old; exact ⟨u, hy y u yx l, rr.mono (Sub.refl _) ht⟩
    | own d =>
      obtain ⟨l, oa, no, nm⟩ := old
      have e : α' j = c.α j := αne j hj
      refine ⟨?_, oak d oa nm, ?_, ?_⟩
      · show Look X.env s'.heap m' y (.ref (α' j)); rw [e]; exact hy y _ yx l
      · show ¬ X.old (α' j); rw [e]; exact no
      · show ¬ Mine X (α' j); rw [e]; exact nm
    | par d =>
      obtain ⟨l, oa, nm⟩ := old
      have e : α' j = c.α j := αne j hj
      refine ⟨?_, oak d oa nm, ?_⟩
      · show Look X.env s'.heap m' y (.ref (α' j)); rw [e]; exact hy y _ yx l
      · show ¬ Mine X (α' j); rw [e]; exact nm
  have mine' : SlotOk X { F := c.F, α := α', ρ := c.ρ.set i (slotOf r), s := s' } m' i x (slotOf r) := by
    cases r with
    | val d => exact ⟨v, hx, Rep.mono (Sub.refl _) ht ro⟩
    | weak s => trivial
    | fresh d =>
      obtain ⟨a, rfl, hn, oa, no, nm⟩ := ro
      have e : α' i = a := if_pos rfl
      refine ⟨?_, ?_, ?_, ?_⟩
      · show Look X.env s'.heap m' x (.ref (α' i)); rw [e]; exact hx
      · show OwnAt X.w X.base c.F s' (α' i) d
        rw [e]
        exact oa.keep (Sub.refl _) ht oa.nf fun o q => keep _ o (fun z => nm (z ▸ mLx)) q
      · show ¬ X.old (α' i)
        rw [e]
        intro z
        obtain ⟨o, q⟩ := S0.olds a (.inl z)
        rw [hn] at q; cases q
      · show ¬ Mine X (α' i); rw [e]; exact nm
  have ownc : ∀ j, isOwn (c.ρ.set i (slotOf r)) j → (j ≠ i ∧ isOwn c.ρ j) ∨ (j = i ∧ ∃ d a, r = .fresh d ∧ v = .ref a ∧ α' i = a) := fun j ⟨d, q⟩ => by
    rw [lkup] at q
    by_cases z : i = j
    · subst z
      rw [if_pos rfl] at q
      refine .inr ⟨rfl, ?_⟩
      cases r with
      | val d => rcases q with q | q <;> cases q
      | weak d => rcases q with q | q <;> cases q
      | fresh d => obtain ⟨a, ev, _⟩ := ro; subst ev; exact ⟨d, a, rfl, rfl, if_pos rfl⟩
    · rw [if_neg z] at q
      exact .inl ⟨fun w => z w.symm, d, q⟩
  have owns' : ∀ b, Owns { F := c.F, α := α', ρ := c.ρ.set i (slotOf r), s := s' } b → Owns c b ∨ ∃ d, r = .fresh d ∧ v = .ref b := fun b ⟨j, jo, jb⟩ => by
    have jb : α' j = b := jb
    rcases ownc j jo with ⟨z, q⟩ | ⟨rfl, d, a, e1, e2, e3⟩
    · rw [αne j z] at jb; exact .inl ⟨j, q, jb⟩
    · rw [e3] at jb; subst jb; exact .inr ⟨d, e1, e2⟩
  refine ⟨{ F := c.F, α := α', ρ := c.ρ.set i (slotOf r), s := s' }, rfl, rfl, ⟨f.fm, Nat.le_trans f.tk ht, fun b o q => ?_, fun b o q n nm => ?_, fun b o z l q => ?_, fun j d q => ?_, fun j q => have z : j ≠ i := fun w => by { rw [w, has] at q; cases q }; ⟨(αne j z).trans (f.ka j q).1, fun w => (f.ka j q).2 ((ownc j w).elim (fun u => u.2) fun u => absurd u.1 z)⟩⟩,
    ⟨S.ok, ho.trans S.os, by rw [hg]; exact S.bare, fun b o q => keep b o (fun z => (S.ok.bold b o q).2 (z ▸ mLx)) (S.bk b o q), ?_, ⟨m', hm', fun j y sl h1 h2 => ?_⟩, fun y a q => ?_, fun b o q => keep b o (nfLx _ cF b o q) (S.sub b o q), S.mine, fun j k q1 q2 q3 => ?_, fun b z => ?_, Nat.le_trans S.tk ht, by rw [List.length_set]; exact S.len, S.cfree⟩, ⟨Sub.refl _, ht, fun b o q n nm nv => ⟨keep b o (fun z => nm (z ▸ mLx)) q, fun w => (owns' b w).elim n (fun ⟨d, e1, e2⟩ => nv d e1 e2), id⟩⟩⟩
  · obtain ⟨o1, q1⟩ := f.hm b o q
    by_cases z : b = Lx
    · subst z; obtain ⟨ob, eb, _⟩ := there; exact ⟨ob, eb⟩
    · exact ⟨o1, keep b o1 z q1⟩
  · obtain ⟨q1, n1, f1⟩ := f.st b o q n nm
    refine ⟨keep b o (fun z => nm (z ▸ mLx)) q1, fun w => ?_, f1⟩
    rcases owns' b w with w | ⟨d, e1, e2⟩
    · exact n1 w
    · subst e1
      obtain ⟨a, ev, hn, _⟩ := ro
      rw [e2] at ev
      cases ev
      rw [hn] at q; cases q
  · obtain ⟨sl, q1⟩ := f.fr b o z l q
    refine ⟨sl, keep b _ (fun w => ?_) q1⟩
    rcases hLx with h | ⟨y, hcell, hmyc⟩
    · exact l (w.trans h)
    · exact S.ok.mycf Lx hmyc (w ▸ z)
  · have q : (c.ρ.set i (slotOf r))[j]? = some (.par d) := q
    rw [lkup] at q
    by_cases z : i = j
    · rw [if_pos z] at q
      cases r <;> cases q
    · rw [if_neg z] at q
      obtain ⟨h1, h2⟩ := f.pr j d q
      exact ⟨h1, (αne j (fun w => z w.symm)).trans h2⟩
  · refine funs_of2 X.stack (fun b hb o q hd => ?_) S.frm
    by_cases z : b = Lx
    · subst z; exact there
    · exact ⟨o, keep b o z q, hd⟩
  · have h2 : (c.ρ.set i (slotOf r))[j]? = some sl := h2
    rw [lkup] at h2
    by_cases z : i = j
    · subst z
      rw [if_pos rfl] at h2; cases h2
      rw [hN] at h1; cases h1
      exact mine'
    · rw [if_neg z] at h2
      exact other j y sl (fun w => z w.symm) h1 h2
  · obtain ⟨w, z⟩ := S.cell y a q
    exact hc y a q w z
  · have q3 : α' j = α' k := q3
    have nfr : ∀ j, j ≠ i → isOwn c.ρ j → (∃ d a, r = .fresh d ∧ v = .ref a ∧ α' i = a) → α' j ≠ α' i := fun j z q ⟨d, a, e1, e2, e3⟩ w => by
      rw [αne j z, e3] at w
      subst e1
      obtain ⟨a', ev, _, _, no, _⟩ := ro
      rw [e2] at ev; cases ev
      exact no ⟨j, q, w⟩
    rcases ownc j q1 with ⟨z1, o1⟩ | ⟨z1, x1⟩
    · rcases ownc k q2 with ⟨z2, o2⟩ | ⟨z2, x2⟩
      · rw [αne j z1, αne k z2] at q3
        exact S.inj j k o1 o2 q3
      · rw [z2] at q3; exact absurd q3 (nfr j z1 o1 x2)
    · rcases ownc k q2 with ⟨z2, o2⟩ | ⟨z2, x2⟩
      · rw [z1] at q3; exact absurd q3.symm (nfr k z2 o2 x1)
      · rw [z1, z2]
  · by_cases w : b = Lx
    · subst w; obtain ⟨ob, eb, _⟩ := there; exact ⟨ob, eb⟩
    · obtain ⟨o, q⟩ := S.olds b z
      exact ⟨o, keep b o w q⟩
/-- name = v -/
theorem SR.store (S0 : SR X c0) (f : FrB X c0 c) (S : SR X c) {r : Res} {v : Value} (ro : ResOk X c0 c r v) {i : Nat} {x : Str} (hN : X.N[i]? = some x) (hx : Loc X.env.scope x) (has : X.asg i = true) {E : Value → Shared → Prop} :
    wpAny (model X.prog X.w) X.A (storeName X.env x v) (fun _ s' => ∃ c', c'.s = s' ∧ c'.ρ = c.ρ.set i (slotOf r) ∧ FrB X c0 c' ∧ SR X c' ∧ Sto X c c' r v) E c.s := by
  obtain ⟨m, hm, slk⟩ := S.loc
  have hcls : (X.env.scope.kind == .class || (X.env.scope.kind == .module && X.env.locals != X.env.globals)) = false := by rw [S.ok.kind]; rfl
  rcases hx with hk | hk
  · refine wpAny_storeName_local hk hm (fun h' hn' hs => ?_) hcls
    refine SR.put (s' := { c.s with heap := h', toks := c.s.toks + 1 }) S0 f S ro hN has hm slk (Lx := X.env.locals) (.inl rfl) (fun b z => hs.2 b z) ?_ hn' (.inl ⟨hk, by simp⟩) (fun y u yx l => ?_) (fun y a q w z => ⟨w, z.sameBut hs (cell_ne S q)⟩) (Nat.le_succ _) rfl rfl
    · obtain ⟨ob, es, ep, e, d, _⟩ := hn'
      exact ⟨ob, e, fun vs z => by rw [d] at z; cases z⟩
    · rcases l with ⟨k, e⟩ | ⟨k, a, e, z⟩
      · exact .inl ⟨k, by simp [yx, e]⟩
      · exact .inr ⟨k, a, e, z.sameBut hs (cell_ne S e)⟩
  · obtain ⟨a, ha⟩ := S.ok.has x (.inl hk)
    obtain ⟨w0, z0⟩ := S.cell x a ha
    refine wpAny_storeName_cell S.ok.kind hk ha z0 (fun h' hc' hs => ?_)
    refine SR.put (s' := { c.s with heap := h' }) S0 f S ro hN has hm slk (Lx := a) (.inr ⟨x, ha, S.ok.myc x a hk ha⟩) (fun b z => hs.2 b z) ?_ (hm.sameBut hs (Ne.symm (cell_ne S ha))) (.inr ⟨.inl hk, a, ha, hc'⟩) (fun y u yx l => ?_) (fun y a' q w z => ?_) (Nat.le_refl _) rfl rfl
    · obtain ⟨ob, e, d⟩ := hc'
      exact ⟨ob, e, fun vs z => by rw [d] at z; cases z⟩
    · rcases l with ⟨k, e⟩ | ⟨k, a', e, z⟩
      · exact .inl ⟨k, e⟩
      · exact .inr ⟨k, a', e, z.sameBut hs (fun q => yx (S.ok.inj y x a (q ▸ e) ha))⟩
    · by_cases q' : a' = a
      · subst q'; exact ⟨_, hc'⟩
      · exact ⟨w, z.sameBut hs q'⟩
/-! ### statements -/
/-- a statement's end -/
inductive OS where
  | nx (ρ : Rho)
  | brk (ρ : Rho)
  | cnt (ρ : Rho)
  | ret (r : Res) (ρ : Rho)
  | ex (e : Exc) (ρ : Rho)
abbrev DS := Rho → Option OS
def KS (X : Cx) (c : Cf) : OS → Prop
  | .ex e ρ' => ∀ v c', c'.ρ = ρ' → FrB X c c' → SR X c' → ExOk X c' e v → X.xe v c'.s
  | _ => True
/-- a returned value, ahead of everything that stood at c0 -/
def RetOk (X : Cx) (c0 c : Cf) : Res → Value → Prop
  | .val d, v => Rep X.w c.F c.s.toks v d
  | .weak s, v => ∃ t, v = .str (tx s) t ∧ s.length ≤ sizeLine
  | .fresh d, v => ∃ a, v = .ref a ∧ ¬ X.old a ∧ OwnAt X.w X.base c.F c.s a d ∧ ¬ Owns c a ∧ ¬ Mine X a
def PostS (X : Cx) (c : Cf) (o : OS) (fl : Flow) (s' : Shared) : Prop := ∃ c', c'.s = s' ∧ FrB X c c' ∧ SR X c' ∧ (match fl with
  | .next => o = .nx c'.ρ
  | .brk => o = .brk c'.ρ
  | .cont => o = .cnt c'.ρ
  | .ret v => ∃ r, o = .ret r c'.ρ ∧ RetOk X c c' r v)
structure PS (X : Cx) (st : Stmt) (d : DS) : Prop where
  run : ∀ (c : Cf) (o : OS), SR X c → d c.ρ = some o → KS X c o → wpAny (model X.prog X.w) X.A (exec st X.env) (PostS X c o) X.xe c.s
structure PSs (X : Cx) (st : List Stmt) (d : DS) : Prop where
  run : ∀ (c : Cf) (o : OS), SR X c → d c.ρ = some o → KS X c o → wpAny (model X.prog X.w) X.A (execs st X.env) (PostS X c o) X.xe c.s
theorem FrB.ks {o : OS} (f : FrB X c c1) (k : KS X c o) : KS X c1 o := by
  cases o with
  | ex e ρ' => exact fun v c' q f' S x => k v c' q (f.trans f') S x
  | _ => trivial
theorem PostS.from {o : OS} {fl : Flow} {s' : Shared} (f : FrB X c c1) (h : PostS X c1 o fl s') : PostS X c o fl s' := by
  obtain ⟨c', q, f', S, r⟩ := h
  refine ⟨c', q, f.trans f', S, ?_⟩
  cases fl with
  | ret v =>
    obtain ⟨r, e, ro⟩ := r
    refine ⟨r, e, ?_⟩
    cases r with
    | val d => exact ro
    | weak s => exact ro
    | fresh d => exact ro
  | _ => exact r
/-- an expression within a statement -/
def ebind {β : Type} (x : Option (O β)) (k : β → Rho → Option OS) : Option OS := match x with
  | none => none
  | some (.ok a ρ) => k a ρ
  | some (.ex e ρ) => some (.ex e ρ)
@[simp] theorem ebind_ok {β : Type} (a : β) (ρ : Rho) (k : β → Rho → Option OS) : ebind (some (.ok a ρ)) k = k a ρ := Eq.trans rfl rfl
@[simp] theorem ebind_ex {β : Type} (e : Exc) (ρ : Rho) (k : β → Rho → Option OS) : ebind (some (.ex e ρ)) k = some (.ex e ρ) := Eq.trans rfl rfl
theorem ebind_some {β : Type} {x : Option (O β)} {k : β → Rho → Option OS} {o : OS} (h : ebind x k = some o) : (∃ a ρ, x = some (.ok a ρ) ∧ k a ρ = some o) ∨ ∃ e ρ, x = some (.ex e ρ) ∧ o = .ex e ρ := by
  cases x with
  | none => cases h
  | some z =>
    cases z with
    | ok a ρ => exact .inl ⟨a, ρ, rfl, h⟩
    | ex e ρ => exact .inr ⟨e, ρ, rfl, (Option.some.inj h).symm⟩
theorem PD.goS {d : DE} {k : Res → Rho → Option OS} {o : OS} {Q : Value → Shared → Prop} (h : PD X e d) (S : SR X c) (hd : ebind (d c.ρ) k = some o) (kx : KS X c o)
    (hq : ∀ r c1 v, Fr X c c1 → SR X c1 → ResOk X c c1 r v → k r c1.ρ = some o → Q v c1.s) : wpAny (model X.prog X.w) X.A (eval e X.env) Q X.xe c.s := by
  rcases ebind_some hd with ⟨r, ρ1, e1, hd1⟩ | ⟨x, ρ1, e1, rfl⟩
  · refine thn (h.run c _ S e1 trivial) fun v s1 ⟨r', c1, q, eo, f, S1, ro⟩ => ?_
    cases eo
    subst q
    exact hq _ c1 v f S1 ro hd1
  · refine thn (h.run c _ S e1 kx) fun v s1 ⟨r', c1, q, eo, f, S1, ro⟩ => ?_
    cases eo
theorem PDT.goS {d : DT} {k : Bool → Rho → Option OS} {o : OS} {Q : Bool → Shared → Prop} (h : PDT X e d) (S : SR X c) (hd : ebind (d c.ρ) k = some o) (kx : KS X c o)
    (hq : ∀ r c1, Fr X c c1 → SR X c1 → k r c1.ρ = some o → Q r c1.s) : wpAny (model X.prog X.w) X.A (isTrue e X.env (eval e X.env)) Q X.xe c.s := by
  rcases ebind_some hd with ⟨r, ρ1, e1, hd1⟩ | ⟨x, ρ1, e1, rfl⟩
  · refine thn (h.run c _ S e1 trivial) fun v s1 ⟨c1, q, eo, f, S1⟩ => ?_
    cases eo
    subst q
    exact hq _ c1 f S1 hd1
  · refine thn (h.run c _ S e1 kx) fun v s1 ⟨c1, q, eo, f, S1⟩ => ?_
    cases eo
def sNil : DS := fun ρ => some (.nx ρ)
def sSeq (t u : DS) : DS := fun ρ => match t ρ with
  | some (.nx ρ1) => u ρ1
  | x => x
theorem pss_nil : PSs X [] sNil := ⟨fun c o S h _ => by cases h; exact wpAny_execs_nil ⟨c, rfl, FrB.refl, S, rfl⟩⟩
theorem pss_cons {st : Stmt} {sts : List Stmt} {t u : DS} (h1 : PS X st t) (h2 : PSs X sts u) : PSs X (st :: sts) (sSeq t u) := by
  refine ⟨fun c o S hd kx => ?_⟩
  have ht : ∃ o1, t c.ρ = some o1 := by
    cases q : t c.ρ with
    | some o1 => exact ⟨o1, rfl⟩
    | none => unfold sSeq at hd; rw [q] at hd; cases hd
  obtain ⟨o1, q1⟩ := ht
  have hd' := hd
  unfold sSeq at hd'
  rw [q1] at hd'
  refine wpAny_execs_cons ?_
  cases o1 with
  | nx ρ1 =>
    refine thn (h1.run c _ S q1 trivial) fun fl s1 ⟨c1, e, f, S1, r⟩ => ?_
    subst e
    cases fl with
    | next => cases r; exact thn (h2.run c1 o S1 hd' (f.ks kx)) fun _ _ q => PostS.from f q
    | brk => cases r
    | cont => cases r
    | ret v => obtain ⟨_, r, _⟩ := r; cases r
  | brk ρ1 =>
    cases hd'
    refine thn (h1.run c _ S q1 trivial) fun fl s1 ⟨c1, e, f, S1, r⟩ => ?_
    subst e
    cases fl with
    | brk => exact ⟨c1, rfl, f, S1, r⟩
    | next => cases r
    | cont => cases r
    | ret v => obtain ⟨_, r, _⟩ := r; cases r
  | cnt ρ1 =>
    cases hd'
    refine thn (h1.run c _ S q1 trivial) fun fl s1 ⟨c1, e, f, S1, r⟩ => ?_
    subst e
    cases fl with
    | cont => exact ⟨c1, rfl, f, S1, r⟩
    | next => cases r
    | brk => cases r
    | ret v => obtain ⟨_, r, _⟩ := r; cases r
  | ret r0 ρ1 =>
    cases hd'
    refine thn (h1.run c _ S q1 trivial) fun fl s1 ⟨c1, e, f, S1, r⟩ => ?_
    subst e
    cases fl with
    | ret v => exact ⟨c1, rfl, f, S1, r⟩
    | next => cases r
    | brk => cases r
    | cont => cases r
  | ex e0 ρ1 =>
    cases hd'
    refine thn (h1.run c _ S q1 kx) fun fl s1 ⟨c1, e, f, S1, r⟩ => ?_
    cases fl with
    | ret v => obtain ⟨_, r, _⟩ := r; cases r
    | next => cases r
    | brk => cases r
    | cont => cases r
end
end GB
/-! A dict's key is stored, its keys' own values kept. -/
namespace GB
open PySem PySem.Spec PyProof.Rows
open L2 (Key keyH keyIs mixKind Mod Look Vis Loc frs thn)
section
variable {w : World} {F : FH} {T : Nat}
def putK (ks : List (Key × D)) (k : Key) (d : D) : List (Key × D) := if ks.any (fun p => decide (p.1 = k)) then ks.map (fun p => if p.1 = k then (p.1, d) else p) else ks ++ [(k, d)]
def dPut (ds : List (D × D)) (k : Key) (d : D) : List (D × D) := if ds.any (fun p => decide (p.1.key = some k)) then ds.map (fun p => if p.1.key = some k then (p.1, d) else p) else ds ++ [(keyD k, d)]
theorem putK_map (ks : List (Key × D)) (k : Key) (d : D) : (putK ks k d).map (fun p => (keyD p.1, p.2)) = dPut (ks.map fun p => (keyD p.1, p.2)) k d := by
  unfold putK dPut
  have ha : (ks.map fun p => (keyD p.1, p.2)).any (fun p => decide (p.1.key = some k)) = ks.any (fun p => decide (p.1 = k)) := by
    rw [List.any_map]
    congr 1
    funext p
    simp [keyD_key]
  rw [ha]
  by_cases h : ks.any (fun p => decide (p.1 = k)) = true
  · rw [if_pos h, if_pos h, List.map_map, List.map_map]
    refine List.map_congr_left fun p _ => ?_
    simp only [Function.comp_apply, keyD_key, Option.some.injEq]
    by_cases q : p.1 = k <;> simp [q]
  · rw [if_neg h, if_neg h, List.map_append]
    rfl
theorem is_dec {k k' : Key} {v : Value} (r : Rep w F T v (keyD k')) : keyIs k v = decide (k = k') := by
  have h := r.key_is
  by_cases e : k = k'
  · subst e; simp [h]
  · rw [decide_eq_false e]
    cases q : keyIs k v with
    | false => rfl
    | true =>
      exfalso
      cases k with
      | inl i => cases k' with
        | inl j => obtain ⟨t, rfl⟩ := r.w.int_inv; simp [keyIs, Value.isInt] at q; exact e (by rw [q])
        | inr y => obtain ⟨t, rfl, _⟩ := r.str_inv; simp [keyIs, Value.isInt] at q
      | inr x => cases k' with
        | inl j => obtain ⟨t, rfl⟩ := r.w.int_inv; simp [keyIs, Value.isStrOf] at q
        | inr y =>
          obtain ⟨t, rfl, _⟩ := r.str_inv
          rw [tx_of] at q
          simp [keyIs, Value.isStrOf] at q
          exact e (by rw [q])
theorem RepK.put {k : Key} {v : Value} {d : D} (rv : Rep w F T v d) : ∀ {es : List DictEntry} {ks : List (Key × D)} {i : Nat}, RepK w F T es ks → es.findIdx? (fun e => keyIs k e.key) = some i → (ks.map (·.1)).Nodup →
    RepK w F T (es.modify i fun e => { e with val := v }) (ks.map fun p => if p.1 = k then (p.1, d) else p) ∧ ks.any (fun p => decide (p.1 = k)) = true
  | _, _, _, .nil, h, _ => by simp at h
  | _, _, i, @RepK.cons _ _ _ e k' d' es ks hh kr vr r, h, nd => by
    rw [List.map_cons, List.nodup_cons] at nd
    rw [List.findIdx?_cons, is_dec (k := k) kr] at h
    by_cases q : k = k'
    · subst q
      simp only [decide_true, if_true] at h
      cases h
      have same : ks.map (fun p => if p.1 = k then (p.1, d) else p) = ks := by
        conv => rhs; rw [← List.map_id ks]
        refine List.map_congr_left fun p hp => ?_
        have : ¬ p.1 = k := fun z => nd.1 (List.mem_map.mpr ⟨p, hp, z⟩)
        simp [this]
      refine ⟨?_, by simp⟩
      rw [List.map_cons, same]
      simp only [if_true]
      exact .cons hh kr rv r
    · simp only [decide_eq_false q] at h
      obtain ⟨j, hj, rfl⟩ := Option.map_eq_some_iff.mp h
      obtain ⟨h1, h2⟩ := r.put rv hj nd.2
      refine ⟨?_, by simp [h2]⟩
      rw [List.map_cons]
      simp only [if_neg (fun z : k' = k => q z.symm)]
      exact .cons hh kr vr h1
theorem RepK.nokey {k : Key} : ∀ {es : List DictEntry} {ks : List (Key × D)}, RepK w F T es ks → es.findIdx? (fun e => keyIs k e.key) = none → ks.any (fun p => decide (p.1 = k)) = false ∧ k ∉ ks.map (·.1)
  | _, _, .nil, _ => by simp
  | _, _, @RepK.cons _ _ _ e k' d' es ks hh kr vr r, h => by
    rw [List.findIdx?_cons, is_dec (k := k) kr] at h
    by_cases q : k = k'
    · simp [q] at h
    · simp only [decide_eq_false q] at h
      have h' : es.findIdx? (fun e => keyIs k e.key) = none := by simpa using h
      obtain ⟨h1, h2⟩ := r.nokey h'
      have q' : ¬ k' = k := fun z => q z.symm
      refine ⟨by simp [h1, q'], ?_⟩
      simp only [List.map_cons, List.mem_cons, not_or]
      exact ⟨q, h2⟩
theorem RepK.snoc {k : Key} {e : DictEntry} {d : D} (h1 : e.hash = keyH w k) (h2 : Rep w F T e.key (keyD k)) (h3 : Rep w F T e.val d) : ∀ {es : List DictEntry} {ks : List (Key × D)}, RepK w F T es ks → RepK w F T (es ++ [e]) (ks ++ [(k, d)])
  | _, _, .nil => .cons h1 h2 h3 .nil
  | _, _, .cons a b c r => .cons a b c (r.snoc h1 h2 h3)
end
section
variable {prog : Program} {w : World} {A : Around} {E : Value → Shared → Prop} {s : Shared} {F : FH} {T : Nat}
theorem dictSet_exact {a : Addr} {o : Obj} {es : Array DictEntry} {ep : Nat} {ks : List (Key × D)} {k : Key} {key v : Value} {d : D} {Q : Unit → Shared → Prop} (ho : s.heap.get? a = some o) (hx : o.ExactDict) (hd : o.data = .dict es ep) (rk : RepK w F s.toks es.toList ks) (nd : (ks.map (·.1)).Nodup)
    (rkey : Rep w F s.toks key (keyD k)) (rv : Rep w F s.toks v d) (hz : es.size < sizeLine)
    (hQ : ∀ h' o', h'.get? a = some o' → ObjIs w F (s.toks + 1) o' (.dic (dPut (ks.map fun p => (keyD p.1, p.2)) k d)) → Heap.SameBut a s.heap h' → Q () { s with heap := h', toks := s.toks + 1 }) :
    wpAny (model prog w) A (dictSet a key v) Q E s := by
  obtain ⟨kvs, p1, p2, p3, p4⟩ := rk.pairs (P := prog)
  have hk : KeysOf (mixKind prog w) es := fun e he => p4 e (by simpa using he)
  have hkey : keyIs k key = true := rkey.key_is
  unfold dictSet
  try with_reducible refine wpAny_holding ?_
  refine wpAny_bind ((mixKind prog w).pyHash (k := k) hkey ?_)
  unfold dictSetHashed
  try with_reducible refine wpAny_holding ?_
  refine wpAny_bind (wpAny_dictFind_of (knd := mixKind prog w) (s := { s with toks := s.toks + 1 }) (k := k) hkey ho hd hk ?_)
  have harr : es.findIdx? (fun e => (mixKind prog w).is k e.key) = es.toList.findIdx? (fun e => keyIs k e.key) := by obtain ⟨l⟩ := es; simp; rfl
  rw [harr]
  cases hi : es.toList.findIdx? (fun e => keyIs k e.key) with
  | some i =>
    obtain ⟨r1, r2⟩ := rk.put (k := k) rv hi nd
    refine wpAny_bind (wpAny_rule (wpAny_bind (wpAny_updateDict (s := { s with toks := s.toks + 1 }) ho hd (wpAny_point (hQ _ (o.mapDict fun es => es.modify i fun e => { e with val := v }) (Heap.get?_update_self _ ho (Obj.isFreed_of_dict (Obj.data_mapDict hd _))) ?_ (Heap.SameBut.update ..))))))
    have e2 : (ks.map fun p => if p.1 = k then (p.1, d) else p).map (·.1) = ks.map (·.1) := by
      rw [List.map_map]
      refine List.map_congr_left fun p _ => ?_
      simp only [Function.comp_apply]
      split <;> rfl
    refine .dic (ks := ks.map fun p => if p.1 = k then (p.1, d) else p) (hx.mapDict _) (Obj.data_mapDict hd _) (by rw [Array.size_modify]; exact Nat.le_of_lt hz) ?_ (by rw [e2]; exact nd) ?_
    · have : (es.modify i fun e => { e with val := v }).toList = es.toList.modify i fun e => { e with val := v } := by obtain ⟨l⟩ := es; simp
      rw [this]
      exact r1.mono (Sub.refl _) (Nat.le_succ _)
    · rw [← putK_map]
      unfold putK
      rw [if_pos r2]
  | none =>
    obtain ⟨r1, r2⟩ := rk.nokey (k := k) hi
    refine wpAny_bind (wpAny_rule (wpAny_updateDictKeys (hz := Nat.le_of_lt hz) (s := { s with toks := s.toks + 1 }) ho hd (hQ _ (o.mapDictKeys fun es => es.push ⟨keyH w k, key, v⟩) (Heap.get?_update_self _ ho (Obj.isFreed_of_dict (Obj.data_mapDictKeys hd _))) ?_ (Heap.SameBut.update ..))))
    refine .dic (ks := ks ++ [(k, d)]) (hx.mapDictKeys _) (Obj.data_mapDictKeys hd _) (by rw [Array.size_push]; exact hz) ?_ ?_ ?_
    · rw [Array.toList_push]
      exact (rk.snoc (e := ⟨keyH w k, key, v⟩) rfl rkey rv).mono (Sub.refl _) (Nat.le_succ _)
    · rw [List.map_append, List.nodup_append]
      refine ⟨nd, by simp, ?_⟩
      intro x hx y hy
      simp only [List.map_cons, List.map_nil, List.mem_singleton] at hy
      subst hy
      exact fun z => r2 (z ▸ hx)
    · rw [← putK_map]
      unfold putK
      rw [if_neg (by rw [r1]; decide)]
/-- d[key] = v -/
theorem setItem_exact {a : Addr} {o : Obj} {es : Array DictEntry} {ep : Nat} {ks : List (Key × D)} {k : Key} {key v : Value} {d : D} {Q : Unit → Shared → Prop} (ho : s.heap.get? a = some o) (hx : o.ExactDict) (hd : o.data = .dict es ep) (rk : RepK w F s.toks es.toList ks) (nd : (ks.map (·.1)).Nodup)
    (rkey : Rep w F s.toks key (keyD k)) (rv : Rep w F s.toks v d) (hz : es.size < sizeLine)
    (hQ : ∀ h' o', h'.get? a = some o' → ObjIs w F (s.toks + 1) o' (.dic (dPut (ks.map fun p => (keyD p.1, p.2)) k d)) → Heap.SameBut a s.heap h' → Q () { s with heap := h', toks := s.toks + 1 }) :
    wpAny (model prog w) A (setItem (.ref a) key v) Q E s := by
  have hT : s.TypeIs (.ref a) "dict" := ⟨o, ho, hx.1⟩
  unfold setItem
  try with_reducible refine wpAny_holding ?_
  refine wpAny_bind (wpAny_sequenceKey hT (by decide) ?_)
  refine wpAny_bind (wpAny_callSpecial?_slot (name := Str.ofString "__setitem__") hT slot_dict_setitem
    (wpAny_call_entry slot_dict_setitem hT entry_dict_setitem ?_ (args_dict_setitem _ _ _)))
  show wpAny _ _ (Builtin.Dict.notOrdered "__setitem__" ⟨[.ref a, key, v], []⟩ >>= _) _ _ s
  refine wpAny_bind (wpAny_notOrdered_dict hT ?_)
  show wpAny _ _ (dictSet a key v >>= _) _ _ s
  exact wpAny_bind (dictSet_exact ho hx hd rk nd rkey rv hz fun h' o' e r hs' => wpAny_pure ⟨.none, rfl, wpAny_pure (hQ h' o' e r hs')⟩)
end
end GB
/-! Statements: return, expression, if, assignments, while. -/
namespace GB
open PySem PySem.Spec PyProof.Rows
open L2 (Key keyH keyIs mixKind Mod Look Vis Loc frs thn)
section
variable {X : Cx} {c c0 c1 c2 : Cf} {a b e o : Expr} {es rest : List Expr} {da db dc : DE} {ta : DT} {pos p2 pos' cpos apos : Pos}
theorem SR.quiet (S : SR X c) : interactive X.env = false := by simp [interactive, S.ok.kind]
def sDrop (d : DE) : DS := fun ρ => ebind (d ρ) fun _ ρ1 => some (.nx ρ1)
theorem ps_expr (he : PD X e da) (hs : swapsWith e none pos.line X.env = pure false := by rfl) : PS X (.Expr e pos) (sDrop da) := by
  refine ⟨fun c o S hd kx => ?_⟩
  refine wpAny_Expr_any (he.goS S hd kx fun r c1 v f S1 ro hk => ?_) S.quiet hs
  cases hk
  exact ⟨c1, rfl, f.toFrB, S1, rfl⟩
def sRet (d : DE) : DS := fun ρ => ebind (d ρ) fun r ρ1 => some (.ret r ρ1)
theorem ps_ret (he : PD X e da) : PS X (.Return (some e) pos) (sRet da) := by
  refine ⟨fun c o S hd kx => ?_⟩
  refine wpAny_Return_some (he.goS S hd kx fun r c1 v f S1 ro hk => ?_)
  cases hk
  refine ⟨c1, rfl, f.toFrB, S1, r, rfl, ?_⟩
  cases r with
  | val d => exact ro
  | weak s => exact ro
  | fresh d =>
    obtain ⟨a, e, hn, r⟩ := ro
    have no : ¬ X.old a := fun z => by
      obtain ⟨o, q⟩ := S.olds a (.inl z)
      rw [hn] at q
      cases q
    exact ⟨a, e, no, r⟩
/-- return x, x a name: a list of one's own is given away as it is -/
def sRetN (i : Nat) : DS := fun ρ => match ρ[i]? with
  | some (.val d) => some (.ret (.val d) ρ)
  | some (.own d) => some (.ret (.fresh d) (ρ.set i .un))
  | _ => none
def sIf (t : DT) (u v : DS) : DS := fun ρ => ebind (t ρ) fun b ρ1 => if b = true then u ρ1 else v ρ1
theorem ps_if {t : Expr} {s1 s2 : List Stmt} {u v : DS} (ht : PDT X t ta) (h1 : PSs X s1 u) (h2 : PSs X s2 v) : PS X (.If t s1 s2 pos) (sIf ta u v) := by
  refine ⟨fun c o S hd kx => ?_⟩
  refine wpAny_If (ht.goS S hd kx fun b c1 f S1 hk => ?_)
  cases b with
  | true => exact thn (h1.run c1 o S1 hk (f.toFrB.ks kx)) fun _ _ q => PostS.from f.toFrB q
  | false => exact thn (h2.run c1 o S1 hk (f.toFrB.ks kx)) fun _ _ q => PostS.from f.toFrB q
/-- name = e -/
def sAsg (i : Nat) (d : DE) : DS := fun ρ => ebind (d ρ) fun r ρ1 => if r.isWeak then none else some (.nx (ρ1.set i (slotOf r)))
theorem ps_asg (i : Nat) {x : Str} (he : PD X e da) (hN : X.N[i]? = some x := by rfl) (hx : Loc X.env.scope x := by first | exact Or.inl rfl | exact Or.inr rfl) (has : X.asg i = true := by rfl) (hs : swapsWith e (some (.Name x pos')) pos.line X.env = pure false := by rfl) : PS X (.Assign [.Name x pos'] e pos) (sAsg i da) := by
  refine ⟨fun c o S hd kx => ?_⟩
  refine wpAny_Assign_Name (he.goS S hd kx fun r c1 v f S1 ro hk => ?_) hs
  by_cases z : r.isWeak = true
  · rw [if_pos z] at hk; cases hk
  · rw [if_neg z] at hk; cases hk
    refine thn (SR.store S f.toFrB S1 ro hN hx has) fun _ s2 ⟨c2, e1, e2, f2, S2, _⟩ => ?_
    exact ⟨c2, e1, f2, S2, by rw [e2]⟩
/-! ### targets, from a value that never changes any more -/
structure PGt (X : Cx) (tg : Expr) (g : D → Rho → Option (O Unit)) : Prop where
  run : ∀ (c : Cf) (d : D) (v : Value) (o : O Unit), SR X c → Rep X.w c.F c.s.toks v d → g d c.ρ = some o → (∀ e ρ', o = .ex e ρ' → KS X c (.ex e ρ')) →
    wpAny (model X.prog X.w) X.A (assign tg X.env v) (fun _ s' => ∃ c', c'.s = s' ∧ o = .ok () c'.ρ ∧ FrB X c c' ∧ SR X c') X.xe c.s
def gtName (i : Nat) : D → Rho → Option (O Unit) := fun d ρ => some (.ok () (ρ.set i (.val d)))
theorem pgt_name (i : Nat) {x : Str} (hN : X.N[i]? = some x := by rfl) (hx : Loc X.env.scope x := by first | exact Or.inl rfl | exact Or.inr rfl) (has : X.asg i = true := by rfl) : PGt X (.Name x pos) (gtName i) := by
  refine ⟨fun c d v o S r hg _ => ?_⟩
  cases hg
  exact wpAny_assign_Name (thn (SR.store (r := .val d) S FrB.refl S r hN hx has) fun _ s' ⟨c', e1, e2, f, S', _⟩ => ⟨c', e1, by rw [e2]; rfl, f, S'⟩)
/-- several targets, from a tuple -/
structure PGts (X : Cx) (ts : List Expr) (g : List D → Rho → Option (O Unit)) : Prop where
  run : ∀ (c : Cf) (ds : List D) (vs : List Value) (o : O Unit), SR X c → RepL X.w c.F c.s.toks vs ds → g ds c.ρ = some o → (∀ e ρ', o = .ex e ρ' → KS X c (.ex e ρ')) →
    wpAny (model X.prog X.w) X.A (assignInOrder ((assignEach ts X.env).map (·.2)) vs) (fun _ s' => ∃ c', c'.s = s' ∧ o = .ok () c'.ρ ∧ FrB X c c' ∧ SR X c') X.xe c.s
def gtNil : List D → Rho → Option (O Unit) := fun ds ρ => match ds with
  | [] => some (.ok () ρ)
  | _ => none
def gtCons (g : D → Rho → Option (O Unit)) (h : List D → Rho → Option (O Unit)) : List D → Rho → Option (O Unit) := fun ds ρ => match ds with
  | d :: r => obind (g d ρ) fun _ ρ1 => h r ρ1
  | [] => none
theorem pgts_nil : PGts X [] gtNil := by
  refine ⟨fun c ds vs o S r hg _ => ?_⟩
  cases ds with
  | cons _ _ => cases hg
  | nil => cases hg; cases r; exact assignInOrder_nil ⟨c, rfl, rfl, FrB.refl, S⟩
theorem pgts_cons {e : Expr} {es : List Expr} {g : D → Rho → Option (O Unit)} {h : List D → Rho → Option (O Unit)} (h1 : PGt X e g) (h2 : PGts X es h)
    (hs : (assignEach (e :: es) X.env).map (·.2) = assign e X.env :: (assignEach es X.env).map (·.2) := by rfl) : PGts X (e :: es) (gtCons g h) := by
  refine ⟨fun c ds vs o S r hg kx => ?_⟩
  cases ds with
  | nil => cases hg
  | cons d ds =>
    cases r with
    | cons r rr =>
      have hg : obind (g d c.ρ) (fun _ ρ1 => h ds ρ1) = some o := hg
      rw [hs]
      rcases obind_some hg with ⟨_, ρ1, e1, hd1⟩ | ⟨x, ρ1, e1, rfl⟩
      · refine assignInOrder_cons (thn (h1.run c d _ _ S r e1 (fun _ _ z => by cases z)) fun _ s1 ⟨c1, q, eo, f, S1⟩ => ?_)
        cases eo
        subst q
        refine thn (h2.run c1 ds _ o S1 (rr.mono f.fm f.tk) hd1 fun e ρ' z => f.ks (kx e ρ' z)) fun _ s2 ⟨c2, q2, eo2, f2, S2⟩ => ⟨c2, q2, eo2, f.trans f2, S2⟩
      · refine assignInOrder_cons (thn (h1.run c d _ _ S r e1 kx) fun _ s1 ⟨c1, q, eo, f, S1⟩ => ?_)
        cases eo
def gtTup (n : Nat) (h : List D → Rho → Option (O Unit)) : D → Rho → Option (O Unit) := fun d ρ => match d with
  | .tup ds => if ds.length = n then h ds ρ else none
  | _ => none
theorem pgt_tup {es : List Expr} {k : Nat} {h : List D → Rho → Option (O Unit)} {n : Nat} (hh : PGts X es h) (hn : (assignEach es X.env).length = n := by rfl) (hst : (assignEach es X.env).findIdx? (·.1) = none := by rfl) : PGt X (.Tuple es k pos) (gtTup n h) := by
  refine ⟨fun c d v o S r hg kx => ?_⟩
  cases d with
  | tup ds =>
    have hg : (if ds.length = n then h ds c.ρ else none) = some o := hg
    by_cases z : ds.length = n
    · rw [if_pos z] at hg
      obtain ⟨a, ob, vs, m, rfl, q, h1, h2, zz, l⟩ := r.view.tup_inv S.sub
      refine assign_Tuple_tuple S.ok.hd ⟨ob, q, h1, m, h2⟩ (by rw [hn, ← z, size_len l.length]) hst fun h' hx => ?_
      obtain ⟨S1, f1⟩ := S.kept (s' := { c.s with heap := h' }) (fun b o e => hx b o (Nat.ne_of_lt (Heap.lt_size e)) e) (Nat.le_refl _)
      exact thn (hh.run { c with s := { c.s with heap := h' } } ds _ o S1 l hg fun e ρ' z => f1.toFrB.ks (kx e ρ' z)) fun _ s2 ⟨c2, q2, eo2, f2, S2⟩ => ⟨c2, q2, eo2, f1.toFrB.trans f2, S2⟩
    · rw [if_neg z] at hg; cases hg
  | _ => cases hg
/-- name[i] = v -/
def setD (d i v : D) : Option D := match d with
  | .lst ds => (match i with
    | .int k => (L2.ixN ds.length k).map fun j => .lst (ds.set j v)
    | _ => none)
  | .dic kvs => (match i.key with
    | some k => if kvs.length < 16777216 then some (.dic (dPut kvs k v)) else none
    | none => none)
  | _ => none
/-- the key is told in full (a text with its token) -/
def gtSub (i : Nat) (l : DL) : D → Rho → Option (O Unit) := fun v ρ => match (ρ[i]?).bind Slot.mine with
  | some _ => obind (l ρ) fun x ρ1 => (match x.now ρ1 with
    | some k => (match ρ1[i]? with
      | some sl => (match sl.mine with
        | some d => (match setD d k v with
          | some d' => some (.ok () (ρ1.set i (sl.put d')))
          | none => none)
        | none => none)
      | none => none)
    | none => none)
  | none => none
theorem kx_of {o : O Unit} (h : ∀ e ρ', o = .ex e ρ' → KS X c (.ex e ρ')) : KX X c o := by
  cases o with
  | ok _ _ => trivial
  | ex e ρ' => exact h e ρ' rfl
theorem ViewG.key {v : Value} {d : D} {k : Key} (h : ViewG X.w c v d) (e : d.key = some k) : Rep X.w c.F c.s.toks v (keyD k) := by
  cases key_keyD e
  cases k with
  | inl i => obtain ⟨t, rfl⟩ := h.view.int_inv; exact .int i t
  | inr x => exact h.str_inv
theorem set_list (S : SR X c) {i : Nat} {sl : Slot} {ds : List D} {k : Int} {j : Nat} {t : Tok} {v : Value} {d : D} {Q : Unit → Shared → Prop} {E : Value → Shared → Prop} (h : c.ρ[i]? = some sl) (hs : sl = .own (.lst ds) ∨ sl = .par (.lst ds)) (r : Rep X.w c.F c.s.toks v d) (hj : L2.ixN ds.length k = some j)
    (hq : ∀ c', c'.ρ = c.ρ.set i (sl.put (.lst (ds.set j d))) → SR X c' → Fr X c c' → Q () c'.s) : wpAny (model X.prog X.w) X.A (setItem (.ref (c.α i)) (.int k t) v) Q E c.s := by
  obtain ⟨its, n, e, z, l⟩ := own_lst S h hs
  have big : (its.length : Int) < 2 ^ 63 := by
    have := sizeLine_eq
    omega
  unfold L2.ixN at hj
  rw [← l.length] at hj
  by_cases h0 : 0 ≤ k
  · rw [if_pos h0] at hj
    by_cases h1 : k < its.length
    · rw [if_pos h1] at hj
      cases hj
      obtain ⟨S', f⟩ := lst_put (its' := its.set k.toNat v) (ds' := ds.set k.toNat d) (t := c.s.toks) S h hs e (f := fun xs => xs.setIfInBounds k.toNat v) (by simp) (l.set r _) (by rw [List.length_set]; exact z) (Nat.le_refl _)
      exact PySem.W.ki_setAt e h0 (by omega) (by simpa using h1) (hq _ rfl S' f)
    · rw [if_neg h1] at hj; cases hj
  · rw [if_neg h0] at hj
    by_cases h1 : -(its.length : Int) ≤ k
    · rw [if_pos h1] at hj
      cases hj
      obtain ⟨S', f⟩ := lst_put (its' := its.set (k + its.length).toNat v) (ds' := ds.set (k + its.length).toNat d) (t := c.s.toks) S h hs e (f := fun xs => xs.setIfInBounds (k + its.length).toNat v) (by simp) (l.set r _) (by rw [List.length_set]; exact z) (Nat.le_refl _)
      refine PySem.W.ki_setBack e (by omega) (by simpa using h1) (by omega) ?_
      exact hq _ rfl S' f
    · rw [if_neg h1] at hj; cases hj
theorem own_dic (S : SR X c) {i : Nat} {sl : Slot} {ds : List (D × D)} (h : c.ρ[i]? = some sl) (hs : sl = .own (.dic ds) ∨ sl = .par (.dic ds)) : ∃ (o : Obj) (es : Array DictEntry) (ep : Nat) (ks : List (Key × D)), c.s.heap.get? (c.α i) = some o ∧ o.ExactDict ∧ o.data = .dict es ep ∧ es.size ≤ sizeLine ∧ RepK X.w c.F c.s.toks es.toList ks ∧ (ks.map (·.1)).Nodup ∧ ds = ks.map (fun p => (keyD p.1, p.2)) := by
  have io : isOwn c.ρ i := ⟨_, by rw [h]; rcases hs with rfl | rfl; exact .inl rfl; exact .inr rfl⟩
  obtain ⟨m, hm, slk⟩ := S.loc
  have hi : i < X.N.length := by rw [← S.len]; exact (List.getElem?_eq_some_iff.mp h).1
  have hx : X.N[i]? = some X.N[i] := by simp [hi]
  have q := slk i _ sl hx h
  have oa : OwnAt X.w X.base c.F c.s (c.α i) (.dic ds) := by
    rcases hs with rfl | rfl
    · exact q.2.1
    · exact q.2.1
  obtain ⟨o, e, r⟩ := oa.ob
  cases r with
  | @dic _ es ep ks _ hx hd z rk nd e' => exact ⟨o, es, ep, ks, e, hx, hd, z, rk, nd, e'⟩
theorem set_dict (S : SR X c) {i : Nat} {sl : Slot} {ds : List (D × D)} {k : Key} {kv v : Value} {d : D} {Q : Unit → Shared → Prop} {E : Value → Shared → Prop} (h : c.ρ[i]? = some sl) (hs : sl = .own (.dic ds) ∨ sl = .par (.dic ds)) (rk : Rep X.w c.F c.s.toks kv (keyD k)) (r : Rep X.w c.F c.s.toks v d) (hz : ds.length < 16777216)
    (hq : ∀ c', c'.ρ = c.ρ.set i (sl.put (.dic (dPut ds k d))) → SR X c' → Fr X c c' → Q () c'.s) : wpAny (model X.prog X.w) X.A (setItem (.ref (c.α i)) kv v) Q E c.s := by
  obtain ⟨o, es, ep, ks, e, hx, hd, z, rks, nd, rfl⟩ := own_dic S h hs
  have zz : es.size < sizeLine := by
    have := rks.length
    rw [List.length_map, ← this, Array.length_toList] at hz
    rw [sizeLine_eq]; exact hz
  refine setItem_exact e hx hd rks nd rk r zz fun h' o' e' r' sb => ?_
  obtain ⟨S', f⟩ := S.write (s' := { c.s with heap := h', toks := c.s.toks + 1 }) h hs (fun b o hb q => sb.2 b hb ▸ q) e' r' rfl (Nat.le_succ _)
  exact hq _ rfl S' f
theorem pgt_sub (i : Nat) {x : Str} {px : Pos} {ix : Expr} {l : DL} (hl : PG X ix l) (hN : X.N[i]? = some x := by rfl)
    (hd : (x == ("__debug__" : Str)) = false := by decide) (hcd : (x == ("__classdict__" : Str)) = false := by decide)
    (ha : ∀ v, assign (.Subscript (.Name x px) ix pos) X.env v = (do
      let ov ← holding [v] (eval (.Name x px) X.env)
      let iv ← holding [v, ov] (eval ix X.env)
      standAt pos
      holding [v, ov, iv] (setItem ov iv v)
      release [v, ov, iv] []) := by intro _; rfl) : PGt X (.Subscript (.Name x px) ix pos) (gtSub i l) := by
  refine ⟨fun c d v o S r hg kx => ?_⟩
  rw [ha]
  unfold gtSub at hg
  cases h1 : (c.ρ[i]?).bind Slot.mine with
  | none => rw [h1] at hg; cases hg
  | some d0 =>
    simp only [h1] at hg
    obtain ⟨m, hmm, lk, _⟩ := mine_view S hN h1
    refine wpAny_bind (wpAny_holding (S.name hmm lk ?_ hd hcd))
    refine wpAny_bind (wpAny_holding (hl.go S hg (kx_of kx) fun lv c1 kv f1 S1 ro hk => ?_))
    refine wpAny_bind (wpAny_standAt (wpAny_bind (wpAny_holding ?_)))
    cases h2 : lv.now c1.ρ with
    | none => rw [h2] at hk; cases hk
    | some dk =>
      simp only [h2] at hk
      have rk := ro.now Fr.refl S1 h2
      cases h3 : c1.ρ[i]? with
      | none => rw [h3] at hk; cases hk
      | some sl =>
        simp only [h3] at hk
        cases h4 : sl.mine with
        | none => rw [h4] at hk; cases hk
        | some d1 =>
          simp only [h4] at hk
          cases h5 : setD d1 dk d with
          | none => rw [h5] at hk; cases hk
          | some d' =>
            simp only [h5] at hk; cases hk
            have own := Slot.mine_iff h4
            have rd := r.mono f1.fm f1.tk
            rw [← f1.al]
            have done : ∀ c', c'.ρ = c1.ρ.set i (sl.put d') → SR X c' → Fr X c1 c' → wpAny (model X.prog X.w) X.A (release [v, .ref (c1.α i), kv] []) (fun _ s' => ∃ c', c'.s = s' ∧ (O.ok () (c1.ρ.set i (sl.put d')) : O Unit) = .ok () c'.ρ ∧ FrB X c c' ∧ SR X c') X.xe c'.s :=
              fun c' e1 S' f' => wpAny_release ⟨c', rfl, by rw [e1], (f1.trans f').toFrB, S'⟩
            unfold setD at h5
            cases d1 with
            | lst ds =>
              cases dk with
              | int k =>
                obtain ⟨j, hj, rfl⟩ := Option.map_eq_some_iff.mp h5
                obtain ⟨t, rfl⟩ := rk.view.int_inv
                exact set_list S1 h3 own rd hj done
              | _ => cases h5
            | dic kvs =>
              cases hk : dk.key with
              | none => rw [hk] at h5; cases h5
              | some k =>
                simp only [hk] at h5
                by_cases z : kvs.length < 16777216
                · rw [if_pos z] at h5; cases h5
                  exact set_dict S1 h3 own (rk.key hk) rd z done
                · rw [if_neg z] at h5; cases h5
            | _ => cases h5
/-- target = e -/
def sAsgT (d : DE) (g : D → Rho → Option (O Unit)) : DS := fun ρ => ebind (d ρ) fun r ρ1 => if r.isWeak then none else (match g r.d ρ1 with
  | some (.ok _ ρ2) => some (.nx ρ2)
  | some (.ex e ρ2) => some (.ex e ρ2)
  | none => none)
theorem ps_asgT {tg : Expr} {g : D → Rho → Option (O Unit)} (he : PD X e da) (hg : PGt X tg g) (hs : swapsWithSole [tg] e pos.line X.env = pure false := by rfl) (hw : swappedStores [tg] e X.env = pure none := by rfl)
    (h1 : (assignEach [tg] X.env).map (·.2) = [assign tg X.env] := by rfl) : PS X (.Assign [tg] e pos) (sAsgT da g) := by
  refine ⟨fun c o S hd kx => ?_⟩
  refine wpAny_Assign_stores (he.goS S hd kx fun r c1 v f S1 ro hk => ?_) hs hw
  rw [h1]
  by_cases z : r.isWeak = true
  · rw [if_pos z] at hk; cases hk
  · rw [if_neg z] at hk
    obtain ⟨F', f', S', _, w, _⟩ := ro.froze f S1
    have w := w (fun s q => z (by rw [q]; rfl))
    have kx' : ∀ oo : O Unit, g r.d c1.ρ = some oo → (∀ e ρ', oo = .ex e ρ' → KS X { c1 with F := F' } (.ex e ρ')) := fun oo q e ρ' q' => by
      subst q'
      rw [q] at hk
      cases hk
      exact f'.toFrB.ks kx
    cases hgo : g r.d c1.ρ with
    | none => rw [hgo] at hk; cases hk
    | some oo =>
      refine thn (hg.run { c1 with F := F' } r.d v oo S' w hgo (kx' oo hgo)) fun _ s2 ⟨c2, e1, e2, f2, S2⟩ => ?_
      subst e2
      rw [hgo] at hk
      cases hk
      exact ⟨c2, e1, f'.toFrB.trans f2, S2, rfl⟩
end
end GB
/-! Several names at once, each with its own value: lists just made stay one's own. -/
namespace GB
open PySem PySem.Spec PyProof.Rows
open L2 (Key keyH keyIs mixKind Mod Look Vis Loc frs thn)
section
variable {X : Cx} {c c0 c1 c2 c3 : Cf} {a b e o : Expr} {es rest : List Expr} {da db dc : DE} {pos p2 pos' cpos apos : Pos}
theorem ResOk.later {r : Res} {v : Value} (h : ResOk X c0 c1 r v) (f : FrB X c1 c2) : ResOk X c0 c2 r v := by
  cases r with
  | val d => exact Rep.mono f.fm f.tk h
  | weak s => exact h
  | fresh d =>
    obtain ⟨a, rfl, n, oa, no, nm⟩ := h
    obtain ⟨o, e, r⟩ := oa.ob
    obtain ⟨e', no', nf⟩ := f.st a o e no nm
    exact ⟨a, rfl, n, ⟨nf oa.nf, oa.ns, oa.nb, oa.mu, o, e', r.mono f.fm f.tk⟩, no', nm⟩
/-- values one behind another, c0 ahead of the first, c behind the last -/
inductive RsOk (X : Cx) : Cf → Cf → List Res → List Value → Prop
  | nil {c0 c : Cf} : FrB X c0 c → SR X c0 → RsOk X c0 c [] []
  | cons {c0 c1 c : Cf} {r : Res} {v : Value} {rs : List Res} {vs : List Value} : SR X c0 → FrB X c0 c1 → ResOk X c0 c1 r v → RsOk X c1 c rs vs → RsOk X c0 c (r :: rs) (v :: vs)
theorem RsOk.base {rs : List Res} {vs : List Value} (h : RsOk X c0 c rs vs) : SR X c0 := by cases h <;> assumption
theorem RsOk.fr {rs : List Res} {vs : List Value} (h : RsOk X c0 c rs vs) : FrB X c0 c := by
  induction h with
  | nil f _ => exact f
  | cons _ f _ _ ih => exact f.trans ih
theorem RsOk.later {rs : List Res} {vs : List Value} (h : RsOk X c0 c1 rs vs) (f : FrB X c1 c2) : RsOk X c0 c2 rs vs := by
  induction h with
  | nil g s => exact .nil (g.trans f) s
  | cons s g r _ ih => exact .cons s g r (ih f)
theorem RsOk.length {rs : List Res} {vs : List Value} (h : RsOk X c0 c rs vs) : vs.length = rs.length := by
  induction h with
  | nil _ _ => rfl
  | cons _ _ _ _ ih => exact congrArg Nat.succ ih
abbrev DR := Rho → Option (O (List Res))
structure PR (X : Cx) (es : List Expr) (d : DR) : Prop where
  run : ∀ (pos : Pos) (c : Cf) (o : O (List Res)), SR X c → d c.ρ = some o → KX X c o → wpAny (model X.prog X.w) X.A (spliced (backTo pos (starEach es X.env))) (fun vs s' => ∃ rs c', c'.s = s' ∧ o = .ok rs c'.ρ ∧ Fr X c c' ∧ SR X c' ∧ RsOk X c c' rs vs) X.xe c.s
def rNil : DR := fun ρ => some (.ok [] ρ)
def rCons (d : DE) (h : DR) : DR := fun ρ => obind (d ρ) fun r ρ1 => obind (h ρ1) fun rs ρ2 => some (.ok (r :: rs) ρ2)
theorem pr_nil : PR X [] rNil := ⟨fun pos c o S h _ => by cases h; exact Calls.spliced_nil ⟨[], c, rfl, rfl, Fr.refl, S, .nil FrB.refl S⟩⟩
theorem PR.goS {d : DR} {k : List Res → Rho → Option OS} {o : OS} {Q : List Value → Shared → Prop} (h : PR X es d) (S : SR X c) (hd : ebind (d c.ρ) k = some o) (kx : KS X c o)
    (hq : ∀ ds c1 vs, Fr X c c1 → SR X c1 → RsOk X c c1 ds vs → k ds c1.ρ = some o → Q vs c1.s) : wpAny (model X.prog X.w) X.A (spliced (backTo pos (starEach es X.env))) Q X.xe c.s := by
  rcases ebind_some hd with ⟨r, ρ1, e1, hd1⟩ | ⟨x, ρ1, e1, rfl⟩
  · refine thn (h.run pos c _ S e1 trivial) fun v s1 ⟨r', c1, q, eo, f, S1, ro⟩ => ?_
    cases eo
    subst q
    exact hq _ c1 v f S1 ro hd1
  · refine thn (h.run pos c _ S e1 kx) fun v s1 ⟨r', c1, q, eo, f, S1, ro⟩ => ?_
    cases eo
theorem PR.go {d : DR} {β : Type} {k : List Res → Rho → Option (O β)} {o : O β} {Q : List Value → Shared → Prop} (h : PR X es d) (S : SR X c) (hd : obind (d c.ρ) k = some o) (kx : KX X c o)
    (hq : ∀ ds c1 vs, Fr X c c1 → SR X c1 → RsOk X c c1 ds vs → k ds c1.ρ = some o → Q vs c1.s) : wpAny (model X.prog X.w) X.A (spliced (backTo pos (starEach es X.env))) Q X.xe c.s := by
  rcases obind_some hd with ⟨r, ρ1, e1, hd1⟩ | ⟨x, ρ1, e1, rfl⟩
  · refine thn (h.run pos c _ S e1 trivial) fun v s1 ⟨r', c1, q, eo, f, S1, ro⟩ => ?_
    cases eo
    subst q
    exact hq _ c1 v f S1 ro hd1
  · refine thn (h.run pos c _ S e1 kx) fun v s1 ⟨r', c1, q, eo, f, S1, ro⟩ => ?_
    cases eo
theorem pr_cons {d : DR} (ha : PD X e da) (hr : PR X es d) (hs : starEach (e :: es) X.env = (false, eval e X.env) :: starEach es X.env := by rfl) : PR X (e :: es) (rCons da d) := by
  refine ⟨fun pos c o S hd kx => ?_⟩
  rw [hs]
  show wpAny _ _ (spliced ((false, eval e X.env) :: backTo pos (starEach es X.env))) _ _ _
  refine Calls.spliced_cons (ha.go S hd kx fun x c1 v f1 S1 ro hd1 => ?_)
  refine hr.go S1 hd1 (f1.toFrB.kx kx) fun xs c2 vs f2 S2 rs hd2 => ?_
  cases hd2
  exact ⟨_, c2, rfl, rfl, f1.trans f2, S2, .cons S f1.toFrB ro rs⟩
/-- names stored from the right -/
def putAll : List Nat → List Res → Rho → Rho
  | i :: is, r :: rs, ρ => (putAll is rs ρ).set i (slotOf r)
  | _, _, ρ => ρ
theorem store_back : ∀ {is : List Nat} {xs : List Str} {rs : List Res} {vs : List Value} {c0 c : Cf}, RsOk X c0 c rs vs → SR X c → is.length = rs.length → xs.length = rs.length → (∀ (k : Nat) (i : Nat) (x : Str), is[k]? = some i → xs[k]? = some x → X.N[i]? = some x ∧ Loc X.env.scope x ∧ X.asg i = true) →
    ∀ {rest : List (Value → Sem Unit)} {ws : List Value} {Q : Unit → Shared → Prop} {E : Value → Shared → Prop}, (∀ c', c'.ρ = putAll is rs c.ρ → FrB X c0 c' → SR X c' → wpAny (model X.prog X.w) X.A (assignInOrder rest ws) Q E c'.s) →
    wpAny (model X.prog X.w) X.A (assignInOrder ((xs.reverse.map fun n => bindName X.env n) ++ rest) (vs.reverse ++ ws)) Q E c.s
  | is, xs, [], vs, c0, c, h, S, h1, h2, _, rest, ws, Q, E, hq => by
    cases h with
    | nil f _ =>
      cases xs with
      | cons _ _ => cases h2
      | nil => exact hq c (by cases is <;> rfl) f S
  | is, xs, r :: rs, vs, c0, c, h, S, h1, h2, hN, rest, ws, Q, E, hq => by
    cases h with
    | @cons _ c1 _ _ v _ vs S0 f ro rr =>
      cases is with
      | nil => cases h1
      | cons i is =>
        cases xs with
        | nil => cases h2
        | cons x xs =>
          rw [List.reverse_cons, List.reverse_cons, List.map_append, List.append_assoc, List.append_assoc]
          refine store_back rr S (Nat.succ.inj h1) (Nat.succ.inj h2) (fun k i x a b => hN (k + 1) i x (by simpa using a) (by simpa using b)) fun c2 e2 f2 S2 => ?_
          obtain ⟨hx, hl, has⟩ := hN 0 i x rfl rfl
          refine assignInOrder_cons (wpAny_bindName (thn (SR.store S0 (f.trans f2) S2 (ro.later f2) hx hl has) fun _ s3 ⟨c3, e3, e4, f3, S3, _⟩ => ?_))
          subst e3
          exact hq c3 (by rw [e4, e2]; rfl) f3 S3
def sPar (is : List Nat) (d : DR) : DS := fun ρ => ebind (d ρ) fun rs ρ1 => if is.length = rs.length ∧ rs.all (fun r => !r.isWeak) = true then some (.nx (putAll is rs ρ1)) else none
theorem ps_par {ts : List Expr} {xs : List Str} {d : DR} {kt k2 : Nat} {pt pt2 : Pos} (is : List Nat) (h : PR X es d) (hw : swappedStores [.Tuple ts kt pt] (.Tuple es k2 pt2) X.env = pure (some xs)) (hl : is.length = xs.length := by rfl)
    (hN : ∀ (k : Nat) (i : Nat) (x : Str), is[k]? = some i → xs[k]? = some x → X.N[i]? = some x ∧ Loc X.env.scope x ∧ X.asg i = true)
    (hs : swapsWithSole [.Tuple ts kt pt] (.Tuple es k2 pt2) pos.line X.env = pure false := by rfl) (hn : is.length ≤ 1000 := by decide) :
    PS X (.Assign [.Tuple ts kt pt] (.Tuple es k2 pt2) pos) (sPar is d) := by
  refine ⟨fun c o S hd kx => ?_⟩
  rw [exec_Assign_arm]
  refine wpAny_bind (wpAny_standAt ?_)
  rw [hs]
  refine wpAny_bind (wpAny_pure ?_)
  rw [if_neg (by decide)]
  refine wpAny_bind (wpAny_Tuple_spliced (h.goS S hd kx fun rs c1 vs f1 S1 ro hk => ?_))
  by_cases z : is.length = rs.length ∧ rs.all (fun r => !r.isWeak) = true
  · rw [if_pos z] at hk; cases hk
    have hlen : vs.length = is.length := by rw [ro.length, z.1]
    have small : vs.length ≤ sizeLine := by rw [hlen]; exact le_line hn
    refine ⟨small, ?_⟩
    rw [hw]
    refine wpAny_bind (wpAny_pure ?_)
    obtain ⟨S2, f2⟩ := S1.kept (s' := { c1.s with heap := c1.s.heap.push { cls := .type "tuple", data := .seq vs.toArray } }) (fun b o e => Heap.get?_push_of_some _ e) (Nat.le_refl _)
    show wpAny (model X.prog X.w) X.A (do rule "assign.swapped-stores"; let items ← unpackItems (.ref c1.s.heap.objs.size) xs.length none; assignInOrder (xs.reverse.map fun n => bindName X.env n) items.reverse; pure Flow.next) _ _ _
    have hu : xs.length = vs.toArray.size := by rw [List.size_toArray, hlen, hl]
    rw [hu]
    refine wpAny_bind (wpAny_rule (wpAny_bind (unpackItems_tuple (items := vs.toArray) S1.ok.hd (IsTup.new c1.s.heap _) fun h' hx' => ?_)))
    obtain ⟨S3, f3⟩ := S2.kept (s' := { c1.s with heap := h' }) (fun b o e => hx' b o (Nat.ne_of_lt (Heap.lt_size e)) e) (Nat.le_refl _)
    have := store_back (X := X) (is := is) (xs := xs) (rest := []) (ws := []) (Q := fun _ s' => PostS X c (.nx (putAll is rs c1.ρ)) Flow.next s') (E := X.xe) ((ro.later f2.toFrB).later f3.toFrB) S3 z.1 (by rw [← ro.length, hlen, hl]) hN (fun c' e1 f' S' => assignInOrder_nil ⟨c', rfl, f', S', by rw [e1]⟩)
    rw [List.append_nil, List.append_nil] at this
    refine wpAny_bind (thn this fun _ s4 q => wpAny_pure q)
  · rw [if_neg z] at hk; cases hk
end
end GB
/-! while; break, continue, pass. -/
namespace GB
open PySem PySem.Spec PyProof.Rows
open L2 (Key keyH keyIs mixKind Mod Look Vis Loc frs thn)
section
variable {X : Cx} {c c0 c1 c2 c3 : Cf} {a b e o : Expr} {es rest : List Expr} {da db dc : DE} {pos p2 pos' cpos apos : Pos}
/-- nothing is raised: what goes through a loop's own frame -/
theorem SR.pass (hx : X.xe = fun _ _ => False) : PassesOwn (model X.prog X.w) X.A X.env X.xe := by rw [hx]; exact .never
/-- n turns at most -/
def dWhile (t : DT) (b : DS) : Nat → DS
  | 0, _ => none
  | n + 1, ρ => ebind (t ρ) fun z ρ1 => if z = true then (match b ρ1 with
    | some (.nx ρ2) => dWhile t b n ρ2
    | some (.cnt ρ2) => dWhile t b n ρ2
    | some (.brk ρ2) => some (.nx ρ2)
    | x => x) else some (.nx ρ1)
open Classical in
noncomputable def sWhile (t : DT) (b : DS) : DS := fun ρ => if h : ∃ n o, dWhile t b n ρ = some o then some h.choose_spec.choose else none
theorem dWhile_mono {t : DT} {b : DS} : ∀ {n : Nat} {ρ : Rho} {o : OS}, dWhile t b n ρ = some o → dWhile t b (n + 1) ρ = some o := by
  intro n
  induction n with
  | zero => intro ρ o h; cases h
  | succ n ih =>
    intro ρ o h
    unfold dWhile at h ⊢
    rcases ebind_some h with ⟨z, ρ1, e1, h1⟩ | ⟨x, ρ1, e1, rfl⟩
    · rw [e1]
      show (if z = true then _ else _) = some o
      by_cases q : z = true
      · rw [if_pos q] at h1 ⊢
        cases e2 : b ρ1 with
        | none => rw [e2] at h1; cases h1
        | some o2 =>
          rw [e2] at h1
          cases o2 with
          | nx ρ2 => exact ih h1
          | cnt ρ2 => exact ih h1
          | brk ρ2 => exact h1
          | ret r ρ2 => exact h1
          | ex e ρ2 => exact h1
      · rw [if_neg q] at h1 ⊢; exact h1
    · rw [e1]; rfl
theorem dWhile_le {t : DT} {b : DS} {n m : Nat} {ρ : Rho} {o : OS} (h : dWhile t b n ρ = some o) (l : n ≤ m) : dWhile t b m ρ = some o := by
  induction l with
  | refl => exact h
  | step _ ih => exact dWhile_mono ih
theorem sWhile_eq {t : DT} {b : DS} {n : Nat} {ρ : Rho} {o : OS} (h : dWhile t b n ρ = some o) : sWhile t b ρ = some o := by
  have w : ∃ n o, dWhile t b n ρ = some o := ⟨n, o, h⟩
  unfold sWhile
  rw [dif_pos w]
  have q := w.choose_spec.choose_spec
  rcases Nat.le_total n w.choose with l | l
  · exact q.symm.trans (dWhile_le h l)
  · exact (dWhile_le q l).symm.trans h
theorem sWhile_some {t : DT} {b : DS} {ρ : Rho} {o : OS} (h : sWhile t b ρ = some o) : ∃ n, dWhile t b n ρ = some o := by
  unfold sWhile at h
  by_cases w : ∃ n o, dWhile t b n ρ = some o
  · rw [dif_pos w] at h
    cases h
    exact ⟨_, w.choose_spec.choose_spec⟩
  · rw [dif_neg w] at h; cases h
theorem ps_while {tc : DT} {tb : DS} {t : Expr} {body : List Stmt} (ht : PDT X t tc) (hb : PSs X body tb) (hp : PassesOwn (model X.prog X.w) X.A X.env X.xe) : PS X (.While t body [] pos) (sWhile tc tb) := by
  refine ⟨fun c o S hd kx => ?_⟩
  obtain ⟨n0, hd⟩ := sWhile_some hd
  refine wpAny_While (codeAny_whileLoop (fun n s' => ∃ c', c'.s = s' ∧ FrB X c c' ∧ SR X c' ∧ dWhile tc tb n c'.ρ = some o) ?_ n0 ⟨c, rfl, FrB.refl, S, hd⟩)
  rintro n s1 ⟨c1, rfl, f1, S1, h1⟩
  cases n with
  | zero => cases h1
  | succ n =>
    unfold dWhile at h1
    refine wpAny_passesOwn hp (ht.goS S1 h1 (f1.ks kx) fun z c2 f2 S2 h2 => ?_)
    have f12 := f1.trans f2.toFrB
    cases z with
    | false =>
      rw [if_neg Bool.false_ne_true] at h2 ⊢
      cases h2
      exact wpAny_execs_nil ⟨c2, rfl, f12, S2, rfl⟩
    | true =>
      rw [if_pos rfl] at h2 ⊢
      cases e2 : tb c2.ρ with
      | none => rw [e2] at h2; cases h2
      | some o2 =>
        rw [e2] at h2
        have kx2 : KS X c2 o2 := by
          cases o2 with
          | ex e ρ' => cases h2; exact f12.ks kx
          | _ => trivial
        refine wpAny_passesOwn hp (thn (hb.run c2 o2 S2 e2 kx2) fun fl s3 ⟨c3, q, f3, S3, r⟩ => ?_)
        subst q
        cases fl with
        | next => cases r; exact ⟨n, Nat.lt_succ_self n, c3, rfl, f12.trans f3, S3, h2⟩
        | cont => cases r; exact ⟨n, Nat.lt_succ_self n, c3, rfl, f12.trans f3, S3, h2⟩
        | brk => cases r; cases h2; exact ⟨c3, rfl, f12.trans f3, S3, rfl⟩
        | ret v =>
          obtain ⟨r, e, ro⟩ := r
          subst e
          cases h2
          exact PostS.from f12 ⟨c3, rfl, f3, S3, r, rfl, ro⟩
def sBrk : DS := fun ρ => some (.brk ρ)
def sCnt : DS := fun ρ => some (.cnt ρ)
theorem ps_brk : PS X (.Break pos) sBrk := by
  refine ⟨fun c o S h _ => ?_⟩
  cases h
  rw [show exec (.Break pos) X.env = (do standAt pos; pure .brk) from rfl]
  exact wpAny_bind (wpAny_standAt (wpAny_pure ⟨c, rfl, FrB.refl, S, rfl⟩))
theorem ps_cnt : PS X (.Continue pos) sCnt := by
  refine ⟨fun c o S h _ => ?_⟩
  cases h
  rw [show exec (.Continue pos) X.env = (do standAt pos; pure .cont) from rfl]
  exact wpAny_bind (wpAny_standAt (wpAny_pure ⟨c, rfl, FrB.refl, S, rfl⟩))
theorem ps_pass : PS X (.Pass pos) sNil := by
  refine ⟨fun c o S h _ => ?_⟩
  cases h
  rw [show exec (.Pass pos) X.env = (do standAt pos; pure .next) from rfl]
  exact wpAny_bind (wpAny_standAt (wpAny_pure ⟨c, rfl, FrB.refl, S, rfl⟩))
end
end GB
/-! for: what is gone through is told as a row of data. -/
namespace GB
open PySem PySem.Spec PyProof.Rows
open L2 (Key keyH keyIs mixKind Mod Look Vis Loc frs thn)
section
variable {X : Cx} {c c0 c1 c2 c3 : Cf} {a b e o : Expr} {es rest : List Expr} {da db dc : DE} {pos p2 pos' cpos apos : Pos}
/-- an iterator I: n turns; its state lives in fp, its own next writes wr -/
structure Itr (prog : Program) (w : World) (tg : Expr) (T0 : Nat) (I : Addr) (fp wr : List Addr) (n : Nat) (Y : Nat → Value → Shared → Prop) (St : Nat → Heap → Prop) : Prop where
  sub : ∀ b ∈ wr, b ∈ fp
  frame : ∀ i h h', St i h → (∀ b ∈ fp, ∀ o, h.get? b = some o → h'.get? b = some o) → St i h'
  obj : ∀ i h, St i h → ∀ b ∈ fp, ∃ o, h.get? b = some o
  goes : ∀ (A : Around) i (s : Shared) (Q : Value → Shared → Prop) (E : Value → Shared → Prop), A.handled = none → i < n → T0 ≤ s.toks → St i s.heap →
    (∀ v h' tk, Y i v { s with heap := h', toks := tk } → St (i + 1) h' → (∀ b o, b ∉ wr → s.heap.get? b = some o → h'.get? b = some o) → s.toks ≤ tk → Q v { s with heap := h', toks := tk }) →
    wpAny (model prog w) A (pyNext (.ref I)) (fun r s₁ => ∃ v, r = some v ∧ wpAny (model prog w) A (letOwnedTupleGo tg (.ref I) v) (fun _ s₂ => Q v s₂) E s₁) E s
  stops : ∀ (A : Around) (s : Shared) (Q : Shared → Prop) (E : Value → Shared → Prop), A.handled = none → St n s.heap →
    (∀ h' tk, (∀ b o, b ∉ wr → s.heap.get? b = some o → h'.get? b = some o) → s.toks ≤ tk → Q { s with heap := h', toks := tk }) → wpAny (model prog w) A (pyNext (.ref I)) (fun r s₁ => r = none ∧ Q s₁) E s
  self : ∀ (A : Around) i (s : Shared) (Q : Value → Shared → Prop) (E : Value → Shared → Prop), A.handled = none → St i s.heap → Q (.ref I) s → wpAny (model prog w) A (pyIter (.ref I)) Q E s
theorem Itr.of {prog : Program} {w : World} {tg : Expr} {T0 : Nat} {I : Addr} {fp wr : List Addr} {n : Nat} {Y : Nat → Value → Heap → Prop} {Y' : Nat → Value → Shared → Prop} {St : Nat → Heap → Prop} {A0 : Around} (h0 : A0.handled = none) (g : ∀ A : Around, A.handled = none → Goes prog w A tg I fp wr n Y St)
    (ho : ∀ i h, St i h → ∀ b ∈ fp, ∃ o, h.get? b = some o) (hy : ∀ i v (s : Shared), i < n → T0 ≤ s.toks → Y i v s.heap → Y' i v s) : Itr prog w tg T0 I fp wr n Y' St where
  sub := (g A0 h0).sub
  frame := (g A0 h0).frame
  obj := ho
  goes := fun A i s Q E hh hi ht st hq => (g A hh).goes i s Q E hi st fun v h' tk y st' k t => hq v h' tk (hy i v _ hi (Nat.le_trans ht t) y) st' k t
  stops := fun A s Q E hh st hq => (g A hh).stops s Q E st hq
  self := fun A i s Q E hh st q => (g A hh).self i s Q E st q
/-- a turn's value: d as it never changes any more, or (own) a tuple just made of such -/
def Yld (w : World) (F : FH) (own : Bool) (d : D) (v : Value) (s : Shared) : Prop := if own = true then ∃ T vals ds, v = .ref T ∧ s.heap.IsTuple T vals ∧ RepL w F s.toks vals.toList ds ∧ d = .tup ds else Rep w F s.toks v d
structure Walk (X : Cx) (c0 c : Cf) (own : Bool) (tg : Expr) (I : Addr) (ds : List D) : Prop where
  tk1 : 0 < c.s.toks
  it : ∃ fp wr St, Itr X.prog X.w tg c.s.toks I fp wr ds.length (fun k v s' => ∃ d, ds[k]? = some d ∧ Yld X.w c.F own d v s') St ∧ St 0 c.s.heap ∧ (∀ b ∈ wr, c0.s.heap.get? b = none ∧ c.F b = none) ∧ (∀ b ∈ fp, ¬ Owns c b ∧ ¬ Mine X b) ∧ ∀ b ∈ fp, c0.s.heap.get? b = none ∨ ∃ o, c.F b = some o
/-- what can be gone through -/
structure PI (X : Cx) (own : Bool) (tg e : Expr) (p : DA) : Prop where
  run : ∀ (c : Cf) (o : O (List D)), SR X c → p c.ρ = some o → KX X c o → wpAny (model X.prog X.w) X.A (eval e X.env) (fun xv s1 => wpAny (model X.prog X.w) X.A (pyIter xv) (fun it s2 => ∃ ds c' I, it = .ref I ∧ c'.s = s2 ∧ o = .ok ds c'.ρ ∧ Fr X c c' ∧ SR X c' ∧ Walk X c c' own tg I ds) X.xe s1) X.xe c.s
structure PGv (X : Cx) (own : Bool) (tg : Expr) (g : D → Rho → Option (O Unit)) : Prop where
  run : ∀ (c : Cf) (d : D) (v : Value) (o : O Unit), SR X c → Yld X.w c.F own d v c.s → g d c.ρ = some o → (∀ e ρ', o = .ex e ρ' → KS X c (.ex e ρ')) →
    wpAny (model X.prog X.w) X.A (assign tg X.env v) (fun _ s' => ∃ c', c'.s = s' ∧ o = .ok () c'.ρ ∧ FrB X c c' ∧ SR X c') X.xe c.s
theorem pgv_of {tg : Expr} {g : D → Rho → Option (O Unit)} (h : PGt X tg g) : PGv X false tg g := ⟨fun c d v o S y => h.run c d v o S y⟩
theorem pgv_tup {es : List Expr} {k : Nat} {h : List D → Rho → Option (O Unit)} {n : Nat} (hh : PGts X es h) (hn : (assignEach es X.env).length = n := by rfl) (hst : (assignEach es X.env).findIdx? (·.1) = none := by rfl) : PGv X true (.Tuple es k pos) (gtTup n h) := by
  refine ⟨fun c d v o S y hg kx => ?_⟩
  obtain ⟨T, vals, ds, rfl, ht, l, rfl⟩ := y
  have hg : (if ds.length = n then h ds c.ρ else none) = some o := hg
  by_cases z : ds.length = n
  · rw [if_pos z] at hg
    refine assign_Tuple_tuple S.ok.hd ht (by rw [hn, ← z, size_len l.length]) hst fun h' hx => ?_
    obtain ⟨S1, f1⟩ := S.kept (s' := { c.s with heap := h' }) (fun b o e => hx b o (Nat.ne_of_lt (Heap.lt_size e)) e) (Nat.le_refl _)
    exact thn (hh.run { c with s := { c.s with heap := h' } } ds _ o S1 l hg fun e ρ' z => f1.toFrB.ks (kx e ρ' z)) fun _ s2 ⟨c2, q2, eo2, f2, S2⟩ => ⟨c2, q2, eo2, f1.toFrB.trans f2, S2⟩
  · rw [if_neg z] at hg; cases hg
/-- the iterator's own objects turn -/
theorem SR.turned {wr : List Addr} (S0 : SR X c0) (f : FrB X c0 c) (S : SR X c) (hw : ∀ b ∈ wr, c0.s.heap.get? b = none ∧ c.F b = none ∧ ¬ Owns c b) {h' : Heap} {tk : Nat} (k : ∀ b o, b ∉ wr → c.s.heap.get? b = some o → h'.get? b = some o) (ht : c.s.toks ≤ tk) :
    SR X { c with s := { c.s with heap := h', toks := tk } } ∧ FrB X c0 { c with s := { c.s with heap := h', toks := tk } } := by
  have old : ∀ b o, c0.s.heap.get? b = some o → b ∉ wr := fun b o e z => by rw [(hw b z).1] at e; cases e
  have k0 : ∀ b o o', c0.s.heap.get? b = some o → c.s.heap.get? b = some o' → h'.get? b = some o' := fun b o o' e e' => k b o' (old b o e) e'
  have mine : ∀ b o, Mine X b → c.s.heap.get? b = some o → h'.get? b = some o := fun b o z e => by
    obtain ⟨o0, e0⟩ := S0.olds b (.inr z)
    exact k0 b o0 o e0 e
  have cel : ∀ y a, X.env.cells.lookup y = some a → ∀ v, c.s.heap.IsCell a v → h'.IsCell a v := fun y a hy v ⟨o, q, dd⟩ => by
    obtain ⟨v0, o0, q0, _⟩ := S0.cell y a hy
    exact ⟨o, k0 a o0 o q0 q, dd⟩
  have ownk : ∀ b, Owns c b → ∀ o, c.s.heap.get? b = some o → h'.get? b = some o := fun b z o q => k b o (fun w => (hw b w).2.2 z) q
  refine ⟨⟨S.ok, S.os, S.bare, fun b o e => ?_, ?_, ?_, fun x a hx => ?_, fun b o e => k b o (fun z => by rw [(hw b z).2.1] at e; cases e) (S.sub b o e), S.mine, S.inj, fun b z => ?_, Nat.le_trans S.tk ht, S.len, S.cfree⟩,
    ⟨f.fm, Nat.le_trans f.tk ht, fun b o e => ?_, fun b o e n nm => ?_, fun b o z l e => ?_, f.pr, f.ka⟩⟩
  · exact k0 b o o (S0.bk b o e) (S.bk b o e)
  · exact funs_of X.stack (fun b hb o q => mine b o (.inr (.inr hb)) q) S.frm
  · obtain ⟨m, hm, slk⟩ := S.loc
    refine ⟨m, ?_, fun j x sl h1 h2 => ?_⟩
    · obtain ⟨o, es, ep, q, dd, rr⟩ := hm
      exact ⟨o, es, ep, mine _ _ (.inl rfl) q, dd, rr⟩
    · refine (slk j x sl h1 h2).keep (Sub.refl _) ht cel fun ⟨y, hy⟩ => ?_
      have jo : isOwn c.ρ j := ⟨y, by rcases hy with rfl | rfl; exact .inl h2; exact .inr h2⟩
      obtain ⟨⟨y', oy⟩, _⟩ := S.owned ⟨j, jo, rfl⟩
      exact ⟨oy.nf, fun o q => ownk _ ⟨j, jo, rfl⟩ o q⟩
  · obtain ⟨v, z⟩ := S.cell x a hx
    exact ⟨v, cel x a hx v z⟩
  · obtain ⟨o0, e0⟩ := S0.olds b z
    obtain ⟨o, e⟩ := S.olds b z
    exact ⟨o, k0 b o0 o e0 e⟩
  · obtain ⟨o', e'⟩ := f.hm b o e
    exact ⟨o', k0 b o o' e e'⟩
  · obtain ⟨q1, n1, f1⟩ := f.st b o e n nm
    exact ⟨k0 b o o e q1, n1, f1⟩
  · obtain ⟨sl, q1⟩ := f.fr b o z l e
    exact ⟨sl, k0 b o _ e q1⟩
def dFor (g : D → Rho → Option (O Unit)) (b : DS) : List D → DS
  | [], ρ => some (.nx ρ)
  | d :: ds, ρ => match g d ρ with
    | some (.ok _ ρ1) => (match b ρ1 with
      | some (.nx ρ2) => dFor g b ds ρ2
      | some (.cnt ρ2) => dFor g b ds ρ2
      | some (.brk ρ2) => some (.nx ρ2)
      | x => x)
    | some (.ex e ρ1) => some (.ex e ρ1)
    | none => none
def sFor (p : DA) (g : D → Rho → Option (O Unit)) (b : DS) : DS := fun ρ => ebind (p ρ) fun ds ρ1 => dFor g b ds ρ1
theorem PI.goS {own : Bool} {tg : Expr} {p : DA} {k : List D → Rho → Option OS} {o : OS} {Q : Value → Shared → Prop} (h : PI X own tg e p) (S : SR X c) (hd : ebind (p c.ρ) k = some o) (kx : KS X c o)
    (hq : ∀ ds c1 I, Fr X c c1 → SR X c1 → Walk X c c1 own tg I ds → k ds c1.ρ = some o → Q (.ref I) c1.s) : wpAny (model X.prog X.w) X.A (eval e X.env) (fun xv s1 => wpAny (model X.prog X.w) X.A (pyIter xv) Q X.xe s1) X.xe c.s := by
  rcases ebind_some hd with ⟨r, ρ1, e1, hd1⟩ | ⟨x, ρ1, e1, rfl⟩
  · refine thn (h.run c _ S e1 trivial) fun v s1 hv => thn hv fun it s2 ⟨ds, c1, I, ei, q, eo, f, S1, W⟩ => ?_
    cases eo
    subst q ei
    exact hq _ c1 I f S1 W hd1
  · refine thn (h.run c _ S e1 kx) fun v s1 hv => thn hv fun it s2 ⟨ds, c1, I, ei, q, eo, f, S1, W⟩ => ?_
    cases eo
theorem ps_for {own : Bool} {tg it : Expr} {p : DA} {g : D → Rho → Option (O Unit)} {tb : DS} {body : List Stmt} (hi : PI X own tg it p) (hg : PGv X own tg g) (hb : PSs X body tb) (hp : PassesOwn (model X.prog X.w) X.A X.env X.xe)
    (hs : ∀ x, foldedSetIterable it X.env x = pure x := by intro _; rfl) : PS X (.For tg it body [] pos) (sFor p g tb) := by
  refine ⟨fun c o S hd kx => ?_⟩
  refine wpAny_For (hi.goS S hd kx fun ds c1 I f1 S1 W hk => ?_) hs
  obtain ⟨fp, wr, St, G, st0, hw, hf, _⟩ := W.it
  -- at turn i
  refine codeAny_forLoop_any (fun k s' => ∃ i c', c'.s = s' ∧ i ≤ ds.length ∧ k = ds.length + 1 - i ∧ FrB X c c' ∧ SR X c' ∧ St i s'.heap ∧ c1.s.toks ≤ c'.s.toks ∧ Sub c1.F c'.F ∧ (∀ b ∈ wr, c'.F b = none) ∧ (∀ b ∈ fp, ¬ Owns c' b) ∧ dFor g tb (ds.drop i) c'.ρ = some o) ?_ (ds.length + 1)
    ⟨0, c1, rfl, Nat.zero_le _, rfl, f1.toFrB, S1, st0, Nat.le_refl _, Sub.refl _, fun b hb => (hw b hb).2, fun b hb => (hf b hb).1, by rw [List.drop_zero]; exact hk⟩
  rintro k s' ⟨i, c', rfl, hi', rfl, fc, Sc, st, tkc, sF, wF, wO, hd'⟩
  have hw' : ∀ b ∈ wr, c.s.heap.get? b = none ∧ c'.F b = none ∧ ¬ Owns c' b := fun b hb => ⟨(hw b hb).1, wF b hb, wO b (G.sub b hb)⟩
  by_cases hlt : i < ds.length
  · rw [List.drop_eq_getElem_cons hlt] at hd'
    refine wpAny_mono (G.goes X.A i c'.s (fun v s₂ => wpAny (model X.prog X.w) X.A (assign tg X.env v) (fun _ s₃ => wpAny (model X.prog X.w) X.A (execs body X.env) (fun f s₄ => match f with
        | .next | .cont => ∃ m, m < ds.length + 1 - i ∧ ∃ i c', c'.s = s₄ ∧ i ≤ ds.length ∧ m = ds.length + 1 - i ∧ FrB X c c' ∧ SR X c' ∧ St i s₄.heap ∧ c1.s.toks ≤ c'.s.toks ∧ Sub c1.F c'.F ∧ (∀ b ∈ wr, c'.F b = none) ∧ (∀ b ∈ fp, ¬ Owns c' b) ∧ dFor g tb (ds.drop i) c'.ρ = some o
        | .brk => PostS X c o .next s₄
        | .ret v => PostS X c o (.ret v) s₄) (notedBy (model X.prog X.w) X.A X.env (cameBackBy (model X.prog X.w) X.A X.env X.xe)) s₃) (notedBy (model X.prog X.w) X.A X.env (cameBackBy (model X.prog X.w) X.A X.env X.xe)) s₂) (notedBy (model X.prog X.w) X.A X.env (cameBackBy (model X.prog X.w) X.A X.env X.xe)) Sc.ok.hd hlt tkc st ?_) ?_ (fun _ _ e => e)
    · intro v h' tk ⟨d, hdk, y⟩ st' kk ht
      have ed : ds[i] = d := by
        have : ds[i]? = some ds[i] := by simp [hlt]
        rw [this] at hdk
        exact Option.some.inj hdk
      rw [ed] at hd'
      obtain ⟨S2, f2⟩ := S.turned (wr := wr) fc Sc hw' kk ht
      have y' : Yld X.w c'.F own d v { c'.s with heap := h', toks := tk } := by
        unfold Yld at y ⊢
        by_cases z : own = true
        · rw [if_pos z] at y ⊢
          obtain ⟨T, vals, ds', e1, e2, e3, e4⟩ := y
          exact ⟨T, vals, ds', e1, e2, e3.mono sF (Nat.le_refl _), e4⟩
        · rw [if_neg z] at y ⊢
          exact y.mono sF (Nat.le_refl _)
      have hd' : (match g d c'.ρ with
        | some (.ok _ ρ1) => (match tb ρ1 with
          | some (.nx ρ2) => dFor g tb (ds.drop (i + 1)) ρ2
          | some (.cnt ρ2) => dFor g tb (ds.drop (i + 1)) ρ2
          | some (.brk ρ2) => some (.nx ρ2)
          | x => x)
        | some (.ex e ρ1) => some (.ex e ρ1)
        | none => none) = some o := hd'
      have stay : ∀ {ca cb : Cf}, FrB X ca cb → (∀ b ∈ fp, ¬ Owns ca b) → (∀ b ∈ wr, ca.F b = none) → St (i + 1) ca.s.heap → (∀ b ∈ fp, ¬ Owns cb b) ∧ (∀ b ∈ wr, cb.F b = none) ∧ St (i + 1) cb.s.heap := fun {ca cb} fab h1 h2 h3 => by
        have q : ∀ b ∈ fp, ∃ o, ca.s.heap.get? b = some o := G.obj _ _ h3
        refine ⟨fun b hb => ?_, fun b hb => ?_, G.frame _ _ _ h3 fun b hb o e => (fab.st b o e (h1 b hb) (hf b hb).2).1⟩
        · obtain ⟨o, e⟩ := q b hb
          exact (fab.st b o e (h1 b hb) (hf b hb).2).2.1
        · obtain ⟨o, e⟩ := q b (G.sub b hb)
          exact (fab.st b o e (h1 b (G.sub b hb)) (hf b (G.sub b hb)).2).2.2 (h2 b hb)
      cases e1 : g d c'.ρ with
      | none => rw [e1] at hd'; cases hd'
      | some o1 =>
        rw [e1] at hd'
        have kx1 : ∀ e ρ', o1 = .ex e ρ' → KS X { c' with s := { c'.s with heap := h', toks := tk } } (.ex e ρ') := fun e ρ' q => by
          subst q; cases hd'; exact f2.ks kx
        refine wpAny_passesOwn hp (thn (hg.run { c' with s := { c'.s with heap := h', toks := tk } } d v o1 S2 y' e1 kx1) fun _ s3 ⟨c3, q3, eo, f3, S3⟩ => ?_)
        subst q3 eo
        obtain ⟨O3, F3, st3⟩ := stay f3 wO wF st'
        have f23 := f2.trans f3
        cases e2 : tb c3.ρ with
        | none => simp only [e2] at hd'; cases hd'
        | some o2 =>
          simp only [e2] at hd'
          have kx2 : KS X c3 o2 := by
            cases o2 with
            | ex e ρ' => cases hd'; exact f23.ks kx
            | _ => trivial
          refine wpAny_passesOwn hp (thn (hb.run c3 o2 S3 e2 kx2) fun fl s4 ⟨c4, q4, f4, S4, r⟩ => ?_)
          subst q4
          obtain ⟨O4, F4, st4⟩ := stay f4 O3 F3 st3
          have fall := f23.trans f4
          have sub4 : Sub c1.F c4.F := sF.trans (f3.fm.trans f4.fm)
          cases fl with
          | next => cases r; exact ⟨ds.length + 1 - (i + 1), by omega, i + 1, c4, rfl, hlt, rfl, fall, S4, st4, Nat.le_trans tkc (Nat.le_trans ht (Nat.le_trans f3.tk f4.tk)), sub4, F4, O4, hd'⟩
          | cont => cases r; exact ⟨ds.length + 1 - (i + 1), by omega, i + 1, c4, rfl, hlt, rfl, fall, S4, st4, Nat.le_trans tkc (Nat.le_trans ht (Nat.le_trans f3.tk f4.tk)), sub4, F4, O4, hd'⟩
          | brk => cases r; cases hd'; exact ⟨c4, rfl, fall, S4, rfl⟩
          | ret v =>
            obtain ⟨r, e, ro⟩ := r
            subst e
            cases hd'
            exact PostS.from f23 ⟨c4, rfl, f4, S4, r, rfl, ro⟩
    · rintro r s₁ ⟨v, rfl, h⟩
      exact h
  · have ei : i = ds.length := by omega
    subst ei
    rw [List.drop_length] at hd'
    cases hd'
    refine wpAny_mono (G.stops X.A c'.s (fun s₂ => ∃ h' tk, s₂ = { c'.s with heap := h', toks := tk } ∧ (∀ b o, b ∉ wr → c'.s.heap.get? b = some o → h'.get? b = some o) ∧ c'.s.toks ≤ tk) _ Sc.ok.hd st fun h' tk kk ht => ⟨h', tk, rfl, kk, ht⟩) ?_ (fun _ _ e => e)
    rintro r s₁ ⟨rfl, h', tk, rfl, kk, ht⟩
    obtain ⟨S2, f2⟩ := S.turned (wr := wr) fc Sc hw' kk ht
    exact wpAny_execs_nil ⟨{ c' with s := { c'.s with heap := h', toks := tk } }, rfl, f2, S2, rfl⟩
end
end GB
/-! What can be gone through: lists, tuples, texts, dicts, range, zip, enumerate. -/
namespace GB
open PySem PySem.Spec PyProof.Rows
open L2 (Key keyH keyIs mixKind Mod Look Vis Loc frs thn)
section
variable {X : Cx} {c c0 c1 c2 c3 : Cf} {a b e o tg : Expr} {es rest : List Expr} {da db dc : DE} {pos p2 pos' cpos apos : Pos}
theorem itr_text {prog : Program} {w : World} {F : FH} {T0 : Nat} (h0 : 0 < T0) (I : Addr) (x : List Nat) (t : Tok) : Itr prog w tg T0 I [I] [I] x.length (fun k v s => ∃ d, (x.map fun ch => D.str [ch])[k]? = some d ∧ Yld w F false d v s) (fun i h => h.IsStrIter I (strIterType (tx x)) (tx x) t i) where
  sub := fun b hb => hb
  frame := fun i h h' st k => by
    obtain ⟨o, e, r⟩ := st
    exact ⟨o, k I (by simp) o e, r⟩
  obj := fun i h st b hb => by
    have : b = I := by simpa using hb
    subst this
    obtain ⟨o, e, _⟩ := st
    exact ⟨o, e⟩
  goes := fun A i s Q E hh hi tp st hQ => by
    have hx : (tx x).cps[i]? = some x[i] := by simp [tx, hi]
    refine next_sign st hx fun h' st' sb => ?_
    refine ⟨_, rfl, ?_⟩
    obtain ⟨o, ho, hc, hd⟩ := id st'
    have hno : ["enumerate", "zip", "dict_itemiterator", "dict_reverseitemiterator", "odict_iterator", "itertools.zip_longest", "itertools.pairwise"].contains (strIterType (tx x)) = false := by
      unfold strIterType
      split <;> decide
    refine letGo_of_cls (s := { s with heap := h', toks := s.toks + 1 }) ho hc hd hno (hQ _ h' (s.toks + 1) ⟨.str [x[i]], by simp [hi], ?_⟩ st' (fun b o hb e => (sb.2 b (fun z => hb (by simp [z]))).trans e) (Nat.le_succ _))
    exact .str [x[i]] s.toks (Nat.pos_iff_ne_zero.mp (Nat.lt_of_lt_of_le h0 tp)) (Nat.lt_succ_self _) (by show 1 ≤ sizeLine; decide)
  stops := fun A s Q E hh st hQ => by
    refine next_end hh st (by simp [tx]) fun h' sb => ⟨rfl, hQ h' s.toks (fun b o hb e => sb b o (fun z => hb (by simp [z])) e) (Nat.le_refl _)⟩
  self := fun A i s Q E hh st q => by
    cases ha : (tx x).cps.all (· < 128)
    · have e : strIterType (tx x) = "str_iterator" := by simp [strIterType, ha]
      rw [e] at st
      exact wpAny_pyIter_striter_wide st q
    · have e : strIterType (tx x) = "str_ascii_iterator" := by simp [strIterType, ha]
      rw [e] at st
      exact wpAny_pyIter_striter_ascii st q
def itemsOf : D → Option (List D)
  | .lst ds => some ds
  | .tup ds => some ds
  | .str s => some (s.map fun ch => .str [ch])
  | .dic kvs => some (kvs.map (·.1))
  | _ => none
/-- the iterator is the newest object -/
theorem walk_one {I : Addr} (tk1 : 0 < c.s.toks) {ds : List D} {ob : Obj} {fp : List Addr} {St : Nat → Heap → Prop} (S0 : SR X c0) (f : Fr X c0 c) (S : SR X c) (hI : I = c.s.heap.objs.size) (G : Itr X.prog X.w tg c.s.toks I fp [I] ds.length (fun k v s' => ∃ d, ds[k]? = some d ∧ Yld X.w c.F false d v s') St) (st : St 0 (c.s.heap.push ob))
    (hf : ∀ b ∈ fp, b ≠ I → ∃ o, c.F b = some o) :
    ∃ c', c'.s = { c.s with heap := c.s.heap.push ob } ∧ c'.ρ = c.ρ ∧ Fr X c0 c' ∧ SR X c' ∧ Walk X c0 c' false tg I ds := by
  obtain ⟨S1, f1⟩ := S.kept (s' := { c.s with heap := c.s.heap.push ob }) (fun b o e => Heap.get?_push_of_some _ e) (Nat.le_refl _)
  have nI : c.s.heap.get? I = none := by rw [hI]; exact S.new
  have fI : c.F I = none := by
    cases q : c.F I with
    | none => rfl
    | some o => have := S.sub I o q; rw [nI] at this; cases this
  have nm : ¬ Mine X I := fun z => by
    obtain ⟨o, q⟩ := S.olds I (.inr z)
    rw [nI] at q; cases q
  refine ⟨{ c with s := { c.s with heap := c.s.heap.push ob } }, rfl, rfl, f.trans f1, S1, ⟨tk1, fp, [I], St, G, st, fun b hb => ?_, fun b hb => ?_, fun b hb => ?_⟩⟩
  · have : b = I := by simpa using hb
    subst this
    exact ⟨f.toFrB.back nI, fI⟩
  · by_cases z : b = I
    · subst z; exact ⟨S.nown nI, nm⟩
    · obtain ⟨o, e⟩ := hf b hb z
      exact ⟨S.nownF e, fun w => by rw [S.mine b w] at e; cases e⟩
  · by_cases z : b = I
    · subst z; exact .inl (f.toFrB.back nI)
    · exact .inr (hf b hb z)
theorem frozen_off (S : SR X c) {b : Addr} {o : Obj} (h : c.F b = some o) : ¬ Owns c b ∧ ¬ Mine X b := by
  refine ⟨fun z => ?_, fun z => ?_⟩
  · obtain ⟨⟨d, oa⟩, _⟩ := S.owned z
    rw [oa.nf] at h; cases h
  · rw [S.mine b z] at h; cases h
theorem walk_of (htz : 0 < X.tz) (S0 : SR X c0) (f : Fr X c0 c) (S : SR X c) {v : Value} {d : D} {ds : List D} (r : WRep X.w c.F c.s.toks v d) (h : itemsOf d = some ds) {E : Value → Shared → Prop} {Q : Value → Shared → Prop}
    (hq : ∀ c' I, c'.ρ = c.ρ → Fr X c0 c' → SR X c' → Walk X c0 c' false tg I ds → Q (.ref I) c'.s) : wpAny (model X.prog X.w) X.A (pyIter v) Q E c.s := by
  cases d with
  | lst xs =>
    cases h
    obtain ⟨a, vs, n, rfl, q, z, l, _⟩ := r.lst_inv
    have il : c.s.heap.IsList a vs := ⟨_, S.sub _ _ q, rfl, n, rfl⟩
    have ne : a ≠ c.s.heap.objs.size := Nat.ne_of_lt (Heap.lt_size (S.sub _ _ q))
    have G : Itr X.prog X.w tg c.s.toks c.s.heap.objs.size [c.s.heap.objs.size, a] [c.s.heap.objs.size] ds.length (fun k v s' => ∃ d, ds[k]? = some d ∧ Yld X.w c.F false d v s') (fun i h => h.IsListIter c.s.heap.objs.size a i ∧ h.IsList a vs) := by
      have e : ds.length = vs.size := by rw [← l.length]; simp
      rw [e]
      refine Itr.of S.ok.hd (fun A hh => Goes.list hh _ a ne vs) (fun i h st b hb => ?_) (fun i v s hi ht y => ?_)
      · have : b = c.s.heap.objs.size ∨ b = a := by simpa using hb
        rcases this with e | e
        · subst e; obtain ⟨o, e, _⟩ := st.1; exact ⟨o, e⟩
        · subst e; obtain ⟨o, e, _⟩ := st.2; exact ⟨o, e⟩
      · obtain ⟨d, e1, e2⟩ := l.get' (i := i) (v := v) (by simpa using y)
        exact ⟨d, e1, e2.mono (Sub.refl _) ht⟩
    refine wpAny_pyIter_list il ?_
    obtain ⟨c', e1, e2, f', S', W⟩ := walk_one (S.tkp htz) (ob := { cls := .type "list_iterator", data := .fields #[.ref a, .int 0 0] }) S0 f S rfl G ⟨⟨_, Heap.get?_push_size _ rfl, rfl, rfl⟩, il.push _⟩ (fun b hb z => by
        have : b = c.s.heap.objs.size ∨ b = a := by simpa using hb
        rcases this with e | e
        · exact absurd e z
        · subst e; exact ⟨_, q⟩)
    rw [← e1]
    exact hq c' _ e2 f' S' W
  | tup xs =>
    cases h
    obtain ⟨a, o, vs, n, rfl, q, h1, h2, z, l, _⟩ := r.tup_inv
    have il : c.s.heap.IsTuple a vs := ⟨_, S.sub _ _ q, h1, n, h2⟩
    have ne : a ≠ c.s.heap.objs.size := Nat.ne_of_lt (Heap.lt_size (S.sub _ _ q))
    have G : Itr X.prog X.w tg c.s.toks c.s.heap.objs.size [c.s.heap.objs.size, a] [c.s.heap.objs.size] ds.length (fun k v s' => ∃ d, ds[k]? = some d ∧ Yld X.w c.F false d v s') (fun i h => h.IsTupleIter c.s.heap.objs.size a i ∧ h.IsTuple a vs) := by
      have e : ds.length = vs.size := by rw [← l.length]; simp
      rw [e]
      refine Itr.of S.ok.hd (fun A hh => Goes.tuple hh _ a ne vs) (fun i h st b hb => ?_) (fun i v s hi ht y => ?_)
      · have : b = c.s.heap.objs.size ∨ b = a := by simpa using hb
        rcases this with e | e
        · subst e; obtain ⟨o, e, _⟩ := st.1; exact ⟨o, e⟩
        · subst e; obtain ⟨o, e, _⟩ := st.2; exact ⟨o, e⟩
      · obtain ⟨d, e1, e2⟩ := l.get' (i := i) (v := v) (by simpa using y)
        exact ⟨d, e1, e2.mono (Sub.refl _) ht⟩
    refine wpAny_pyIter_tuple il ?_
    obtain ⟨c', e1, e2, f', S', W⟩ := walk_one (S.tkp htz) (ob := { cls := .type "tuple_iterator", data := .fields #[.ref a, .int 0 0] }) S0 f S rfl G ⟨⟨_, Heap.get?_push_size _ rfl, rfl, rfl⟩, il.push _⟩ (fun b hb z => by
        have : b = c.s.heap.objs.size ∨ b = a := by simpa using hb
        rcases this with e | e
        · exact absurd e z
        · subst e; exact ⟨_, q⟩)
    rw [← e1]
    exact hq c' _ e2 f' S' W
  | str x =>
    cases h
    obtain ⟨t, rfl, _⟩ := r.str_inv
    refine wpAny_pyIter_strU ?_
    have G : Itr X.prog X.w tg c.s.toks c.s.heap.objs.size [c.s.heap.objs.size] [c.s.heap.objs.size] (x.map fun ch => D.str [ch]).length (fun k v s' => ∃ d, (x.map fun ch => D.str [ch])[k]? = some d ∧ Yld X.w c.F false d v s') (fun i h => h.IsStrIter c.s.heap.objs.size (strIterType (tx x)) (tx x) t i) := by
      rw [List.length_map]
      exact itr_text (S.tkp htz) c.s.heap.objs.size x t
    obtain ⟨c', e1, e2, f', S', W⟩ := walk_one (S.tkp htz) (ob := { cls := .type (strIterType (tx x)), data := .fields #[.str (tx x) t, .int 0 0] }) S0 f S rfl G ⟨_, Heap.get?_push_size _ rfl, rfl, rfl⟩ (fun b hb z => absurd (by simpa using hb) z)
    rw [← e1]
    exact hq c' _ e2 f' S' W
  | dic kvs =>
    cases h
    obtain ⟨a, o, es, ep, ks, rfl, ns, q, hx, h2, z, rk, nd, e⟩ : ∃ a o es ep ks, v = .ref a ∧ (a == sysModules) = false ∧ c.F a = some o ∧ o.ExactDict ∧ o.data = .dict es ep ∧ es.size ≤ sizeLine ∧ RepK X.w c.F c.s.toks es.toList ks ∧ (ks.map (·.1)).Nodup ∧ kvs = ks.map (fun p => (keyD p.1, p.2)) := by
      rcases r with r | ⟨_, _, _, e, _⟩
      · cases r with
        | @ref a o _ q ns ob =>
          cases ob with
          | @dic _ es ep ks _ hx hd z rk nd e => exact ⟨a, o, es, ep, ks, rfl, ns, q, hx, hd, z, rk, nd, e⟩
      · cases e
    have hm : c.s.heap.DictRaw a es ep := ⟨_, S.sub _ _ q, hx, h2⟩
    have ne : a ≠ c.s.heap.objs.size := Nat.ne_of_lt (Heap.lt_size (S.sub _ _ q))
    have el : (kvs.map (·.1)).length = es.size := by rw [e, List.length_map, List.length_map, ← rk.length]; simp
    have G : Itr X.prog X.w tg c.s.toks c.s.heap.objs.size [c.s.heap.objs.size, a] [c.s.heap.objs.size] (kvs.map (·.1)).length (fun k v s' => ∃ d, (kvs.map (·.1))[k]? = some d ∧ Yld X.w c.F false d v s') (fun i h => h.IsKeyIter c.s.heap.objs.size a i es.size ep ∧ h.DictRaw a es ep) := by
      rw [el]
      refine Itr.of S.ok.hd (fun A hh => Goes.rawKeys hh _ a ne es ep) (fun i h st b hb => ?_) (fun i v s hi ht y => ?_)
      · have : b = c.s.heap.objs.size ∨ b = a := by simpa using hb
        rcases this with e | e
        · subst e; obtain ⟨o, e, _⟩ := st.1; exact ⟨o, e⟩
        · subst e; obtain ⟨o, e, _⟩ := st.2; exact ⟨o, e⟩
      · obtain ⟨hi', rfl⟩ := y
        obtain ⟨d, e1, e2⟩ := rk.keys.get' (i := i) (v := es[i].key) (by simp [hi'])
        refine ⟨d, ?_, e2.mono (Sub.refl _) ht⟩
        rw [e]
        simpa using e1
    refine L2.iter_keys ns (S.sub _ _ q) hx h2 ?_
    obtain ⟨c', e1, e2, f', S', W⟩ := walk_one (S.tkp htz) (ob := { cls := .type "dict_keyiterator", data := .fields #[.ref a, .int 0 0, .int es.size 0, .int ep 0] }) S0 f S rfl G ⟨⟨_, Heap.get?_push_size _ rfl, rfl, rfl⟩, hm.at fun o e => Heap.get?_push_of_some _ e⟩ (fun b hb z => by
        have : b = c.s.heap.objs.size ∨ b = a := by simpa using hb
        rcases this with e | e
        · exact absurd e z
        · subst e; exact ⟨_, q⟩)
    rw [← e1]
    exact hq c' _ e2 f' S' W
  | _ => cases h
def dItems (d : DE) : DA := fun ρ => obind (d ρ) fun r ρ1 => (itemsOf r.d).map fun ds => .ok ds ρ1
theorem pi_of (he : PD X e da) (htz : 0 < X.tz := by exact Nat.zero_lt_one) : PI X false tg e (dItems da) := by
  refine ⟨fun c o S hd kx => ?_⟩
  refine he.go S hd kx fun r c1 v f1 S1 ro hk => ?_
  obtain ⟨F', f', S', w', _, _⟩ := ro.froze f1 S1
  obtain ⟨ds, h, e⟩ := Option.map_eq_some_iff.mp hk
  cases e
  exact walk_of htz S f' S' w' h fun c' I e1 f2 S2 W => ⟨ds, c', I, rfl, rfl, by rw [e1], f2, S2, W⟩
end
end GB
/-! range, enumerate, zip. -/
namespace GB
open PySem PySem.Spec PyProof.Rows
open L2 (Key keyH keyIs mixKind Mod Look Vis Loc frs thn)
section
variable {X : Cx} {c c0 c1 c2 c3 : Cf} {a b e o tg : Expr} {es rest : List Expr} {da db dc : DE} {pos p2 pos' cpos apos : Pos}
/-- lo, lo + st, .. -/
def rngL (lo st : Int) (n : Nat) : List D := (List.range n).map fun k => .int (lo + (k : Nat) * st)
theorem rngL_length (lo st : Int) (n : Nat) : (rngL lo st n).length = n := by simp [rngL]
def rngD : List D → Option (List D)
  | [.int j] => if j.natAbs < 2 ^ 62 then some (rngL 0 1 j.toNat) else none
  | [.int i, .int j] => if i.natAbs < 2 ^ 62 ∧ j.natAbs < 2 ^ 62 then some (rngL i 1 (j - i).toNat) else none
  | [.int i, .int j, .int k] => if k ≠ 0 ∧ k.natAbs < 1073741824 ∧ Builtin.Range.small i j k = true ∧ 0 ≤ Builtin.Range.rangeSize i j k then some (rngL i k (Builtin.Range.rangeSize i j k).toNat) else none
  | _ => none
def dRng (a : DA) : DA := fun ρ => obind (a ρ) fun ds ρ1 => (rngD ds).map fun xs => .ok xs ρ1
theorem walk_range (S0 : SR X c0) (f : Fr X c0 c) (S : SR X c) {lo hi st : Int} {t u v : Tok} {n tk : Nat} (tk1 : 0 < tk) (hs : Builtin.Range.small lo hi st = true) (hn : Builtin.Range.rangeSize lo hi st = n) (ht : c.s.toks ≤ tk) {E : Value → Shared → Prop} {Q : Value → Shared → Prop}
    (hq : ∀ c' I, c'.ρ = c.ρ → Fr X c0 c' → SR X c' → Walk X c0 c' false tg I (rngL lo st n) → Q (.ref I) c'.s) :
    wpAny (model X.prog X.w) X.A (pyIter (.ref c.s.heap.objs.size)) Q E { c.s with heap := c.s.heap.push { cls := .type "range", data := .fields #[.int lo t, .int hi u, .int st v] }, toks := tk } := by
  refine wpAny_pyIter_range (IsRange.new ..) hs ?_
  obtain ⟨S1, f1⟩ := S.kept (s' := { c.s with heap := c.s.heap.push { cls := .type "range", data := .fields #[.int lo t, .int hi u, .int st v] }, toks := tk }) (fun b o e => Heap.get?_push_of_some _ e) ht
  let c1 : Cf := { c with s := { c.s with heap := c.s.heap.push { cls := .type "range", data := .fields #[.int lo t, .int hi u, .int st v] }, toks := tk } }
  have G : Itr X.prog X.w tg c1.s.toks c1.s.heap.objs.size [c1.s.heap.objs.size] [c1.s.heap.objs.size] (rngL lo st n).length (fun k v s' => ∃ d, (rngL lo st n)[k]? = some d ∧ Yld X.w c1.F false d v s') (fun i h => IsRangeIter h c1.s.heap.objs.size (lo + (i : Nat) * st) ((n : Int) - (i : Nat)) st) := by
    rw [rngL_length]
    refine Itr.of S.ok.hd (fun A hh => Goes.range hh _ lo st n) (fun i h st b hb => ?_) (fun i v s hi ht y => ?_)
    · have : b = c1.s.heap.objs.size := by simpa using hb
      subst this
      exact ⟨_, st⟩
    · obtain ⟨t, rfl⟩ := y
      exact ⟨.int (lo + (i : Nat) * st), by simp [rngL, hi], .int _ t⟩
  obtain ⟨c', e1, e2, f', S', W⟩ := walk_one (c := c1) tk1 (ob := { cls := .type "range_iterator", data := .fields #[.int lo 0, .int (Builtin.Range.rangeSize lo hi st) 0, .int st 0] }) S0 (f.trans f1) S1 rfl G (by
    have e1 : lo + ((0 : Nat) : Int) * st = lo := by simp
    have e2 : (n : Int) - ((0 : Nat) : Int) = Builtin.Range.rangeSize lo hi st := by rw [hn]; simp
    show IsRangeIter _ _ (lo + ((0 : Nat) : Int) * st) ((n : Int) - ((0 : Nat) : Int)) st
    rw [e1, e2]
    exact Heap.get?_push_size _ rfl) (fun b hb z => absurd (by simpa using hb) z)
  have q := hq c' _ e2 f' S' W
  rw [e1] at q
  exact q
theorem pi_range {d : DA} {p : Pos} (hm : X.mg "range" = none) (ha : PA X (e :: es) d) (hg : Gl X "range" := by rfl)
    (he : starEach (e :: es) X.env = (false, eval e X.env) :: starEach es X.env := by rfl) (hpl : (backTo pos (starEach es X.env)).any (·.1) = false := by rfl)  (htz : 0 < X.tz := by exact Nat.zero_lt_one) : PI X false tg (.Call (.Name "range" p) (e :: es) [] pos) (dRng d) := by
  refine ⟨fun c o S hd kx => ?_⟩
  refine wpAny_Call_Name_kw (S.bltn hg hm boot_range (PyProof.Rows.callWith_type1 (ha.go S hd kx fun ds c1 vs f1 S1 r hk => ?_) he hpl))
  obtain ⟨xs, hx, e1⟩ := Option.map_eq_some_iff.mp hk
  cases e1
  have fin : ∀ c' I, c'.ρ = c1.ρ → Fr X c c' → SR X c' → Walk X c c' false tg I xs → ∃ ds c'' I', Value.ref I = .ref I' ∧ c''.s = c'.s ∧ (O.ok xs c1.ρ : O (List D)) = .ok ds c''.ρ ∧ Fr X c c'' ∧ SR X c'' ∧ Walk X c c'' false tg I' ds := fun c' I e2 f2 S2 W => ⟨xs, c', I, rfl, rfl, by rw [e2], f2, S2, W⟩
  unfold rngD at hx
  split at hx
  · rename_i j
    by_cases z : j.natAbs < 2 ^ 62
    · rw [if_pos z] at hx; cases hx
      obtain ⟨w, rfl, rw1⟩ := r.one
      obtain ⟨t, rfl⟩ := rw1.w.int_inv
      exact call_range_1 (walk_range (n := j.toNat) (tk := c1.s.toks + 1 + 1) S f1 S1 (Nat.succ_pos _) (small_one (by omega) (by omega) (by omega) (by omega)) (by rw [rangeSize_one]; split <;> omega) (by omega) fin)
    · rw [if_neg z] at hx; cases hx
  · rename_i i j
    by_cases z : i.natAbs < 2 ^ 62 ∧ j.natAbs < 2 ^ 62
    · rw [if_pos z] at hx; cases hx
      cases r with
      | cons r1 rr =>
        obtain ⟨w, rfl, rw1⟩ := rr.one
        obtain ⟨t, rfl⟩ := r1.w.int_inv
        obtain ⟨t', rfl⟩ := rw1.w.int_inv
        exact call_range_2 (walk_range (n := (j - i).toNat) (tk := c1.s.toks + 1) S f1 S1 (Nat.succ_pos _) (small_one (by omega) (by omega) (by omega) (by omega)) (by rw [rangeSize_one]; split <;> omega) (by omega) fin)
    · rw [if_neg z] at hx; cases hx
  · rename_i i j k
    by_cases z : k ≠ 0 ∧ k.natAbs < 1073741824 ∧ Builtin.Range.small i j k = true ∧ 0 ≤ Builtin.Range.rangeSize i j k
    · rw [if_pos z] at hx; cases hx
      cases r with
      | cons r1 rr =>
        cases rr with
        | cons r2 rr =>
          obtain ⟨w, rfl, rw1⟩ := rr.one
          obtain ⟨t, rfl⟩ := r1.w.int_inv
          obtain ⟨t', rfl⟩ := r2.w.int_inv
          obtain ⟨t'', rfl⟩ := rw1.w.int_inv
          exact call_range_3 z.1 (walk_range (n := (Builtin.Range.rangeSize i j k).toNat) (tk := c1.s.toks) S f1 S1 (S1.tkp htz) z.2.2.1 (by omega) (by omega) fin) (.inl (PyProof.noPylong_small z.2.1))
    · rw [if_neg z] at hx; cases hx
  · cases hx
/-- range of one argument, where no token may have been given out yet -/
def rng1 : List D → Option (List D)
  | [.int j] => if j.natAbs < 2 ^ 62 then some (rngL 0 1 j.toNat) else none
  | _ => none
def dRng1 (a : DA) : DA := fun ρ => obind (a ρ) fun ds ρ1 => (rng1 ds).map fun xs => .ok xs ρ1
theorem pi_range1 {d : DA} {p : Pos} (hm : X.mg "range" = none) (ha : PA X (e :: es) d) (hg : Gl X "range" := by rfl)
    (he : starEach (e :: es) X.env = (false, eval e X.env) :: starEach es X.env := by rfl) (hpl : (backTo pos (starEach es X.env)).any (·.1) = false := by rfl) : PI X false tg (.Call (.Name "range" p) (e :: es) [] pos) (dRng1 d) := by
  refine ⟨fun c o S hd kx => ?_⟩
  refine wpAny_Call_Name_kw (S.bltn hg hm boot_range (PyProof.Rows.callWith_type1 (ha.go S hd kx fun ds c1 vs f1 S1 r hk => ?_) he hpl))
  obtain ⟨xs, hx, e1⟩ := Option.map_eq_some_iff.mp hk
  cases e1
  have fin : ∀ c' I, c'.ρ = c1.ρ → Fr X c c' → SR X c' → Walk X c c' false tg I xs → ∃ ds c'' I', Value.ref I = .ref I' ∧ c''.s = c'.s ∧ (O.ok xs c1.ρ : O (List D)) = .ok ds c''.ρ ∧ Fr X c c'' ∧ SR X c'' ∧ Walk X c c'' false tg I' ds := fun c' I e2 f2 S2 W => ⟨xs, c', I, rfl, rfl, by rw [e2], f2, S2, W⟩
  unfold rng1 at hx
  split at hx
  · rename_i j
    by_cases z : j.natAbs < 2 ^ 62
    · rw [if_pos z] at hx; cases hx
      obtain ⟨w, rfl, rw1⟩ := r.one
      obtain ⟨t, rfl⟩ := rw1.w.int_inv
      exact call_range_1 (walk_range (n := j.toNat) (tk := c1.s.toks + 1 + 1) S f1 S1 (Nat.succ_pos _) (small_one (by omega) (by omega) (by omega) (by omega)) (by rw [rangeSize_one]; split <;> omega) (by omega) fin)
    · rw [if_neg z] at hx; cases hx
  · cases hx
end
end GB
/-! A comprehension's block: its context, its start, its end. -/
namespace GB
open PySem PySem.Spec PyProof.Rows
open L2 (Key keyH keyIs mixKind Mod Look Vis Loc frs thn cloFrom cloFrom_mem cloFrom_has relS lookup_relS cells_mem cells_acc cells_has cells_inj mem_lookup closure_ok newEnv_comp pushCells_size)
section
variable {X : Cx} {c c0 c1 c2 c3 : Cf}
/-- the seen slots, all others empty -/
def hide (vs : List Nat) : Nat → Rho → Rho
  | _, [] => []
  | i, s :: r => (if vs.contains i then s else .un) :: hide vs (i + 1) r
/-- behind the block: the seen slots as the block left them -/
def unhide (vs : List Nat) : Nat → Rho → Rho → Rho
  | _, [], _ => []
  | _, s :: r, [] => s :: r
  | i, s :: r, t :: q => (if vs.contains i then t else s) :: unhide vs (i + 1) r q
theorem hide_get (vs : List Nat) : ∀ (ρ : Rho) (k i : Nat), (hide vs k ρ)[i]? = (ρ[i]?).map fun s => if vs.contains (k + i) then s else .un
  | [], _, _ => by simp [hide]
  | s :: r, k, 0 => by simp [hide]
  | s :: r, k, i + 1 => by
    have := hide_get vs r (k + 1) i
    rw [hide, List.getElem?_cons_succ, List.getElem?_cons_succ, this]
    have e : k + 1 + i = k + (i + 1) := by omega
    rw [e]
theorem hide_length (vs : List Nat) : ∀ (ρ : Rho) (k : Nat), (hide vs k ρ).length = ρ.length
  | [], _ => rfl
  | s :: r, k => by simp [hide, hide_length vs r (k + 1)]
theorem unhide_get (vs : List Nat) : ∀ (ρ σ : Rho) (k i : Nat), ρ.length = σ.length → (unhide vs k ρ σ)[i]? = if vs.contains (k + i) then σ[i]? else ρ[i]?
  | [], [], _, _, _ => by simp [unhide]
  | s :: r, t :: q, k, 0, _ => by
    simp only [unhide, Nat.add_zero, List.getElem?_cons_zero]
    split <;> rfl
  | s :: r, t :: q, k, i + 1, h => by
    have := unhide_get vs r q (k + 1) i (by simpa using h)
    rw [unhide, List.getElem?_cons_succ, List.getElem?_cons_succ, List.getElem?_cons_succ, this]
    have e : k + 1 + i = k + (i + 1) := by omega
    rw [e]
  | [], _ :: _, _, _, h => by simp at h
  | _ :: _, [], _, _, h => by simp at h
theorem unhide_length (vs : List Nat) : ∀ (ρ σ : Rho) (k : Nat), ρ.length = σ.length → (unhide vs k ρ σ).length = ρ.length
  | [], _, _, _ => by simp [unhide]
  | s :: r, t :: q, k, h => by simp [unhide, unhide_length vs r q (k + 1) (by simpa using h)]
  | _ :: _, [], _, h => by simp at h
/-- later, but for what lies at wr -/
structure FrX (X : Cx) (wr : List Addr) (c c' : Cf) : Prop where
  fm : Sub c.F c'.F
  tk : c.s.toks ≤ c'.s.toks
  hm : ∀ b o, b ∉ wr → c.s.heap.get? b = some o → ∃ o', c'.s.heap.get? b = some o'
  st : ∀ b o, b ∉ wr → c.s.heap.get? b = some o → ¬ Owns c b → ¬ Mine X b → c'.s.heap.get? b = some o ∧ ¬ Owns c' b ∧ (c.F b = none → c'.F b = none)
  fr : ∀ b o, b ∈ frs X.stack → b ≠ X.env.locals → c.s.heap.get? b = some o → ∃ sl, c'.s.heap.get? b = some { o with slots := sl }
  pr : ∀ (i : Nat) (d' : D), c'.ρ[i]? = some (.par d') → (∃ d, c.ρ[i]? = some (.par d)) ∧ c'.α i = c.α i
  ka : ∀ i, X.asg i = false → c'.α i = c.α i ∧ (isOwn c'.ρ i → isOwn c.ρ i)
theorem FrB.x {wr : List Addr} (f : FrB X c c1) : FrX X wr c c1 := ⟨f.fm, f.tk, fun b o _ => f.hm b o, fun b o _ => f.st b o, f.fr, f.pr, f.ka⟩
theorem FrX.trans {wr : List Addr} (a : FrX X wr c c1) (b : FrX X wr c1 c2) : FrX X wr c c2 := by
  refine ⟨a.fm.trans b.fm, Nat.le_trans a.tk b.tk, fun x o w h => ?_, fun x o w h n q => ?_, fun x o z l h => ?_, fun i d h => ?_, fun i h => ⟨(b.ka i h).1.trans (a.ka i h).1, fun z => (a.ka i h).2 ((b.ka i h).2 z)⟩⟩
  · obtain ⟨o1, h1⟩ := a.hm x o w h
    exact b.hm x o1 w h1
  · obtain ⟨h1, n1, f1⟩ := a.st x o w h n q
    obtain ⟨h2, n2, f2⟩ := b.st x o w h1 n1 q
    exact ⟨h2, n2, fun z => f2 (f1 z)⟩
  · obtain ⟨sl, h1⟩ := a.fr x o z l h
    obtain ⟨sl', h2⟩ := b.fr x _ z l h1
    exact ⟨sl', h2⟩
  · obtain ⟨⟨d1, q1⟩, e1⟩ := b.pr i d h
    obtain ⟨q2, e2⟩ := a.pr i d1 q1
    exact ⟨q2, e1.trans e2⟩
/-- an expression within which things new since its begin were touched -/
theorem FrX.close {wr : List Addr} (a : FrB X c0 c1) (b : FrX X wr c1 c2) (h : ∀ x ∈ wr, c0.s.heap.get? x = none) : FrB X c0 c2 := by
  refine ⟨a.fm.trans b.fm, Nat.le_trans a.tk b.tk, fun x o q => ?_, fun x o q n m => ?_, fun x o z l h => ?_, fun i d h => ?_, fun i h => ⟨(b.ka i h).1.trans (a.ka i h).1, fun z => (a.ka i h).2 ((b.ka i h).2 z)⟩⟩
  · obtain ⟨o1, h1⟩ := a.hm x o q
    exact b.hm x o1 (fun z => by rw [h x z] at q; cases q) h1
  · obtain ⟨h1, n1, f1⟩ := a.st x o q n m
    obtain ⟨h2, n2, f2⟩ := b.st x o (fun z => by rw [h x z] at q; cases q) h1 n1 m
    exact ⟨h2, n2, fun z => f2 (f1 z)⟩
  · obtain ⟨sl, h1⟩ := a.fr x o z l h
    obtain ⟨sl', h2⟩ := b.fr x _ z l h1
    exact ⟨sl', h2⟩
  · obtain ⟨⟨d1, q1⟩, e1⟩ := b.pr i d h
    obtain ⟨q2, e2⟩ := a.pr i d1 q1
    exact ⟨q2, e1.trans e2⟩
/-- what nobody holds is written -/
structure Off (X : Cx) (c : Cf) (b : Addr) : Prop where
  nb : X.base.get? b = none
  nm : ¬ Mine X b
  nl : ¬ X.old b
  nc : ∀ x, X.env.cells.lookup x ≠ some b
  nf : c.F b = none
  no : ¬ Owns c b
theorem SR.touch {wr : List Addr} (S : SR X c) (hw : ∀ b ∈ wr, Off X c b) {s' : Shared} (k : ∀ b o, b ∉ wr → c.s.heap.get? b = some o → s'.heap.get? b = some o) (ht : c.s.toks ≤ s'.toks) (hos : s'.os = c.s.os := by rfl) (hgs : s'.gens = c.s.gens := by rfl) :
    SR X { c with s := s' } ∧ FrX X wr c { c with s := s' } := by
  have mine : ∀ b o, Mine X b → c.s.heap.get? b = some o → s'.heap.get? b = some o := fun b o z e => k b o (fun w => (hw b w).nm z) e
  have cel : ∀ y a, X.env.cells.lookup y = some a → ∀ v, c.s.heap.IsCell a v → s'.heap.IsCell a v := fun y a hy v ⟨o, q, dd⟩ => ⟨o, k a o (fun w => (hw a w).nc y hy) q, dd⟩
  refine ⟨⟨S.ok, hos.trans S.os, by rw [hgs]; exact S.bare, fun b o e => ?_, ?_, ?_, fun x a hx => ?_, fun b o e => k b o (fun z => by rw [(hw b z).nf] at e; cases e) (S.sub b o e), S.mine, S.inj, fun b z => ?_, Nat.le_trans S.tk ht, S.len, S.cfree⟩,
    ⟨Sub.refl _, ht, fun b o w e => ⟨o, k b o w e⟩, fun b o w e n nm => ⟨k b o w e, n, id⟩, fun b o z l e => ⟨o.slots, mine b o (.inr (.inr z)) e⟩, fun i d h => ⟨⟨d, h⟩, rfl⟩, fun i _ => ⟨rfl, id⟩⟩⟩
  · exact k b o (fun w => by rw [(hw b w).nb] at e; cases e) (S.bk b o e)
  · exact funs_of X.stack (fun b hb o q => mine b o (.inr (.inr hb)) q) S.frm
  · obtain ⟨m, hm, slk⟩ := S.loc
    refine ⟨m, ?_, fun j x sl h1 h2 => ?_⟩
    · obtain ⟨o, es, ep, q, dd, rr⟩ := hm
      exact ⟨o, es, ep, mine _ _ (.inl rfl) q, dd, rr⟩
    · refine (slk j x sl h1 h2).keep (Sub.refl _) ht cel fun ⟨y, hy⟩ => ?_
      have jo : isOwn c.ρ j := ⟨y, by rcases hy with rfl | rfl; exact .inl h2; exact .inr h2⟩
      obtain ⟨⟨y', oy⟩, _⟩ := S.owned ⟨j, jo, rfl⟩
      exact ⟨oy.nf, fun o q => k _ o (fun w => (hw _ w).no ⟨j, jo, rfl⟩) q⟩
  · obtain ⟨v, z⟩ := S.cell x a hx
    exact ⟨v, cel x a hx v z⟩
  · obtain ⟨o, e⟩ := S.olds b z
    exact ⟨o, k b o (fun w => z.elim (hw b w).nl (hw b w).nm) e⟩
/-- the names of a comprehension's block: captured (at vs), or its own (stored at own) -/
structure Blk (N : List Str) (sc scope : Scope) (vs own : List Nat) : Prop where
  kind : scope.kind = .function
  uniq : ∀ y ∈ scope.names, scope.names.lookup y.1 = some y.2
  free : ∀ y ∈ scope.names, y.2 = .free → sc.names.lookup y.1 = some .cell ∨ sc.names.lookup y.1 = some .free
  see : ∀ (i : Nat) (x : Str), N[i]? = some x → (scope.names.lookup x = some .free ↔ vs.contains i = true)
  off : ∀ i, vs.contains i = true → own.contains i = false
abbrev Cx.blk (X : Cx) (own : List Nat) (cenv : Env) : Cx := { X with asg := fun i => own.contains i, tz := 1, env := cenv, outer := X.stack, myc := fun a => ∃ x, cenv.kindOf x = some .cell ∧ cenv.cells.lookup x = some a, xe := fun _ _ => False }
/-- the block's environment, begun at the heap h -/
def blkEnv (X : Cx) (scope : Scope) (h : Heap) : Env := compEnvC scope (cellsFrom (h.objs.size + 1) scope.names (cloFrom X.env.cells scope.names [])) h.objs.size X.env
def blkHeap (scope : Scope) (h : Heap) : Heap := pushCells (h.push { cls := .type "dict", data := .dict #[] }) scope.names
section
variable {scope : Scope} {vs own : List Nat}
/-- how the block's cells lie to the def's -/
structure BlkCells (X : Cx) (scope : Scope) (h : Heap) : Prop where
  mem : ∀ y a, (blkEnv X scope h).cells.lookup y = some a → (X.env.cells.lookup y = some a ∧ a < h.objs.size ∧ scope.names.lookup y = some .free) ∨ (h.objs.size < a ∧ (blkHeap scope h).IsCell a none ∧ scope.names.lookup y = some .cell)
  look : ∀ y, scope.names.lookup y = some .free → ∃ a, (blkEnv X scope h).cells.lookup y = some a ∧ X.env.cells.lookup y = some a
  kind : ∀ y, (blkEnv X scope h).kindOf y = some .cell → scope.names.lookup y = some .cell ∨ (scope.names.lookup y = some .free ∧ X.env.kindOf y = some .cell)
  vis : ∀ y, scope.names.lookup y = some .free → (blkEnv X scope h).kindOf y = some .cell ∨ (blkEnv X scope h).kindOf y = some .free
theorem lookup_rel {sc : Scope} : ∀ {names : List (Str × NameKind)} {x : Str} {k : NameKind},
    (names.map fun (n, k) => if (k == NameKind.free && sc.kind == .function && sc.names.lookup n == some .cell) then (n, NameKind.cell) else (n, k)).lookup x = some k →
    ∃ k', names.lookup x = some k' ∧ (k = k' ∨ (k' = .free ∧ k = .cell ∧ sc.names.lookup x = some .cell))
  | [], _, _, h => by simp at h
  | (n, k₀) :: r, x, k, h => by
    have ih := @lookup_rel sc r x k
    have h' : List.lookup x ((if (k₀ == NameKind.free && sc.kind == .function && sc.names.lookup n == some .cell) = true then (n, NameKind.cell) else (n, k₀)) :: (r.map _)) = some k := h
    cases hx : x == n with
    | true =>
      have ex : x = n := by simpa using hx
      simp only [List.lookup_cons, hx]
      by_cases hc : (k₀ == NameKind.free && sc.kind == .function && sc.names.lookup n == some .cell) = true
      · rw [if_pos hc] at h'
        simp only [List.lookup_cons, hx] at h'
        cases h'
        simp only [Bool.and_eq_true, beq_iff_eq] at hc
        exact ⟨k₀, rfl, .inr ⟨hc.1.1, rfl, by rw [ex]; exact hc.2⟩⟩
      · rw [if_neg hc] at h'
        simp only [List.lookup_cons, hx] at h'
        cases h'
        exact ⟨_, rfl, .inl rfl⟩
    | false =>
      simp only [List.lookup_cons, hx]
      by_cases hc : (k₀ == NameKind.free && sc.kind == .function && sc.names.lookup n == some .cell) = true
      · rw [if_pos hc] at h'
        simp only [List.lookup_cons, hx] at h'
        exact ih h'
      · rw [if_neg hc] at h'
        simp only [List.lookup_cons, hx] at h'
        exact ih h'
theorem lookup_rel_free {sc : Scope} : ∀ {names : List (Str × NameKind)} {x : Str}, names.lookup x = some .free →
    (names.map fun (n, k) => if (k == NameKind.free && sc.kind == .function && sc.names.lookup n == some .cell) then (n, NameKind.cell) else (n, k)).lookup x = some .cell ∨
    (names.map fun (n, k) => if (k == NameKind.free && sc.kind == .function && sc.names.lookup n == some .cell) then (n, NameKind.cell) else (n, k)).lookup x = some .free
  | [], _, h => by simp at h
  | (n, k₀) :: r, x, h => by
    have ih := @lookup_rel_free sc r x
    show List.lookup x ((if (k₀ == NameKind.free && sc.kind == .function && sc.names.lookup n == some .cell) = true then (n, NameKind.cell) else (n, k₀)) :: (r.map _)) = some .cell ∨ List.lookup x ((if (k₀ == NameKind.free && sc.kind == .function && sc.names.lookup n == some .cell) = true then (n, NameKind.cell) else (n, k₀)) :: (r.map _)) = some .free
    cases hx : x == n with
    | true =>
      simp only [List.lookup_cons, hx] at h
      cases h
      by_cases hc : (NameKind.free == NameKind.free && sc.kind == .function && sc.names.lookup n == some .cell) = true
      · rw [if_pos hc]; simp only [List.lookup_cons, hx]; exact .inl trivial
      · rw [if_neg hc]; simp only [List.lookup_cons, hx]; exact .inr trivial
    | false =>
      simp only [List.lookup_cons, hx] at h
      by_cases hc : (k₀ == NameKind.free && sc.kind == .function && sc.names.lookup n == some .cell) = true
      · rw [if_pos hc]; simp only [List.lookup_cons, hx]; exact ih h
      · rw [if_neg hc]; simp only [List.lookup_cons, hx]; exact ih h
theorem blk_free (S : SR X c) (ok : Blk X.N X.env.scope scope vs own) : ∀ y ∈ scope.names, y.2 = .free → ∃ a, X.env.cells.lookup y.1 = some a := fun y hy e => S.ok.has _ (ok.free y hy e)
theorem blk_cells (S : SR X c) (ok : Blk X.N X.env.scope scope vs own) : BlkCells X scope c.s.heap := by
  have hfree := blk_free S ok
  have hcl : (blkEnv X scope c.s.heap).cells = cellsFrom (c.s.heap.push { cls := .type "dict", data := .dict #[] }).objs.size scope.names (cloFrom X.env.cells scope.names []) := by rw [Heap.size_push]; rfl
  have cm : ∀ {y a}, (y, a) ∈ cloFrom X.env.cells scope.names [] → X.env.cells.lookup y = some a ∧ a < c.s.heap.objs.size ∧ scope.names.lookup y = some .free := fun {y a} hm => by
    rcases cloFrom_mem hm with hm | ⟨h1, rfl⟩
    · cases hm
    · obtain ⟨c', hc⟩ := hfree _ h1 rfl
      rw [hc]
      obtain ⟨w, z⟩ := S.cell _ _ hc
      exact ⟨rfl, z.lt, ok.uniq _ h1⟩
  have mem : ∀ y a, (blkEnv X scope c.s.heap).cells.lookup y = some a → (X.env.cells.lookup y = some a ∧ a < c.s.heap.objs.size ∧ scope.names.lookup y = some .free) ∨ (c.s.heap.objs.size < a ∧ (blkHeap scope c.s.heap).IsCell a none ∧ scope.names.lookup y = some .cell) := fun y a e => by
    rw [hcl] at e
    rcases cells_mem (PySem.mem_of_lookup e) with hm | ⟨h1, h2, h3⟩
    · exact .inl (cm hm)
    · rw [Heap.size_push] at h2; exact .inr ⟨h2, h3, ok.uniq _ h1⟩
  refine ⟨mem, fun y hl => ?_, fun y hk => ?_, fun y hl => ?_⟩
  · have hy : (y, NameKind.free) ∈ scope.names := PySem.mem_of_lookup hl
    obtain ⟨c', e'⟩ := mem_lookup (cells_acc (names := scope.names) (n := (c.s.heap.push { cls := .type "dict", data := .dict #[] }).objs.size) (cloFrom_has (cells := X.env.cells) (acc := []) hy))
    rw [← hcl] at e'
    refine ⟨c', e', ?_⟩
    rcases mem y c' e' with h | ⟨_, _, h⟩
    · exact h.1
    · rw [hl] at h; cases h
  · obtain ⟨k', e, r⟩ := lookup_rel (sc := X.env.scope) hk
    rcases r with rfl | ⟨rfl, _, q⟩
    · exact .inl e
    · exact .inr ⟨e, q⟩
  · exact lookup_rel_free (sc := X.env.scope) hl
end
end
end GB
/-! A comprehension's block: its start, its end. -/
namespace GB
open PySem PySem.Spec PyProof.Rows
open L2 (Key keyH keyIs mixKind Mod Look Vis Loc frs thn cloFrom cloFrom_mem cloFrom_has relS lookup_relS cells_mem cells_acc cells_has cells_inj mem_lookup closure_ok newEnv_comp pushCells_size)
section
variable {X : Cx} {c c0 c1 c2 c3 : Cf} {scope : Scope} {vs own : List Nat}
theorem isOwn_hide {ρ : Rho} {i : Nat} (h : isOwn (hide vs 0 ρ) i) : vs.contains i = true ∧ isOwn ρ i := by
  obtain ⟨d, q⟩ := h
  rw [hide_get, Nat.zero_add] at q
  cases e : ρ[i]? with
  | none => rw [e] at q; rcases q with q | q <;> cases q
  | some s =>
    rw [e] at q
    by_cases z : vs.contains i = true
    · simp only [Option.map_some, z, if_true] at q
      exact ⟨z, d, by rw [e]; exact q⟩
    · simp only [Option.map_some] at q
      rw [if_neg z] at q
      rcases q with q | q <;> cases q
/-- where the block begins -/
abbrev blkCf (scope : Scope) (vs : List Nat) (c : Cf) : Cf := { c with ρ := hide vs 0 c.ρ, s := { c.s with heap := blkHeap scope c.s.heap } }
theorem blk_keeps (h : Heap) : ∀ b o, h.get? b = some o → (blkHeap scope h).get? b = some o := fun b o e => pushCells_keeps _ _ _ _ (Heap.get?_push_of_some _ e)
theorem blk_locals (S : SR X c) : (blkEnv X scope c.s.heap).locals = c.s.heap.objs.size := rfl
/-- what stood before is the block's own only if it is the def's own -/
theorem blk_mine (S : SR X c) (ok : Blk X.N X.env.scope scope vs own) {b : Addr} {o : Obj} (h : c.s.heap.get? b = some o) (hm : Mine (X.blk own (blkEnv X scope c.s.heap)) b) : Mine X b := by
  have C := blk_cells S ok
  rcases hm with e | ⟨y, hk, hc⟩ | z
  · have e : b = c.s.heap.objs.size := e
    rw [e] at h
    rw [S.new] at h; cases h
  · rcases C.mem y b hc with ⟨q, _, qf⟩ | ⟨q, _, _⟩
    · rcases C.kind y hk with k | ⟨_, k⟩
      · rw [qf] at k; cases k
      · exact .inr (.inl (S.ok.myc y b k q))
    · exact absurd (Heap.lt_size h) (Nat.not_lt.mpr (Nat.le_of_lt q))
  · exact .inr (.inr z)
theorem blk_start (h1 : 0 < c.s.toks) (S : SR X c) (ok : Blk X.N X.env.scope scope vs own) : SR (X.blk own (blkEnv X scope c.s.heap)) (blkCf scope vs c) := by
  have C := blk_cells S ok
  have kp := blk_keeps (scope := scope) c.s.heap
  have hcl : (blkEnv X scope c.s.heap).cells = cellsFrom (c.s.heap.push { cls := .type "dict", data := .dict #[] }).objs.size scope.names (cloFrom X.env.cells scope.names []) := by rw [Heap.size_push]; rfl
  have cm : ∀ {y a}, (y, a) ∈ cloFrom X.env.cells scope.names [] → X.env.cells.lookup y = some a ∧ a < c.s.heap.objs.size := fun {y a} hm => by
    rcases cloFrom_mem hm with hm | ⟨h1, rfl⟩
    · cases hm
    · obtain ⟨c', hc⟩ := blk_free S ok _ h1 rfl
      rw [hc]
      obtain ⟨w, z⟩ := S.cell _ _ hc
      exact ⟨rfl, z.lt⟩
  have hfrs : ∀ b ∈ frs X.stack, ∃ o, c.s.heap.get? b = some o := fun b hb => S.olds b (.inr (.inr (.inr hb)))
  have okB : (X.blk own (blkEnv X scope c.s.heap)).Ok := by
    refine ⟨S.ok.mod, ?_, S.ok.glob, S.ok.blt, S.ok.nd, fun y z a e1 e2 => ?_, fun y hy => ?_, fun y a k e => ⟨y, k, e⟩, S.ok.hd, S.ok.frames, .inl rfl, fun b o hb => ⟨(S.ok.bold b o hb).1, fun z => (S.ok.bold b o hb).2 (blk_mine S ok (S.bk b o hb) z)⟩, fun a ⟨y, k, e⟩ z => ?_, S.ok.room, S.ok.deep, S.ok.guards⟩
    · exact ok.kind
    · have e1 : (blkEnv X scope c.s.heap).cells.lookup y = some a := e1
      have e2 : (blkEnv X scope c.s.heap).cells.lookup z = some a := e2
      rw [hcl] at e1 e2
      refine cells_inj (fun p hp => ?_) (fun y z c a b => S.ok.inj y z c (cm a).1 (cm b).1) (PySem.mem_of_lookup e1) (PySem.mem_of_lookup e2)
      rw [Heap.size_push]
      exact Nat.lt_succ_of_lt (cm (y := p.1) (a := p.2) hp).2
    · show ∃ a, (blkEnv X scope c.s.heap).cells.lookup y = some a
      have key : ∀ k, (blkEnv X scope c.s.heap).kindOf y = some k → (k = .cell ∨ k = .free) → ∃ a, (blkEnv X scope c.s.heap).cells.lookup y = some a := fun k hk hk' => by
        obtain ⟨k', e, r⟩ := lookup_rel (sc := X.env.scope) hk
        have : k' = .cell ∨ k' = .free := by
          rcases r with rfl | ⟨rfl, _⟩
          · exact hk'
          · exact .inr rfl
        rcases this with rfl | rfl
        · obtain ⟨a, hm⟩ := cells_has (n := (c.s.heap.push { cls := .type "dict", data := .dict #[] }).objs.size) (acc := cloFrom X.env.cells scope.names []) (PySem.mem_of_lookup e)
          obtain ⟨c', e'⟩ := mem_lookup hm
          exact ⟨c', by rw [hcl]; exact e'⟩
        · obtain ⟨a, h1, _⟩ := C.look y e
          exact ⟨a, h1⟩
      rcases hy with hy | hy
      · exact key _ hy (.inl rfl)
      · exact key _ hy (.inr rfl)
    · rcases C.mem y a e with ⟨q, _, qf⟩ | ⟨q, _, _⟩
      · rcases C.kind y k with k | ⟨_, k⟩
        · rw [qf] at k; cases k
        · exact S.ok.mycf a (S.ok.myc y a k q) z
      · obtain ⟨o, e⟩ := hfrs a z
        exact absurd (Heap.lt_size e) (Nat.not_lt.mpr (Nat.le_of_lt q))
  have nC : ∀ b, c.s.heap.objs.size ≤ b → c.s.heap.get? b = none := fun b hb => Heap.get?_none_of_le hb
  refine ⟨okB, S.os, S.bare, fun b o e => kp b o (S.bk b o e), funs_of X.stack (fun b hb o q => kp b o q) S.frm, ⟨fun _ => none, ?_, fun i x sl h1 h2 => ?_⟩, fun y a e => ?_, fun b o e => kp b o (S.sub b o e), fun b z => ?_, fun i j q1 q2 q3 => S.inj i j (isOwn_hide q1).2 (isOwn_hide q2).2 q3, fun b z => ?_, h1, by show (hide vs 0 c.ρ).length = _; rw [hide_length]; exact S.len, fun y a e => ?_⟩
  · show Heap.Ns _ c.s.heap.objs.size _
    exact Heap.Ns.keeps (Heap.Ns.new ..) fun b o e => pushCells_keeps _ _ _ _ e
  · have h2 : (hide vs 0 c.ρ)[i]? = some sl := h2
    rw [hide_get, Nat.zero_add] at h2
    obtain ⟨s0, e0, e1⟩ := Option.map_eq_some_iff.mp h2
    by_cases z : vs.contains i = true
    · rw [if_pos z] at e1
      subst e1
      have hf : scope.names.lookup x = some .free := (ok.see i x h1).mpr z
      obtain ⟨m, hm, slk⟩ := S.loc
      have old := slk i x s0 h1 e0
      obtain ⟨a, q1, q2⟩ := C.look x hf
      have lk : ∀ u, Look X.env c.s.heap m x u → Look (blkEnv X scope c.s.heap) (blkHeap scope c.s.heap) (fun _ => none) x u := fun u l => by
        refine .inr ⟨C.vis x hf, a, q1, ?_⟩
        rcases l with ⟨k, _⟩ | ⟨_, a', e', z⟩
        · have k : X.env.scope.names.lookup x = some .local := k
          rcases ok.free _ (PySem.mem_of_lookup hf) rfl with k' | k' <;> rw [show X.env.scope.names.lookup x = _ from k'] at k <;> cases k
        · rw [q2] at e'; cases e'
          exact z.keeps kp
      have nm : ∀ d, isOwn c.ρ i → OwnAt X.w X.base c.F c.s (c.α i) d → ¬ Mine X (c.α i) → OwnAt X.w X.base c.F { c.s with heap := blkHeap scope c.s.heap } (c.α i) d ∧ ¬ Mine (X.blk own (blkEnv X scope c.s.heap)) (c.α i) := fun d _ oa n => by
        refine ⟨oa.keep (Sub.refl _) (Nat.le_refl _) oa.nf fun o q => kp _ o q, fun w => ?_⟩
        obtain ⟨o, q⟩ := oa.ex
        exact n (blk_mine S ok q w)
      cases s0 with
      | un => trivial
      | val d => obtain ⟨u, l, r⟩ := old; exact ⟨u, lk u l, r⟩
      | own d =>
        obtain ⟨l, oa, no, n⟩ := old
        obtain ⟨r1, r2⟩ := nm d ⟨d, .inl e0⟩ oa n
        exact ⟨lk _ l, r1, no, r2⟩
      | par d =>
        obtain ⟨l, oa, n⟩ := old
        obtain ⟨r1, r2⟩ := nm d ⟨d, .inr e0⟩ oa n
        exact ⟨lk _ l, r1, r2⟩
    · rw [if_neg z] at e1
      subst e1
      trivial
  · rcases C.mem y a e with ⟨q, _, _⟩ | ⟨_, q, _⟩
    · obtain ⟨w, z⟩ := S.cell y a q
      exact ⟨w, z.keeps kp⟩
    · exact ⟨_, q⟩
  · show c.F b = none
    cases hb : c.s.heap.get? b with
    | none => exact S.fnone hb
    | some o => exact S.mine b (blk_mine S ok hb z)
  · rcases z with z | z
    · obtain ⟨o, e⟩ := S.olds b (.inl z)
      exact ⟨o, kp b o e⟩
    · rcases z with z | ⟨y, k, e⟩ | z
      · have z : b = c.s.heap.objs.size := z
        subst z
        exact ⟨_, pushCells_keeps _ _ _ _ (Heap.get?_push_size _ rfl)⟩
      · rcases C.mem y b e with ⟨q, _, _⟩ | ⟨_, ⟨o, q, _⟩, _⟩
        · obtain ⟨w, ⟨o, q, _⟩⟩ := S.cell y b q
          exact ⟨o, kp b o q⟩
        · exact ⟨o, q⟩
      · obtain ⟨o, e⟩ := hfrs b z
        exact ⟨o, kp b o e⟩
  · rcases C.mem y a e with ⟨q, ql, _⟩ | ⟨q, _, _⟩
    · exact ⟨(S.cfree y a q).1, Nat.ne_of_lt ql⟩
    · exact ⟨S.fnone (nC a (Nat.le_of_lt q)), Nat.ne_of_gt q⟩
/-- behind the block -/
theorem blk_end {wr : List Addr} (S : SR X c) (ok : Blk X.N X.env.scope scope vs own) (f : FrX (X.blk own (blkEnv X scope c.s.heap)) wr (blkCf scope vs c) c2) (S2 : SR (X.blk own (blkEnv X scope c.s.heap)) c2) (hw : ∀ b ∈ wr, Off X c b)
    {h' : Heap} (hs : Heap.SameBut c.s.heap.objs.size c2.s.heap h') :
    ∃ c3, c3.s = { c2.s with heap := h' } ∧ c3.ρ = unhide vs 0 c.ρ c2.ρ ∧ c3.α = c.α ∧ c3.F = c2.F ∧ SR X c3 ∧ FrX X wr c c3 ∧ ∀ b, ¬ Owns c b → ¬ Owns c2 b → ¬ Owns c3 b := by
  have C := blk_cells S ok
  have kp := blk_keeps (scope := scope) c.s.heap
  have ltC : ∀ b o, c.s.heap.get? b = some o → b ≠ c.s.heap.objs.size := fun b o e => Nat.ne_of_lt (Heap.lt_size e)
  have tos : ∀ b o, c.s.heap.get? b = some o → ∀ o', c2.s.heap.get? b = some o' → h'.get? b = some o' := fun b o e o' e' => (hs.2 b (ltC b o e)).trans e'
  have len : c.ρ.length = c2.ρ.length := by rw [S.len]; exact S2.len.symm
  have uget : ∀ i, (unhide vs 0 c.ρ c2.ρ)[i]? = if vs.contains i = true then c2.ρ[i]? else c.ρ[i]? := fun i => by
    have := unhide_get vs c.ρ c2.ρ 0 i len
    rwa [Nat.zero_add] at this
  have asg : ∀ i, vs.contains i = true → c2.α i = c.α i ∧ (isOwn c2.ρ i → isOwn c.ρ i) := fun i z => by
    obtain ⟨a, b⟩ := f.ka i (ok.off i z)
    exact ⟨a, fun w => (isOwn_hide (b w)).2⟩
  have uown : ∀ i, isOwn (unhide vs 0 c.ρ c2.ρ) i → (vs.contains i = true ∧ isOwn c2.ρ i ∧ isOwn c.ρ i ∧ c2.α i = c.α i) ∨ (¬ vs.contains i = true ∧ isOwn c.ρ i) := fun i ⟨d, q⟩ => by
    rw [uget] at q
    by_cases z : vs.contains i = true
    · rw [if_pos z] at q
      have : isOwn c2.ρ i := ⟨d, q⟩
      exact .inl ⟨z, this, (asg i z).2 this, (asg i z).1⟩
    · rw [if_neg z] at q
      exact .inr ⟨z, d, q⟩
  -- what the block does not see stays
  have still : ∀ b o, b ∉ wr → c.s.heap.get? b = some o → ¬ Mine X b → (∀ i, vs.contains i = true → isOwn c.ρ i → c.α i ≠ b) → c2.s.heap.get? b = some o ∧ ¬ Owns c2 b ∧ (c.F b = none → c2.F b = none) := fun b o w e nm no =>
    f.st b o w (kp b o e) (fun ⟨i, io, ib⟩ => no i (isOwn_hide io).1 (isOwn_hide io).2 ib) (fun z => nm (blk_mine S ok e z))
  have frk : ∀ b o, b ∈ frs X.stack → c.s.heap.get? b = some o → ∃ sl, c2.s.heap.get? b = some { o with slots := sl } := fun b o z e => f.fr b o z (ltC b o e) (kp b o e)
  have cellk : ∀ y a, X.env.cells.lookup y = some a → (∃ y', (blkEnv X scope c.s.heap).cells.lookup y' = some a ∧ scope.names.lookup y = some .free) ∨ ∀ v, c.s.heap.IsCell a v → h'.IsCell a v := fun y a hy => by
    by_cases hf : scope.names.lookup y = some .free
    · obtain ⟨a', q1, q2⟩ := C.look y hf
      rw [hy] at q2; cases q2
      exact .inl ⟨y, q1, hf⟩
    · refine .inr fun v ⟨o, q, dd⟩ => ?_
      by_cases hm : Mine (X.blk own (blkEnv X scope c.s.heap)) a
      · rcases hm with e | ⟨y', hk, hc⟩ | z
        · exact absurd e (ltC a o q)
        · rcases C.mem y' a hc with ⟨q', _, qf⟩ | ⟨q', _, _⟩
          · have := S.ok.inj y y' a hy q'
            rw [this] at hf
            exact absurd qf hf
          · exact absurd (Heap.lt_size q) (Nat.not_lt.mpr (Nat.le_of_lt q'))
        · obtain ⟨sl, e⟩ := frk a o z q
          exact ⟨_, tos a o q _ e, dd⟩
      · have w : a ∉ wr := fun w => (hw a w).nc y hy
        have no : ¬ Owns (blkCf scope vs c) a := fun ⟨i, io, ib⟩ => by
          obtain ⟨⟨d, oa⟩, _⟩ := S.owned ⟨i, (isOwn_hide io).2, ib⟩
          obtain ⟨o', e', r'⟩ := oa.ob
          exact S.ncell e' r' y hy
        have := (f.st a o w (kp a o q) no hm).1
        exact ⟨o, tos a o q o this, dd⟩
  have mine_f : ∀ b, Mine X b → c2.F b = none := fun b z => by
    obtain ⟨o, e⟩ := S.olds b (.inr z)
    by_cases hm : Mine (X.blk own (blkEnv X scope c.s.heap)) b
    · exact S2.mine b hm
    · have no : ¬ Owns (blkCf scope vs c) b := fun ⟨i, io, ib⟩ => (S.owned ⟨i, (isOwn_hide io).2, ib⟩).2 z
      exact (f.st b o (fun w => (hw b w).nm z) (kp b o e) no hm).2.2 (S.mine b z)
  have hidOwn : ∀ i, ¬ vs.contains i = true → isOwn c.ρ i → ∀ j, vs.contains j = true → isOwn c.ρ j → c.α j ≠ c.α i := fun i z q j zj qj e => by
    have := S.inj j i qj q e
    rw [this] at zj
    exact z zj
  have hidKeep : ∀ i, ¬ vs.contains i = true → isOwn c.ρ i → ∀ o, c.s.heap.get? (c.α i) = some o → c2.s.heap.get? (c.α i) = some o ∧ ¬ Owns c2 (c.α i) ∧ c2.F (c.α i) = none := fun i z q o e => by
    obtain ⟨⟨d, oa⟩, nm⟩ := S.owned ⟨i, q, rfl⟩
    obtain ⟨h1, h2, h3⟩ := still _ o (fun w => (hw _ w).no ⟨i, q, rfl⟩) e nm (hidOwn i z q)
    exact ⟨h1, h2, h3 oa.nf⟩
  have localsK : ∃ o sl, c.s.heap.get? X.env.locals = some o ∧ h'.get? X.env.locals = some { o with slots := sl } := by
    obtain ⟨o, e⟩ := S.olds X.env.locals (.inr (.inl rfl))
    by_cases hm : Mine (X.blk own (blkEnv X scope c.s.heap)) X.env.locals
    · rcases hm with z | ⟨y', hk, hc⟩ | z
      · exact absurd z (ltC _ o e)
      · rcases C.mem y' _ hc with ⟨q', _, qf⟩ | ⟨q', _, _⟩
        · exact absurd rfl (S.cfree y' _ q').2
        · exact absurd (Heap.lt_size e) (Nat.not_lt.mpr (Nat.le_of_lt q'))
      · obtain ⟨sl, q⟩ := frk _ o z e
        exact ⟨o, sl, e, tos _ o e _ q⟩
    · have no : ¬ Owns (blkCf scope vs c) X.env.locals := fun ⟨i, io, ib⟩ => (S.owned ⟨i, (isOwn_hide io).2, ib⟩).2 (.inl rfl)
      have q := (f.st _ o (fun w => (hw _ w).nm (.inl rfl)) (kp _ o e) no hm).1
      exact ⟨o, o.slots, e, tos _ o e _ q⟩
  refine ⟨{ F := c2.F, α := c.α, ρ := unhide vs 0 c.ρ c2.ρ, s := { c2.s with heap := h' } }, rfl, rfl, rfl, rfl, ?_, ?_, fun b n1 n2 ⟨i, io, ib⟩ => ?_⟩
  · refine ⟨S.ok, S2.os, S2.bare, fun b o e => tos b o (S.bk b o e) o (S2.bk b o e), ?_, ?_, fun y a hy => ?_, fun b o e => ?_, mine_f, fun i j q1 q2 q3 => ?_, fun b z => ?_, Nat.le_trans S.tk f.tk, by show (unhide vs 0 c.ρ c2.ρ).length = _; rw [unhide_length vs _ _ _ len]; exact S.len, fun y a hy => ⟨?_, (S.cfree y a hy).2⟩⟩
    · refine funs_of X.stack (fun b hb o q => ?_) S2.frm
      obtain ⟨o0, e0⟩ := S.olds b (.inr (.inr (.inr hb)))
      exact tos b o0 e0 o q
    · obtain ⟨m, hm, slk⟩ := S.loc
      obtain ⟨m2, hm2, slk2⟩ := S2.loc
      refine ⟨m, ?_, fun i x sl h1 h2 => ?_⟩
      · obtain ⟨o, es, ep, q, dd, rr⟩ := hm
        obtain ⟨o', sl, q', q2⟩ := localsK
        rw [q] at q'; cases q'
        exact ⟨_, es, ep, q2, dd, rr⟩
      · have h2 : (unhide vs 0 c.ρ c2.ρ)[i]? = some sl := h2
        rw [uget] at h2
        by_cases z : vs.contains i = true
        · rw [if_pos z] at h2
          have hf : scope.names.lookup x = some .free := (ok.see i x h1).mpr z
          obtain ⟨a, q1, q2⟩ := C.look x hf
          have old := slk2 i x sl h1 h2
          obtain ⟨eα, eo⟩ := asg i z
          have lk : ∀ u, Look (blkEnv X scope c.s.heap) c2.s.heap m2 x u → Look X.env h' m x u := fun u l => by
            refine .inr ⟨ok.free _ (PySem.mem_of_lookup hf) rfl, a, q2, ?_⟩
            rcases l with ⟨k, _⟩ | ⟨_, a', e', ⟨o, q, dd⟩⟩
            · rcases C.vis x hf with k' | k' <;> rw [k'] at k <;> cases k
            · rw [q1] at e'; cases e'
              obtain ⟨w, ⟨oo, qq, _⟩⟩ := S.cell x a q2
              exact ⟨o, tos a oo qq o q, dd⟩
          have own1 : ∀ d, isOwn c2.ρ i → OwnAt X.w X.base c2.F c2.s (c2.α i) d → OwnAt X.w X.base c2.F { c2.s with heap := h' } (c.α i) d ∧ ¬ Mine X (c.α i) := fun d io oa => by
            rw [eα] at oa
            obtain ⟨⟨d', oa'⟩, nm⟩ := S.owned ⟨i, eo io, rfl⟩
            obtain ⟨oo, qq⟩ := oa'.ex
            exact ⟨oa.keep (Sub.refl _) (Nat.le_refl _) oa.nf fun o q => tos _ oo qq o q, nm⟩
          cases sl with
          | un => trivial
          | val d => obtain ⟨u, l, r⟩ := old; exact ⟨u, lk u l, r⟩
          | own d =>
            obtain ⟨l, oa, no, _⟩ := old
            obtain ⟨r1, r2⟩ := own1 d ⟨d, .inl h2⟩ oa
            have l : Look (blkEnv X scope c.s.heap) c2.s.heap m2 x (.ref (c2.α i)) := l
            rw [eα] at l no
            exact ⟨lk _ l, r1, no, r2⟩
          | par d =>
            obtain ⟨l, oa, _⟩ := old
            obtain ⟨r1, r2⟩ := own1 d ⟨d, .inr h2⟩ oa
            have l : Look (blkEnv X scope c.s.heap) c2.s.heap m2 x (.ref (c2.α i)) := l
            rw [eα] at l
            exact ⟨lk _ l, r1, r2⟩
        · rw [if_neg z] at h2
          have old := slk i x sl h1 h2
          have nf : scope.names.lookup x ≠ some .free := fun w => z ((ok.see i x h1).mp w)
          have lk : ∀ u, Look X.env c.s.heap m x u → Look X.env h' m x u := fun u l => by
            rcases l with l | ⟨k, a, e, zz⟩
            · exact .inl l
            · rcases cellk x a e with ⟨_, _, w⟩ | w
              · exact absurd w nf
              · exact .inr ⟨k, a, e, w u zz⟩
          have own1 : ∀ d, isOwn c.ρ i → OwnAt X.w X.base c.F c.s (c.α i) d → OwnAt X.w X.base c2.F { c2.s with heap := h' } (c.α i) d := fun d io oa => by
            obtain ⟨oo, qq⟩ := oa.ex
            obtain ⟨g1, g2, g3⟩ := hidKeep i z io oo qq
            exact oa.keep f.fm f.tk g3 fun o q => by rw [qq] at q; cases q; exact tos _ oo qq _ g1
          cases sl with
          | un => trivial
          | val d => obtain ⟨u, l, r⟩ := old; exact ⟨u, lk u l, r.mono f.fm f.tk⟩
          | own d => obtain ⟨l, oa, no, nm⟩ := old; exact ⟨lk _ l, own1 d ⟨d, .inl h2⟩ oa, no, nm⟩
          | par d => obtain ⟨l, oa, nm⟩ := old; exact ⟨lk _ l, own1 d ⟨d, .inr h2⟩ oa, nm⟩
    · obtain ⟨v, ⟨o, q, dd⟩⟩ := S.cell y a hy
      rcases cellk y a hy with ⟨y', q', _⟩ | w
      · obtain ⟨v', ⟨o', q'', dd'⟩⟩ := S2.cell y' a q'
        exact ⟨v', o', tos a o q o' q'', dd'⟩
      · exact ⟨v, w v ⟨o, q, dd⟩⟩
    · have nC : b ≠ c.s.heap.objs.size := fun z => by
        have := S2.mine b (.inl z)
        rw [e] at this; cases this
      exact (hs.2 b nC).trans (S2.sub b o e)
    · rcases uown i q1 with ⟨z1, a1, b1, e1⟩ | ⟨z1, b1⟩
      · rcases uown j q2 with ⟨z2, a2, b2, e2⟩ | ⟨z2, b2⟩
        · exact S.inj i j b1 b2 q3
        · exact S.inj i j b1 b2 q3
      · rcases uown j q2 with ⟨z2, a2, b2, e2⟩ | ⟨z2, b2⟩
        · exact S.inj i j b1 b2 q3
        · exact S.inj i j b1 b2 q3
    · obtain ⟨o, e⟩ := S.olds b z
      obtain ⟨o', e'⟩ := f.hm b o (fun w => z.elim (hw b w).nl (hw b w).nm) (kp b o e)
      exact ⟨o', tos b o e o' e'⟩
    · obtain ⟨v, ⟨o, q, dd⟩⟩ := S.cell y a hy
      by_cases hm : Mine (X.blk own (blkEnv X scope c.s.heap)) a
      · exact S2.mine a hm
      · have w : a ∉ wr := fun w => (hw a w).nc y hy
        have no : ¬ Owns (blkCf scope vs c) a := fun ⟨i, io, ib⟩ => by
          obtain ⟨⟨d, oa⟩, _⟩ := S.owned ⟨i, (isOwn_hide io).2, ib⟩
          obtain ⟨o', e', r'⟩ := oa.ob
          exact S.ncell e' r' y hy
        exact (f.st a o w (kp a o q) no hm).2.2 (S.cfree y a hy).1
  · refine ⟨f.fm, f.tk, fun b o w e => ?_, fun b o w e n nm => ?_, fun b o z _ e => ?_, fun i d q => ?_, fun i _ => ⟨rfl, fun q => (uown i q).elim (fun a => a.2.2.1) (fun a => a.2)⟩⟩
    · obtain ⟨o', e'⟩ := f.hm b o w (kp b o e)
      exact ⟨o', tos b o e o' e'⟩
    · obtain ⟨g1, g2, g3⟩ := still b o w e nm (fun i _ io ib => n ⟨i, io, ib⟩)
      refine ⟨tos b o e o g1, fun ⟨i, io, ib⟩ => ?_, g3⟩
      rcases uown i io with ⟨_, _, b1, _⟩ | ⟨_, b1⟩
      · exact n ⟨i, b1, ib⟩
      · exact n ⟨i, b1, ib⟩
    · obtain ⟨sl, q⟩ := frk b o z e
      exact ⟨sl, tos b o e _ q⟩
    · have q : (unhide vs 0 c.ρ c2.ρ)[i]? = some (.par d) := q
      rw [uget] at q
      by_cases z : vs.contains i = true
      · rw [if_pos z] at q
        obtain ⟨⟨d0, q0⟩, _⟩ := f.pr i d q
        have q0 : (hide vs 0 c.ρ)[i]? = some (.par d0) := q0
        rw [hide_get, Nat.zero_add] at q0
        obtain ⟨s0, e0, e1⟩ := Option.map_eq_some_iff.mp q0
        rw [if_pos z] at e1
        subst e1
        exact ⟨⟨d0, e0⟩, rfl⟩
      · rw [if_neg z] at q
        exact ⟨⟨d, q⟩, rfl⟩
  · rcases uown i io with ⟨_, _, b1, _⟩ | ⟨_, b1⟩
    · exact n1 ⟨i, b1, ib⟩
    · exact n1 ⟨i, b1, ib⟩
end
end GB
/-! List comprehensions of one clause. -/
namespace GB
open PySem PySem.Spec PyProof.Rows
open L2 (Key keyH keyIs mixKind Mod Look Vis Loc frs thn thnF cloFrom closure_ok newEnv_comp)
section
variable {X : Cx} {c c0 c1 c2 c3 : Cf} {scope : Scope} {vs own : List Nat} {elt tg iter : Expr} {ifs : List Expr} {pos pos' : Pos}
/-- a clause's tests -/
structure PTs (X : Cx) (ifs : List Expr) (t : DT) : Prop where
  run : ∀ (c : Cf) (o : O Bool), SR X c → t c.ρ = some o → KX X c o →
    wpAny (model X.prog X.w) X.A (forIn ifs true fun c r => if r = true then do let ok ← isTrue c X.env (eval c X.env); pure (ForInStep.yield ok) else pure (ForInStep.yield r)) (PostT X c o) X.xe c.s
def tYes : DT := fun ρ => some (.ok true ρ)
theorem pts_nil : PTs X [] tYes := ⟨fun c o S h _ => by cases h; exact wpAny_tests_nil ⟨c, rfl, rfl, Fr.refl, S⟩⟩
theorem pts_one {e : Expr} {t : DT} (h : PDT X e t) : PTs X [e] t := ⟨fun c o S hd kx => wpAny_tests_one (h.run c o S hd kx)⟩
def dLcGo (g : D → Rho → Option (O Unit)) (t : DT) (e : DE) : List D → Rho → Option (List D × Rho)
  | [], ρ => some ([], ρ)
  | d :: ds, ρ => match g d ρ with
    | some (.ok _ ρ1) => (match t ρ1 with
      | some (.ok b ρ2) => if b = true then (match e ρ2 with
        | some (.ok r ρ3) => if r.isWeak = true then none else (dLcGo g t e ds ρ3).map fun q => (r.d :: q.1, q.2)
        | _ => none) else dLcGo g t e ds ρ2
      | _ => none)
    | _ => none
/-- what a comprehension's block needs of the state before it: it is new, nobody holds it -/
structure NewAt (X : Cx) (c0 c : Cf) (b : Addr) : Prop where
  old : c0.s.heap.get? b = none
  here : ∃ o, c.s.heap.get? b = some o
  nf : c.F b = none
  no : ¬ Owns c b
theorem NewAt.off {b : Addr} (S0 : SR X c0) (h : NewAt X c0 c1 b) (S1 : SR X c1) (f : FrB X c0 c1) : Off X c1 b where
  nb := S0.nbase h.old
  nm := fun z => by
    obtain ⟨o, e⟩ := S0.olds b (.inr z)
    rw [h.old] at e; cases e
  nl := fun z => by
    obtain ⟨o, e⟩ := S0.olds b (.inl z)
    rw [h.old] at e; cases e
  nc := fun x z => by
    obtain ⟨v, ⟨o, e, _⟩⟩ := S0.cell x b z
    rw [h.old] at e; cases e
  nf := h.nf
  no := h.no
theorem blk_off (S : SR X c1) (ok : Blk X.N X.env.scope scope vs own) {b : Addr} (h : Off X c1 b) (hh : ∃ o, c1.s.heap.get? b = some o) (nf : c2.F b = none) (no : ¬ Owns c2 b) : Off (X.blk own (blkEnv X scope c1.s.heap)) c2 b where
  nb := h.nb
  nm := fun z => by
    obtain ⟨o, e⟩ := hh
    exact h.nm (blk_mine S ok e z)
  nl := h.nl
  nc := fun x z => by
    obtain ⟨o, e⟩ := hh
    rcases (blk_cells S ok).mem x b z with ⟨q, _, _⟩ | ⟨q, _, _⟩
    · exact h.nc x q
    · exact absurd (Heap.lt_size e) (Nat.not_lt.mpr (Nat.le_of_lt q))
  nf := nf
  no := no
theorem xTrue {α : Type} {M : Model} {A : Around} {E : Value → Shared → Prop} {s : Shared} {t : Sem α} {Q : α → Shared → Prop} (h : wpAny M A t Q (fun _ _ => False) s) : wpAny M A t Q E s := wpAny_mono h (fun _ _ z => z) fun _ _ z => z.elim
/-- the block of [elt for tg in .. if ..], from the state behind the iterator -/
theorem lc_core {tup : Bool} {g : D → Rho → Option (O Unit)} {t : DT} {de : DE} {I : Addr} {ds xs : List D} {ρf : Rho} {use : Option (Value → Sem Unit)} {Qf E : Value → Shared → Prop} {cl : List (Str × Addr)}
    (S0 : SR X c) (f01 : Fr X c c1) (S1 : SR X c1) (W : Walk X c c1 tup tg I ds) (ok : Blk X.N X.env.scope scope vs own)
    (hg : ∀ h, PGv (X.blk own (blkEnv X scope h)) tup tg g) (ht : ∀ h, PTs (X.blk own (blkEnv X scope h)) ifs t) (he : ∀ h, PD (X.blk own (blkEnv X scope h)) elt de)
    (hd : dLcGo g t de ds (hide vs 0 c1.ρ) = some (xs, ρf)) (hz : ds.length ≤ 16777216)
    (hcl : cl = cloFrom X.env.cells scope.names [])
    (hq : ∀ c3 D C m, c3.ρ = unhide vs 0 c1.ρ ρf → c3.α = c1.α → FrB X c c3 → SR X c3 → ResOk X c c3 (.fresh (.lst xs)) (.ref D) → c3.s.heap.Ns C m → NewAt X c c3 C → C ≠ D → compPost (model X.prog X.w) X.A E use Qf (.ref D) C (.ok .next) c3.s) :
    wpAny (model X.prog X.w) X.A (newList []) (fun acc s3 => wpAny (model X.prog X.w) X.A (newFunctionEnv scope X.env.globals cl [] X.env.qual none .none (some X.env)) (fun cenv s4 =>
        codeAny (model X.prog X.w) X.A (.compStart (.ListComp elt [⟨tg, iter, ifs, 0⟩] scope pos) 0 (.ref I) acc { cenv with scope := relabel scope X.env }) (compPost (model X.prog X.w) X.A E use Qf acc cenv.locals) s4) E s3) E c1.s := by
  subst hcl
  refine wpAny_newObj_type (newEnv_comp ?_) (by show 0 ≤ sizeLine; decide)
  obtain ⟨fp, wr, St, G, st0, hw, hf, _⟩ := W.it
  -- the new list
  let lo : Obj := { cls := .type "list", data := .seq ([] : List Value).toArray }
  obtain ⟨S2, f2⟩ := S1.kept (s' := { c1.s with heap := c1.s.heap.push lo }) (fun b o e => Heap.get?_push_of_some _ e) (Nat.le_refl _)
  generalize hc2 : ({ c1 with s := { c1.s with heap := c1.s.heap.push lo } } : Cf) = c2 at S2 f2
  have f02 : Fr X c c2 := f01.trans f2
  have eD : c1.s.heap.objs.size = c1.s.heap.objs.size := rfl
  generalize hD : c1.s.heap.objs.size = D at *
  have hDn : c1.s.heap.get? D = none := by rw [← hD]; exact S1.new
  have eρ : c2.ρ = c1.ρ := by rw [← hc2]
  have eF : c2.F = c1.F := by rw [← hc2]
  have eα : c2.α = c1.α := by rw [← hc2]
  have et : c2.s.toks = c1.s.toks := by rw [← hc2]
  have hD2 : c2.s.heap.get? D = some lo := by rw [← hc2, ← hD]; exact Heap.get?_push_size _ rfl
  have k12 : ∀ b o, c1.s.heap.get? b = some o → c2.s.heap.get? b = some o := fun b o e => by rw [← hc2]; exact Heap.get?_push_of_some _ e
  have no12 : ∀ b, ¬ Owns c1 b → ¬ Owns c2 b := fun b n ⟨i, io, ib⟩ => n ⟨i, by rw [← eρ]; exact io, by rw [← eα]; exact ib⟩
  have st2 : St 0 c2.s.heap := G.frame _ _ _ st0 fun b _ o e => k12 b o e
  have newD : NewAt X c c2 D := ⟨f01.toFrB.back hDn, ⟨_, hD2⟩, by rw [eF]; exact S1.fnone hDn, no12 D (S1.nown hDn)⟩
  have newW : ∀ b ∈ wr, NewAt X c c2 b := fun b hb => by
    obtain ⟨o, e⟩ := G.obj _ _ st0 b (G.sub b hb)
    exact ⟨(hw b hb).1, ⟨o, k12 b o e⟩, by rw [eF]; exact (hw b hb).2, no12 b (hf b (G.sub b hb)).1⟩
  have newA : ∀ b ∈ D :: wr, NewAt X c c2 b := fun b hb => by
    rcases List.mem_cons.mp hb with e | e
    · rw [e]; exact newD
    · exact newW b e
  have DF : D ∉ fp := fun z => by
    obtain ⟨o, e⟩ := G.obj _ _ st0 D z
    rw [hDn] at e; cases e
  show codeAny _ _ (.compStart (.ListComp elt [⟨tg, iter, ifs, 0⟩] scope pos) 0 (.ref I) (.ref D) (compEnvC scope (cellsFrom ((c1.s.heap.push lo).objs.size + 1) scope.names (cloFrom X.env.cells scope.names [])) (c1.s.heap.push lo).objs.size X.env)) (compPost (model X.prog X.w) X.A E use Qf (.ref D) (c1.s.heap.push lo).objs.size) { c1.s with heap := pushCells ((c1.s.heap.push lo).push { cls := .type "dict", data := .dict #[] }) scope.names }
  have eh : c1.s.heap.push lo = c2.s.heap := by rw [← hc2]
  have es : ({ c1.s with heap := pushCells ((c1.s.heap.push lo).push { cls := .type "dict", data := .dict #[] }) scope.names } : Shared) = (blkCf scope vs c2).s := by rw [← hc2]; rfl
  rw [es, eh]
  have S3 := blk_start (by rw [et]; exact W.tk1) S2 ok
  have pg := hg c2.s.heap
  have pt := ht c2.s.heap
  have pe := he c2.s.heap
  have C2 := blk_cells S2 ok
  show codeAny _ _ (.compStart (.ListComp elt [⟨tg, iter, ifs, 0⟩] scope pos) 0 (.ref I) (.ref D) (blkEnv X scope c2.s.heap)) (compPost (model X.prog X.w) X.A E use Qf (.ref D) c2.s.heap.objs.size) _
  have kb := blk_keeps (scope := scope) c2.s.heap
  have st3 : St 0 (blkCf scope vs c2).s.heap := G.frame _ _ _ st2 fun b _ o e => kb b o e
  have nmF : ∀ b ∈ fp, ¬ Mine (X.blk own (blkEnv X scope c2.s.heap)) b := fun b hb z => by
    obtain ⟨o, e⟩ := G.obj _ _ st2 b hb
    exact (hf b hb).2 (blk_mine S2 ok e z)
  have nmD : ¬ Mine (X.blk own (blkEnv X scope c2.s.heap)) D := fun z => (newD.off S0 S2 f02.toFrB).nm (blk_mine S2 ok hD2 z)
  have offs : ∀ ck : Cf, ck.F D = none → ¬ Owns ck D → (∀ b ∈ wr, ck.F b = none) → (∀ b ∈ fp, ¬ Owns ck b) → ∀ b ∈ D :: wr, Off (X.blk own (blkEnv X scope c2.s.heap)) ck b := fun ck a1 a2 a3 a4 b hb => by
    refine blk_off S2 ok ((newA b hb).off S0 S2 f02.toFrB) (newA b hb).here ?_ ?_
    · rcases List.mem_cons.mp hb with e | e
      · rw [e]; exact a1
      · exact a3 b e
    · rcases List.mem_cons.mp hb with e | e
      · rw [e]; exact a2
      · exact a4 b (G.sub b e)
  have hideO : ∀ b, ¬ Owns c2 b → ¬ Owns (blkCf scope vs c2) b := fun b n ⟨i, io, ib⟩ => n ⟨i, (isOwn_hide io).2, ib⟩
  have loop : codeAny (model X.prog X.w) X.A (.compLoop (.ListComp elt [⟨tg, iter, ifs, 0⟩] scope pos) 0 (.ref I) (.ref D) (blkEnv X scope c2.s.heap)) (compPost (model X.prog X.w) X.A E use Qf (.ref D) c2.s.heap.objs.size) (blkCf scope vs c2).s := by
    let Inv : Nat → Shared → Prop := fun k s' => ∃ i ck acc ys its n, ck.s = s' ∧ i ≤ ds.length ∧ k = ds.length + 1 - i ∧ SR (X.blk own (blkEnv X scope c2.s.heap)) ck ∧ FrX (X.blk own (blkEnv X scope c2.s.heap)) (D :: wr) (blkCf scope vs c2) ck ∧ St i s'.heap ∧ c1.s.toks ≤ s'.toks ∧
        ck.F D = none ∧ ¬ Owns ck D ∧ (∀ b ∈ wr, ck.F b = none) ∧ (∀ b ∈ fp, ¬ Owns ck b) ∧ ck.s.heap.get? D = some { cls := .type "list", data := .seq (its : List Value).toArray n } ∧ RepL X.w ck.F ck.s.toks its acc ∧ acc.length ≤ i ∧ dLcGo g t de (ds.drop i) ck.ρ = some (ys, ρf) ∧ acc ++ ys = xs
    let EE : Value → Shared → Prop := notedBy (model X.prog X.w) X.A (blkEnv X scope c2.s.heap) fun e s' => compPost (model X.prog X.w) X.A E use Qf (.ref D) c2.s.heap.objs.size (.error e) s'
    refine L2.compLoop_any Inv ?_ (ds.length + 1)
      ⟨0, blkCf scope vs c2, [], xs, [], 0, rfl, Nat.zero_le _, rfl, S3, FrB.refl.x, st3, Nat.le_of_eq et.symm, newD.nf, hideO D newD.no, fun b hb => (newW b hb).nf, fun b hb => hideO b (no12 b (hf b hb).1), kb D _ hD2, .nil, Nat.le_refl _, by rw [List.drop_zero]; show dLcGo g t de ds (hide vs 0 c2.ρ) = _; rw [eρ]; exact hd, rfl⟩
    rintro k s' ⟨i, ck, acc, ys, its, n, rfl, hi', rfl, Sk, fk, st, tkk, DFn, DOn, wF, wO, hDk, rl, lacc, hdk, hcat⟩
    have hoff := offs ck DFn DOn wF wO
    have hoffW : ∀ b ∈ wr, Off (X.blk own (blkEnv X scope c2.s.heap)) ck b := fun b hb => hoff b (List.mem_cons_of_mem _ hb)
    have dW : D ∉ wr := fun z => DF (G.sub D z)
    by_cases hlt : i < ds.length
    · rw [List.drop_eq_getElem_cons hlt] at hdk
      refine wpAny_mono (G.goes X.A i ck.s (fun v s₂ => wpAny (model X.prog X.w) X.A (assign tg (blkEnv X scope c2.s.heap) v) (fun _ s₃ =>
          wpAny (model X.prog X.w) X.A (forIn ifs true fun c r => if r = true then do let ok ← isTrue c (blkEnv X scope c2.s.heap) (eval c (blkEnv X scope c2.s.heap)); pure (ForInStep.yield ok) else pure (ForInStep.yield r)) (fun ok s₃ =>
            if ok = true then wpAny (model X.prog X.w) X.A (eval elt (blkEnv X scope c2.s.heap)) (fun x s₄ =>
              wpAny (model X.prog X.w) X.A (call (.builtin "list.append") [.ref D, x]) (fun _ s₅ => ∃ m, m < ds.length + 1 - i ∧ Inv m s₅) EE s₄) EE s₃
            else ∃ m, m < ds.length + 1 - i ∧ Inv m s₃) EE s₃) EE s₂) EE S1.ok.hd hlt tkk st ?_) ?_ (fun _ _ e => e)
      · intro v h' tk ⟨d, hdk', y⟩ st' kk htk
        have ed : ds[i] = d := by
          have : ds[i]? = some ds[i] := by simp [hlt]
          rw [this] at hdk'
          exact Option.some.inj hdk'
        rw [ed] at hdk
        obtain ⟨S4, f4⟩ := Sk.touch (wr := wr) hoffW (s' := { ck.s with heap := h', toks := tk }) kk htk
        have f4 : FrX (X.blk own (blkEnv X scope c2.s.heap)) (D :: wr) ck { ck with s := { ck.s with heap := h', toks := tk } } := ⟨f4.fm, f4.tk, fun b o w => f4.hm b o (fun z => w (List.mem_cons_of_mem _ z)), fun b o w => f4.st b o (fun z => w (List.mem_cons_of_mem _ z)), f4.fr, f4.pr, f4.ka⟩
        have sF : Sub c1.F ck.F := by
          have := fk.fm
          have e : (blkCf scope vs c2).F = c1.F := eF
          rw [e] at this
          exact this
        have y' : Yld X.w ck.F tup d v { ck.s with heap := h', toks := tk } := by
          unfold Yld at y ⊢
          by_cases z : tup = true
          · rw [if_pos z] at y ⊢
            obtain ⟨T, vals, ds', e1, e2, e3, e4⟩ := y
            exact ⟨T, vals, ds', e1, e2, e3.mono sF (Nat.le_refl _), e4⟩
          · rw [if_neg z] at y ⊢
            exact y.mono sF (Nat.le_refl _)
        have hdk : (match g d ck.ρ with
          | some (.ok _ ρ1) => (match t ρ1 with
            | some (.ok b ρ2) => if b = true then (match de ρ2 with
              | some (.ok r ρ3) => if r.isWeak = true then none else (dLcGo g t de (ds.drop (i + 1)) ρ3).map fun q => (r.d :: q.1, q.2)
              | _ => none) else dLcGo g t de (ds.drop (i + 1)) ρ2
            | _ => none)
          | _ => none) = some (ys, ρf) := hdk
        have hD4 : h'.get? D = some { cls := .type "list", data := .seq its.toArray n } := kk D _ dW hDk
        -- what stays
        have stay : ∀ {ca cb : Cf}, FrB (X.blk own (blkEnv X scope c2.s.heap)) ca cb → ca.F D = none → ¬ Owns ca D → (∀ b ∈ wr, ca.F b = none) → (∀ b ∈ fp, ¬ Owns ca b) → St (i + 1) ca.s.heap → (∀ o, ca.s.heap.get? D = some o → cb.s.heap.get? D = some o ∧ cb.F D = none ∧ ¬ Owns cb D) ∧ (∀ b ∈ wr, cb.F b = none) ∧ (∀ b ∈ fp, ¬ Owns cb b) ∧ St (i + 1) cb.s.heap := fun {ca cb} fab a1 a2 a3 a4 a5 => by
          have q : ∀ b ∈ fp, ∃ o, ca.s.heap.get? b = some o := G.obj _ _ a5
          refine ⟨fun o e => ?_, fun b hb => ?_, fun b hb => ?_, G.frame _ _ _ a5 fun b hb o e => (fab.st b o e (a4 b hb) (nmF b hb)).1⟩
          · obtain ⟨h1, h2, h3⟩ := fab.st D o e a2 nmD
            exact ⟨h1, h3 a1, h2⟩
          · obtain ⟨o, e⟩ := q b (G.sub b hb)
            exact (fab.st b o e (a4 b (G.sub b hb)) (nmF b (G.sub b hb))).2.2 (a3 b hb)
          · obtain ⟨o, e⟩ := q b hb
            exact (fab.st b o e (a4 b hb) (nmF b hb)).2.1
        cases e1 : g d ck.ρ with
        | none => rw [e1] at hdk; cases hdk
        | some o1 =>
          cases o1 with
          | ex _ _ => rw [e1] at hdk; cases hdk
          | ok u ρ1 =>
            simp only [e1] at hdk
            refine xTrue (thnF (pg.run { ck with s := { ck.s with heap := h', toks := tk } } d v _ S4 y' e1 (fun _ _ z => by cases z)) fun _ s5 ⟨c5, q5, eo5, f5, S5⟩ => ?_)
            subst q5
            cases eo5
            obtain ⟨D5, w5, o5, st5⟩ := stay f5 DFn DOn wF wO st'
            obtain ⟨hD5, DF5, DO5⟩ := D5 _ hD4
            cases e2 : t c5.ρ with
            | none => rw [e2] at hdk; cases hdk
            | some o2 =>
              cases o2 with
              | ex _ _ => rw [e2] at hdk; cases hdk
              | ok b ρ2 =>
                simp only [e2] at hdk
                refine xTrue (thnF (pt.run c5 _ S5 e2 trivial) fun b' s6 ⟨c6, q6, eo6, f6, S6⟩ => ?_)
                subst q6
                cases eo6
                obtain ⟨D6, w6, o6, st6⟩ := stay f6.toFrB DF5 DO5 w5 o5 st5
                obtain ⟨hD6, DF6, DO6⟩ := D6 _ hD5
                have f46 := (fk.trans f4).trans ((f5.trans f6.toFrB).x)
                have tk6 : c1.s.toks ≤ c6.s.toks := Nat.le_trans tkk (Nat.le_trans htk (Nat.le_trans f5.tk f6.tk))
                have fm6 : Sub ck.F c6.F := f5.fm.trans f6.fm
                have tm6 : ck.s.toks ≤ c6.s.toks := Nat.le_trans htk (Nat.le_trans f5.tk f6.tk)
                cases b with
                | false =>
                  simp only [Bool.false_eq_true, if_false] at hdk ⊢
                  exact ⟨ds.length + 1 - (i + 1), by omega, i + 1, c6, acc, ys, its, n, rfl, hlt, rfl, S6, f46, st6, tk6, DF6, DO6, w6, o6, hD6, rl.mono fm6 tm6, by omega, hdk, hcat⟩
                | true =>
                  simp only [if_true] at hdk ⊢
                  cases e3 : de c6.ρ with
                  | none => rw [e3] at hdk; cases hdk
                  | some o3 =>
                    cases o3 with
                    | ex _ _ => rw [e3] at hdk; cases hdk
                    | ok r ρ3 =>
                      simp only [e3] at hdk
                      by_cases wk : r.isWeak = true
                      · rw [if_pos wk] at hdk; cases hdk
                      · rw [if_neg wk] at hdk
                        obtain ⟨⟨ys', ρ'⟩, hrec, eq⟩ := Option.map_eq_some_iff.mp hdk
                        cases eq
                        refine xTrue (thnF (pe.run c6 _ S6 e3 trivial) fun x s7 ⟨r', c7, q7, eo7, f7, S7, ro⟩ => ?_)
                        subst q7
                        cases eo7
                        obtain ⟨F8, f8, S8, _, rx, sub8⟩ := ro.froze f7 S7
                        have rx := rx (fun s q => wk (by rw [q]; rfl))
                        obtain ⟨D7, w7, o7, st7⟩ := stay f8.toFrB DF6 DO6 w6 o6 st6
                        obtain ⟨hD7, DF7, DO7⟩ := D7 _ hD6
                        have hD7 : c7.s.heap.get? D = some { cls := .type "list", data := .seq its.toArray n } := hD7
                        have il : its.length = acc.length := rl.length
                        have zz : its.toArray.size ≤ sizeLine := by rw [List.size_toArray, il, sizeLine_eq]; omega
                        refine append_at (hsz := zz) hD7 fun h8 sb8 hD8 => ?_
                        have D8w : ∀ b ∈ [D], Off (X.blk own (blkEnv X scope c2.s.heap)) { c7 with F := F8 } b := fun b hb => by
                          have e : b = D := by simpa using hb
                          rw [e]
                          exact offs { c7 with F := F8 } DF7 DO7 w7 o7 D (List.mem_cons_self)
                        obtain ⟨S9, f9⟩ := S8.touch (wr := [D]) D8w (s' := { c7.s with heap := h8 }) (fun b o hb e => (sb8.2 b (fun z => hb (by simp [z]))).trans e) (Nat.le_refl _)
                        have f9 : FrX (X.blk own (blkEnv X scope c2.s.heap)) (D :: wr) { c7 with F := F8 } { c7 with F := F8, s := { c7.s with heap := h8 } } := by
                          have nw : ∀ b, b ∉ D :: wr → b ∉ [D] := fun b w z => w (by
                            have e : b = D := by simpa using z
                            rw [e]; exact List.mem_cons_self)
                          exact ⟨f9.fm, f9.tk, fun b o w => f9.hm b o (nw b w), fun b o w => f9.st b o (nw b w), f9.fr, f9.pr, f9.ka⟩
                        have tm7 : c6.s.toks ≤ c7.s.toks := f8.tk
                        refine ⟨ds.length + 1 - (i + 1), by omega, i + 1, { c7 with F := F8, s := { c7.s with heap := h8 } }, acc ++ [r.d], ys', its ++ [x], n + 1, rfl, hlt, rfl, S9, (f46.trans f8.toFrB.x).trans f9, ?_, Nat.le_trans tk6 tm7, DF7, DO7, w7, o7, ?_, ?_, ?_, hrec, ?_⟩
                        · exact G.frame _ _ _ st7 fun b hb o e => (sb8.2 b (fun z => DF (z ▸ hb))).trans e
                        · show h8.get? D = _
                          rw [hD8]
                          simp
                        · exact ((rl.mono fm6 tm6).mono f8.fm tm7).append (.cons rx .nil)
                        · rw [List.length_append]; simp; omega
                        · rw [List.append_assoc]; exact hcat
      · rintro r s₁ ⟨v, rfl, h⟩
        exact h
    · have ei : i = ds.length := by omega
      subst ei
      rw [List.drop_length] at hdk
      cases hdk
      rw [List.append_nil] at hcat
      subst hcat
      refine wpAny_mono (G.stops X.A ck.s (fun s₂ => ∃ h' tk, s₂ = { ck.s with heap := h', toks := tk } ∧ (∀ b o, b ∉ wr → ck.s.heap.get? b = some o → h'.get? b = some o) ∧ ck.s.toks ≤ tk) _ S1.ok.hd st fun h' tk kk ht => ⟨h', tk, rfl, kk, ht⟩) ?_ (fun _ _ e => e)
      rintro r s₁ ⟨rfl, h', tk, rfl, kk, htk⟩
      obtain ⟨S4, f4⟩ := Sk.touch (wr := wr) hoffW (s' := { ck.s with heap := h', toks := tk }) kk htk
      have f4 : FrX (X.blk own (blkEnv X scope c2.s.heap)) (D :: wr) ck { ck with s := { ck.s with heap := h', toks := tk } } := ⟨f4.fm, f4.tk, fun b o w => f4.hm b o (fun z => w (List.mem_cons_of_mem _ z)), fun b o w => f4.st b o (fun z => w (List.mem_cons_of_mem _ z)), f4.fr, f4.pr, f4.ka⟩
      have hD4 : h'.get? D = some { cls := .type "list", data := .seq its.toArray n } := kk D _ dW hDk
      obtain ⟨m, hm, _⟩ := S4.loc
      have hm : h'.Ns c2.s.heap.objs.size m := hm
      have offA : ∀ b ∈ D :: wr, Off X c2 b := fun b hb => (newA b hb).off S0 S2 f02.toFrB
      obtain ⟨c3, g1, g2, g3, g4, S5, f5, no5⟩ := blk_end S2 ok (fk.trans f4) S4 offA (h' := h') (Heap.SameBut.refl ..)
      have nC : c.s.heap.get? c2.s.heap.objs.size = none := f02.toFrB.back S2.new
      have g1 : c3.s = { ck.s with heap := h', toks := tk } := g1
      have hm : c3.s.heap.Ns c2.s.heap.objs.size m := by rw [g1]; exact hm
      rw [← g1]
      have hD5 : c3.s.heap.get? D = some { cls := .type "list", data := .seq its.toArray n } := by rw [g1]; exact hD4
      have g4 : c3.F = ck.F := g4
      have il : its.length = acc.length := rl.length
      refine hq c3 D c2.s.heap.objs.size m (by rw [g2, eρ]) (by rw [g3, eα]) (FrX.close f02.toFrB f5 fun x hx => (newA x hx).old) S5 ⟨D, rfl, newD.old, ⟨by rw [g4]; exact DFn, ?_, S0.nbase newD.old, rfl, _, hD5, ?_⟩, ?_, (newD.off S0 S2 f02.toFrB).nm⟩ hm ⟨nC, ?_, ?_, ?_⟩ (Nat.ne_of_gt (Heap.lt_size hD2))
      · rw [← hD]; exact S1.nsys
      · refine .lst (by rw [List.size_toArray, il, sizeLine_eq]; omega) ?_
        rw [List.toList_toArray, g4, g1]
        exact rl.mono (Sub.refl _) htk
      · exact no5 D newD.no DOn
      · obtain ⟨o, es, ep, q, _⟩ := hm
        exact ⟨o, q⟩
      · rw [g4]; exact Sk.mine _ (.inl rfl)
      · refine no5 _ (S2.nown S2.new) fun w => ?_
        exact (Sk.owned w).2 (.inl rfl)
  exact codeAny_compStart_list loop (G.self X.A 0 _ _ _ S1.ok.hd st3 loop)
end
end GB
/-! List comprehensions of one clause: as a value, stored in a name. -/
namespace GB
open PySem PySem.Spec PyProof.Rows
open L2 (Key keyH keyIs mixKind Mod Look Vis Loc frs thn thnF cloFrom closure_ok newEnv_comp)
section
variable {X : Cx} {c c0 c1 c2 c3 : Cf} {scope : Scope} {elt tg iter : Expr} {ifs : List Expr} {pos pos' : Pos} {tup : Bool} {p : DA} {g : D → Rho → Option (O Unit)} {t : DT} {de : DE}
theorem PI.go {own : Bool} {tg e : Expr} {p : DA} {β : Type} {k : List D → Rho → Option (O β)} {o : O β} {Q : Value → Shared → Prop} (h : PI X own tg e p) (S : SR X c) (hd : obind (p c.ρ) k = some o) (kx : KX X c o)
    (hq : ∀ ds c1 I, Fr X c c1 → SR X c1 → Walk X c c1 own tg I ds → k ds c1.ρ = some o → Q (.ref I) c1.s) : wpAny (model X.prog X.w) X.A (eval e X.env) (fun xv s1 => wpAny (model X.prog X.w) X.A (pyIter xv) Q X.xe s1) X.xe c.s := by
  rcases obind_some hd with ⟨r, ρ1, e1, hd1⟩ | ⟨x, ρ1, e1, rfl⟩
  · refine thn (h.run c _ S e1 trivial) fun v s1 hv => thn hv fun it s2 ⟨ds, c1, I, ei, q, eo, f, S1, W⟩ => ?_
    cases eo
    subst q ei
    exact hq _ c1 I f S1 W hd1
  · refine thn (h.run c _ S e1 kx) fun v s1 hv => thn hv fun it s2 ⟨ds, c1, I, ei, q, eo, f, S1, W⟩ => ?_
    cases eo
/-- [e for .. in p if t] -/
def lcAll (vs : List Nat) (g : D → Rho → Option (O Unit)) (t : DT) (e : DE) (ds : List D) (ρ1 : Rho) : Option (List D × Rho) :=
  if ds.length ≤ 16777216 then (dLcGo g t e ds (hide vs 0 ρ1)).map fun q => (q.1, unhide vs 0 ρ1 q.2) else none
theorem lcAll_some {vs : List Nat} {ds xs : List D} {ρ1 ρ2 : Rho} (h : lcAll vs g t de ds ρ1 = some (xs, ρ2)) : ds.length ≤ 16777216 ∧ ∃ ρf, dLcGo g t de ds (hide vs 0 ρ1) = some (xs, ρf) ∧ ρ2 = unhide vs 0 ρ1 ρf := by
  unfold lcAll at h
  by_cases z : ds.length ≤ 16777216
  · rw [if_pos z] at h
    obtain ⟨⟨a, b⟩, h1, h2⟩ := Option.map_eq_some_iff.mp h
    cases h2
    exact ⟨z, b, h1, rfl⟩
  · rw [if_neg z] at h; cases h
def dLc (vs : List Nat) (p : DA) (g : D → Rho → Option (O Unit)) (t : DT) (e : DE) : DE := fun ρ => obind (p ρ) fun ds ρ1 => (lcAll vs g t e ds ρ1).map fun q => .ok (.fresh (.lst q.1)) q.2
theorem pd_lc (vs own : List Nat) (hi : PI X tup tg iter p) (ok : Blk X.N X.env.scope scope vs own)
    (hg : ∀ h, PGv (X.blk own (blkEnv X scope h)) tup tg g) (ht : ∀ h, PTs (X.blk own (blkEnv X scope h)) ifs t) (he : ∀ h, PD (X.blk own (blkEnv X scope h)) elt de) (hs : ∀ x, foldedSetIterable iter X.env x = pure x := by intro _; rfl) :
    PD X (.ListComp elt [⟨tg, iter, ifs, 0⟩] scope pos) (dLc vs p g t de) := by
  refine ⟨fun c o S hd kx => ?_⟩
  rw [eval_ListComp]
  refine wpAny_comprehension_free (use := none) rfl hs (closure_ok (blk_free S ok)) ok.kind (fun y hy e => by rw [ok.uniq y hy, e]) (hi.go S hd kx fun ds c1 I f S1 W hk => ?_)
  obtain ⟨⟨xs, ρ2⟩, h1, h2⟩ := Option.map_eq_some_iff.mp hk
  obtain ⟨hz, ρf, h3, h4⟩ := lcAll_some h1
  cases h2
  refine lc_core S f S1 W ok hg ht he h3 hz rfl fun c3 D C m e1 e2 f3 S3 ro hn nC CD => ⟨m, hn, fun h' sb => ?_⟩
  have offC : ∀ b ∈ [C], Off X c3 b := fun b hb => by
    have e : b = C := by simpa using hb
    rw [e]; exact nC.off S S3 f3
  obtain ⟨S4, f4⟩ := S3.touch (wr := [C]) offC (s' := { c3.s with heap := h' }) (fun b o hb e => (sb.2 b (fun z => hb (by simp [z]))).trans e) (Nat.le_refl _)
  refine ⟨.fresh (.lst xs), { c3 with s := { c3.s with heap := h' } }, rfl, by show O.ok _ ρ2 = O.ok _ c3.ρ; rw [e1, h4], ⟨FrX.close f3 f4 fun x hx => ?_, ?_⟩, S4, ?_⟩
  · have e : x = C := by simpa using hx
    rw [e]; exact nC.old
  · show c3.α = c.α
    rw [e2]; exact f.al
  · obtain ⟨a, ea, hn0, oa, no, nm⟩ := ro
    cases ea
    exact ⟨D, rfl, hn0, oa.keep (Sub.refl _) (Nat.le_refl _) oa.nf fun o q => (sb.2 D (Ne.symm CD)).trans q, no, nm⟩
/-- name = [e for .. in p if t] -/
def sLc (i : Nat) (vs : List Nat) (p : DA) (g : D → Rho → Option (O Unit)) (t : DT) (e : DE) : DS := fun ρ => ebind (p ρ) fun ds ρ1 => (lcAll vs g t e ds ρ1).map fun q => .nx (q.2.set i (.own (.lst q.1)))
theorem ps_lc (i : Nat) (vs own : List Nat) {y : Str} {py spos : Pos} (hi : PI X tup tg iter p) (ok : Blk X.N X.env.scope scope vs own)
    (hg : ∀ h, PGv (X.blk own (blkEnv X scope h)) tup tg g) (ht : ∀ h, PTs (X.blk own (blkEnv X scope h)) ifs t) (he : ∀ h, PD (X.blk own (blkEnv X scope h)) elt de)
    (hsw : swapsWith (.ListComp elt [⟨tg, iter, ifs, 0⟩] scope pos) (some (.Name y py)) spos.line X.env = pure true) (hN : X.N[i]? = some y := by rfl) (hy : Loc X.env.scope y := by first | exact Or.inl rfl | exact Or.inr rfl) (has : X.asg i = true := by rfl) (hs : ∀ x, foldedSetIterable iter X.env x = pure x := by intro _; rfl) :
    PS X (.Assign [.Name y py] (.ListComp elt [⟨tg, iter, ifs, 0⟩] scope pos) spos) (sLc i vs p g t de) := by
  refine ⟨fun c o S hd kx => ?_⟩
  rw [exec_Assign_Name_used _ _ _ _ hsw]
  refine wpAny_bind (wpAny_standAt (wpAny_bind ?_))
  show wpAny _ X.A (do let _ ← comprehension (.ListComp elt [⟨tg, iter, ifs, 0⟩] scope pos) scope X.env (firstIterPos [⟨tg, iter, ifs, 0⟩] pos) (newList []) false (eval iter X.env) (some (assign (.Name y py) X.env))) _ _ c.s
  refine wpAny_bind (thn (wpAny_comprehension_free (Q := fun _ s' => PostS X c o .next s') (use := some (assign (.Name y py) X.env)) rfl hs (closure_ok (blk_free S ok)) ok.kind (fun y hy e => by rw [ok.uniq y hy, e]) (hi.goS S hd kx fun ds c1 I f S1 W hk => ?_)) fun _ s' hq => wpAny_pure (wpAny_pure hq))
  obtain ⟨⟨xs, ρ2⟩, h1, h2⟩ := Option.map_eq_some_iff.mp hk
  obtain ⟨hz, ρf, h3, h4⟩ := lcAll_some h1
  cases h2
  refine lc_core S f S1 W ok hg ht he h3 hz rfl fun c3 D C m e1 e2 f3 S3 ro hn nC CD => ?_
  show wpAny _ _ (assign (.Name y py) X.env (.ref D)) _ _ _
  refine wpAny_assign_Name (thn (SR.store S f3 S3 ro hN hy has) fun _ s4 ⟨c4, q4, e4, f4, S4, st4⟩ => ?_)
  subst q4
  have offC3 := nC.off S S3 f3
  obtain ⟨oC, hC⟩ := nC.here
  obtain ⟨hC4, noC, nfC⟩ := st4.st C oC hC nC.no offC3.nm fun d _ e => by injection e with e; exact CD e.symm
  have newC4 : NewAt X c c4 C := ⟨nC.old, ⟨_, hC4⟩, nfC nC.nf, noC⟩
  have hn4 : c4.s.heap.Ns C m := by
    obtain ⟨o', es, ep, q, r⟩ := hn
    rw [hC] at q; cases q
    exact ⟨_, es, ep, hC4, r⟩
  refine ⟨m, hn4, fun h' sb => ?_⟩
  have offC : ∀ b ∈ [C], Off X c4 b := fun b hb => by
    have e : b = C := by simpa using hb
    rw [e]; exact newC4.off S S4 f4
  obtain ⟨S5, f5⟩ := S4.touch (wr := [C]) offC (s' := { c4.s with heap := h' }) (fun b o hb e => (sb.2 b (fun z => hb (by simp [z]))).trans e) (Nat.le_refl _)
  refine ⟨{ c4 with s := { c4.s with heap := h' } }, rfl, FrX.close f4 f5 fun x hx => ?_, S5, ?_⟩
  · have e : x = C := by simpa using hx
    rw [e]; exact nC.old
  · show OS.nx _ = OS.nx c4.ρ
    rw [e4, e1, h4]
    rfl
end
end GB
/-! What a def promises; a def keeps its promise by its body. -/
namespace GB
open PySem PySem.Spec PyProof.Rows
open L2 (Key keyH keyIs mixKind Mod Look Vis Loc frs thn FnScope bindL_get bindC_get cell_has)
structure Room (k : Nat) (A : Around) : Prop where
  hd : A.handled = none
  dp : A.depth + 3 * k + 5 < recursionLimit
  un : A.units + 16 * k + 200 < cLine
  gs : A.guards = some []
theorem Room.mono {j k : Nat} {A : Around} (r : Room k A) (h : j ≤ k) : Room j A := ⟨r.hd, by have := r.dp; omega, by have := r.un; omega, r.gs⟩
theorem Room.deeper {k : Nat} {A : Around} (r : Room (k + 1) A) (env : Env) : Room k (A.deeper env) :=
  ⟨r.hd, by have := r.dp; show A.depth + 1 + 3 * k + 5 < _; omega, by have := r.un; show A.units + 3 + 16 * k + 200 < _; omega, r.gs⟩
/-- the state at a call -/
structure Env0 (tz : Nat) (P : Program) (w : World) (K : PySem.W.Frag) (mg : Str → Option Value) (base : Heap) (A : Around) (outer : List Env) (s : Shared) (F : FH) : Prop where
  frames : A.frames = some outer
  mod : Mod K mg base
  bk : ∀ b o, base.get? b = some o → s.heap.get? b = some o
  funs : s.heap.FunFrames base outer
  frf : ∀ b ∈ frs outer, F b = none ∧ base.get? b = none ∧ ∃ o, s.heap.get? b = some o
  sub : ∀ b o, F b = some o → s.heap.get? b = some o
  bare : AllBare s.gens
  tk : tz ≤ s.toks
/-- the argument that is passed as the list or dict itself -/
def IsRef (ks : List Bool) (us : List Value) (b : Addr) : Prop := ∃ i : Nat, ks[i]? = some true ∧ us[i]? = some (Value.ref b)
structure ArgsOk (w : World) (base : Heap) (F : FH) (s : Shared) (outer : List Env) (ks : List Bool) (us : List Value) (ds : List D) : Prop where
  l1 : us.length = ks.length
  l2 : ds.length = ks.length
  val : ∀ (i : Nat) u d, ks[i]? = some false → us[i]? = some u → ds[i]? = some d → Rep w F s.toks u d
  ref : ∀ (i : Nat) u d, ks[i]? = some true → us[i]? = some u → ds[i]? = some d → ∃ a, u = .ref a ∧ OwnAt w base F s a d ∧ a ∉ frs outer
  inj : ∀ (i j : Nat) (a : Addr), ks[i]? = some true → ks[j]? = some true → us[i]? = some (.ref a) → us[j]? = some (.ref a) → i = j
/-- a call's end -/
structure CallEnd (w : World) (base : Heap) (F : FH) (s : Shared) (outer : List Env) (ks : List Bool) (us : List Value) (ds' : List D) (r : Res) (u : Value) (s' : Shared) (F' : FH) : Prop where
  os : s'.os = s.os
  bare : AllBare s'.gens
  fm : Sub F F'
  sub : ∀ b o, F' b = some o → s'.heap.get? b = some o
  tk : s.toks ≤ s'.toks
  hm : ∀ b o, s.heap.get? b = some o → ∃ o', s'.heap.get? b = some o'
  st : ∀ b o, s.heap.get? b = some o → ¬ IsRef ks us b → b ∉ frs outer → s'.heap.get? b = some o ∧ (F b = none → F' b = none)
  fr : ∀ b o, b ∈ frs outer → s.heap.get? b = some o → (∃ sl, s'.heap.get? b = some { o with slots := sl }) ∧ F' b = none
  refs : ∀ (i : Nat) (a : Addr) d', ks[i]? = some true → us[i]? = some (.ref a) → ds'[i]? = some d' → OwnAt w base F' s' a d'
  len : ds'.length = ks.length
  res : match r with
    | .val d => Rep w F' s'.toks u d
    | .weak x => ∃ t, u = .str (tx x) t ∧ x.length ≤ sizeLine
    | .fresh d => ∃ a, u = .ref a ∧ s.heap.get? a = none ∧ OwnAt w base F' s' a d
abbrev DF := List D → Option (Res × List D)
structure FnOk (tz : Nat) (P : Program) (w : World) (K : PySem.W.Frag) (mg : Str → Option Value) (base : Heap) (k : Nat) (f : Addr) (fd : FuncData) (ps : List Str) (ks : List Bool) (sp : DF) : Prop where
  lk : ks.length = ps.length
  run : ∀ (A : Around) (outer : List Env) (s : Shared) (F : FH) (args : Args) (us : List Value) (ds ds' : List D) (r : Res), Room k A → Env0 tz P w K mg base A outer s F → BindsTo s fd args (ps.zip us) → ArgsOk w base F s outer ks us ds → sp ds = some (r, ds') →
    codeAny (model P w) A (.call (.ref f) args) (fun r' s' => ∃ u, r' = .ok (.ret u) ∧ ∃ F', CallEnd w base F s outer ks us ds' r u s' F') s
theorem FnOk.mono {tz : Nat} {P : Program} {w : World} {K : PySem.W.Frag} {mg : Str → Option Value} {base : Heap} {j k : Nat} {f : Addr} {fd : FuncData} {ps : List Str} {ks : List Bool} {sp : DF} (F : FnOk tz P w K mg base j f fd ps ks sp) (h : j ≤ k) : FnOk tz P w K mg base k f fd ps ks sp :=
  ⟨F.lk, fun A outer s FF args us ds ds' r hr => F.run A outer s FF args us ds ds' r (hr.mono h)⟩
/-! ### the body -/
def startR : List Bool → List D → Rho
  | k :: ks, d :: ds => (if k = true then .par d else .val d) :: startR ks ds
  | _, _ => []
def endR : List Bool → List D → Rho → Option (List D)
  | true :: ks, _ :: ds, .par d' :: ρ => (endR ks ds ρ).map (d' :: ·)
  | false :: ks, d :: ds, _ :: ρ => (endR ks ds ρ).map (d :: ·)
  | [], [], _ => some []
  | _, _, _ => none
/-- a body as a function on data; n names -/
def fnD (n : Nat) (ks : List Bool) (t : DS) : DF := fun ds => if ds.length = ks.length then (match t (startR ks ds ++ List.replicate (n - ks.length) .un) with
  | some (.ret r ρ) => (endR ks ds ρ).map fun q => (r, q)
  | some (.nx ρ) => (endR ks ds ρ).map fun q => (.val .non, q)
  | _ => none) else none
theorem startR_get : ∀ {ks : List Bool} {ds : List D} {i : Nat}, ds.length = ks.length → ∀ {s : Slot}, (startR ks ds)[i]? = some s → ∃ k d, ks[i]? = some k ∧ ds[i]? = some d ∧ s = if k = true then .par d else .val d
  | [], [], i, _, s, h => by simp [startR] at h
  | k :: ks, d :: ds, 0, _, s, h => by
    simp [startR] at h
    exact ⟨k, d, rfl, rfl, h.symm⟩
  | k :: ks, d :: ds, i + 1, hl, s, h => by
    obtain ⟨k', d', h1, h2, h3⟩ := startR_get (ks := ks) (ds := ds) (i := i) (by simpa using hl) (by simpa [startR] using h)
    exact ⟨k', d', by simpa using h1, by simpa using h2, h3⟩
theorem startR_length : ∀ {ks : List Bool} {ds : List D}, ds.length = ks.length → (startR ks ds).length = ks.length
  | [], [], _ => rfl
  | k :: ks, d :: ds, h => by simp [startR, startR_length (ks := ks) (ds := ds) (by simpa using h)]
theorem endR_get : ∀ {ks : List Bool} {ds ds' : List D} {ρ : Rho}, endR ks ds ρ = some ds' → ds'.length = ks.length ∧ ∀ (i : Nat) d', ks[i]? = some true → ds'[i]? = some d' → ρ[i]? = some (.par d')
  | [], [], ds', ρ, h => by
    simp [endR] at h; subst h
    exact ⟨rfl, fun i d' h => by simp at h⟩
  | true :: ks, d :: ds, ds', .par d1 :: ρ, h => by
    obtain ⟨q, h1, rfl⟩ := Option.map_eq_some_iff.mp (show (endR ks ds ρ).map (d1 :: ·) = some ds' from h)
    obtain ⟨a, b⟩ := endR_get h1
    refine ⟨by simp [a], fun i d' e1 e2 => ?_⟩
    cases i with
    | zero => simp at e2; subst e2; rfl
    | succ i => simpa using b i d' (by simpa using e1) (by simpa using e2)
  | false :: ks, d :: ds, ds', s :: ρ, h => by
    obtain ⟨q, h1, rfl⟩ := Option.map_eq_some_iff.mp (show (endR ks ds ρ).map (d :: ·) = some ds' from h)
    obtain ⟨a, b⟩ := endR_get h1
    refine ⟨by simp [a], fun i d' e1 e2 => ?_⟩
    cases i with
    | zero => simp at e1
    | succ i => simpa using b i d' (by simpa using e1) (by simpa using e2)
  | [], _ :: _, _, _, h => by simp [endR] at h
  | true :: _, [], _, _, h => by simp [endR] at h
  | false :: _, [], _, _, h => by simp [endR] at h
  | true :: _, _ :: _, _, [], h => by simp [endR] at h
  | false :: _, _ :: _, _, [], h => by simp [endR] at h
  | true :: _, _ :: _, _, .un :: _, h => by simp [endR] at h
  | true :: _, _ :: _, _, .val _ :: _, h => by simp [endR] at h
  | true :: _, _ :: _, _, .own _ :: _, h => by simp [endR] at h
/-- a def's body at its entry -/
def cxOf (tz : Nat) (P : Program) (w : World) (K : PySem.W.Frag) (mg : Str → Option Value) (base : Heap) (N : List Str) (qual : Str) (scope : Scope) (f : Addr) (cd : Value) (A : Around) (outer : List Env) (s : Shared) : Cx where
  prog := P
  w := w
  K := K
  mg := mg
  base := base
  A := A.deeper (envOfC qual scope s.heap.objs.size f cd)
  N := N
  asg := fun _ => true
  tz := tz
  env := envOfC qual scope s.heap.objs.size f cd
  outer := outer
  stack := envOfC qual scope s.heap.objs.size f cd :: outer
  old := fun b => ∃ o, s.heap.get? b = some o
  myc := fun a => ∃ y, (cellsFrom (s.heap.objs.size + 1) scope.names []).lookup y = some a
  os0 := s.os
  xe := fun _ _ => False
def startA (us : List Value) (i : Nat) : Addr := match us[i]? with
  | some (.ref a) => a
  | _ => 0
theorem sr_start {tz : Nat} {P : Program} {w : World} {K : PySem.W.Frag} {mg : Str → Option Value} {base : Heap} {N ps : List Str} {qual : Str} {scope : Scope} {f : Addr} {cd : Value} {A : Around} {outer : List Env} {s s1 : Shared} {F : FH} {us : List Value} {ks : List Bool} {ds : List D}
    (S : FnScope N ps scope) (hk : ks.length = ps.length) (hr : Room 1 A) (e0 : Env0 tz P w K mg base A outer s F) (ar : ArgsOk w base F s outer ks us ds) (ht : s.toks ≤ s1.toks)
    (x : InCallC s s.heap.objs.size (bindL (envOfC qual scope s.heap.objs.size f cd).kindOf (ps.zip us) fun _ => none) (cellsFrom (s.heap.objs.size + 1) scope.names []) (bindC (envOfC qual scope s.heap.objs.size f cd).kindOf (ps.zip us) fun _ => none) s1) :
    SR (cxOf tz P w K mg base N qual scope f cd A outer s) { F := F, α := startA us, ρ := startR ks ds ++ List.replicate (N.length - ks.length) .un, s := s1 } := by
  have hpl : ps.length ≤ N.length := by have := congrArg List.length S.pre; rw [List.length_take] at this; omega
  obtain ⟨hp1, tk, rfl, kp⟩ := x.done
  have nL : s.heap.get? s.heap.objs.size = none := Heap.get?_none_of_le (Nat.le_refl _)
  have fnone : ∀ b, s.heap.get? b = none → F b = none := fun b h => by
    cases q : F b with
    | none => rfl
    | some o => have := e0.sub b o q; rw [h] at this; cases this
  have newC : ∀ y a, (cellsFrom (s.heap.objs.size + 1) scope.names []).lookup y = some a → s.heap.objs.size < a := fun y a h => x.above y a (PySem.mem_of_lookup h)
  have nCell : ∀ y a, (cellsFrom (s.heap.objs.size + 1) scope.names []).lookup y = some a → s.heap.get? a = none := fun y a h => Heap.get?_none_of_le (Nat.le_of_lt (newC y a h))
  have nMine : ∀ b o, s.heap.get? b = some o → b ∉ frs outer → ¬ Mine (cxOf tz P w K mg base N qual scope f cd A outer s) b := fun b o e n z => by
    rcases z with z | ⟨y, z⟩ | z
    · have z : b = s.heap.objs.size := z
      rw [z, nL] at e; cases e
    · rw [nCell y b z] at e; cases e
    · have z : b ∈ s.heap.objs.size :: frs outer := z
      rcases List.mem_cons.mp z with z | z
      · rw [z, nL] at e; cases e
      · exact n z
  have slot : ∀ (i : Nat) sl, (startR ks ds ++ List.replicate (N.length - ks.length) .un)[i]? = some sl → (∃ k d, ks[i]? = some k ∧ ds[i]? = some d ∧ sl = if k = true then .par d else .val d) ∨ sl = .un := fun i sl h => by
    by_cases hi : i < (startR ks ds).length
    · rw [List.getElem?_append_left hi] at h
      exact .inl (startR_get ar.l2 h)
    · rw [List.getElem?_append_right (by omega), List.getElem?_replicate] at h
      split at h
      · cases h; exact .inr rfl
      · cases h
  have isO : ∀ i, isOwn (startR ks ds ++ List.replicate (N.length - ks.length) .un) i → ∃ a d, ks[i]? = some true ∧ us[i]? = some (.ref a) ∧ ds[i]? = some d ∧ startA us i = a ∧ OwnAt w base F s a d ∧ a ∉ frs outer := fun i ⟨d, h⟩ => by
    have key : ∃ k d, ks[i]? = some k ∧ ds[i]? = some d ∧ k = true := by
      rcases h with h | h
      · rcases slot i _ h with ⟨k, d', h1, h2, h3⟩ | h3
        · by_cases z : k = true
          · exact ⟨k, d', h1, h2, z⟩
          · rw [if_neg z] at h3; cases h3
        · cases h3
      · rcases slot i _ h with ⟨k, d', h1, h2, h3⟩ | h3
        · by_cases z : k = true
          · exact ⟨k, d', h1, h2, z⟩
          · rw [if_neg z] at h3; cases h3
        · cases h3
    obtain ⟨k, d', h1, h2, rfl⟩ := key
    have hi : i < us.length := by rw [ar.l1]; exact (List.getElem?_eq_some_iff.mp h1).1
    have hu : us[i]? = some us[i] := by simp [hi]
    obtain ⟨a, ea, oa, na⟩ := ar.ref i _ d' h1 hu h2
    refine ⟨a, d', h1, by rw [hu, ea], h2, ?_, oa, na⟩
    unfold startA
    rw [hu, ea]
  refine ⟨⟨e0.mod, S.kind, rfl, rfl, S.nd, fun y z c h1 h2 => ?_, fun y hy => ?_, fun y c _ h => ⟨y, h⟩, hr.hd, Around.frames_deeper e0.frames, .inr ⟨rfl, rfl⟩, fun b o h => ⟨⟨o, e0.bk b o h⟩, nMine b o (e0.bk b o h) fun z => by have h : base.get? b = some o := h; rw [(e0.frf b z).2.1] at h; cases h⟩, fun a ⟨y, h⟩ z => ?_, ?_, ?_, hr.gs⟩,
    rfl, e0.bare, fun b o h => kp b o (e0.bk b o h), ?_, ⟨_, x.toInCall.ns, fun i y sl h1 h2 => ?_⟩, fun y a h => ⟨_, x.cell y a h⟩, fun b o h => kp b o (e0.sub b o h), fun b z => ?_, fun i j q1 q2 q3 => ?_, fun b z => ?_, Nat.le_trans e0.tk ht, ?_, fun y a h => ⟨fnone a (nCell y a h), Nat.ne_of_gt (newC y a h)⟩⟩
  · exact PySem.name_of_addr x.apart (PySem.mem_of_lookup h1) (PySem.mem_of_lookup h2)
  · have hy : scope.names.lookup y = some .cell ∨ scope.names.lookup y = some .free := hy
    rcases hy with hy | hy
    · exact cell_has hy
    · exact absurd rfl (S.nofree _ (PySem.mem_of_lookup hy))
  · have z : a ∈ s.heap.objs.size :: frs outer := z
    have l := newC y a h
    rcases List.mem_cons.mp z with z | z
    · rw [z] at l; exact absurd l (Nat.lt_irrefl _)
    · obtain ⟨_, _, o, e⟩ := e0.frf a z
      rw [nCell y a h] at e; cases e
  · have := hr.un; show A.units + 3 + 200 < _; omega
  · have := hr.dp; show A.depth + 1 + 5 < _; omega
  · refine ⟨by show scope.kind ≠ _; rw [S.kind]; decide, ⟨s.heap.objs.size, ?_⟩, Heap.FunFrames.of_keeps (fun b o e _ => ⟨o, kp b o e, rfl⟩) e0.funs⟩
    obtain ⟨o, es, ep, q, dd, rr⟩ := x.toInCall.ns
    refine ⟨o, rfl, ?_, q, fun vs z => by rw [dd] at z; cases z⟩
    show base.get? _ = none
    cases hb : base.get? s.heap.objs.size with
    | none => rfl
    | some u => have := e0.bk _ u hb; rw [nL] at this; cases this
  · have h2 : (startR ks ds ++ List.replicate (N.length - ks.length) .un)[i]? = some sl := h2
    rcases slot i sl h2 with ⟨k, d, q1, q2, q3⟩ | q3
    · have hi : i < us.length := by rw [ar.l1]; exact (List.getElem?_eq_some_iff.mp q1).1
      have hu : us[i]? = some us[i] := by simp [hi]
      have hp : ps[i]? = some y := by
        have : i < ps.length := by rw [← hk]; exact (List.getElem?_eq_some_iff.mp q1).1
        rw [← S.pre, List.getElem?_take_of_lt this]; exact h1
      have ndP : ps.Nodup := by rw [← S.pre]; exact S.nd.sublist (List.take_sublist _ _)
      have lk : Look (envOfC qual scope s.heap.objs.size f cd) hp1 (bindL (envOfC qual scope s.heap.objs.size f cd).kindOf (ps.zip us) fun _ => none) y us[i] := by
        rcases S.par y (List.mem_of_getElem? hp) with k | k
        · exact .inl ⟨k, bindL_get ndP hp hu k⟩
        · obtain ⟨c, e⟩ := cell_has (n := s.heap.objs.size + 1) k
          refine .inr ⟨.inl k, c, e, ?_⟩
          have q := x.cell y c e
          rw [bindC_get ndP hp hu (by show scope.names.lookup y ≠ _; rw [k]; decide)] at q
          exact q
      cases k with
      | true =>
        rw [if_pos rfl] at q3
        subst q3
        obtain ⟨a, ea, oa, na⟩ := ar.ref i _ d q1 hu q2
        have e2 : startA us i = a := by unfold startA; rw [hu, ea]
        obtain ⟨o, eo⟩ := oa.ex
        refine ⟨?_, ?_, ?_⟩
        · show Look _ _ _ y (.ref (startA us i))
          rw [e2, ← ea]; exact lk
        · show OwnAt w base F _ (startA us i) d
          rw [e2]
          exact oa.keep (Sub.refl _) ht oa.nf fun o q => kp _ o q
        · show ¬ Mine _ (startA us i)
          rw [e2]
          exact nMine a o eo na
      | false =>
        rw [if_neg Bool.false_ne_true] at q3
        subst q3
        exact ⟨_, lk, (ar.val i _ d q1 hu q2).mono (Sub.refl _) ht⟩
    · subst q3; trivial
  · rcases z with z | ⟨y, z⟩ | z
    · have z : b = s.heap.objs.size := z
      rw [z]; exact fnone _ nL
    · exact fnone b (nCell y b z)
    · have z : b ∈ s.heap.objs.size :: frs outer := z
      rcases List.mem_cons.mp z with z | z
      · rw [z]; exact fnone _ nL
      · exact (e0.frf b z).1
  · obtain ⟨a, d, k1, u1, _, e1, _, _⟩ := isO i q1
    obtain ⟨b, d2, k2, u2, _, e2, _, _⟩ := isO j q2
    have q3 : startA us i = startA us j := q3
    rw [e1, e2] at q3
    subst q3
    exact ar.inj i j a k1 k2 u1 u2
  · rcases z with ⟨o, z⟩ | z | ⟨y, z⟩ | z
    · exact ⟨o, kp b o z⟩
    · have z : b = s.heap.objs.size := z
      rw [z]
      obtain ⟨o, es, ep, q, _⟩ := x.toInCall.ns
      exact ⟨o, q⟩
    · obtain ⟨o, q, _⟩ := x.cell y b z
      exact ⟨o, q⟩
    · have z : b ∈ s.heap.objs.size :: frs outer := z
      rcases List.mem_cons.mp z with z | z
      · rw [z]
        obtain ⟨o, es, ep, q, _⟩ := x.toInCall.ns
        exact ⟨o, q⟩
      · obtain ⟨_, _, o, e⟩ := e0.frf b z
        exact ⟨o, kp b o e⟩
  · show (startR ks ds ++ List.replicate (N.length - ks.length) Slot.un).length = N.length
    rw [List.length_append, startR_length ar.l2, List.length_replicate]
    omega
theorem start_owns {w : World} {base : Heap} {F : FH} {s s1 : Shared} {outer : List Env} {ks : List Bool} {us : List Value} {ds : List D} {n : Nat} (ar : ArgsOk w base F s outer ks us ds) {b : Addr} (h : Owns { F := F, α := startA us, ρ := startR ks ds ++ List.replicate n .un, s := s1 } b) : IsRef ks us b := by
  obtain ⟨i, ⟨d, h⟩, e⟩ := h
  have key : ∀ sl, (startR ks ds ++ List.replicate n .un)[i]? = some sl → (sl = .own d ∨ sl = .par d) → ∃ d', ks[i]? = some true ∧ ds[i]? = some d' := fun sl h hs => by
    by_cases hi : i < (startR ks ds).length
    · rw [List.getElem?_append_left hi] at h
      obtain ⟨k, d', h1, h2, h3⟩ := startR_get ar.l2 h
      cases k with
      | true => exact ⟨d', h1, h2⟩
      | false => rw [if_neg Bool.false_ne_true] at h3; subst h3; rcases hs with q | q <;> cases q
    · rw [List.getElem?_append_right (by omega), List.getElem?_replicate] at h
      split at h
      · cases h; rcases hs with q | q <;> cases q
      · cases h
  obtain ⟨d', h1, h2⟩ : ∃ d', ks[i]? = some true ∧ ds[i]? = some d' := by
    rcases h with h | h
    · exact key _ h (.inl rfl)
    · exact key _ h (.inr rfl)
  have hi : i < us.length := by rw [ar.l1]; exact (List.getElem?_eq_some_iff.mp h1).1
  have hu : us[i]? = some us[i] := by simp [hi]
  obtain ⟨a, ea, _⟩ := ar.ref i _ d' h1 hu h2
  refine ⟨i, h1, ?_⟩
  have e : startA us i = b := e
  unfold startA at e
  rw [hu, ea] at e
  rw [hu, ea]
  exact congrArg (fun z => some (Value.ref z)) e
theorem start_nmine {tz : Nat} {P : Program} {w : World} {K : PySem.W.Frag} {mg : Str → Option Value} {base : Heap} {N : List Str} {qual : Str} {scope : Scope} {f : Addr} {cd : Value} {A : Around} {outer : List Env} {s s1 : Shared} {m cm : Str → Option Value}
    (x : InCallC s s.heap.objs.size m (cellsFrom (s.heap.objs.size + 1) scope.names []) cm s1) {b : Addr} {o : Obj} (e : s.heap.get? b = some o) (n : b ∉ frs outer) : ¬ Mine (cxOf tz P w K mg base N qual scope f cd A outer s) b := fun z => by
  rcases z with z | ⟨y, z⟩ | z
  · have z : b = s.heap.objs.size := z
    rw [z] at e
    exact absurd (Heap.lt_size e) (Nat.lt_irrefl _)
  · have := x.above y b (PySem.mem_of_lookup z)
    exact absurd (Heap.lt_size e) (Nat.not_lt.mpr (Nat.le_of_lt this))
  · have z : b ∈ s.heap.objs.size :: frs outer := z
    rcases List.mem_cons.mp z with z | z
    · rw [z] at e
      exact absurd (Heap.lt_size e) (Nat.lt_irrefl _)
    · exact n z
/-- THE RULE: a def by its body -/
theorem fn_of {tz : Nat} {P : Program} {w : World} {K : PySem.W.Frag} {mg : Str → Option Value} {base : Heap} {k : Nat} {f : Addr} {name qual : Str} {params : Arguments} {body : List Stmt} {scope : Scope} {dV kV doc pm cdv ct oc : Value} {an od : Option Addr}
    {osl : Array (Option Value)} {N ps : List Str} {ks : List Bool} {t : DS} (lk : K.lookup f = some ⟨oc, od, .func (PySem.W.fnOf name qual params body scope dV kV doc pm an cdv ct), osl⟩) (hcd : PySem.W.codeIn K cdv qual = true) (S : FnScope N ps scope) (hk : ks.length = ps.length)
    (hbody : ∀ (A : Around) (outer : List Env) (s : Shared), Room k (A.deeper (envOfC qual scope s.heap.objs.size f cdv)) → PSs (cxOf tz P w K mg base N qual scope f cdv A outer s) body t) :
    FnOk tz P w K mg base (k + 1) f (PySem.W.fnOf name qual params body scope dV kV doc pm an cdv ct) ps ks (fnD N.length ks t) := by
  refine ⟨hk, fun A outer s F args us ds ds' r hr e0 hb ar hsp => ?_⟩
  have KX : K.In s.heap := e0.mod.kin.keeps e0.bk
  have lim : s.heap.NoLimit := e0.mod.nolimit.keeps e0.bk
  have hkind : ∀ y ∈ ps.zip us, scope.names.lookup y.1 = some .local ∨ (scope.names.lookup y.1 = some .cell ∧ ((cellsFrom (s.heap.objs.size + 1) scope.names []).lookup y.1).isSome = true) := fun ⟨n, v⟩ hy => by
    rcases S.par n (List.of_mem_zip hy).1 with q | q
    · exact .inl q
    · exact .inr ⟨q, PySem.W.cellsFrom_some _ _ _ (.inl q)⟩
  have hdepth : A.depth < recursionLimit := by have := hr.dp; omega
  refine codeAny_call_function hdepth (KX _ _ lk) rfl S.co S.gen rfl (PySem.W.codeRec_of KX hcd) (hb _ _ _ _ ?_)
  refine wpAny_with_toks (n := s.toks) (Nat.le_refl _) (wpAny_newFunctionEnv_cells S.kind hkind fun env he s1 x ht => ?_)
  subst he
  refine ⟨lim.keeps x.toInCall.keep, codeAny_func ?_⟩
  have hB := hbody A outer s (hr.deeper _)
  have S1 : SR (cxOf tz P w K mg base N qual scope f cdv A outer s) { F := F, α := startA us, ρ := startR ks ds ++ List.replicate (N.length - ks.length) .un, s := s1 } := sr_start S hk (hr.mono (Nat.succ_le_succ (Nat.zero_le k))) e0 ar ht x
  have nL : s.heap.get? s.heap.objs.size = none := Heap.get?_none_of_le (Nat.le_refl _)
  unfold fnD at hsp
  rw [if_pos ar.l2] at hsp
  have kp := x.toInCall.keep
  -- the end
  have fin : ∀ (c' : Cf) (u : Value), FrB (cxOf tz P w K mg base N qual scope f cdv A outer s) { F := F, α := startA us, ρ := startR ks ds ++ List.replicate (N.length - ks.length) .un, s := s1 } c' → SR (cxOf tz P w K mg base N qual scope f cdv A outer s) c' → endR ks ds c'.ρ = some ds' →
      RetOk (cxOf tz P w K mg base N qual scope f cdv A outer s) { F := F, α := startA us, ρ := startR ks ds ++ List.replicate (N.length - ks.length) .un, s := s1 } c' r u → CallEnd w base F s outer ks us ds' r u c'.s c'.F := fun c' u f S' he ro => by
    obtain ⟨l', hends⟩ := endR_get he
    refine ⟨S'.os, S'.bare, f.fm, S'.sub, Nat.le_trans ht f.tk, fun b o e => f.hm b o (kp b o e), fun b o e nr nf => ?_, fun b o z e => ⟨?_, S'.mine b (.inr (.inr (List.mem_cons_of_mem _ z)))⟩, fun i a d' k1 u1 e => ?_, l', ?_⟩
    · obtain ⟨g1, _, g3⟩ := f.st b o (kp b o e) (fun z => nr (start_owns ar z)) (start_nmine x e nf)
      exact ⟨g1, g3⟩
    · exact f.fr b o (List.mem_cons_of_mem _ z) (Nat.ne_of_lt (Heap.lt_size e)) (kp b o e)
    · have hp := hends i d' k1 e
      obtain ⟨m, hm, slk⟩ := S'.loc
      have hi : i < N.length := by
        have := S'.len
        have l : i < c'.ρ.length := (List.getElem?_eq_some_iff.mp hp).1
        rw [this] at l; exact l
      have q := slk i _ _ (show N[i]? = some N[i] by simp [hi]) hp
      obtain ⟨_, eα⟩ := f.pr i d' hp
      have oa : OwnAt w base c'.F c'.s (c'.α i) d' := q.2.1
      have e2 : startA us i = a := by unfold startA; rw [u1]
      have eα : c'.α i = startA us i := eα
      rw [eα, e2] at oa
      exact oa
    · cases r with
      | val d => exact ro
      | weak x => exact ro
      | fresh d =>
        obtain ⟨a, ea, hn, oa, _, _⟩ := ro
        refine ⟨a, ea, ?_, oa⟩
        cases q : s.heap.get? a with
        | none => rfl
        | some o => exact absurd ⟨o, q⟩ hn
  cases ht' : t (startR ks ds ++ List.replicate (N.length - ks.length) .un) with
  | none => rw [ht'] at hsp; cases hsp
  | some oo =>
    rw [ht'] at hsp
    cases oo with
    | nx ρ' =>
      obtain ⟨q, he, eq⟩ := Option.map_eq_some_iff.mp hsp
      cases eq
      refine wpAny_mono (hB.run _ _ S1 ht' trivial) (fun fl s' ⟨c', e1, f', S', hs⟩ => ?_) fun e s' hs => hs.elim
      subst e1
      cases fl with
      | next => cases hs; exact ⟨.none, rfl, c'.F, fin c' .none f' S' he .non⟩
      | brk => cases hs
      | cont => cases hs
      | ret v => obtain ⟨_, hs, _⟩ := hs; cases hs
    | ret r1 ρ' =>
      obtain ⟨q, he, eq⟩ := Option.map_eq_some_iff.mp hsp
      cases eq
      refine wpAny_mono (hB.run _ _ S1 ht' trivial) (fun fl s' ⟨c', e1, f', S', hs⟩ => ?_) fun e s' hs => hs.elim
      subst e1
      cases fl with
      | next => cases hs
      | brk => cases hs
      | cont => cases hs
      | ret v =>
        obtain ⟨r2, hs, ro⟩ := hs
        cases hs
        exact ⟨v, rfl, c'.F, fin c' v f' S' he ro⟩
    | brk _ => cases hsp
    | cnt _ => cases hsp
    | ex _ _ => cases hsp
end GB
/-! Calls of defs. -/
namespace GB
open PySem PySem.Spec PyProof.Rows
open L2 (Key keyH keyIs mixKind Mod Look Vis Loc frs thn)
section
variable {X : Cx} {c c0 c1 c2 c3 : Cf} {a b e o : Expr} {es : List Expr} {da : DE} {pos p2 cpos apos : Pos}
def LV.isNm : LV → Bool
  | .val _ => false
  | .nm _ => true
def argsNow (ρ : Rho) : List LV → Option (List D)
  | [] => some []
  | l :: r => match l.now ρ, argsNow ρ r with
    | some d, some ds => some (d :: ds)
    | _, _ => none
def putBack : List LV → List D → Rho → Rho
  | .nm j :: ls, d :: ds, ρ => putBack ls ds (ρ.modify j fun sl => sl.put d)
  | .val _ :: ls, _ :: ds, ρ => putBack ls ds ρ
  | _, _, ρ => ρ
def nmsOf : List LV → List Nat
  | [] => []
  | .nm j :: r => j :: nmsOf r
  | .val _ :: r => nmsOf r
theorem mem_nmsOf : ∀ {ls : List LV} {j : Nat}, j ∈ nmsOf ls ↔ ∃ i : Nat, ls[i]? = some (LV.nm j)
  | [], j => by simp [nmsOf]
  | .nm k :: r, j => by
    simp only [nmsOf, List.mem_cons, mem_nmsOf (ls := r)]
    constructor
    · rintro (rfl | ⟨i, h⟩)
      · exact ⟨0, rfl⟩
      · exact ⟨i + 1, by simpa using h⟩
    · rintro ⟨i, h⟩
      cases i with
      | zero => simp at h; exact .inl h.symm
      | succ i => exact .inr ⟨i, by simpa using h⟩
  | .val _ :: r, j => by
    simp only [nmsOf, mem_nmsOf (ls := r)]
    constructor
    · rintro ⟨i, h⟩
      exact ⟨i + 1, by simpa using h⟩
    · rintro ⟨i, h⟩
      cases i with
      | zero => simp at h
      | succ i => exact ⟨i, by simpa using h⟩
theorem putBack_length : ∀ (ls : List LV) (ds : List D) (ρ : Rho), (putBack ls ds ρ).length = ρ.length
  | .nm j :: ls, d :: ds, ρ => by rw [putBack, putBack_length ls ds, List.length_modify]
  | .val _ :: ls, _ :: ds, ρ => by rw [putBack, putBack_length ls ds]
  | [], _, _ => by simp [putBack]
  | .nm _ :: _, [], _ => by simp [putBack]
  | .val _ :: _, [], _ => by simp [putBack]
theorem putBack_off : ∀ (ls : List LV) (ds : List D) (ρ : Rho) (j : Nat), j ∉ nmsOf ls → (putBack ls ds ρ)[j]? = ρ[j]?
  | .nm k :: ls, d :: ds, ρ, j, h => by
    simp only [nmsOf, List.mem_cons, not_or] at h
    rw [putBack, putBack_off ls ds _ j h.2, List.getElem?_modify]
    have : ¬ k = j := fun e => h.1 e.symm
    simp [this]
  | .val _ :: ls, _ :: ds, ρ, j, h => by
    rw [putBack, putBack_off ls ds _ j h]
  | [], _, _, _, _ => by simp [putBack]
  | .nm _ :: _, [], _, _, _ => by simp [putBack]
  | .val _ :: _, [], _, _, _ => by simp [putBack]
theorem putBack_at : ∀ (ls : List LV) (ds : List D) (ρ : Rho) (i j : Nat) (d : D), (nmsOf ls).Nodup → ls[i]? = some (.nm j) → ds[i]? = some d → (putBack ls ds ρ)[j]? = (ρ[j]?).map fun sl => sl.put d
  | .nm k :: ls, d :: ds, ρ, i, j, d', nd, h1, h2 => by
    simp only [nmsOf, List.nodup_cons] at nd
    cases i with
    | zero =>
      simp at h1 h2; subst h1; subst h2
      rw [putBack, putBack_off ls ds _ k nd.1, List.getElem?_modify]
      simp
    | succ i =>
      have h1 : ls[i]? = some (.nm j) := by simpa using h1
      have : ¬ k = j := fun e => nd.1 (mem_nmsOf.mpr ⟨i, by rw [e]; exact h1⟩)
      rw [putBack, putBack_at ls ds _ i j d' nd.2 h1 (by simpa using h2), List.getElem?_modify]
      simp [this]
  | .val _ :: ls, _ :: ds, ρ, i, j, d', nd, h1, h2 => by
    cases i with
    | zero => simp at h1
    | succ i =>
      rw [putBack, putBack_at ls ds _ i j d' nd (by simpa using h1) (by simpa using h2)]
  | [], _, _, _, _, _, _, h1, _ => by simp at h1
  | _ :: _, [], _, _, _, _, _, _, h2 => by simp at h2
/-- arguments: values, or names whose list or dict is passed itself -/
def LateC (X : Cx) (c : Cf) (v : Value) : LV → Prop
  | .val d => Rep X.w c.F c.s.toks v d
  | .nm i => v = .ref (c.α i) ∧ i < X.N.length
inductive LatesC (X : Cx) (c : Cf) : List Value → List LV → Prop
  | nil : LatesC X c [] []
  | cons {v : Value} {l : LV} {vs : List Value} {ls : List LV} : LateC X c v l → LatesC X c vs ls → LatesC X c (v :: vs) (l :: ls)
theorem LateC.mono {v : Value} {l : LV} (h : LateC X c v l) (f : Fr X c c1) : LateC X c1 v l := by
  cases l with
  | val d => exact Rep.mono f.fm f.tk h
  | nm i => obtain ⟨h1, h2⟩ := h; exact ⟨by rw [f.al]; exact h1, h2⟩
theorem LatesC.length {vs : List Value} {ls : List LV} (h : LatesC X c vs ls) : vs.length = ls.length := by
  induction h with
  | nil => rfl
  | cons _ _ ih => exact congrArg Nat.succ ih
theorem LatesC.get {vs : List Value} {ls : List LV} (h : LatesC X c vs ls) : ∀ {i : Nat} {l : LV}, ls[i]? = some l → ∃ v, vs[i]? = some v ∧ LateC X c v l := by
  induction h with
  | nil => intro i l e; simp at e
  | cons a _ ih =>
    intro i l e
    cases i with
    | zero => simp at e; subst e; exact ⟨_, rfl, a⟩
    | succ i => obtain ⟨v, h1, h2⟩ := ih (i := i) (by simpa using e); exact ⟨v, by simpa using h1, h2⟩
abbrev DLs := Rho → Option (O (List LV))
structure PLs (X : Cx) (es : List Expr) (d : DLs) : Prop where
  run : ∀ (pos : Pos) (c : Cf) (o : O (List LV)), SR X c → d c.ρ = some o → KX X c o → wpAny (model X.prog X.w) X.A (spliced (backTo pos (starEach es X.env))) (fun vs s' => ∃ ls c', c'.s = s' ∧ o = .ok ls c'.ρ ∧ Fr X c c' ∧ SR X c' ∧ LatesC X c' vs ls) X.xe c.s
def aNil : DLs := fun ρ => some (.ok [] ρ)
def aVal (d : DE) (h : DLs) : DLs := fun ρ => obind (d ρ) fun r ρ1 => if r.isWeak then none else obind (h ρ1) fun ls ρ2 => some (.ok (.val r.d :: ls) ρ2)
def aRef (i : Nat) (h : DLs) : DLs := fun ρ => match (ρ[i]?).bind Slot.mine with
  | some _ => obind (h ρ) fun ls ρ2 => some (.ok (.nm i :: ls) ρ2)
  | none => none
theorem PLs.go {d : DLs} {β : Type} {k : List LV → Rho → Option (O β)} {o : O β} {Q : List Value → Shared → Prop} (h : PLs X es d) (S : SR X c) (hd : obind (d c.ρ) k = some o) (kx : KX X c o)
    (hq : ∀ ds c1 vs, Fr X c c1 → SR X c1 → LatesC X c1 vs ds → k ds c1.ρ = some o → Q vs c1.s) : wpAny (model X.prog X.w) X.A (spliced (backTo pos (starEach es X.env))) Q X.xe c.s := by
  rcases obind_some hd with ⟨r, ρ1, e1, hd1⟩ | ⟨x, ρ1, e1, rfl⟩
  · refine thn (h.run pos c _ S e1 trivial) fun v s1 ⟨r', c1, q, eo, f, S1, ro⟩ => ?_
    cases eo
    subst q
    exact hq _ c1 v f S1 ro hd1
  · refine thn (h.run pos c _ S e1 kx) fun v s1 ⟨r', c1, q, eo, f, S1, ro⟩ => ?_
    cases eo
theorem pas_nil : PLs X [] aNil := ⟨fun pos c o S h _ => by cases h; exact Calls.spliced_nil ⟨[], c, rfl, rfl, Fr.refl, S, .nil⟩⟩
theorem pas_val {d : DLs} (ha : PD X e da) (hr : PLs X es d) (hs : starEach (e :: es) X.env = (false, eval e X.env) :: starEach es X.env := by rfl) : PLs X (e :: es) (aVal da d) := by
  refine ⟨fun pos c o S hd kx => ?_⟩
  rw [hs]
  show wpAny _ _ (spliced ((false, eval e X.env) :: backTo pos (starEach es X.env))) _ _ _
  refine Calls.spliced_cons (ha.go S hd kx fun x c1 v f1 S1 ro hd1 => ?_)
  obtain ⟨F1, f1', S1', _, w1, _⟩ := ro.froze f1 S1
  by_cases z : x.isWeak = true
  · rw [if_pos z] at hd1; cases hd1
  · rw [if_neg z] at hd1
    have rx := w1 (Res.nweak (by simpa using z))
    refine hr.go (c := { c1 with F := F1 }) S1' hd1 (f1'.toFrB.kx kx) fun xs c2 vs f2 S2 rs hd2 => ?_
    cases hd2
    exact ⟨_, c2, rfl, rfl, f1'.trans f2, S2, .cons (LateC.mono (c := { c1 with F := F1 }) (l := .val x.d) rx f2) rs⟩
theorem pas_ref {d : DLs} (i : Nat) {x : Str} {px : Pos} (hr : PLs X es d) (hN : X.N[i]? = some x := by rfl) (hs : starEach (.Name x px :: es) X.env = (false, eval (.Name x px) X.env) :: starEach es X.env := by rfl)
    (hd : (x == ("__debug__" : Str)) = false := by decide) (hcd : (x == ("__classdict__" : Str)) = false := by decide) : PLs X (.Name x px :: es) (aRef i d) := by
  refine ⟨fun pos c o S hdo kx => ?_⟩
  rw [hs]
  show wpAny _ _ (spliced ((false, eval (.Name x px) X.env) :: backTo pos (starEach es X.env))) _ _ _
  unfold aRef at hdo
  cases h1 : (c.ρ[i]?).bind Slot.mine with
  | none => rw [h1] at hdo; cases hdo
  | some d0 =>
    simp only [h1] at hdo
    obtain ⟨m, hmm, lk, _⟩ := mine_view S hN h1
    refine Calls.spliced_cons (S.name hmm lk ?_ hd hcd)
    refine hr.go S hdo kx fun xs c2 vs f2 S2 rs hd2 => ?_
    cases hd2
    exact ⟨_, c2, rfl, rfl, f2, S2, .cons (LateC.mono (c := c) (l := .nm i) ⟨rfl, (List.getElem?_eq_some_iff.mp hN).1⟩ f2) rs⟩
theorem argsNow_get {ρ : Rho} : ∀ {ls : List LV} {ds : List D}, argsNow ρ ls = some ds → ds.length = ls.length ∧ ∀ (i : Nat) l, ls[i]? = some l → ∃ d, ds[i]? = some d ∧ l.now ρ = some d
  | [], ds, h => by simp [argsNow] at h; subst h; exact ⟨rfl, fun i l h => by simp at h⟩
  | l :: r, ds, h => by
    rw [argsNow] at h
    cases h1 : l.now ρ with
    | none => rw [h1] at h; cases h
    | some d =>
      rw [h1] at h
      cases h2 : argsNow ρ r with
      | none => rw [h2] at h; cases h
      | some ds' =>
        rw [h2] at h; cases h
        obtain ⟨a, b⟩ := argsNow_get h2
        refine ⟨by simp [a], fun i l' e => ?_⟩
        cases i with
        | zero => simp at e; subst e; exact ⟨d, rfl, h1⟩
        | succ i => obtain ⟨d', h3, h4⟩ := b i l' (by simpa using e); exact ⟨d', by simpa using h3, h4⟩
theorem now_nm {ρ : Rho} {j : Nat} {d : D} (h : (LV.nm j).now ρ = some d) : ρ[j]? = some (.own d) ∨ ρ[j]? = some (.par d) := by
  have h : (match ρ[j]? with
    | some (.own d) => some d
    | some (.par d) => some d
    | _ => none) = some d := h
  split at h
  · cases h; exact .inl (by assumption)
  · cases h; exact .inr (by assumption)
  · cases h
/-- behind a call -/
theorem SR.called (S : SR X c) {us : List Value} {ls : List LV} {ds ds' : List D} {r : Res} {u : Value} {s' : Shared} {F' : FH} (lt : LatesC X c us ls) (hn : argsNow c.ρ ls = some ds) (nd : (nmsOf ls).Nodup) (CE : CallEnd X.w X.base c.F c.s X.stack (ls.map LV.isNm) us ds' r u s' F') :
    ∃ c', c'.s = s' ∧ c'.ρ = putBack ls ds' c.ρ ∧ Fr X c c' ∧ SR X c' ∧ ResOk X c c' r u := by
  obtain ⟨hl, hnow⟩ := argsNow_get hn
  have kget : ∀ i : Nat, (ls.map LV.isNm)[i]? = some true → ∃ j, ls[i]? = some (LV.nm j) := fun i h => by
    rw [List.getElem?_map] at h
    obtain ⟨l, h1, h2⟩ := Option.map_eq_some_iff.mp h
    cases l with
    | val d => cases h2
    | nm j => exact ⟨j, h1⟩
  have nmOwn : ∀ i j : Nat, ls[i]? = some (LV.nm j) → isOwn c.ρ j ∧ us[i]? = some (Value.ref (c.α j)) := fun i j h => by
    obtain ⟨d, _, h2⟩ := hnow i _ h
    obtain ⟨v, h3, h4⟩ := lt.get h
    exact ⟨⟨d, now_nm h2⟩, by rw [h3, h4.1]⟩
  have refOwn : ∀ b, IsRef (ls.map LV.isNm) us b → ∃ i j : Nat, ls[i]? = some (LV.nm j) ∧ isOwn c.ρ j ∧ c.α j = b := fun b ⟨i, h1, h2⟩ => by
    obtain ⟨j, h3⟩ := kget i h1
    obtain ⟨h4, h5⟩ := nmOwn i j h3
    rw [h5] at h2
    exact ⟨i, j, h3, h4, by injection h2 with h2; injection h2⟩
  have refOwns : ∀ b, IsRef (ls.map LV.isNm) us b → Owns c b := fun b h => let ⟨_, j, _, h2, h3⟩ := refOwn b h; ⟨j, h2, h3⟩
  -- what a name holds afterwards
  have after : ∀ j sl, (putBack ls ds' c.ρ)[j]? = some sl → (∃ (i : Nat) (d' : D) (s0 : Slot), ls[i]? = some (LV.nm j) ∧ ds'[i]? = some d' ∧ c.ρ[j]? = some s0 ∧ sl = s0.put d') ∨ (j ∉ nmsOf ls ∧ c.ρ[j]? = some sl) := fun j sl h => by
    by_cases z : j ∈ nmsOf ls
    · obtain ⟨i, hi⟩ := mem_nmsOf.mp z
      have il : i < ds'.length := by rw [CE.len, List.length_map]; exact (List.getElem?_eq_some_iff.mp hi).1
      have hd : ds'[i]? = some ds'[i] := by simp [il]
      rw [putBack_at ls ds' c.ρ i j _ nd hi hd] at h
      obtain ⟨s0, h1, h2⟩ := Option.map_eq_some_iff.mp h
      exact .inl ⟨i, _, s0, hi, hd, h1, h2.symm⟩
    · rw [putBack_off ls ds' c.ρ j z] at h
      exact .inr ⟨z, h⟩
  have own_iff : ∀ j, isOwn (putBack ls ds' c.ρ) j → isOwn c.ρ j := fun j ⟨d, h⟩ => by
    rcases h with h | h
    · rcases after j _ h with ⟨i, _, _, h1, _⟩ | ⟨_, h1⟩
      · exact (nmOwn i j h1).1
      · exact ⟨d, .inl h1⟩
    · rcases after j _ h with ⟨i, _, _, h1, _⟩ | ⟨_, h1⟩
      · exact (nmOwn i j h1).1
      · exact ⟨d, .inr h1⟩
  have frm' : ∀ b o, b ∈ frs X.stack → c.s.heap.get? b = some o → ∃ sl, s'.heap.get? b = some { o with slots := sl } := fun b o z e => (CE.fr b o z e).1
  have still : ∀ b o, c.s.heap.get? b = some o → ¬ Owns c b → (∃ sl, s'.heap.get? b = some { o with slots := sl }) ∧ (c.F b = none → F' b = none) := fun b o e n => by
    by_cases z : b ∈ frs X.stack
    · exact ⟨frm' b o z e, fun _ => (CE.fr b o z e).2⟩
    · obtain ⟨h1, h2⟩ := CE.st b o e (fun w => n (refOwns b w)) z
      exact ⟨⟨o.slots, h1⟩, h2⟩
  have minen : ∀ b, Mine X b → ¬ Owns c b := fun b z w => (S.owned w).2 z
  have cellno : ∀ y a, X.env.cells.lookup y = some a → ¬ Owns c a := fun y a h w => by
    obtain ⟨⟨d, oa⟩, _⟩ := S.owned w
    obtain ⟨o', e', r'⟩ := oa.ob
    exact S.ncell e' r' y h
  have cel : ∀ y a, X.env.cells.lookup y = some a → ∀ v, c.s.heap.IsCell a v → s'.heap.IsCell a v := fun y a hy v ⟨o, q, dd⟩ => by
    obtain ⟨⟨sl, e⟩, _⟩ := still a o q (cellno y a hy)
    exact ⟨_, e, dd⟩
  have mineF : ∀ b, Mine X b → F' b = none := fun b z => by
    obtain ⟨o, e⟩ := S.olds b (.inr z)
    exact (still b o e (minen b z)).2 (S.mine b z)
  have offRef : ∀ j, j ∉ nmsOf ls → isOwn c.ρ j → ¬ IsRef (ls.map LV.isNm) us (c.α j) := fun j z q w => by
    obtain ⟨i, j', h1, h2, h3⟩ := refOwn _ w
    have := S.inj j' j h2 q h3
    rw [this] at h1
    exact z (mem_nmsOf.mpr ⟨i, h1⟩)
  have ownK : ∀ j d, j ∉ nmsOf ls → isOwn c.ρ j → OwnAt X.w X.base c.F c.s (c.α j) d → ¬ Mine X (c.α j) → OwnAt X.w X.base F' s' (c.α j) d := fun j d z q oa nm => by
    obtain ⟨o, e⟩ := oa.ex
    obtain ⟨h1, h2⟩ := CE.st _ o e (offRef j z q) (fun w => nm (.inr (.inr w)))
    exact oa.keep CE.fm CE.tk (h2 oa.nf) fun o' e' => by rw [e] at e'; cases e'; exact h1
  refine ⟨{ F := F', α := c.α, ρ := putBack ls ds' c.ρ, s := s' }, rfl, rfl, ⟨⟨CE.fm, CE.tk, CE.hm, fun b o e n nm => ?_, fun b o z _ e => frm' b o z e, fun i d h => ?_, fun i _ => ⟨rfl, own_iff i⟩⟩, rfl⟩,
    ⟨S.ok, CE.os.trans S.os, CE.bare, fun b o e => ?_, ?_, ?_, fun y a hy => ?_, CE.sub, mineF, fun i j q1 q2 q3 => S.inj i j (own_iff i q1) (own_iff j q2) q3, fun b z => ?_, Nat.le_trans S.tk CE.tk, by show (putBack ls ds' c.ρ).length = _; rw [putBack_length]; exact S.len, fun y a hy => ⟨?_, (S.cfree y a hy).2⟩⟩, ?_⟩
  · obtain ⟨h1, h2⟩ := CE.st b o e (fun w => n (refOwns b w)) (fun w => nm (.inr (.inr w)))
    exact ⟨h1, fun ⟨i, io, ib⟩ => n ⟨i, own_iff i io, ib⟩, h2⟩
  · rcases after i _ h with ⟨_, d', s0, _, _, h3, h4⟩ | ⟨_, h3⟩
    · cases s0 with
      | par d0 => exact ⟨⟨d0, h3⟩, rfl⟩
      | own _ => cases h4
      | val _ => cases h4
      | un => cases h4
    · exact ⟨⟨d, h3⟩, rfl⟩
  · have e1 := S.bk b o e
    have nm := (S.ok.bold b o e).2
    exact (CE.st b o e1 (fun w => by
      obtain ⟨⟨d, oa⟩, _⟩ := S.owned (refOwns b w)
      rw [oa.nb] at e; cases e) (fun w => nm (.inr (.inr w)))).1
  · refine funs_of2 X.stack (fun b hb o q hd => ?_) S.frm
    obtain ⟨sl, e⟩ := frm' b o hb q
    exact ⟨_, e, hd⟩
  · obtain ⟨m, hm, slk⟩ := S.loc
    refine ⟨m, ?_, fun j x sl h1 h2 => ?_⟩
    · obtain ⟨o, es, ep, q, dd, rr⟩ := hm
      obtain ⟨⟨sl, e⟩, _⟩ := still _ o q (minen _ (.inl rfl))
      exact ⟨_, es, ep, e, dd, rr⟩
    · have h2 : (putBack ls ds' c.ρ)[j]? = some sl := h2
      rcases after j sl h2 with ⟨i, d', s0, g1, g2, g3, rfl⟩ | ⟨z, g3⟩
      · have old := slk j x s0 h1 g3
        obtain ⟨io, hu⟩ := nmOwn i j g1
        have kt : (ls.map LV.isNm)[i]? = some true := by rw [List.getElem?_map, g1]; rfl
        have oa := CE.refs i _ d' kt hu g2
        cases s0 with
        | own d => obtain ⟨l, _, no, nm⟩ := old; exact ⟨Look.keep' cel l, oa, no, nm⟩
        | par d => obtain ⟨l, _, nm⟩ := old; exact ⟨Look.keep' cel l, oa, nm⟩
        | val d => obtain ⟨u, l, r⟩ := old; exact ⟨u, Look.keep' cel l, r.mono CE.fm CE.tk⟩
        | un => trivial
      · have old := slk j x sl h1 g3
        cases sl with
        | own d => obtain ⟨l, oa, no, nm⟩ := old; exact ⟨Look.keep' cel l, ownK j d z ⟨d, .inl g3⟩ oa nm, no, nm⟩
        | par d => obtain ⟨l, oa, nm⟩ := old; exact ⟨Look.keep' cel l, ownK j d z ⟨d, .inr g3⟩ oa nm, nm⟩
        | val d => obtain ⟨u, l, r⟩ := old; exact ⟨u, Look.keep' cel l, r.mono CE.fm CE.tk⟩
        | un => trivial
  · obtain ⟨v, z⟩ := S.cell y a hy
    exact ⟨v, cel y a hy v z⟩
  · obtain ⟨o, e⟩ := S.olds b z
    exact CE.hm b o e
  · obtain ⟨v, ⟨o, q, dd⟩⟩ := S.cell y a hy
    exact (still a o q (cellno y a hy)).2 (S.cfree y a hy).1
  · have res := CE.res
    cases r with
    | val d => exact res
    | weak x => exact res
    | fresh d =>
      obtain ⟨a, ea, hna, oa⟩ := res
      exact ⟨a, ea, hna, oa, fun ⟨i, io, ib⟩ => S.nown hna ⟨i, own_iff i io, ib⟩, S.nmine hna⟩
theorem SR.env0 (htz : 0 < X.tz) (S : SR X c) : Env0 1 X.prog X.w X.K X.mg X.base X.A X.stack c.s c.F where
  frames := S.ok.frames
  mod := S.ok.mod
  bk := S.bk
  funs := S.frm
  frf := fun b hb => by
    refine ⟨S.mine b (.inr (.inr hb)), ?_, S.olds b (.inr (.inr (.inr hb)))⟩
    cases q : X.base.get? b with
    | none => rfl
    | some o => exact absurd (.inr (.inr hb)) (S.ok.bold b o q).2
  sub := S.sub
  bare := S.bare
  tk := S.tkp htz
theorem SR.args (S : SR X c) {us : List Value} {ls : List LV} {ds : List D} (lt : LatesC X c us ls) (hn : argsNow c.ρ ls = some ds) (nd : (nmsOf ls).Nodup) : ArgsOk X.w X.base c.F c.s X.stack (ls.map LV.isNm) us ds := by
  obtain ⟨hl, hnow⟩ := argsNow_get hn
  have kget : ∀ (i : Nat) k, (ls.map LV.isNm)[i]? = some k → ∃ l, ls[i]? = some l ∧ l.isNm = k := fun i k h => by
    rw [List.getElem?_map] at h
    exact Option.map_eq_some_iff.mp h
  refine ⟨by rw [List.length_map]; exact lt.length, by rw [List.length_map]; exact hl, fun i u d h1 h2 h3 => ?_, fun i u d h1 h2 h3 => ?_, fun i j a h1 h2 h3 h4 => ?_⟩
  · obtain ⟨l, g1, g2⟩ := kget i _ h1
    obtain ⟨v, g3, g4⟩ := lt.get g1
    obtain ⟨d', g5, g6⟩ := hnow i l g1
    rw [h2] at g3; cases g3
    rw [h3] at g5; cases g5
    cases l with
    | val d0 => cases g6; exact g4
    | nm j => cases g2
  · obtain ⟨l, g1, g2⟩ := kget i _ h1
    obtain ⟨v, g3, g4⟩ := lt.get g1
    obtain ⟨d', g5, g6⟩ := hnow i l g1
    rw [h2] at g3; cases g3
    rw [h3] at g5; cases g5
    cases l with
    | val d0 => cases g2
    | nm j =>
      obtain ⟨e1, e2⟩ := g4
      obtain ⟨m, hm, slk⟩ := S.loc
      have hx : X.N[j]? = some X.N[j] := by simp [e2]
      rcases now_nm g6 with q | q
      · have := slk j _ _ hx q
        exact ⟨_, e1, this.2.1, fun w => this.2.2.2 (.inr (.inr w))⟩
      · have := slk j _ _ hx q
        exact ⟨_, e1, this.2.1, fun w => this.2.2 (.inr (.inr w))⟩
  · obtain ⟨l, g1, g2⟩ := kget i _ h1
    obtain ⟨l', g1', g2'⟩ := kget j _ h2
    cases l with
    | val d0 => cases g2
    | nm i' =>
      cases l' with
      | val d0 => cases g2'
      | nm j' =>
        obtain ⟨v, q1, q2, _⟩ := lt.get g1
        obtain ⟨v', q1', q2', _⟩ := lt.get g1'
        rw [h3] at q1; cases q1
        rw [h4] at q1'; cases q1'
        have e : c.α i' = c.α j' := by
          have e1 : a = c.α i' := by injection q2
          have e2 : a = c.α j' := by injection q2'
          exact e1.symm.trans e2
        obtain ⟨d1, _, n1⟩ := hnow i _ g1
        obtain ⟨d2, _, n2⟩ := hnow j _ g1'
        have := S.inj i' j' ⟨d1, now_nm n1⟩ ⟨d2, now_nm n2⟩ e
        subst this
        -- the same name twice
        exact nodup_pos nd g1 g1'
where
  nodup_pos : ∀ {ls : List LV} {i j k : Nat}, (nmsOf ls).Nodup → ls[i]? = some (.nm k) → ls[j]? = some (.nm k) → i = j
  | [], i, j, k, _, h, _ => by simp at h
  | .val _ :: r, i, j, k, nd, h1, h2 => by
    cases i with
    | zero => simp at h1
    | succ i => cases j with
      | zero => simp at h2
      | succ j => exact congrArg Nat.succ (nodup_pos (ls := r) (i := i) (j := j) (k := k) nd (by simpa using h1) (by simpa using h2))
  | .nm m :: r, i, j, k, nd, h1, h2 => by
    simp only [nmsOf, List.nodup_cons] at nd
    cases i with
    | zero => cases j with
      | zero => rfl
      | succ j => simp at h1; subst h1; exact absurd (mem_nmsOf.mpr ⟨j, by simpa using h2⟩ : _ ∈ nmsOf r) nd.1
    | succ i => cases j with
      | zero => simp at h2; subst h2; exact absurd (mem_nmsOf.mpr ⟨i, by simpa using h1⟩ : _ ∈ nmsOf r) nd.1
      | succ j => exact congrArg Nat.succ (nodup_pos (ls := r) (i := i) (j := j) (k := k) nd.2 (by simpa using h1) (by simpa using h2))
end
end GB
/-! Calls of defs: the rules. -/
namespace GB
open PySem PySem.Spec PyProof.Rows
open L2 (Key keyH keyIs mixKind Mod Look Vis Loc frs thn)
section
variable {X : Cx} {c c0 c1 c2 c3 : Cf} {a b e o : Expr} {es : List Expr} {da : DE} {pos p2 cpos apos p : Pos} {k : Nat} {f : Addr} {fd : FuncData} {ps : List Str} {ks : List Bool} {sp : DF} {x : Str} {d d2 : DLs}
/-- the call of a def, its arguments evaluated -/
def callLs (sp : DF) (ks : List Bool) (ls : List LV) (ρ1 : Rho) : Option (O Res) :=
  if ls.map LV.isNm = ks ∧ (nmsOf ls).Nodup then (match argsNow ρ1 ls with
    | some ds => (match sp ds with
      | some (r, ds') => some (.ok r (putBack ls ds' ρ1))
      | none => none)
    | none => none) else none
def dCall (sp : DF) (ks : List Bool) (a : DLs) : DE := fun ρ => obind (a ρ) fun ls ρ1 => callLs sp ks ls ρ1
theorem run_fn (htz : 0 < X.tz) {us : List Value} {ls : List LV} {args : Args} {oo : O Res} (F : FnOk 1 X.prog X.w X.K X.mg X.base k f fd ps ks sp) (hr : Room k X.A) (S : SR X c1) (f1 : Fr X c c1) (lt : LatesC X c1 us ls) (hb : us.length = ps.length → BindsTo c1.s fd args (ps.zip us)) (h : callLs sp ks ls c1.ρ = some oo) :
    codeAny (model X.prog X.w) X.A (.call (.ref f) args) (fun r s' => match r with | .ok (.ret v) => PostE X c oo v s' | .ok _ => False | .error e => X.xe e s') c1.s := by
  unfold callLs at h
  by_cases z : ls.map LV.isNm = ks ∧ (nmsOf ls).Nodup
  · rw [if_pos z] at h
    obtain ⟨zk, nd⟩ := z
    cases hn : argsNow c1.ρ ls with
    | none => rw [hn] at h; cases h
    | some ds =>
      simp only [hn] at h
      cases hs : sp ds with
      | none => rw [hs] at h; cases h
      | some rd =>
        obtain ⟨r, ds'⟩ := rd
        simp only [hs] at h
        cases h
        subst zk
        have ar := S.args lt hn nd
        refine codeAny_mono (F.run X.A X.stack c1.s c1.F args us ds ds' r hr (S.env0 htz) (hb (by rw [ar.l1]; exact F.lk)) ar hs) fun r' s' ⟨u, e1, F', CE⟩ => ?_
        subst e1
        obtain ⟨c', q1, q2, f', S', ro⟩ := S.called lt hn nd CE
        exact ⟨r, c', q1, by rw [q2], f1.trans f', S', ro.wide f1⟩
  · rw [if_neg z] at h; cases h
theorem call_of {M : Model} {A : Around} {E : Value → Shared → Prop} {s : Shared} {f : Value} {us : List Value} {kw : List (Str × Value)} {Q : Value → Shared → Prop} (h : codeAny M A (.call f ⟨us, kw⟩) (fun r s' => match r with | .ok (.ret v) => Q v s' | .ok _ => False | .error e => E e s') s) : wpAny M A (call f us kw) Q E s := by
  refine wpAny_call (codeAny_mono h fun r s' hq => ?_)
  cases r with
  | error e => exact hq
  | ok fl =>
    cases fl with
    | ret u => exact hq
    | next => exact False.elim hq
    | brk => exact False.elim hq
    | cont => exact False.elim hq
theorem pd_call (F : FnOk 1 X.prog X.w X.K X.mg X.base k f fd ps ks sp) (hr : Room k X.A) (hm : X.mg x = some (.ref f)) (hk : PySem.W.keepIn X.K (.ref f) = true) (hb : L2.Binds X.K fd ps []) (ha : PLs X (e :: es) d) (hg : Gl X x := by rfl)
    (hdb : (x == ("__debug__" : Str)) = false := by decide) (he : starEach (e :: es) X.env = (false, eval e X.env) :: starEach es X.env := by rfl) (hpl : (backTo pos (starEach es X.env)).any (·.1) = false := by rfl) (htz : 0 < X.tz := by exact Nat.zero_lt_one) :
    PD X (.Call (.Name x p) (e :: es) [] pos) (dCall sp ks d) := by
  refine ⟨fun c o S hd kx => ?_⟩
  refine wpAny_Call_Name_kw (S.glob hg hm ?_ hdb)
  refine PySem.W.callWith_K (h₀ := X.base) S.ok.mod.kin hk (ha.go S hd kx fun ls c1 us f1 S1 lt hcall => ⟨S1.kIn, ?_⟩) he hpl
  exact call_of (run_fn htz F hr S1 f1 lt (fun hl => by have := hb c1.s us S1.kIn (by rw [List.append_nil]; exact hl); rw [List.append_nil] at this; exact this) hcall)
theorem pd_call0 (F : FnOk 1 X.prog X.w X.K X.mg X.base k f fd ps ks sp) (hr : Room k X.A) (hm : X.mg x = some (.ref f)) (hk : PySem.W.keepIn X.K (.ref f) = true) (hb : L2.Binds X.K fd ps []) (hg : Gl X x := by rfl)
    (hdb : (x == ("__debug__" : Str)) = false := by decide) (htz : 0 < X.tz := by exact Nat.zero_lt_one) : PD X (.Call (.Name x p) [] [] pos) (dCall sp ks aNil) := by
  refine ⟨fun c o S hd kx => ?_⟩
  refine wpAny_Call_Name_kw (S.glob hg hm ?_ hdb)
  have hcall : callLs sp ks [] c.ρ = some o := hd
  exact PySem.W.callWith_K0 S.kIn hk (call_of (run_fn htz (us := []) F hr S Fr.refl .nil (fun hl => by have := hb c.s [] S.kIn (by simpa using hl); simpa using this) hcall))
/-! ### keywords -/
def perm {α : Type} (π : List Nat) (xs : List α) : List α := π.filterMap fun i => xs[i]?
theorem LatesC.append {us vs : List Value} {ls ms : List LV} (h1 : LatesC X c us ls) (h2 : LatesC X c vs ms) : LatesC X c (us ++ vs) (ls ++ ms) := by
  induction h1 with
  | nil => exact h2
  | cons a _ ih => exact .cons a ih
theorem LatesC.mono {us : List Value} {ls : List LV} (h : LatesC X c us ls) (f : Fr X c c1) : LatesC X c1 us ls := by
  induction h with
  | nil => exact .nil
  | cons a _ ih => exact .cons (a.mono f) ih
theorem LatesC.perm {us : List Value} {ls : List LV} (h : LatesC X c us ls) (π : List Nat) : LatesC X c (perm π us) (perm π ls) := by
  induction π with
  | nil => exact .nil
  | cons i π ih =>
    unfold GB.perm
    rw [List.filterMap_cons, List.filterMap_cons]
    cases e : ls[i]? with
    | none =>
      have : us[i]? = none := by
        rw [List.getElem?_eq_none_iff] at e ⊢
        rw [h.length]; exact e
      rw [this]
      exact ih
    | some l =>
      obtain ⟨v, h1, h2⟩ := h.get e
      rw [h1]
      exact .cons h2 ih
structure PKs (X : Cx) (kws : List Keyword) (d : DLs) : Prop where
  run : ∀ (pos : Pos) (c : Cf) (o : O (List LV)), SR X c → d c.ρ = some o → KX X c o → wpAny (model X.prog X.w) X.A (evalAll ((backToKw pos (keywordEach kws X.env)).map (·.2))) (fun vs s' => ∃ ls c', c'.s = s' ∧ o = .ok ls c'.ρ ∧ Fr X c c' ∧ SR X c' ∧ LatesC X c' vs ls) X.xe c.s
theorem PKs.go {kws : List Keyword} {d : DLs} {β : Type} {k : List LV → Rho → Option (O β)} {o : O β} {Q : List Value → Shared → Prop} (h : PKs X kws d) (S : SR X c) (hd : obind (d c.ρ) k = some o) (kx : KX X c o)
    (hq : ∀ ds c1 vs, Fr X c c1 → SR X c1 → LatesC X c1 vs ds → k ds c1.ρ = some o → Q vs c1.s) : wpAny (model X.prog X.w) X.A (evalAll ((backToKw pos (keywordEach kws X.env)).map (·.2))) Q X.xe c.s := by
  rcases obind_some hd with ⟨r, ρ1, e1, hd1⟩ | ⟨x, ρ1, e1, rfl⟩
  · refine thn (h.run pos c _ S e1 trivial) fun v s1 ⟨r', c1, q, eo, f, S1, ro⟩ => ?_
    cases eo
    subst q
    exact hq _ c1 v f S1 ro hd1
  · refine thn (h.run pos c _ S e1 kx) fun v s1 ⟨r', c1, q, eo, f, S1, ro⟩ => ?_
    cases eo
variable {kws : List Keyword} {nm : Option Str} {kpos : Pos}
theorem pks_nil : PKs X [] aNil := ⟨fun pos c o S h _ => by cases h; exact wpAny_evalAll_nil ⟨[], c, rfl, rfl, Fr.refl, S, .nil⟩⟩
theorem pks_val (ha : PD X e da) (hr : PKs X kws d) : PKs X (⟨nm, e, kpos⟩ :: kws) (aVal da d) := by
  refine ⟨fun pos c o S hd kx => ?_⟩
  show wpAny _ _ (evalAll ((do let v ← eval e X.env; standAt pos; pure v) :: (backToKw pos (keywordEach kws X.env)).map (·.2))) _ _ _
  refine wpAny_evalAll_cons (wpAny_bind (ha.go S hd kx fun x c1 v f1 S1 ro hd1 => wpAny_bind (wpAny_standAt (wpAny_pure ?_))))
  obtain ⟨F1, f1', S1', _, w1, _⟩ := ro.froze f1 S1
  by_cases z : x.isWeak = true
  · rw [if_pos z] at hd1; cases hd1
  · rw [if_neg z] at hd1
    have rx := w1 (Res.nweak (by simpa using z))
    refine hr.go (c := { c1 with F := F1 }) S1' hd1 (f1'.toFrB.kx kx) fun xs c2 vs f2 S2 rs hd2 => ?_
    cases hd2
    exact ⟨_, c2, rfl, rfl, f1'.trans f2, S2, .cons (LateC.mono (c := { c1 with F := F1 }) (l := .val x.d) rx f2) rs⟩
theorem pks_ref (i : Nat) {x : Str} {px : Pos} (hr : PKs X kws d) (hN : X.N[i]? = some x := by rfl)
    (hd : (x == ("__debug__" : Str)) = false := by decide) (hcd : (x == ("__classdict__" : Str)) = false := by decide) : PKs X (⟨nm, .Name x px, kpos⟩ :: kws) (aRef i d) := by
  refine ⟨fun pos c o S hdo kx => ?_⟩
  show wpAny _ _ (evalAll ((do let v ← eval (.Name x px) X.env; standAt pos; pure v) :: (backToKw pos (keywordEach kws X.env)).map (·.2))) _ _ _
  unfold aRef at hdo
  cases h1 : (c.ρ[i]?).bind Slot.mine with
  | none => rw [h1] at hdo; cases hdo
  | some d0 =>
    simp only [h1] at hdo
    obtain ⟨m, hmm, lk, _⟩ := mine_view S hN h1
    refine wpAny_evalAll_cons (wpAny_bind (S.name hmm lk (wpAny_bind (wpAny_standAt (wpAny_pure ?_))) hd hcd))
    refine hr.go S hdo kx fun xs c2 vs f2 S2 rs hd2 => ?_
    cases hd2
    exact ⟨_, c2, rfl, rfl, f2, S2, .cons (LateC.mono (c := c) (l := .nm i) ⟨rfl, (List.getElem?_eq_some_iff.mp hN).1⟩ f2) rs⟩
/-- how keywords bind: kn their names, π puts the positional and the keywords' values in the parameters' order -/
def KBinds (K : PySem.W.Frag) (fd : FuncData) (ps kn : List Str) (π : List Nat) (n : Nat) : Prop := ∀ (s : Shared) (us ws : List Value), K.In s.heap → us.length = n → ws.length = kn.length → BindsTo s fd ⟨us, kn.zip ws⟩ (ps.zip (perm π (us ++ ws)))
def dCallK (sp : DF) (ks : List Bool) (π : List Nat) (n m : Nat) (a b : DLs) : DE := fun ρ => obind (a ρ) fun ls ρ1 => obind (b ρ1) fun ms ρ2 => if ls.length = n ∧ ms.length = m then callLs sp ks (perm π (ls ++ ms)) ρ2 else none
theorem pd_callK {kn : List Str} {n m : Nat} (π : List Nat) (F : FnOk 1 X.prog X.w X.K X.mg X.base k f fd ps ks sp) (hr : Room k X.A) (hm : X.mg x = some (.ref f)) (hk : PySem.W.keepIn X.K (.ref f) = true) (hb : KBinds X.K fd ps kn π n) (ha : PLs X (e :: es) d) (hkw : PKs X kws d2) (hml : kn.length = m := by rfl) (hg : Gl X x := by rfl)
    (hall : (backToKw pos (keywordEach kws X.env)).all (·.1.isSome) = true := by rfl) (hkn : (backToKw pos (keywordEach kws X.env)).filterMap (·.1) = kn := by rfl)
    (hdb : (x == ("__debug__" : Str)) = false := by decide) (he : starEach (e :: es) X.env = (false, eval e X.env) :: starEach es X.env := by rfl)
    (hpl : ((backTo pos (starEach (e :: es) X.env)).any (·.1) || (backToKw pos (keywordEach kws X.env)).any (·.1.isNone)) = false := by rfl) (htz : 0 < X.tz := by exact Nat.zero_lt_one) :
    PD X (.Call (.Name x p) (e :: es) kws pos) (dCallK sp ks π n m d d2) := by
  subst hml
  refine ⟨fun c o S hd kx => ?_⟩
  refine wpAny_Call_Name_kw (S.glob hg hm ?_ hdb)
  refine PySem.W.callWith_KW (h₀ := X.base) S.ok.mod.kin hk hall (ha.go S hd kx fun ls c1 us f1 S1 lt h1 => ?_) hpl he
  refine hkw.go S1 h1 (f1.toFrB.kx kx) fun ms c2 ws f2 S2 lm h2 => ⟨S2.kIn, ?_⟩
  rw [hkn]
  split at h2
  · rename_i hh
    exact call_of (run_fn htz F hr S2 (f1.trans f2) (((lt.mono f2).append lm).perm π) (fun hl => hb c2.s us ws S2.kIn (lt.length.trans hh.1) (lm.length.trans hh.2)) h2)
  · cases h2
/-- keywords alone -/
theorem pd_callK0 {kn : List Str} {m : Nat} (π : List Nat) (F : FnOk 1 X.prog X.w X.K X.mg X.base k f fd ps ks sp) (hr : Room k X.A) (hm : X.mg x = some (.ref f)) (hk : PySem.W.keepIn X.K (.ref f) = true) (hb : KBinds X.K fd ps kn π 0) (hkw : PKs X kws d2) (hml : kn.length = m := by rfl) (hg : Gl X x := by rfl)
    (hall : (backToKw pos (keywordEach kws X.env)).all (·.1.isSome) = true := by rfl) (hkn : (backToKw pos (keywordEach kws X.env)).filterMap (·.1) = kn := by rfl)
    (hdb : (x == ("__debug__" : Str)) = false := by decide)
    (hpl : ((backTo pos (starEach [] X.env)).any (·.1) || (backToKw pos (keywordEach kws X.env)).any (·.1.isNone)) = false := by rfl) (htz : 0 < X.tz := by exact Nat.zero_lt_one) :
    PD X (.Call (.Name x p) [] kws pos) (dCallK sp ks π 0 m aNil d2) := by
  subst hml
  refine ⟨fun c o S hd kx => ?_⟩
  refine wpAny_Call_Name_kw (S.glob hg hm ?_ hdb)
  have hd : obind (d2 c.ρ) (fun ms ρ2 => if ([] : List LV).length = 0 ∧ ms.length = kn.length then callLs sp ks (perm π ([] ++ ms)) ρ2 else none) = some o := hd
  refine PySem.W.callWith_KW0 (h₀ := X.base) S.ok.mod.kin hk hall (hkw.go S hd kx fun ms c2 ws f2 S2 lm h2 => ⟨S2.kIn, ?_⟩) hpl
  rw [hkn]
  split at h2
  · rename_i hh
    exact call_of (run_fn htz (us := perm π ([] ++ ws)) (args := ⟨[] ++ [], kn.zip ws⟩) F hr S2 f2 (lm.perm π) (fun hl => hb c2.s [] ws S2.kIn rfl (lm.length.trans hh.2)) h2)
  · cases h2
end
end GB
/-! The law's end. -/
namespace GB
open PySem PySem.Spec PyProof.Rows
open L2 (Key keyH keyIs mixKind Mod Look Vis Loc frs thn FnScope FunD)
open PySem.W PySem.Calls
section
variable {P : Program} {w : World} {K : PySem.W.Frag} {mg : Str → Option Value} {base : Heap} {x qual : Str} {params : Arguments} {body : List Stmt} {scope : Scope} {dvs : List L2.V} {kws : List (Str × L2.V)} {f : Addr} {fd : FuncData}
/-- a def of the text -/
theorem ok_of {tz : Nat} {N ps : List Str} {k : Nat} {ks : List Bool} {t : DS} (F : FunD K x qual params body scope dvs kws f fd) (S : FnScope N ps scope) (hk : ks.length = ps.length)
    (hbody : ∀ (cdv : Value) (A : Around) (outer : List Env) (s : Shared), Room k (A.deeper (envOfC qual scope s.heap.objs.size f cdv)) → PSs (cxOf tz P w K mg base N qual scope f cdv A outer s) body t) : FnOk tz P w K mg base (k + 1) f fd ps ks (fnD N.length ks t) := by
  obtain ⟨oc, od, dV, kV, doc, pm, an, cdv, ct, osl, rfl, lk, hcd, _, _⟩ := F.ex
  exact fn_of lk hcd S hk fun A outer s hr => hbody cdv A outer s hr
theorem reps_ints {F : FH} {T : Nat} : ∀ {vs : List Value} {ns : List Int}, IntsAre vs ns → RepL w F T vs (ns.map D.int)
  | _, _, .nil => .nil
  | _, _, .cons n t h => .cons (.int n t) (reps_ints h)
/-- the law's promise, at the heap behind the top -/
theorem law_call {mb : Str → Option Value} {k : Nat} {fa a : Addr} {x : Str} {sp : DF} {s₁ : Shared} {vs : List Value} {ns : List Int}
    (KX : K.In s₁.heap) (hns : s₁.heap.Ns mainGlobals mg) (hb : s₁.heap.Ns builtinsNs mb) (hbb : ∀ x : Str, x ≠ "__name__" → mb x = bootBuiltins x) (hlim : s₁.heap.NoLimit) (hg : s₁.gens = #[])
    (ha : s₁.heap.get? a = some { cls := .type "list", data := .seq vs.toArray }) (hsys : (a == sysModules) = false) (hi : IntsAre vs ns) (hl : ns.length ≤ sizeLine) (hr : Room k callerA)
    (F : ∀ base : Heap, K.In base → base.Ns mainGlobals mg → FnOk 0 P w K mg base k fa fd [x] [false] sp) (hbind : ∀ (s : Shared) (u : Value), BindsTo s fd ⟨[u], []⟩ [(x, u)])
    (hsp : sp [.lst (ns.map D.int)] = some (.val (.bl true), [.lst (ns.map D.int)])) :
    codeAny (model P w) callerA (.call (.ref fa) ⟨[.ref a], []⟩) (fun r s' => r = .ok (.ret (.bool true)) ∧ OldK s₁.heap s'.heap ∧ s'.os = s₁.os ∧ AllBare s'.gens) s₁ := by
  have hM : Mod K mg s₁.heap := ⟨KX, hns, ⟨mb, hb, hbb⟩, hlim⟩
  let F0 : FH := fun b => if b = a then some { cls := .type "list", data := .seq vs.toArray } else none
  have e0 : Env0 0 P w K mg s₁.heap callerA [] s₁ F0 := ⟨rfl, hM, fun b o e => e, trivial, fun b hb => absurd (show b ∈ ([] : List Addr) from hb) (by simp), fun b o e => ?_, .of_eq hg, Nat.zero_le _⟩
  · have rep : Rep w F0 s₁.toks (.ref a) (.lst (ns.map D.int)) := .ref (if_pos rfl) hsys (.lst (by rw [List.size_toArray, hi.length]; exact hl) (by rw [List.toList_toArray]; exact reps_ints hi))
    refine codeAny_mono ((F _ KX hns).run callerA [] s₁ F0 ⟨[.ref a], []⟩ [.ref a] [.lst (ns.map D.int)] _ _ hr e0 (hbind s₁ (.ref a)) ⟨rfl, rfl, fun i u d h1 h2 h3 => ?_, fun i u d h1 h2 h3 => ?_, fun i j b h1 h2 _ _ => ?_⟩ hsp) fun r s' ⟨u, e1, F', CE⟩ => ?_
    · cases i with
      | zero => simp at h2 h3; subst h2; subst h3; exact rep
      | succ i => simp at h2
    · cases i with
      | zero => simp at h1
      | succ i => simp at h1
    · cases i with
      | zero => simp at h1
      | succ i => simp at h1
    · have res : Rep w F' s'.toks u (.bl true) := CE.res
      subst e1
      cases res with
      | bl _ =>
        refine ⟨rfl, OldK.of_keep fun b o e => ?_, CE.os, CE.bare⟩
        refine (CE.st b o e (fun ⟨i, h1, _⟩ => ?_) (by intro z; exact absurd (show b ∈ ([] : List Addr) from z) (by simp))).1
        cases i with
        | zero => simp at h1
        | succ i => simp at h1
      | ref _ _ q => cases q
  · by_cases hb : b = a
    · have e' := (if_pos hb).symm.trans e
      cases e'
      subst hb
      exact ha
    · have e' := (if_neg hb).symm.trans e
      cases e'
end
/-- the law's end over a head by facts -/
theorem walk_of2 {l : PySem.W.OpenLaw} {n k : Nat} {q : Program} {loose : List Str} {XP : (Str → Option Value) → Heap → Prop} {YP : World → Heap → Prop} {d : DefRec} {x : Str}
    (hn : l.most = some n) (hn2 : n ≤ sizeLine) (hdf : d.params.defaults = []) (hr : Room k callerA)
    (F : ∀ (w : World) (mg : Str → Option Value) (fa : Addr) (h : Heap), YP w h → h.Ns mainGlobals mg → mg d.name = some (.ref fa) →
      ∃ (K : PySem.W.Frag) (fd : FuncData) (sp : DF), K.In h ∧ (∀ (s : Shared) (u : Value), BindsTo s fd ⟨[u], []⟩ [(x, u)]) ∧
        (∀ ns : List Int, ns.length ≤ n → (∀ m ∈ ns, Builtin.Int.intBits m ≤ 1048576) → sp [.lst (ns.map D.int)] = some (.val (.bl true), [.lst (ns.map D.int)])) ∧
        ∀ base : Heap, K.In base → base.Ns mainGlobals mg → FnOk 0 l.prog w K mg base k fa fd [x] [false] sp) :
    PySem.W.WalkO q loose XP YP l.row.toRowW d [] (fun f vs => PySem.call f vs) := by
  intro w s₀ s₁ mg mb G Y fa o pm cd doc dV kV ho hd hcd hD hmg hg args vals as hpre hlay hrd hwl hlo
  obtain rfl : dV = .none := PySem.W.Dflts.none hD hdf
  obtain rfl : kV = .none := PySem.W.Dflts.noKw hD
  obtain ⟨a, vs, ns, rfl, rfl, hobj, hints, hlen⟩ := Att.script_of hn hpre hwl
  have hsys : (a == sysModules) = false := by
    cases hrd with
    | cons r1 rr =>
      cases rr
      cases r1 with
      | list _ _ _ _ => exact hlo a (by simp)
  obtain ⟨K, fd, sp, KX, hb, hsp, hF⟩ := F w mg fa _ Y G.T.g hmg
  refine enter_call (codeAny_mono (law_call KX G.T.g G.T.b G.T.builtins G.T.nolimit hg hobj hsys hints (Nat.le_trans hlen hn2) hr hF hb (hsp ns hlen (Att.script_bits hlay))) fun r s' hq => ?_)
  obtain ⟨rfl, h2, h3, h4⟩ := hq
  exact ⟨.inl ⟨.bool true, .bool true, [], rfl, fun _ => rfl, .bool true, Att.post_true l _, fun _ => ⟨List.Pairwise.nil, fun _ hm => (nomatch hm)⟩⟩, h2, h3, h4⟩
end GB
/-! Dict comprehensions of one clause; what is not served. -/
namespace GB
open PySem PySem.Spec PyProof.Rows
open L2 (Key keyH keyIs mixKind Mod Look Vis Loc frs thn thnF cloFrom closure_ok newEnv_comp)
section
variable {X : Cx} {c c0 c1 c2 c3 : Cf} {scope : Scope} {vs own : List Nat} {tg iter : Expr} {ifs : List Expr} {pos pos' : Pos}
/-- what is never reached -/
theorem ps_none {st : Stmt} : PS X st (fun _ => none) := ⟨fun c o _ h => by cases h⟩
theorem pd_none {e : Expr} : PD X e (fun _ => none) := ⟨fun c o _ h => by cases h⟩
theorem pdt_none {e : Expr} : PDT X e (fun _ => none) := ⟨fun c o _ h => by cases h⟩
def dDcGo (g : D → Rho → Option (O Unit)) (t : DT) (dk de : DE) : List D → List (D × D) → Rho → Option (List (D × D) × Rho)
  | [], acc, ρ => some (acc, ρ)
  | d :: ds, acc, ρ => match g d ρ with
    | some (.ok _ ρ1) => (match t ρ1 with
      | some (.ok b ρ2) => if b = true then (match dk ρ2 with
        | some (.ok r1 ρ3) => if r1.isWeak = true then none else (match de ρ3 with
          | some (.ok r2 ρ4) => if r2.isWeak = true then none else (match r1.d.key with
            | some k => if acc.length < 16777216 then dDcGo g t dk de ds (dPut acc k r2.d) ρ4 else none
            | none => none)
          | _ => none)
        | _ => none) else dDcGo g t dk de ds acc ρ2
      | _ => none)
    | _ => none
/-- the block of {kx: vx for tg in .. if ..}, from the state behind the iterator -/
theorem dc_core {kx vx : Expr} {tup : Bool} {g : D → Rho → Option (O Unit)} {t : DT} {dk de : DE} {I : Addr} {ds : List D} {xs : List (D × D)} {ρf : Rho} {use : Option (Value → Sem Unit)} {Qf E : Value → Shared → Prop} {cl : List (Str × Addr)}
    (S0 : SR X c) (f01 : Fr X c c1) (S1 : SR X c1) (W : Walk X c c1 tup tg I ds) (ok : Blk X.N X.env.scope scope vs own)
    (hg : ∀ h, PGv (X.blk own (blkEnv X scope h)) tup tg g) (ht : ∀ h, PTs (X.blk own (blkEnv X scope h)) ifs t) (hkx : ∀ h, PD (X.blk own (blkEnv X scope h)) kx dk) (he : ∀ h, PD (X.blk own (blkEnv X scope h)) vx de)
    (hd : dDcGo g t dk de ds [] (hide vs 0 c1.ρ) = some (xs, ρf))
    (hcl : cl = cloFrom X.env.cells scope.names [])
    (hq : ∀ c3 D C m, c3.ρ = unhide vs 0 c1.ρ ρf → c3.α = c1.α → FrB X c c3 → SR X c3 → ResOk X c c3 (.fresh (.dic xs)) (.ref D) → c3.s.heap.Ns C m → NewAt X c c3 C → C ≠ D → compPost (model X.prog X.w) X.A E use Qf (.ref D) C (.ok .next) c3.s) :
    wpAny (model X.prog X.w) X.A newDict (fun acc s3 => wpAny (model X.prog X.w) X.A (newFunctionEnv scope X.env.globals cl [] X.env.qual none .none (some X.env)) (fun cenv s4 =>
        codeAny (model X.prog X.w) X.A (.compStart (.DictComp kx vx [⟨tg, iter, ifs, 0⟩] scope pos) 0 (.ref I) acc { cenv with scope := relabel scope X.env }) (compPost (model X.prog X.w) X.A E use Qf acc cenv.locals) s4) E s3) E c1.s := by
  subst hcl
  refine wpAny_newObj_type (newEnv_comp ?_)
  obtain ⟨fp, wr, St, G, st0, hw, hf, _⟩ := W.it
  -- the new list
  let lo : Obj := { cls := .type "dict", data := .dict #[] }
  obtain ⟨S2, f2⟩ := S1.kept (s' := { c1.s with heap := c1.s.heap.push lo }) (fun b o e => Heap.get?_push_of_some _ e) (Nat.le_refl _)
  generalize hc2 : ({ c1 with s := { c1.s with heap := c1.s.heap.push lo } } : Cf) = c2 at S2 f2
  have f02 : Fr X c c2 := f01.trans f2
  have eD : c1.s.heap.objs.size = c1.s.heap.objs.size := rfl
  generalize hD : c1.s.heap.objs.size = D at *
  have hDn : c1.s.heap.get? D = none := by rw [← hD]; exact S1.new
  have eρ : c2.ρ = c1.ρ := by rw [← hc2]
  have eF : c2.F = c1.F := by rw [← hc2]
  have eα : c2.α = c1.α := by rw [← hc2]
  have et : c2.s.toks = c1.s.toks := by rw [← hc2]
  have hD2 : c2.s.heap.get? D = some lo := by rw [← hc2, ← hD]; exact Heap.get?_push_size _ rfl
  have k12 : ∀ b o, c1.s.heap.get? b = some o → c2.s.heap.get? b = some o := fun b o e => by rw [← hc2]; exact Heap.get?_push_of_some _ e
  have no12 : ∀ b, ¬ Owns c1 b → ¬ Owns c2 b := fun b n ⟨i, io, ib⟩ => n ⟨i, by rw [← eρ]; exact io, by rw [← eα]; exact ib⟩
  have st2 : St 0 c2.s.heap := G.frame _ _ _ st0 fun b _ o e => k12 b o e
  have newD : NewAt X c c2 D := ⟨f01.toFrB.back hDn, ⟨_, hD2⟩, by rw [eF]; exact S1.fnone hDn, no12 D (S1.nown hDn)⟩
  have newW : ∀ b ∈ wr, NewAt X c c2 b := fun b hb => by
    obtain ⟨o, e⟩ := G.obj _ _ st0 b (G.sub b hb)
    exact ⟨(hw b hb).1, ⟨o, k12 b o e⟩, by rw [eF]; exact (hw b hb).2, no12 b (hf b (G.sub b hb)).1⟩
  have newA : ∀ b ∈ D :: wr, NewAt X c c2 b := fun b hb => by
    rcases List.mem_cons.mp hb with e | e
    · rw [e]; exact newD
    · exact newW b e
  have DF : D ∉ fp := fun z => by
    obtain ⟨o, e⟩ := G.obj _ _ st0 D z
    rw [hDn] at e; cases e
  show codeAny _ _ (.compStart (.DictComp kx vx [⟨tg, iter, ifs, 0⟩] scope pos) 0 (.ref I) (.ref D) (compEnvC scope (cellsFrom ((c1.s.heap.push lo).objs.size + 1) scope.names (cloFrom X.env.cells scope.names [])) (c1.s.heap.push lo).objs.size X.env)) (compPost (model X.prog X.w) X.A E use Qf (.ref D) (c1.s.heap.push lo).objs.size) { c1.s with heap := pushCells ((c1.s.heap.push lo).push { cls := .type "dict", data := .dict #[] }) scope.names }
  have eh : c1.s.heap.push lo = c2.s.heap := by rw [← hc2]
  have es : ({ c1.s with heap := pushCells ((c1.s.heap.push lo).push { cls := .type "dict", data := .dict #[] }) scope.names } : Shared) = (blkCf scope vs c2).s := by rw [← hc2]; rfl
  rw [es, eh]
  have S3 := blk_start (by rw [et]; exact W.tk1) S2 ok
  have pg := hg c2.s.heap
  have pt := ht c2.s.heap
  have pk := hkx c2.s.heap
  have pe := he c2.s.heap
  have C2 := blk_cells S2 ok
  show codeAny _ _ (.compStart (.DictComp kx vx [⟨tg, iter, ifs, 0⟩] scope pos) 0 (.ref I) (.ref D) (blkEnv X scope c2.s.heap)) (compPost (model X.prog X.w) X.A E use Qf (.ref D) c2.s.heap.objs.size) _
  have kb := blk_keeps (scope := scope) c2.s.heap
  have st3 : St 0 (blkCf scope vs c2).s.heap := G.frame _ _ _ st2 fun b _ o e => kb b o e
  have nmF : ∀ b ∈ fp, ¬ Mine (X.blk own (blkEnv X scope c2.s.heap)) b := fun b hb z => by
    obtain ⟨o, e⟩ := G.obj _ _ st2 b hb
    exact (hf b hb).2 (blk_mine S2 ok e z)
  have nmD : ¬ Mine (X.blk own (blkEnv X scope c2.s.heap)) D := fun z => (newD.off S0 S2 f02.toFrB).nm (blk_mine S2 ok hD2 z)
  have offs : ∀ ck : Cf, ck.F D = none → ¬ Owns ck D → (∀ b ∈ wr, ck.F b = none) → (∀ b ∈ fp, ¬ Owns ck b) → ∀ b ∈ D :: wr, Off (X.blk own (blkEnv X scope c2.s.heap)) ck b := fun ck a1 a2 a3 a4 b hb => by
    refine blk_off S2 ok ((newA b hb).off S0 S2 f02.toFrB) (newA b hb).here ?_ ?_
    · rcases List.mem_cons.mp hb with e | e
      · rw [e]; exact a1
      · exact a3 b e
    · rcases List.mem_cons.mp hb with e | e
      · rw [e]; exact a2
      · exact a4 b (G.sub b e)
  have hideO : ∀ b, ¬ Owns c2 b → ¬ Owns (blkCf scope vs c2) b := fun b n ⟨i, io, ib⟩ => n ⟨i, (isOwn_hide io).2, ib⟩
  have loop : codeAny (model X.prog X.w) X.A (.compLoop (.DictComp kx vx [⟨tg, iter, ifs, 0⟩] scope pos) 0 (.ref I) (.ref D) (blkEnv X scope c2.s.heap)) (compPost (model X.prog X.w) X.A E use Qf (.ref D) c2.s.heap.objs.size) (blkCf scope vs c2).s := by
    let Inv : Nat → Shared → Prop := fun k s' => ∃ i ck acc o es ep ks, ck.s = s' ∧ i ≤ ds.length ∧ k = ds.length + 1 - i ∧ SR (X.blk own (blkEnv X scope c2.s.heap)) ck ∧ FrX (X.blk own (blkEnv X scope c2.s.heap)) (D :: wr) (blkCf scope vs c2) ck ∧ St i s'.heap ∧ c1.s.toks ≤ s'.toks ∧
        ck.F D = none ∧ ¬ Owns ck D ∧ (∀ b ∈ wr, ck.F b = none) ∧ (∀ b ∈ fp, ¬ Owns ck b) ∧ ck.s.heap.get? D = some o ∧ o.ExactDict ∧ o.data = .dict es ep ∧ RepK X.w ck.F ck.s.toks es.toList ks ∧ (ks.map (·.1)).Nodup ∧ es.size ≤ sizeLine ∧ acc = ks.map (fun p => (keyD p.1, p.2)) ∧ dDcGo g t dk de (ds.drop i) acc ck.ρ = some (xs, ρf)
    let EE : Value → Shared → Prop := notedBy (model X.prog X.w) X.A (blkEnv X scope c2.s.heap) fun e s' => compPost (model X.prog X.w) X.A E use Qf (.ref D) c2.s.heap.objs.size (.error e) s'
    refine L2.compLoop_anyD Inv ?_ (ds.length + 1)
      ⟨0, blkCf scope vs c2, [], lo, #[], _, [], rfl, Nat.zero_le _, rfl, S3, FrB.refl.x, st3, Nat.le_of_eq et.symm, newD.nf, hideO D newD.no, fun b hb => (newW b hb).nf, fun b hb => hideO b (no12 b (hf b hb).1), kb D _ hD2, ⟨rfl, rfl, rfl⟩, rfl, .nil, by simp, Nat.zero_le _, rfl, by rw [List.drop_zero]; show dDcGo g t dk de ds [] (hide vs 0 c2.ρ) = _; rw [eρ]; exact hd⟩
    rintro k s' ⟨i, ck, acc, ob, es, ep, kvl, rfl, hi', rfl, Sk, fk, st, tkk, DFn, DOn, wF, wO, hDk, hx, hdat, rk, nd, zsz, eacc, hdk⟩
    have hoff := offs ck DFn DOn wF wO
    have hoffW : ∀ b ∈ wr, Off (X.blk own (blkEnv X scope c2.s.heap)) ck b := fun b hb => hoff b (List.mem_cons_of_mem _ hb)
    have dW : D ∉ wr := fun z => DF (G.sub D z)
    by_cases hlt : i < ds.length
    · rw [List.drop_eq_getElem_cons hlt] at hdk
      refine wpAny_mono (G.goes X.A i ck.s (fun v s₂ => wpAny (model X.prog X.w) X.A (assign tg (blkEnv X scope c2.s.heap) v) (fun _ s₃ =>
          wpAny (model X.prog X.w) X.A (forIn ifs true fun c r => if r = true then do let ok ← isTrue c (blkEnv X scope c2.s.heap) (eval c (blkEnv X scope c2.s.heap)); pure (ForInStep.yield ok) else pure (ForInStep.yield r)) (fun ok s₃ =>
            if ok = true then wpAny (model X.prog X.w) X.A (eval kx (blkEnv X scope c2.s.heap)) (fun y s₄ => wpAny (model X.prog X.w) X.A (eval vx (blkEnv X scope c2.s.heap)) (fun x s₅ =>
              wpAny (model X.prog X.w) X.A (dictSet D y x) (fun _ s₆ => ∃ m, m < ds.length + 1 - i ∧ Inv m s₆) EE s₅) EE s₄) EE s₃
            else ∃ m, m < ds.length + 1 - i ∧ Inv m s₃) EE s₃) EE s₂) EE S1.ok.hd hlt tkk st ?_) ?_ (fun _ _ e => e)
      · intro v h' tk ⟨d, hdk', y⟩ st' kk htk
        have ed : ds[i] = d := by
          have : ds[i]? = some ds[i] := by simp [hlt]
          rw [this] at hdk'
          exact Option.some.inj hdk'
        rw [ed] at hdk
        obtain ⟨S4, f4⟩ := Sk.touch (wr := wr) hoffW (s' := { ck.s with heap := h', toks := tk }) kk htk
        have f4 : FrX (X.blk own (blkEnv X scope c2.s.heap)) (D :: wr) ck { ck with s := { ck.s with heap := h', toks := tk } } := ⟨f4.fm, f4.tk, fun b o w => f4.hm b o (fun z => w (List.mem_cons_of_mem _ z)), fun b o w => f4.st b o (fun z => w (List.mem_cons_of_mem _ z)), f4.fr, f4.pr, f4.ka⟩
        have sF : Sub c1.F ck.F := by
          have := fk.fm
          have e : (blkCf scope vs c2).F = c1.F := eF
          rw [e] at this
          exact this
        have y' : Yld X.w ck.F tup d v { ck.s with heap := h', toks := tk } := by
          unfold Yld at y ⊢
          by_cases z : tup = true
          · rw [if_pos z] at y ⊢
            obtain ⟨T, vals, ds', e1, e2, e3, e4⟩ := y
            exact ⟨T, vals, ds', e1, e2, e3.mono sF (Nat.le_refl _), e4⟩
          · rw [if_neg z] at y ⊢
            exact y.mono sF (Nat.le_refl _)
        have hdk : (match g d ck.ρ with
          | some (.ok _ ρ1) => (match t ρ1 with
            | some (.ok b ρ2) => if b = true then (match dk ρ2 with
              | some (.ok r1 ρ3) => if r1.isWeak = true then none else (match de ρ3 with
                | some (.ok r2 ρ4) => if r2.isWeak = true then none else (match r1.d.key with
                  | some k => if acc.length < 16777216 then dDcGo g t dk de (ds.drop (i + 1)) (dPut acc k r2.d) ρ4 else none
                  | none => none)
                | _ => none)
              | _ => none) else dDcGo g t dk de (ds.drop (i + 1)) acc ρ2
            | _ => none)
          | _ => none) = some (xs, ρf) := hdk
        have hD4 : h'.get? D = some ob := kk D _ dW hDk
        -- what stays
        have stay : ∀ {ca cb : Cf}, FrB (X.blk own (blkEnv X scope c2.s.heap)) ca cb → ca.F D = none → ¬ Owns ca D → (∀ b ∈ wr, ca.F b = none) → (∀ b ∈ fp, ¬ Owns ca b) → St (i + 1) ca.s.heap → (∀ o, ca.s.heap.get? D = some o → cb.s.heap.get? D = some o ∧ cb.F D = none ∧ ¬ Owns cb D) ∧ (∀ b ∈ wr, cb.F b = none) ∧ (∀ b ∈ fp, ¬ Owns cb b) ∧ St (i + 1) cb.s.heap := fun {ca cb} fab a1 a2 a3 a4 a5 => by
          have q : ∀ b ∈ fp, ∃ o, ca.s.heap.get? b = some o := G.obj _ _ a5
          refine ⟨fun o e => ?_, fun b hb => ?_, fun b hb => ?_, G.frame _ _ _ a5 fun b hb o e => (fab.st b o e (a4 b hb) (nmF b hb)).1⟩
          · obtain ⟨h1, h2, h3⟩ := fab.st D o e a2 nmD
            exact ⟨h1, h3 a1, h2⟩
          · obtain ⟨o, e⟩ := q b (G.sub b hb)
            exact (fab.st b o e (a4 b (G.sub b hb)) (nmF b (G.sub b hb))).2.2 (a3 b hb)
          · obtain ⟨o, e⟩ := q b hb
            exact (fab.st b o e (a4 b hb) (nmF b hb)).2.1
        cases e1 : g d ck.ρ with
        | none => rw [e1] at hdk; cases hdk
        | some o1 =>
          cases o1 with
          | ex _ _ => rw [e1] at hdk; cases hdk
          | ok u ρ1 =>
            simp only [e1] at hdk
            refine xTrue (thnF (pg.run { ck with s := { ck.s with heap := h', toks := tk } } d v _ S4 y' e1 (fun _ _ z => by cases z)) fun _ s5 ⟨c5, q5, eo5, f5, S5⟩ => ?_)
            subst q5
            cases eo5
            obtain ⟨D5, w5, o5, st5⟩ := stay f5 DFn DOn wF wO st'
            obtain ⟨hD5, DF5, DO5⟩ := D5 _ hD4
            cases e2 : t c5.ρ with
            | none => rw [e2] at hdk; cases hdk
            | some o2 =>
              cases o2 with
              | ex _ _ => rw [e2] at hdk; cases hdk
              | ok b ρ2 =>
                simp only [e2] at hdk
                refine xTrue (thnF (pt.run c5 _ S5 e2 trivial) fun b' s6 ⟨c6, q6, eo6, f6, S6⟩ => ?_)
                subst q6
                cases eo6
                obtain ⟨D6, w6, o6, st6⟩ := stay f6.toFrB DF5 DO5 w5 o5 st5
                obtain ⟨hD6, DF6, DO6⟩ := D6 _ hD5
                have f46 := (fk.trans f4).trans ((f5.trans f6.toFrB).x)
                have tk6 : c1.s.toks ≤ c6.s.toks := Nat.le_trans tkk (Nat.le_trans htk (Nat.le_trans f5.tk f6.tk))
                have fm6 : Sub ck.F c6.F := f5.fm.trans f6.fm
                have tm6 : ck.s.toks ≤ c6.s.toks := Nat.le_trans htk (Nat.le_trans f5.tk f6.tk)
                cases b with
                | false =>
                  simp only [Bool.false_eq_true, if_false] at hdk ⊢
                  exact ⟨ds.length + 1 - (i + 1), by omega, i + 1, c6, acc, ob, es, ep, kvl, rfl, hlt, rfl, S6, f46, st6, tk6, DF6, DO6, w6, o6, hD6, hx, hdat, rk.mono fm6 tm6, nd, zsz, eacc, hdk⟩
                | true =>
                  simp only [if_true] at hdk ⊢
                  cases e3 : dk c6.ρ with
                  | none => rw [e3] at hdk; cases hdk
                  | some o3 =>
                    cases o3 with
                    | ex _ _ => rw [e3] at hdk; cases hdk
                    | ok r1 ρ3 =>
                      simp only [e3] at hdk
                      by_cases wk : r1.isWeak = true
                      · rw [if_pos wk] at hdk; cases hdk
                      · rw [if_neg wk] at hdk
                        refine xTrue (thnF (pk.run c6 _ S6 e3 trivial) fun y s7 ⟨r1', c7, q7, eo7, f7, S7, ro⟩ => ?_)
                        subst q7
                        cases eo7
                        obtain ⟨F8, f8, S8, _, ry, sub8⟩ := ro.froze f7 S7
                        have ry := ry (fun s q => wk (by rw [q]; rfl))
                        obtain ⟨D7, w7, o7, st7⟩ := stay f8.toFrB DF6 DO6 w6 o6 st6
                        obtain ⟨hD7, DF7, DO7⟩ := D7 _ hD6
                        cases e4 : de c7.ρ with
                        | none => rw [e4] at hdk; cases hdk
                        | some o4 =>
                          cases o4 with
                          | ex _ _ => rw [e4] at hdk; cases hdk
                          | ok r2 ρ4 =>
                            simp only [e4] at hdk
                            by_cases wk2 : r2.isWeak = true
                            · rw [if_pos wk2] at hdk; cases hdk
                            · rw [if_neg wk2] at hdk
                              cases hkey : r1.d.key with
                              | none => rw [hkey] at hdk; cases hdk
                              | some kk0 =>
                                simp only [hkey] at hdk
                                by_cases zz : acc.length < 16777216
                                · rw [if_pos zz] at hdk
                                  refine xTrue (thnF (pe.run { c7 with F := F8 } _ S8 e4 trivial) fun x s9 ⟨r2', c9, q9, eo9, f9, S9, ro9⟩ => ?_)
                                  subst q9
                                  cases eo9
                                  obtain ⟨F10, f10, S10, _, rx, sub10⟩ := ro9.froze f9 S9
                                  have rx := rx (fun s q => wk2 (by rw [q]; rfl))
                                  obtain ⟨D9, w9, o9, st9⟩ := stay f10.toFrB DF7 DO7 w7 o7 st7
                                  obtain ⟨hD9, DF9, DO9⟩ := D9 _ hD7
                                  have hD9 : c9.s.heap.get? D = some ob := hD9
                                  have ek := key_keyD hkey
                                  rw [ek] at ry
                                  have ry9 := ry.mono f10.fm f10.tk
                                  have rk9 := ((rk.mono fm6 tm6).mono f8.fm f8.tk).mono f10.fm f10.tk
                                  have zl : es.size < sizeLine := by
                                    have := rk.length
                                    rw [eacc, List.length_map, ← this, Array.length_toList] at zz
                                    rw [sizeLine_eq]; exact zz
                                  refine dictSet_exact (s := c9.s) hD9 hx hdat rk9 nd ry9 rx zl fun h11 ob' hD11 r11 sb11 => ?_
                                  have D10w : ∀ b ∈ [D], Off (X.blk own (blkEnv X scope c2.s.heap)) { c9 with F := F10 } b := fun b hb => by
                                    have e : b = D := by simpa using hb
                                    rw [e]
                                    exact offs { c9 with F := F10 } DF9 DO9 w9 o9 D (List.mem_cons_self)
                                  obtain ⟨S11, f11⟩ := S10.touch (wr := [D]) D10w (s' := { c9.s with heap := h11, toks := c9.s.toks + 1 }) (fun b o hb e => (sb11.2 b (fun z => hb (by simp [z]))).trans e) (Nat.le_succ _)
                                  have f11 : FrX (X.blk own (blkEnv X scope c2.s.heap)) (D :: wr) { c9 with F := F10 } { c9 with F := F10, s := { c9.s with heap := h11, toks := c9.s.toks + 1 } } := by
                                    have nw : ∀ b, b ∉ D :: wr → b ∉ [D] := fun b w z => w (by
                                      have e : b = D := by simpa using z
                                      rw [e]; exact List.mem_cons_self)
                                    exact ⟨f11.fm, f11.tk, fun b o w => f11.hm b o (nw b w), fun b o w => f11.st b o (nw b w), f11.fr, f11.pr, f11.ka⟩
                                  cases r11 with
                                  | @dic _ es' ep' ks' _ hx' hdat' z' rk' nd' e' =>
                                    refine ⟨ds.length + 1 - (i + 1), by omega, i + 1, { c9 with F := F10, s := { c9.s with heap := h11, toks := c9.s.toks + 1 } }, dPut acc kk0 r2.d, ob', es', ep', ks', rfl, hlt, rfl, S11, ((f46.trans f8.toFrB.x).trans f10.toFrB.x).trans f11, ?_, ?_, DF9, DO9, w9, o9, hD11, hx', hdat', rk', nd', z', ?_, hdk⟩
                                    · exact G.frame _ _ _ st9 fun b hb o e => (sb11.2 b (fun z => DF (z ▸ hb))).trans e
                                    · exact Nat.le_trans tk6 (Nat.le_trans f8.tk (Nat.le_trans f10.tk (Nat.le_succ _)))
                                    · rw [eacc]; exact e'
                                · rw [if_neg zz] at hdk; cases hdk
      · rintro r s₁ ⟨v, rfl, h⟩
        exact h
    · have ei : i = ds.length := by omega
      subst ei
      rw [List.drop_length] at hdk
      cases hdk
      refine wpAny_mono (G.stops X.A ck.s (fun s₂ => ∃ h' tk, s₂ = { ck.s with heap := h', toks := tk } ∧ (∀ b o, b ∉ wr → ck.s.heap.get? b = some o → h'.get? b = some o) ∧ ck.s.toks ≤ tk) _ S1.ok.hd st fun h' tk kk ht => ⟨h', tk, rfl, kk, ht⟩) ?_ (fun _ _ e => e)
      rintro r s₁ ⟨rfl, h', tk, rfl, kk, htk⟩
      obtain ⟨S4, f4⟩ := Sk.touch (wr := wr) hoffW (s' := { ck.s with heap := h', toks := tk }) kk htk
      have f4 : FrX (X.blk own (blkEnv X scope c2.s.heap)) (D :: wr) ck { ck with s := { ck.s with heap := h', toks := tk } } := ⟨f4.fm, f4.tk, fun b o w => f4.hm b o (fun z => w (List.mem_cons_of_mem _ z)), fun b o w => f4.st b o (fun z => w (List.mem_cons_of_mem _ z)), f4.fr, f4.pr, f4.ka⟩
      have hD4 : h'.get? D = some ob := kk D _ dW hDk
      obtain ⟨m, hm, _⟩ := S4.loc
      have hm : h'.Ns c2.s.heap.objs.size m := hm
      have offA : ∀ b ∈ D :: wr, Off X c2 b := fun b hb => (newA b hb).off S0 S2 f02.toFrB
      obtain ⟨c3, g1, g2, g3, g4, S5, f5, no5⟩ := blk_end S2 ok (fk.trans f4) S4 offA (h' := h') (Heap.SameBut.refl ..)
      have nC : c.s.heap.get? c2.s.heap.objs.size = none := f02.toFrB.back S2.new
      have g1 : c3.s = { ck.s with heap := h', toks := tk } := g1
      have hm : c3.s.heap.Ns c2.s.heap.objs.size m := by rw [g1]; exact hm
      rw [← g1]
      have hD5 : c3.s.heap.get? D = some ob := by rw [g1]; exact hD4
      have g4 : c3.F = ck.F := g4
      refine hq c3 D c2.s.heap.objs.size m (by rw [g2, eρ]) (by rw [g3, eα]) (FrX.close f02.toFrB f5 fun x hx => (newA x hx).old) S5 ⟨D, rfl, newD.old, ⟨by rw [g4]; exact DFn, ?_, S0.nbase newD.old, rfl, _, hD5, ?_⟩, ?_, (newD.off S0 S2 f02.toFrB).nm⟩ hm ⟨nC, ?_, ?_, ?_⟩ (Nat.ne_of_gt (Heap.lt_size hD2))
      · rw [← hD]; exact S1.nsys
      · refine .dic hx hdat zsz ?_ nd eacc
        rw [g4, g1]
        exact rk.mono (Sub.refl _) htk
      · exact no5 D newD.no DOn
      · obtain ⟨o, es, ep, q, _⟩ := hm
        exact ⟨o, q⟩
      · rw [g4]; exact Sk.mine _ (.inl rfl)
      · refine no5 _ (S2.nown S2.new) fun w => ?_
        exact (Sk.owned w).2 (.inl rfl)
  exact codeAny_compStart_dict loop (G.self X.A 0 _ _ _ S1.ok.hd st3 loop)
end
section
variable {X : Cx} {c c0 c1 c2 c3 : Cf} {scope : Scope} {kx vx tg iter : Expr} {ifs : List Expr} {pos pos' : Pos} {tup : Bool} {p : DA} {g : D → Rho → Option (O Unit)} {t : DT} {dk de : DE}
/-- {k: e for .. in p if t} -/
def dcAll (vs : List Nat) (g : D → Rho → Option (O Unit)) (t : DT) (dk e : DE) (ds : List D) (ρ1 : Rho) : Option (List (D × D) × Rho) := (dDcGo g t dk e ds [] (hide vs 0 ρ1)).map fun q => (q.1, unhide vs 0 ρ1 q.2)
theorem dcAll_some {vs : List Nat} {ds : List D} {xs : List (D × D)} {ρ1 ρ2 : Rho} (h : dcAll vs g t dk de ds ρ1 = some (xs, ρ2)) : ∃ ρf, dDcGo g t dk de ds [] (hide vs 0 ρ1) = some (xs, ρf) ∧ ρ2 = unhide vs 0 ρ1 ρf := by
  unfold dcAll at h
  obtain ⟨⟨a, b⟩, h1, h2⟩ := Option.map_eq_some_iff.mp h
  cases h2
  exact ⟨b, h1, rfl⟩
def dDc (vs : List Nat) (p : DA) (g : D → Rho → Option (O Unit)) (t : DT) (dk e : DE) : DE := fun ρ => obind (p ρ) fun ds ρ1 => (dcAll vs g t dk e ds ρ1).map fun q => .ok (.fresh (.dic q.1)) q.2
theorem pd_dc (vs own : List Nat) (hi : PI X tup tg iter p) (ok : Blk X.N X.env.scope scope vs own)
    (hg : ∀ h, PGv (X.blk own (blkEnv X scope h)) tup tg g) (ht : ∀ h, PTs (X.blk own (blkEnv X scope h)) ifs t) (hkx : ∀ h, PD (X.blk own (blkEnv X scope h)) kx dk) (he : ∀ h, PD (X.blk own (blkEnv X scope h)) vx de) (hs : ∀ x, foldedSetIterable iter X.env x = pure x := by intro _; rfl) :
    PD X (.DictComp kx vx [⟨tg, iter, ifs, 0⟩] scope pos) (dDc vs p g t dk de) := by
  refine ⟨fun c o S hd kex => ?_⟩
  rw [show eval (.DictComp kx vx [⟨tg, iter, ifs, 0⟩] scope pos) X.env = comprehension (.DictComp kx vx [⟨tg, iter, ifs, 0⟩] scope pos) scope X.env (firstIterPos [⟨tg, iter, ifs, 0⟩] pos) newDict (firstAsync [⟨tg, iter, ifs, 0⟩]) (firstIter [⟨tg, iter, ifs, 0⟩] X.env) from rfl]
  refine wpAny_comprehension_free (use := none) rfl hs (closure_ok (blk_free S ok)) ok.kind (fun y hy e => by rw [ok.uniq y hy, e]) (hi.go S hd kex fun ds c1 I f S1 W hk => ?_)
  obtain ⟨⟨xs, ρ2⟩, h1, h2⟩ := Option.map_eq_some_iff.mp hk
  obtain ⟨ρf, h3, h4⟩ := dcAll_some h1
  cases h2
  refine dc_core S f S1 W ok hg ht hkx he h3 rfl fun c3 D C m e1 e2 f3 S3 ro hn nC CD => ⟨m, hn, fun h' sb => ?_⟩
  have offC : ∀ b ∈ [C], Off X c3 b := fun b hb => by
    have e : b = C := by simpa using hb
    rw [e]; exact nC.off S S3 f3
  obtain ⟨S4, f4⟩ := S3.touch (wr := [C]) offC (s' := { c3.s with heap := h' }) (fun b o hb e => (sb.2 b (fun z => hb (by simp [z]))).trans e) (Nat.le_refl _)
  refine ⟨.fresh (.dic xs), { c3 with s := { c3.s with heap := h' } }, rfl, by show O.ok _ ρ2 = O.ok _ c3.ρ; rw [e1, h4], ⟨FrX.close f3 f4 fun x hx => ?_, ?_⟩, S4, ?_⟩
  · have e : x = C := by simpa using hx
    rw [e]; exact nC.old
  · show c3.α = c.α
    rw [e2]; exact f.al
  · obtain ⟨a, ea, hn0, oa, no, nm⟩ := ro
    cases ea
    exact ⟨D, rfl, hn0, oa.keep (Sub.refl _) (Nat.le_refl _) oa.nf fun o q => (sb.2 D (Ne.symm CD)).trans q, no, nm⟩
/-- name = {k: e for .. in p if t} -/
def sDc (i : Nat) (vs : List Nat) (p : DA) (g : D → Rho → Option (O Unit)) (t : DT) (dk e : DE) : DS := fun ρ => ebind (p ρ) fun ds ρ1 => (dcAll vs g t dk e ds ρ1).map fun q => .nx (q.2.set i (.own (.dic q.1)))
theorem ps_dc (i : Nat) (vs own : List Nat) {y : Str} {py spos : Pos} (hi : PI X tup tg iter p) (ok : Blk X.N X.env.scope scope vs own)
    (hg : ∀ h, PGv (X.blk own (blkEnv X scope h)) tup tg g) (ht : ∀ h, PTs (X.blk own (blkEnv X scope h)) ifs t) (hkx : ∀ h, PD (X.blk own (blkEnv X scope h)) kx dk) (he : ∀ h, PD (X.blk own (blkEnv X scope h)) vx de)
    (hsw : swapsWith (.DictComp kx vx [⟨tg, iter, ifs, 0⟩] scope pos) (some (.Name y py)) spos.line X.env = pure true) (hN : X.N[i]? = some y := by rfl) (hy : Loc X.env.scope y := by first | exact Or.inl rfl | exact Or.inr rfl) (has : X.asg i = true := by rfl) (hs : ∀ x, foldedSetIterable iter X.env x = pure x := by intro _; rfl) :
    PS X (.Assign [.Name y py] (.DictComp kx vx [⟨tg, iter, ifs, 0⟩] scope pos) spos) (sDc i vs p g t dk de) := by
  refine ⟨fun c o S hd kex => ?_⟩
  rw [exec_Assign_Name_used _ _ _ _ hsw]
  refine wpAny_bind (wpAny_standAt (wpAny_bind ?_))
  show wpAny _ X.A (do let _ ← comprehension (.DictComp kx vx [⟨tg, iter, ifs, 0⟩] scope pos) scope X.env (firstIterPos [⟨tg, iter, ifs, 0⟩] pos) newDict false (eval iter X.env) (some (assign (.Name y py) X.env))) _ _ c.s
  refine wpAny_bind (thn (wpAny_comprehension_free (Q := fun _ s' => PostS X c o .next s') (use := some (assign (.Name y py) X.env)) rfl hs (closure_ok (blk_free S ok)) ok.kind (fun y hy e => by rw [ok.uniq y hy, e]) (hi.goS S hd kex fun ds c1 I f S1 W hk => ?_)) fun _ s' hq => wpAny_pure (wpAny_pure hq))
  obtain ⟨⟨xs, ρ2⟩, h1, h2⟩ := Option.map_eq_some_iff.mp hk
  obtain ⟨ρf, h3, h4⟩ := dcAll_some h1
  cases h2
  refine dc_core S f S1 W ok hg ht hkx he h3 rfl fun c3 D C m e1 e2 f3 S3 ro hn nC CD => ?_
  show wpAny _ _ (assign (.Name y py) X.env (.ref D)) _ _ _
  refine wpAny_assign_Name (thn (SR.store S f3 S3 ro hN hy has) fun _ s4 ⟨c4, q4, e4, f4, S4, st4⟩ => ?_)
  subst q4
  have offC3 := nC.off S S3 f3
  obtain ⟨oC, hC⟩ := nC.here
  obtain ⟨hC4, noC, nfC⟩ := st4.st C oC hC nC.no offC3.nm fun d _ e => by injection e with e; exact CD e.symm
  have newC4 : NewAt X c c4 C := ⟨nC.old, ⟨_, hC4⟩, nfC nC.nf, noC⟩
  have hn4 : c4.s.heap.Ns C m := by
    obtain ⟨o', es, ep, q, r⟩ := hn
    rw [hC] at q; cases q
    exact ⟨_, es, ep, hC4, r⟩
  refine ⟨m, hn4, fun h' sb => ?_⟩
  have offC : ∀ b ∈ [C], Off X c4 b := fun b hb => by
    have e : b = C := by simpa using hb
    rw [e]; exact newC4.off S S4 f4
  obtain ⟨S5, f5⟩ := S4.touch (wr := [C]) offC (s' := { c4.s with heap := h' }) (fun b o hb e => (sb.2 b (fun z => hb (by simp [z]))).trans e) (Nat.le_refl _)
  refine ⟨{ c4 with s := { c4.s with heap := h' } }, rfl, FrX.close f4 f5 fun x hx => ?_, S5, ?_⟩
  · have e : x = C := by simpa using hx
    rw [e]; exact nC.old
  · show OS.nx _ = OS.nx c4.ρ
    rw [e4, e1, h4]
    rfl
/-- {} -/
def dDic0 : DE := fun ρ => some (.ok (.fresh (.dic [])) ρ)
theorem pd_dic0 : PD X (.Dict [] [] pos) dDic0 := by
  refine ⟨fun c o S h _ => ?_⟩
  cases h
  refine wpAny_Dict_empty (PostE.new (s' := { c.s with heap := c.s.heap.push { cls := .type "dict", data := .dict #[] } }) S (fun b o e => Heap.get?_push_of_some _ e) (Nat.le_refl _) S.new (Heap.get?_push_size _ rfl) (.dic (ks := []) ⟨rfl, rfl, rfl⟩ rfl (Nat.zero_le _) .nil (by simp) rfl) S.nsys)
end
end GB
/-! zip of two tuples, of two lists. -/
namespace GB
open PySem PySem.Spec PyProof.Rows
open L2 (Key keyH keyIs mixKind Mod Look Vis Loc frs thn)
section
variable {X : Cx} {c c0 c1 c2 c3 : Cf} {e e2 : Expr} {es elts : List Expr} {kk : Nat} {tpos pos p : Pos}
def zipD : List D → Option (List D)
  | [.tup xs, .tup ys] => some ((xs.zip ys).map fun q => .tup [q.1, q.2])
  | [.lst xs, .lst ys] => some ((xs.zip ys).map fun q => .tup [q.1, q.2])
  | _ => none
def dZip (a : DA) : DA := fun ρ => obind (a ρ) fun ds ρ1 => (zipD ds).map fun xs => .ok xs ρ1
theorem ne_nat {a b : Addr} (h : (a : Nat) = b → False) : a ≠ b := h
theorem nin2 {x y z : Addr} (h1 : (x : Nat) = y → False) (h2 : (x : Nat) = z → False) : x ∉ [y, z] := fun h => by
  rcases List.mem_cons.mp h with e | h
  · exact h1 e
  · rcases List.mem_cons.mp h with e | h
    · exact h2 e
    · cases h
theorem zipSep (N a b : Nat) (ha : a < N) (hb : b < N) : ZipSep2 (N + 4) (N + 2) (N + 3) N (N + 1) [N, a] [N + 1, b] where
  TIz := ne_nat fun h => by have h : (N + 2 : Nat) = N + 4 := h; omega
  TOz := ne_nat fun h => by have h : (N + 3 : Nat) = N + 4 := h; omega
  TITO := ne_nat fun h => by have h : (N + 2 : Nat) = N + 3 := h; omega
  TIi1 := ne_nat fun h => by have h : (N + 2 : Nat) = N := h; omega
  mem1 := List.mem_cons_self
  zf1 := nin2 (fun h => by have h : (N + 4 : Nat) = N := h; omega) (fun h => by have h : (N + 4 : Nat) = a := h; omega)
  Tf1 := nin2 (fun h => by have h : (N + 3 : Nat) = N := h; omega) (fun h => by have h : (N + 3 : Nat) = a := h; omega)
  TIi2 := ne_nat fun h => by have h : (N + 2 : Nat) = N + 1 := h; omega
  mem2 := List.mem_cons_self
  zf2 := nin2 (fun h => by have h : (N + 4 : Nat) = N + 1 := h; omega) (fun h => by have h : (N + 4 : Nat) = b := h; omega)
  Tf2 := nin2 (fun h => by have h : (N + 3 : Nat) = N + 1 := h; omega) (fun h => by have h : (N + 3 : Nat) = b := h; omega)
  sep1_2 := nin2 (fun h => by have h : (N : Nat) = N + 1 := h; omega) (fun h => by have h : (N : Nat) = b := h; omega)
  sep2_1 := nin2 (fun h => by have h : (N + 1 : Nat) = N := h; omega) (fun h => by have h : (N + 1 : Nat) = a := h; omega)
/-- a zip object just made, its two sources frozen -/
theorem walk_zip {h' : Heap} {a b : Addr} {oa ob : Obj} {n1 n2 : Nat} {P1 P2 : Nat → Value → Prop} {St1 St2 : Nat → Heap → Prop} {xs ys : List D} (S0 : SR X c0) (f : Fr X c0 c) (S : SR X c) (htz : 0 < X.tz)
    (qa : c.F a = some oa) (qb : c.F b = some ob) (hk : ∀ d o, c.s.heap.get? d = some o → h'.get? d = some o)
    (D1 : ∀ A : Around, A.handled = none → Draws X.prog X.w A.in1 c.s.heap.objs.size [c.s.heap.objs.size, a] n1 P1 St1) (D2 : ∀ A : Around, A.handled = none → Draws X.prog X.w A.in1 (c.s.heap.objs.size + 1) [c.s.heap.objs.size + 1, b] n2 P2 St2)
    (ob1 : ∀ i h, St1 i h → ∀ d ∈ [c.s.heap.objs.size, a], ∃ o, h.get? d = some o) (ob2 : ∀ i h, St2 i h → ∀ d ∈ [c.s.heap.objs.size + 1, b], ∃ o, h.get? d = some o)
    (z : IsZip h' (c.s.heap.objs.size + 4) (c.s.heap.objs.size + 2) (c.s.heap.objs.size + 3) .none) (tI : IsTupOf2 h' (c.s.heap.objs.size + 2) (.ref c.s.heap.objs.size) (.ref (c.s.heap.objs.size + 1))) (tO : IsTupOf2 h' (c.s.heap.objs.size + 3) .none .none) (s1 : St1 0 h') (s2 : St2 0 h')
    (e1 : xs.length = n1) (e2 : ys.length = n2) (v1 : ∀ i v, P1 i v → ∃ d, xs[i]? = some d ∧ Rep X.w c.F c.s.toks v d) (v2 : ∀ i v, P2 i v → ∃ d, ys[i]? = some d ∧ Rep X.w c.F c.s.toks v d) :
    ∃ c', c'.s = { c.s with heap := h' } ∧ c'.ρ = c.ρ ∧ Fr X c0 c' ∧ SR X c' ∧ Walk X c0 c' true (.Tuple elts kk tpos) (c.s.heap.objs.size + 4) ((xs.zip ys).map fun q => .tup [q.1, q.2]) := by
  obtain ⟨S1, f1⟩ := S.kept (s' := { c.s with heap := h' }) hk (Nat.le_refl _)
  have la : a < c.s.heap.objs.size := Heap.lt_size (S.sub _ _ qa)
  have lb : b < c.s.heap.objs.size := Heap.lt_size (S.sub _ _ qb)
  have sep := zipSep c.s.heap.objs.size a b la lb
  have new : ∀ d, c.s.heap.objs.size ≤ d → c.s.heap.get? d = none := fun d hd => Heap.get?_none_of_le hd
  have all : ∀ d ∈ (c.s.heap.objs.size + 4) :: (c.s.heap.objs.size + 2) :: (c.s.heap.objs.size + 3) :: ([c.s.heap.objs.size, a] ++ [c.s.heap.objs.size + 1, b]), (¬ Owns { c with s := { c.s with heap := h' } } d ∧ ¬ Mine X d) ∧ (c0.s.heap.get? d = none ∨ ∃ o, c.F d = some o) := fun d hd => by
    have cases' : c.s.heap.objs.size ≤ d ∨ d = a ∨ d = b := by
      simp only [List.mem_cons, List.mem_append, List.not_mem_nil, or_false] at hd
      rcases hd with h | h | h | (h | h) | (h | h)
      · exact .inl (by rw [h]; exact Nat.le_add_right _ _)
      · exact .inl (by rw [h]; exact Nat.le_add_right _ _)
      · exact .inl (by rw [h]; exact Nat.le_add_right _ _)
      · exact .inl (by rw [h]; exact Nat.le_refl _)
      · exact .inr (.inl h)
      · exact .inl (by rw [h]; exact Nat.le_add_right _ _)
      · exact .inr (.inr h)
    rcases cases' with h | h | h
    · exact ⟨⟨S.nown (new d h), S.nmine (new d h)⟩, .inl (f.toFrB.back (new d h))⟩
    · rw [h]; exact ⟨frozen_off S qa, .inr ⟨_, qa⟩⟩
    · rw [h]; exact ⟨frozen_off S qb, .inr ⟨_, qb⟩⟩
  refine ⟨{ c with s := { c.s with heap := h' } }, rfl, rfl, f.trans f1, S1, S.tkp htz, (c.s.heap.objs.size + 4) :: (c.s.heap.objs.size + 2) :: (c.s.heap.objs.size + 3) :: ([c.s.heap.objs.size, a] ++ [c.s.heap.objs.size + 1, b]), [c.s.heap.objs.size + 4, c.s.heap.objs.size + 3, c.s.heap.objs.size, c.s.heap.objs.size + 1], (fun i h => IsZip h (c.s.heap.objs.size + 4) (c.s.heap.objs.size + 2) (c.s.heap.objs.size + 3) .none ∧ IsTupOf2 h (c.s.heap.objs.size + 2) (.ref c.s.heap.objs.size) (.ref (c.s.heap.objs.size + 1)) ∧ (∃ a1 a2, IsTupOf2 h (c.s.heap.objs.size + 3) a1 a2) ∧ St1 i h ∧ St2 i h), ?_, ⟨z, tI, ⟨_, _, tO⟩, s1, s2⟩, fun d hd => ?_, fun d hd => (all d hd).1, fun d hd => (all d hd).2⟩
  · have el : ((xs.zip ys).map fun q : D × D => D.tup [q.1, q.2]).length = min n1 n2 := by rw [List.length_map, List.length_zip, e1, e2]
    rw [el]
    refine Itr.of S.ok.hd (fun A hh => Goes.zip2 sep (D1 A hh) (D2 A hh)) (fun i h st d hd => ?_) (fun i v s hi ht y => ?_)
    · obtain ⟨q1, q2, ⟨_, _, q3⟩, q4, q5⟩ := st
      have hd : d = c.s.heap.objs.size + 4 ∨ d = c.s.heap.objs.size + 2 ∨ d = c.s.heap.objs.size + 3 ∨ d ∈ [c.s.heap.objs.size, a] ∨ d ∈ [c.s.heap.objs.size + 1, b] := by
        simp only [List.mem_cons, List.mem_append, List.not_mem_nil, or_false] at hd ⊢
        rcases hd with h | h | h | (h | h) | (h | h)
        · exact .inl h
        · exact .inr (.inl h)
        · exact .inr (.inr (.inl h))
        · exact .inr (.inr (.inr (.inl (.inl h))))
        · exact .inr (.inr (.inr (.inl (.inr h))))
        · exact .inr (.inr (.inr (.inr (.inl h))))
        · exact .inr (.inr (.inr (.inr (.inr h))))
      rcases hd with h | h | h | h | h
      · subst h; exact ⟨_, q1⟩
      · subst h; exact ⟨_, q2⟩
      · subst h; exact ⟨_, q3⟩
      · exact ob1 i _ q4 d h
      · exact ob2 i _ q5 d h
    · obtain ⟨T, x, y, ev, p1, p2, hT⟩ := y
      obtain ⟨d1, g1, r1⟩ := v1 i x p1
      obtain ⟨d2, g2, r2⟩ := v2 i y p2
      refine ⟨.tup [d1, d2], ?_, ?_⟩
      · have hz : (xs.zip ys)[i]? = some (d1, d2) := List.getElem?_zip_eq_some.mpr ⟨g1, g2⟩
        rw [List.getElem?_map, hz]; rfl
      · exact ⟨T, #[x, y], [d1, d2], ev, hT, .cons (r1.mono (Sub.refl _) ht) (.cons (r2.mono (Sub.refl _) ht) .nil), rfl⟩
  · have hle : c.s.heap.objs.size ≤ d := by
      simp only [List.mem_cons, List.not_mem_nil, or_false] at hd
      rcases hd with h | h | h | h
      · rw [h]; exact Nat.le_add_right _ _
      · rw [h]; exact Nat.le_add_right _ _
      · rw [h]; exact Nat.le_refl _
      · rw [h]; exact Nat.le_add_right _ _
    exact ⟨f.toFrB.back (new d hle), S.fnone (new d hle)⟩
theorem obj_lst {I l : Addr} {items : Array Value} {i : Nat} {h : Heap} (st : h.IsListIter I l i ∧ h.IsList l items) : ∀ d ∈ [I, l], ∃ o, h.get? d = some o := fun d hd => by
  have : d = I ∨ d = l := by simpa using hd
  rcases this with e | e
  · subst e; obtain ⟨o, e, _⟩ := st.1; exact ⟨o, e⟩
  · subst e; obtain ⟨o, e, _⟩ := st.2; exact ⟨o, e⟩
theorem obj_tup {I l : Addr} {items : Array Value} {i : Nat} {h : Heap} (st : h.IsTupleIter I l i ∧ h.IsTuple l items) : ∀ d ∈ [I, l], ∃ o, h.get? d = some o := fun d hd => by
  have : d = I ∨ d = l := by simpa using hd
  rcases this with e | e
  · subst e; obtain ⟨o, e, _⟩ := st.1; exact ⟨o, e⟩
  · subst e; obtain ⟨o, e, _⟩ := st.2; exact ⟨o, e⟩
theorem pi_zip {d : DA} (hm : X.mg "zip" = none) (ha : PA X [e, e2] d) (hg : Gl X "zip" := by rfl) (hs : starEach [e, e2] X.env = (false, eval e X.env) :: starEach [e2] X.env := by rfl) (hpl : (backTo pos (starEach [e2] X.env)).any (·.1) = false := by rfl) (htz : 0 < X.tz := by exact Nat.zero_lt_one) :
    PI X true (.Tuple elts kk tpos) (.Call (.Name "zip" p) [e, e2] [] pos) (dZip d) := by
  refine ⟨fun c o S hd kx => ?_⟩
  refine wpAny_Call_Name_kw (S.bltn hg hm PyProof.Rows.boot_zip (PyProof.Rows.callWith_type1 (ha.go S hd kx fun ds c1 vs f1 S1 r hk => ?_) hs hpl))
  obtain ⟨zs, hx, e1⟩ := Option.map_eq_some_iff.mp hk
  cases e1
  unfold zipD at hx
  split at hx
  · rename_i xs ys
    cases hx
    cases r with
    | cons r1 rr =>
      obtain ⟨v2, rfl, r2⟩ := rr.one
      obtain ⟨a, oa, va, na, rfl, qa, ha1, ha2, _, la, _⟩ := r1.w.tup_inv
      obtain ⟨b, ob, vb, nb, rfl, qb, hb1, hb2, _, lb, _⟩ := r2.w.tup_inv
      have ia : c1.s.heap.IsTuple a va := ⟨_, S1.sub _ _ qa, ha1, na, ha2⟩
      have ib : c1.s.heap.IsTuple b vb := ⟨_, S1.sub _ _ qb, hb1, nb, hb2⟩
      refine RZ.call_zipT ia ib fun h' hz hTI hTO h1 h2 hsz hkp => wpAny_pyIter_zip hz ?_
      obtain ⟨c', q1, q2, f', S', W⟩ := walk_zip (elts := elts) (kk := kk) (tpos := tpos) (xs := xs) (ys := ys) (n1 := va.size) (n2 := vb.size) (P1 := fun i v => va[i]? = some v) (P2 := fun i v => vb[i]? = some v) (St1 := fun i h => h.IsTupleIter c1.s.heap.objs.size a i ∧ h.IsTuple a va) (St2 := fun i h => h.IsTupleIter (c1.s.heap.objs.size + 1) b i ∧ h.IsTuple b vb) S f1 S1 htz qa qb hkp
        (fun A hh => Draws.tuple (A := A.in1) hh c1.s.heap.objs.size a (Nat.ne_of_lt (Heap.lt_size (S1.sub _ _ qa))) va) (fun A hh => Draws.tuple (A := A.in1) hh (c1.s.heap.objs.size + 1) b (Nat.ne_of_lt (Nat.lt_succ_of_lt (Heap.lt_size (S1.sub _ _ qb)))) vb)
        (fun i h st => obj_tup st) (fun i h st => obj_tup st) hz hTI hTO ⟨h1, ia.at fun o e => hkp a o e⟩ ⟨h2, ib.at fun o e => hkp b o e⟩
        (by rw [← la.length]; simp) (by rw [← lb.length]; simp) (fun i v y => la.get' (by simpa using y)) (fun i v y => lb.get' (by simpa using y))
      exact ⟨_, c', _, rfl, q1, by rw [q2], f', S', W⟩
  · rename_i xs ys
    cases hx
    cases r with
    | cons r1 rr =>
      obtain ⟨v2, rfl, r2⟩ := rr.one
      obtain ⟨a, va, na, rfl, qa, _, la, _⟩ := r1.w.lst_inv
      obtain ⟨b, vb, nb, rfl, qb, _, lb, _⟩ := r2.w.lst_inv
      have ia : c1.s.heap.IsList a va := ⟨_, S1.sub _ _ qa, rfl, na, rfl⟩
      have ib : c1.s.heap.IsList b vb := ⟨_, S1.sub _ _ qb, rfl, nb, rfl⟩
      refine call_zip_2 ia ib fun h' hz hTI hTO h1 h2 hsz hkp => wpAny_pyIter_zip hz ?_
      obtain ⟨c', q1, q2, f', S', W⟩ := walk_zip (elts := elts) (kk := kk) (tpos := tpos) (xs := xs) (ys := ys) (n1 := va.size) (n2 := vb.size) (P1 := fun i v => va[i]? = some v) (P2 := fun i v => vb[i]? = some v) (St1 := fun i h => h.IsListIter c1.s.heap.objs.size a i ∧ h.IsList a va) (St2 := fun i h => h.IsListIter (c1.s.heap.objs.size + 1) b i ∧ h.IsList b vb) S f1 S1 htz qa qb hkp
        (fun A hh => Draws.list (A := A.in1) hh c1.s.heap.objs.size a (Nat.ne_of_lt (Heap.lt_size (S1.sub _ _ qa))) va) (fun A hh => Draws.list (A := A.in1) hh (c1.s.heap.objs.size + 1) b (Nat.ne_of_lt (Nat.lt_succ_of_lt (Heap.lt_size (S1.sub _ _ qb)))) vb)
        (fun i h st => obj_lst st) (fun i h st => obj_lst st) hz hTI hTO ⟨h1, ia.at fun o e => hkp a o e⟩ ⟨h2, ib.at fun o e => hkp b o e⟩
        (by rw [← la.length]; simp) (by rw [← lb.length]; simp) (fun i v y => la.get' (by simpa using y)) (fun i v y => lb.get' (by simpa using y))
      exact ⟨_, c', _, rfl, q1, by rw [q2], f', S', W⟩
  · cases hx
end
end GB
/-! Dict comprehensions of two clauses: the loops. -/
namespace GB
open PySem PySem.Spec PyProof.Rows
section
variable {prog : Program} {w : World} {A : Around} {R : Result → Shared → Prop} {s : Shared} {kx vx t0 i0 t1 i1 : Expr} {ifs0 ifs1 : List Expr} {scope : Scope} {pos : Pos} {it : Value} {D : Addr} {env : Env}
abbrev NB (prog : Program) (w : World) (A : Around) (env : Env) (R : Result → Shared → Prop) : Value → Shared → Prop := notedBy (model prog w) A env fun e s' => R (.error e) s'
/-- the loop of the first clause -/
theorem dc2_out (hs : ∀ x, foldedSetIterable i1 env x = pure x) (I : Nat → Shared → Prop)
    (turn : ∀ n s, I n s → wpAny (model prog w) A (pyNext it) (fun r s₁ => match r with
      | none => R (.ok .next) s₁
      | some v => wpAny (model prog w) A (letOwnedTupleGo t0 it v) (fun _ s₁' => wpAny (model prog w) A (assign t0 env v) (fun _ s₂ =>
          wpAny (model prog w) A (forIn ifs0 true fun c r => if r = true then do let ok ← isTrue c env (eval c env); pure (ForInStep.yield ok) else pure (ForInStep.yield r)) (fun ok s₃ =>
            if ok = true then wpAny (model prog w) A (eval i1 env) (fun x s₄ => wpAny (model prog w) A (pyIter x) (fun it1 s₅ =>
              codeAny (model prog w) A (.compStart (.DictComp kx vx [⟨t0, i0, ifs0, 0⟩, ⟨t1, i1, ifs1, 0⟩] scope pos) 1 it1 (.ref D) env) (fun r s' => match r with
                | .ok _ => ∃ m, m < n ∧ I m s'
                | .error _ => False) s₅) (NB prog w A env R) s₄) (NB prog w A env R) s₃
            else ∃ m, m < n ∧ I m s₃) (NB prog w A env R) s₂) (NB prog w A env R) s₁') (NB prog w A env R) s₁) (NB prog w A env R) s)
    (n : Nat) (h : I n s) :
    codeAny (model prog w) A (.compLoop (.DictComp kx vx [⟨t0, i0, ifs0, 0⟩, ⟨t1, i1, ifs1, 0⟩] scope pos) 0 it (.ref D) env) R s := by
  refine codeAny_loop rfl I (fun n s hI => ?_) n h
  show wpAny _ A ((compTurn (.DictComp kx vx [⟨t0, i0, ifs0, 0⟩, ⟨t1, i1, ifs1, 0⟩] scope pos) 0 it (.ref D) env).onRaise (fun x => do noteFrame x env; theTreesLotGoes x)) _ _ s
  refine wpAny_noted ?_
  show wpAny _ A (standAt i0.pos >>= fun _ => pyNext it >>= _) _ _ s
  refine wpAny_bind (wpAny_standAt (wpAny_bind (wpAny_mono (turn n s hI) (fun r s₁ h₁ => ?_) fun _ _ h' => h')))
  cases r with
  | none => exact wpAny_pure h₁
  | some v =>
    refine wpAny_bind (wpAny_mono h₁ (fun _ s₁' h₁' => ?_) fun _ _ h' => h')
    refine wpAny_bind (wpAny_mono h₁' (fun _ s₂ h₂ => wpAny_bind (wpAny_mono h₂ (fun ok s₃ h₃ => ?_) fun _ _ h' => h')) fun _ _ h' => h')
    cases ok with
    | false => exact wpAny_pure ⟨rfl, h₃⟩
    | true =>
      refine wpAny_bind (wpAny_mono h₃ (fun x s₄ h₄ => ?_) fun _ _ h' => h')
      refine wpAny_bind (wpAny_standAt (wpAny_bind (wpAny_of_eq (hs x) (wpAny_bind (wpAny_holding (wpAny_mono h₄ (fun it1 s₅ h₅ => ?_) fun _ _ h' => h'))))))
      refine wpAny_bind (wpAny_runOwn ?_)
      rw [Around.mark_none]
      refine codeAny_mono h₅ fun r s' hr => ?_
      cases r with
      | ok f =>
        first
          | exact wpAny_pure ⟨rfl, hr⟩
          | exact wpAny_bind (wpAny_pure (wpAny_pure ⟨rfl, hr⟩))
      | error e => exact hr.elim
/-- the loop of the second -/
theorem dc2_in (I : Nat → Shared → Prop)
    (turn : ∀ n s, I n s → wpAny (model prog w) A (pyNext it) (fun r s₁ => match r with
      | none => R (.ok .next) s₁
      | some v => wpAny (model prog w) A (letOwnedTupleGo t1 it v) (fun _ s₁' => wpAny (model prog w) A (assign t1 env v) (fun _ s₂ =>
          wpAny (model prog w) A (forIn ifs1 true fun c r => if r = true then do let ok ← isTrue c env (eval c env); pure (ForInStep.yield ok) else pure (ForInStep.yield r)) (fun ok s₃ =>
            if ok = true then wpAny (model prog w) A (eval kx env) (fun kv s₄ => wpAny (model prog w) A (eval vx env) (fun vv s₅ =>
              wpAny (model prog w) A (dictSet D kv vv) (fun _ s₆ => ∃ m, m < n ∧ I m s₆) (NB prog w A env R) s₅) (NB prog w A env R) s₄) (NB prog w A env R) s₃
            else ∃ m, m < n ∧ I m s₃) (NB prog w A env R) s₂) (NB prog w A env R) s₁') (NB prog w A env R) s₁) (NB prog w A env R) s)
    (n : Nat) (h : I n s) :
    codeAny (model prog w) A (.compLoop (.DictComp kx vx [⟨t0, i0, ifs0, 0⟩, ⟨t1, i1, ifs1, 0⟩] scope pos) 1 it (.ref D) env) R s := by
  refine codeAny_loop rfl I (fun n s hI => ?_) n h
  show wpAny _ A ((compTurn (.DictComp kx vx [⟨t0, i0, ifs0, 0⟩, ⟨t1, i1, ifs1, 0⟩] scope pos) 1 it (.ref D) env).onRaise (fun x => do noteFrame x env; theTreesLotGoes x)) _ _ s
  refine wpAny_noted ?_
  show wpAny _ A (standAt i1.pos >>= fun _ => pyNext it >>= _) _ _ s
  refine wpAny_bind (wpAny_standAt (wpAny_bind (wpAny_mono (turn n s hI) (fun r s₁ h₁ => ?_) fun _ _ h' => h')))
  cases r with
  | none => exact wpAny_pure h₁
  | some v =>
    refine wpAny_bind (wpAny_mono h₁ (fun _ s₁' h₁' => ?_) fun _ _ h' => h')
    refine wpAny_bind (wpAny_mono h₁' (fun _ s₂ h₂ => wpAny_bind (wpAny_mono h₂ (fun ok s₃ h₃ => ?_) fun _ _ h' => h')) fun _ _ h' => h')
    cases ok with
    | false => exact wpAny_pure ⟨rfl, h₃⟩
    | true =>
      exact wpAny_bind (wpAny_bind (wpAny_mono h₃ (fun kv s₄ h₄ => wpAny_bind (wpAny_holding (wpAny_mono h₄ (fun vv s₅ h₅ => wpAny_bind (wpAny_standAt (wpAny_holding (wpAny_mono h₅ (fun _ s₆ h₆ => wpAny_pure ⟨rfl, h₆⟩) fun _ _ h' => h')))) fun _ _ h' => h'))) fun _ _ h' => h'))
/-- the second clause's start -/
theorem dc2_start (h0 : codeAny (model prog w) A (.compLoop (.DictComp kx vx [⟨t0, i0, ifs0, 0⟩, ⟨t1, i1, ifs1, 0⟩] scope pos) 1 it (.ref D) env) R s)
    (h : wpAny (model prog w) A (pyIter it) (fun it' s' => codeAny (model prog w) A (.compLoop (.DictComp kx vx [⟨t0, i0, ifs0, 0⟩, ⟨t1, i1, ifs1, 0⟩] scope pos) 1 it' (.ref D) env) R s')
      (NB prog w A env R) s) :
    codeAny (model prog w) A (.compStart (.DictComp kx vx [⟨t0, i0, ifs0, 0⟩, ⟨t1, i1, ifs1, 0⟩] scope pos) 1 it (.ref D) env) R s := by
  refine codeAny_of_tree ?_
  show wpAny _ _ ((compStart (.DictComp kx vx [⟨t0, i0, ifs0, 0⟩, ⟨t1, i1, ifs1, 0⟩] scope pos) 1 it (.ref D) env).onRaise (fun x => do noteFrame x env; standAt theWindowsPlace)) _ _ s
  refine wpAny_notedAt ?_
  unfold compStart
  show wpAny _ _ (ask >>= _) _ _ s
  refine wpAny_bind (wpAny_askSetting (wpAny_ite ?_))
  split
  · first
      | exact wpAny_bind (wpAny_pure (wpAny_pure (And.intro rfl h0)))
      | exact wpAny_pure (And.intro rfl h0)
  · first
      | exact wpAny_bind (wpAny_rule (wpAny_bind (wpAny_standAt (wpAny_bind (wpAny_mono h (fun it' s' h' => wpAny_pure (And.intro rfl h')) fun _ _ x => x)))))
      | (refine wpAny_bind (wpAny_rule ?_); show wpAny _ _ (standAt i1.pos >>= _) _ _ s; exact wpAny_bind (wpAny_standAt (wpAny_bind (wpAny_mono h (fun it' s' h' => wpAny_pure (And.intro rfl h')) fun _ _ x => x))))
end
end GB
/-! The turns of a clause that fills a dict. -/
namespace GB
open PySem PySem.Spec PyProof.Rows
open L2 (Key keyH keyIs mixKind Mod Look Vis Loc frs thn thnF)
theorem thnX {α : Type} {t : Sem α} {Q Q' : α → Shared → Prop} {M : Model} {A : Around} {E E' : Value → Shared → Prop} {s : Shared} (hx : ∀ v s, E v s → False) (h : wpAny M A t Q E s) (hQ : ∀ a s, Q a s → Q' a s) : wpAny M A t Q' E' s := wpAny_mono h hQ fun v s z => (hx v s z).elim
section
variable {X : Cx} {cs : Cf} {kx vx tg : Expr} {ifs : List Expr} {tup : Bool} {g : D → Rho → Option (O Unit)} {t : DT} {dk de : DE}
/-- a dict under way at D -/
def DHold (X : Cx) (c : Cf) (D : Addr) (acc : List (GB.D × GB.D)) : Prop := c.F D = none ∧ ¬ Owns c D ∧ ∃ (o : Obj) (es : Array DictEntry) (ep : Nat) (ks : List (Key × GB.D)), c.s.heap.get? D = some o ∧ o.ExactDict ∧ o.data = .dict es ep ∧ RepK X.w c.F c.s.toks es.toList ks ∧ (ks.map (·.1)).Nodup ∧ es.size ≤ sizeLine ∧ acc = ks.map (fun p => (keyD p.1, p.2))
theorem dc_turns {T0 : Nat} {F1 : FH} {I D : Addr} {fp wr : List Addr} {St : Nat → Heap → Prop} {ds : List GB.D} {acc0 xs : List (GB.D × GB.D)} {ρf : Rho} {code : Code} {R : Result → Shared → Prop} (hxe : ∀ v s, X.xe v s → False)
    (pg : PGv X tup tg g) (pt : PTs X ifs t) (pk : PD X kx dk) (pe : PD X vx de) (G : Itr X.prog X.w tg T0 I fp wr ds.length (fun k v s' => ∃ d, ds[k]? = some d ∧ Yld X.w F1 tup d v s') St) (hdl : X.A.handled = none)
    (nmF : ∀ b ∈ fp, ¬ Mine X b) (nmD : ¬ Mine X D) (DF : D ∉ fp) (offs : ∀ ck : Cf, ck.F D = none → ¬ Owns ck D → (∀ b ∈ wr, ck.F b = none) → (∀ b ∈ fp, ¬ Owns ck b) → ∀ b ∈ D :: wr, Off X ck b)
    (Scs : SR X cs) (st0 : St 0 cs.s.heap) (hT : T0 ≤ cs.s.toks) (sF0 : Sub F1 cs.F) (wF0 : ∀ b ∈ wr, cs.F b = none) (wO0 : ∀ b ∈ fp, ¬ Owns cs b) (hold : DHold X cs D acc0) (hgo : dDcGo g t dk de ds acc0 cs.ρ = some (xs, ρf))
    (fin : ∀ c', c'.ρ = ρf → SR X c' → FrX X (D :: wr) cs c' → DHold X c' D xs → R (.ok .next) c'.s)
    (rule : ∀ Inv : Nat → Shared → Prop, (∀ n s, Inv n s → wpAny (model X.prog X.w) X.A (pyNext (.ref I)) (fun r s₁ => match r with
      | none => R (.ok .next) s₁
      | some v => wpAny (model X.prog X.w) X.A (letOwnedTupleGo tg (.ref I) v) (fun _ s₁' => wpAny (model X.prog X.w) X.A (assign tg X.env v) (fun _ s₂ =>
          wpAny (model X.prog X.w) X.A (forIn ifs true fun c r => if r = true then do let ok ← isTrue c X.env (eval c X.env); pure (ForInStep.yield ok) else pure (ForInStep.yield r)) (fun ok s₃ =>
            if ok = true then wpAny (model X.prog X.w) X.A (eval kx X.env) (fun kv s₄ => wpAny (model X.prog X.w) X.A (eval vx X.env) (fun vv s₅ =>
              wpAny (model X.prog X.w) X.A (dictSet D kv vv) (fun _ s₆ => ∃ m, m < n ∧ Inv m s₆) (NB X.prog X.w X.A X.env R) s₅) (NB X.prog X.w X.A X.env R) s₄) (NB X.prog X.w X.A X.env R) s₃
            else ∃ m, m < n ∧ Inv m s₃) (NB X.prog X.w X.A X.env R) s₂) (NB X.prog X.w X.A X.env R) s₁') (NB X.prog X.w X.A X.env R) s₁) (NB X.prog X.w X.A X.env R) s) → ∀ n, Inv n cs.s → codeAny (model X.prog X.w) X.A code R cs.s) :
    codeAny (model X.prog X.w) X.A code R cs.s := by
  obtain ⟨DF0, DO0, o0, es0, ep0, ks0, hD0, hx0, hdat0, rk0, nd0, zsz0, eacc0⟩ := hold
  let Inv : Nat → Shared → Prop := fun k s' => ∃ i ck acc o es ep ks, ck.s = s' ∧ i ≤ ds.length ∧ k = ds.length + 1 - i ∧ SR X ck ∧ FrX X (D :: wr) cs ck ∧ St i s'.heap ∧ T0 ≤ s'.toks ∧
      ck.F D = none ∧ ¬ Owns ck D ∧ (∀ b ∈ wr, ck.F b = none) ∧ (∀ b ∈ fp, ¬ Owns ck b) ∧ ck.s.heap.get? D = some o ∧ o.ExactDict ∧ o.data = .dict es ep ∧ RepK X.w ck.F ck.s.toks es.toList ks ∧ (ks.map (·.1)).Nodup ∧ es.size ≤ sizeLine ∧ acc = ks.map (fun p => (keyD p.1, p.2)) ∧ dDcGo g t dk de (ds.drop i) acc ck.ρ = some (xs, ρf)
  let EE : Value → Shared → Prop := NB X.prog X.w X.A X.env R
  refine rule Inv ?_ (ds.length + 1) ⟨0, cs, acc0, o0, es0, ep0, ks0, rfl, Nat.zero_le _, rfl, Scs, FrB.refl.x, st0, hT, DF0, DO0, wF0, wO0, hD0, hx0, hdat0, rk0, nd0, zsz0, eacc0, by rw [List.drop_zero]; exact hgo⟩
  rintro k s' ⟨i, ck, acc, ob, es, ep, kvl, rfl, hi', rfl, Sk, fk, st, tkk, DFn, DOn, wF, wO, hDk, hx, hdat, rk, nd, zsz, eacc, hdk⟩
  have hoff := offs ck DFn DOn wF wO
  have hoffW : ∀ b ∈ wr, Off X ck b := fun b hb => hoff b (List.mem_cons_of_mem _ hb)
  have dW : D ∉ wr := fun z => DF (G.sub D z)
  by_cases hlt : i < ds.length
  · rw [List.drop_eq_getElem_cons hlt] at hdk
    refine wpAny_mono (G.goes X.A i ck.s (fun v s₂ => wpAny (model X.prog X.w) X.A (assign tg X.env v) (fun _ s₃ =>
        wpAny (model X.prog X.w) X.A (forIn ifs true fun c r => if r = true then do let ok ← isTrue c X.env (eval c X.env); pure (ForInStep.yield ok) else pure (ForInStep.yield r)) (fun ok s₃ =>
          if ok = true then wpAny (model X.prog X.w) X.A (eval kx X.env) (fun y s₄ => wpAny (model X.prog X.w) X.A (eval vx X.env) (fun x s₅ =>
            wpAny (model X.prog X.w) X.A (dictSet D y x) (fun _ s₆ => ∃ m, m < ds.length + 1 - i ∧ Inv m s₆) EE s₅) EE s₄) EE s₃
          else ∃ m, m < ds.length + 1 - i ∧ Inv m s₃) EE s₃) EE s₂) EE hdl hlt tkk st ?_) ?_ (fun _ _ e => e)
    · intro v h' tk ⟨d, hdk', y⟩ st' kk htk
      have ed : ds[i] = d := by
        have : ds[i]? = some ds[i] := by simp [hlt]
        rw [this] at hdk'
        exact Option.some.inj hdk'
      rw [ed] at hdk
      obtain ⟨S4, f4⟩ := Sk.touch (wr := wr) hoffW (s' := { ck.s with heap := h', toks := tk }) kk htk
      have f4 : FrX X (D :: wr) ck { ck with s := { ck.s with heap := h', toks := tk } } := ⟨f4.fm, f4.tk, fun b o w => f4.hm b o (fun z => w (List.mem_cons_of_mem _ z)), fun b o w => f4.st b o (fun z => w (List.mem_cons_of_mem _ z)), f4.fr, f4.pr, f4.ka⟩
      have sF : Sub F1 ck.F := sF0.trans fk.fm
      have y' : Yld X.w ck.F tup d v { ck.s with heap := h', toks := tk } := by
        unfold Yld at y ⊢
        by_cases z : tup = true
        · rw [if_pos z] at y ⊢
          obtain ⟨T, vals, ds', e1, e2, e3, e4⟩ := y
          exact ⟨T, vals, ds', e1, e2, e3.mono sF (Nat.le_refl _), e4⟩
        · rw [if_neg z] at y ⊢
          exact y.mono sF (Nat.le_refl _)
      have hdk : (match g d ck.ρ with
        | some (.ok _ ρ1) => (match t ρ1 with
          | some (.ok b ρ2) => if b = true then (match dk ρ2 with
            | some (.ok r1 ρ3) => if r1.isWeak = true then none else (match de ρ3 with
              | some (.ok r2 ρ4) => if r2.isWeak = true then none else (match r1.d.key with
                | some k => if acc.length < 16777216 then dDcGo g t dk de (ds.drop (i + 1)) (dPut acc k r2.d) ρ4 else none
                | none => none)
              | _ => none)
            | _ => none) else dDcGo g t dk de (ds.drop (i + 1)) acc ρ2
          | _ => none)
        | _ => none) = some (xs, ρf) := hdk
      have hD4 : h'.get? D = some ob := kk D _ dW hDk
      -- what stays
      have stay : ∀ {ca cb : Cf}, FrB X ca cb → ca.F D = none → ¬ Owns ca D → (∀ b ∈ wr, ca.F b = none) → (∀ b ∈ fp, ¬ Owns ca b) → St (i + 1) ca.s.heap → (∀ o, ca.s.heap.get? D = some o → cb.s.heap.get? D = some o ∧ cb.F D = none ∧ ¬ Owns cb D) ∧ (∀ b ∈ wr, cb.F b = none) ∧ (∀ b ∈ fp, ¬ Owns cb b) ∧ St (i + 1) cb.s.heap := fun {ca cb} fab a1 a2 a3 a4 a5 => by
        have q : ∀ b ∈ fp, ∃ o, ca.s.heap.get? b = some o := G.obj _ _ a5
        refine ⟨fun o e => ?_, fun b hb => ?_, fun b hb => ?_, G.frame _ _ _ a5 fun b hb o e => (fab.st b o e (a4 b hb) (nmF b hb)).1⟩
        · obtain ⟨h1, h2, h3⟩ := fab.st D o e a2 nmD
          exact ⟨h1, h3 a1, h2⟩
        · obtain ⟨o, e⟩ := q b (G.sub b hb)
          exact (fab.st b o e (a4 b (G.sub b hb)) (nmF b (G.sub b hb))).2.2 (a3 b hb)
        · obtain ⟨o, e⟩ := q b hb
          exact (fab.st b o e (a4 b hb) (nmF b hb)).2.1
      cases e1 : g d ck.ρ with
      | none => rw [e1] at hdk; cases hdk
      | some o1 =>
        cases o1 with
        | ex _ _ => rw [e1] at hdk; cases hdk
        | ok u ρ1 =>
          simp only [e1] at hdk
          refine (thnX hxe (pg.run { ck with s := { ck.s with heap := h', toks := tk } } d v _ S4 y' e1 (fun _ _ z => by cases z)) fun _ s5 ⟨c5, q5, eo5, f5, S5⟩ => ?_)
          subst q5
          cases eo5
          obtain ⟨D5, w5, o5, st5⟩ := stay f5 DFn DOn wF wO st'
          obtain ⟨hD5, DF5, DO5⟩ := D5 _ hD4
          cases e2 : t c5.ρ with
          | none => rw [e2] at hdk; cases hdk
          | some o2 =>
            cases o2 with
            | ex _ _ => rw [e2] at hdk; cases hdk
            | ok b ρ2 =>
              simp only [e2] at hdk
              refine (thnX hxe (pt.run c5 _ S5 e2 trivial) fun b' s6 ⟨c6, q6, eo6, f6, S6⟩ => ?_)
              subst q6
              cases eo6
              obtain ⟨D6, w6, o6, st6⟩ := stay f6.toFrB DF5 DO5 w5 o5 st5
              obtain ⟨hD6, DF6, DO6⟩ := D6 _ hD5
              have f46 := (fk.trans f4).trans ((f5.trans f6.toFrB).x)
              have tk6 : T0 ≤ c6.s.toks := Nat.le_trans tkk (Nat.le_trans htk (Nat.le_trans f5.tk f6.tk))
              have fm6 : Sub ck.F c6.F := f5.fm.trans f6.fm
              have tm6 : ck.s.toks ≤ c6.s.toks := Nat.le_trans htk (Nat.le_trans f5.tk f6.tk)
              cases b with
              | false =>
                simp only [Bool.false_eq_true, if_false] at hdk ⊢
                exact ⟨ds.length + 1 - (i + 1), by omega, i + 1, c6, acc, ob, es, ep, kvl, rfl, hlt, rfl, S6, f46, st6, tk6, DF6, DO6, w6, o6, hD6, hx, hdat, rk.mono fm6 tm6, nd, zsz, eacc, hdk⟩
              | true =>
                simp only [if_true] at hdk ⊢
                cases e3 : dk c6.ρ with
                | none => rw [e3] at hdk; cases hdk
                | some o3 =>
                  cases o3 with
                  | ex _ _ => rw [e3] at hdk; cases hdk
                  | ok r1 ρ3 =>
                    simp only [e3] at hdk
                    by_cases wk : r1.isWeak = true
                    · rw [if_pos wk] at hdk; cases hdk
                    · rw [if_neg wk] at hdk
                      refine (thnX hxe (pk.run c6 _ S6 e3 trivial) fun y s7 ⟨r1', c7, q7, eo7, f7, S7, ro⟩ => ?_)
                      subst q7
                      cases eo7
                      obtain ⟨F8, f8, S8, _, ry, sub8⟩ := ro.froze f7 S7
                      have ry := ry (fun s q => wk (by rw [q]; rfl))
                      obtain ⟨D7, w7, o7, st7⟩ := stay f8.toFrB DF6 DO6 w6 o6 st6
                      obtain ⟨hD7, DF7, DO7⟩ := D7 _ hD6
                      cases e4 : de c7.ρ with
                      | none => rw [e4] at hdk; cases hdk
                      | some o4 =>
                        cases o4 with
                        | ex _ _ => rw [e4] at hdk; cases hdk
                        | ok r2 ρ4 =>
                          simp only [e4] at hdk
                          by_cases wk2 : r2.isWeak = true
                          · rw [if_pos wk2] at hdk; cases hdk
                          · rw [if_neg wk2] at hdk
                            cases hkey : r1.d.key with
                            | none => rw [hkey] at hdk; cases hdk
                            | some kk0 =>
                              simp only [hkey] at hdk
                              by_cases zz : acc.length < 16777216
                              · rw [if_pos zz] at hdk
                                refine (thnX hxe (pe.run { c7 with F := F8 } _ S8 e4 trivial) fun x s9 ⟨r2', c9, q9, eo9, f9, S9, ro9⟩ => ?_)
                                subst q9
                                cases eo9
                                obtain ⟨F10, f10, S10, _, rx, sub10⟩ := ro9.froze f9 S9
                                have rx := rx (fun s q => wk2 (by rw [q]; rfl))
                                obtain ⟨D9, w9, o9, st9⟩ := stay f10.toFrB DF7 DO7 w7 o7 st7
                                obtain ⟨hD9, DF9, DO9⟩ := D9 _ hD7
                                have hD9 : c9.s.heap.get? D = some ob := hD9
                                have ek := key_keyD hkey
                                rw [ek] at ry
                                have ry9 := ry.mono f10.fm f10.tk
                                have rk9 := ((rk.mono fm6 tm6).mono f8.fm f8.tk).mono f10.fm f10.tk
                                have zl : es.size < sizeLine := by
                                  have := rk.length
                                  rw [eacc, List.length_map, ← this, Array.length_toList] at zz
                                  rw [sizeLine_eq]; exact zz
                                refine dictSet_exact (s := c9.s) hD9 hx hdat rk9 nd ry9 rx zl fun h11 ob' hD11 r11 sb11 => ?_
                                have D10w : ∀ b ∈ [D], Off X { c9 with F := F10 } b := fun b hb => by
                                  have e : b = D := by simpa using hb
                                  rw [e]
                                  exact offs { c9 with F := F10 } DF9 DO9 w9 o9 D (List.mem_cons_self)
                                obtain ⟨S11, f11⟩ := S10.touch (wr := [D]) D10w (s' := { c9.s with heap := h11, toks := c9.s.toks + 1 }) (fun b o hb e => (sb11.2 b (fun z => hb (by simp [z]))).trans e) (Nat.le_succ _)
                                have f11 : FrX X (D :: wr) { c9 with F := F10 } { c9 with F := F10, s := { c9.s with heap := h11, toks := c9.s.toks + 1 } } := by
                                  have nw : ∀ b, b ∉ D :: wr → b ∉ [D] := fun b w z => w (by
                                    have e : b = D := by simpa using z
                                    rw [e]; exact List.mem_cons_self)
                                  exact ⟨f11.fm, f11.tk, fun b o w => f11.hm b o (nw b w), fun b o w => f11.st b o (nw b w), f11.fr, f11.pr, f11.ka⟩
                                cases r11 with
                                | @dic _ es' ep' ks' _ hx' hdat' z' rk' nd' e' =>
                                  refine ⟨ds.length + 1 - (i + 1), by omega, i + 1, { c9 with F := F10, s := { c9.s with heap := h11, toks := c9.s.toks + 1 } }, dPut acc kk0 r2.d, ob', es', ep', ks', rfl, hlt, rfl, S11, ((f46.trans f8.toFrB.x).trans f10.toFrB.x).trans f11, ?_, ?_, DF9, DO9, w9, o9, hD11, hx', hdat', rk', nd', z', ?_, hdk⟩
                                  · exact G.frame _ _ _ st9 fun b hb o e => (sb11.2 b (fun z => DF (z ▸ hb))).trans e
                                  · exact Nat.le_trans tk6 (Nat.le_trans f8.tk (Nat.le_trans f10.tk (Nat.le_succ _)))
                                  · rw [eacc]; exact e'
                              · rw [if_neg zz] at hdk; cases hdk
    · rintro r s₁ ⟨v, rfl, h⟩
      exact h
  · have ei : i = ds.length := by omega
    subst ei
    rw [List.drop_length] at hdk
    cases hdk
    refine wpAny_mono (G.stops X.A ck.s (fun s₂ => ∃ h' tk, s₂ = { ck.s with heap := h', toks := tk } ∧ (∀ b o, b ∉ wr → ck.s.heap.get? b = some o → h'.get? b = some o) ∧ ck.s.toks ≤ tk) _ hdl st fun h' tk kk ht => ⟨h', tk, rfl, kk, ht⟩) ?_ (fun _ _ e => e)
    rintro r s₁ ⟨rfl, h', tk, rfl, kk, htk⟩
    obtain ⟨S4, f4⟩ := Sk.touch (wr := wr) hoffW (s' := { ck.s with heap := h', toks := tk }) kk htk
    have f4 : FrX X (D :: wr) ck { ck with s := { ck.s with heap := h', toks := tk } } := ⟨f4.fm, f4.tk, fun b o w => f4.hm b o (fun z => w (List.mem_cons_of_mem _ z)), fun b o w => f4.st b o (fun z => w (List.mem_cons_of_mem _ z)), f4.fr, f4.pr, f4.ka⟩
    have hD4 : h'.get? D = some ob := kk D _ dW hDk
    exact fin { ck with s := { ck.s with heap := h', toks := tk } } rfl S4 (fk.trans f4) ⟨DFn, DOn, ob, es, ep, kvl, hD4, hx, hdat, rk.mono (Sub.refl _) htk, nd, zsz, eacc⟩
end
end GB
/-! Dict comprehensions of two clauses. -/
namespace GB
open PySem PySem.Spec PyProof.Rows
open L2 (Key keyH keyIs mixKind Mod Look Vis Loc frs thn thnF cloFrom closure_ok newEnv_comp)
section
variable {X : Cx} {c c0 c1 c2 c3 : Cf} {scope : Scope} {vs own : List Nat} {tg iter : Expr} {ifs : List Expr} {pos pos' : Pos}
def dDc2Go (g : D → Rho → Option (O Unit)) (t : DT) (p1 : DA) (g1 : D → Rho → Option (O Unit)) (t1 : DT) (dk de : DE) : List D → List (D × D) → Rho → Option (List (D × D) × Rho)
  | [], acc, ρ => some (acc, ρ)
  | d :: ds, acc, ρ => match g d ρ with
    | some (.ok _ ρ1) => (match t ρ1 with
      | some (.ok b ρ2) => if b = true then (match p1 ρ2 with
        | some (.ok ds1 ρ3) => (match dDcGo g1 t1 dk de ds1 acc ρ3 with
          | some q => dDc2Go g t p1 g1 t1 dk de ds q.1 q.2
          | none => none)
        | _ => none) else dDc2Go g t p1 g1 t1 dk de ds acc ρ2
      | _ => none)
    | _ => none
/-- the block of {kx: vx for tg in .. if ..}, from the state behind the iterator -/
theorem dc2_core {kx vx tg1 iter1 : Expr} {ifs1 : List Expr} {tup tup1 : Bool} {g g1 : D → Rho → Option (O Unit)} {t t1 : DT} {p1 : DA} {dk de : DE} {I : Addr} {ds : List D} {xs : List (D × D)} {ρf : Rho} {use : Option (Value → Sem Unit)} {Qf E : Value → Shared → Prop} {cl : List (Str × Addr)}
    (S0 : SR X c) (f01 : Fr X c c1) (S1 : SR X c1) (W : Walk X c c1 tup tg I ds) (ok : Blk X.N X.env.scope scope vs own)
    (hg : ∀ h, PGv (X.blk own (blkEnv X scope h)) tup tg g) (ht : ∀ h, PTs (X.blk own (blkEnv X scope h)) ifs t) (hi1 : ∀ h, PI (X.blk own (blkEnv X scope h)) tup1 tg1 iter1 p1) (hg1 : ∀ h, PGv (X.blk own (blkEnv X scope h)) tup1 tg1 g1) (ht1 : ∀ h, PTs (X.blk own (blkEnv X scope h)) ifs1 t1) (hs1 : ∀ h x, foldedSetIterable iter1 (blkEnv X scope h) x = pure x) (hkx : ∀ h, PD (X.blk own (blkEnv X scope h)) kx dk) (he : ∀ h, PD (X.blk own (blkEnv X scope h)) vx de)
    (hd : dDc2Go g t p1 g1 t1 dk de ds [] (hide vs 0 c1.ρ) = some (xs, ρf))
    (hcl : cl = cloFrom X.env.cells scope.names [])
    (hq : ∀ c3 D C m, c3.ρ = unhide vs 0 c1.ρ ρf → c3.α = c1.α → FrB X c c3 → SR X c3 → ResOk X c c3 (.fresh (.dic xs)) (.ref D) → c3.s.heap.Ns C m → NewAt X c c3 C → C ≠ D → compPost (model X.prog X.w) X.A E use Qf (.ref D) C (.ok .next) c3.s) :
    wpAny (model X.prog X.w) X.A newDict (fun acc s3 => wpAny (model X.prog X.w) X.A (newFunctionEnv scope X.env.globals cl [] X.env.qual none .none (some X.env)) (fun cenv s4 =>
        codeAny (model X.prog X.w) X.A (.compStart (.DictComp kx vx [⟨tg, iter, ifs, 0⟩, ⟨tg1, iter1, ifs1, 0⟩] scope pos) 0 (.ref I) acc { cenv with scope := relabel scope X.env }) (compPost (model X.prog X.w) X.A E use Qf acc cenv.locals) s4) E s3) E c1.s := by
  subst hcl
  refine wpAny_newObj_type (newEnv_comp ?_)
  obtain ⟨fp, wr, St, G, st0, hw, hf, _⟩ := W.it
  -- the new list
  let lo : Obj := { cls := .type "dict", data := .dict #[] }
  obtain ⟨S2, f2⟩ := S1.kept (s' := { c1.s with heap := c1.s.heap.push lo }) (fun b o e => Heap.get?_push_of_some _ e) (Nat.le_refl _)
  generalize hc2 : ({ c1 with s := { c1.s with heap := c1.s.heap.push lo } } : Cf) = c2 at S2 f2
  have f02 : Fr X c c2 := f01.trans f2
  have eD : c1.s.heap.objs.size = c1.s.heap.objs.size := rfl
  generalize hD : c1.s.heap.objs.size = D at *
  have hDn : c1.s.heap.get? D = none := by rw [← hD]; exact S1.new
  have eρ : c2.ρ = c1.ρ := by rw [← hc2]
  have eF : c2.F = c1.F := by rw [← hc2]
  have eα : c2.α = c1.α := by rw [← hc2]
  have et : c2.s.toks = c1.s.toks := by rw [← hc2]
  have hD2 : c2.s.heap.get? D = some lo := by rw [← hc2, ← hD]; exact Heap.get?_push_size _ rfl
  have k12 : ∀ b o, c1.s.heap.get? b = some o → c2.s.heap.get? b = some o := fun b o e => by rw [← hc2]; exact Heap.get?_push_of_some _ e
  have no12 : ∀ b, ¬ Owns c1 b → ¬ Owns c2 b := fun b n ⟨i, io, ib⟩ => n ⟨i, by rw [← eρ]; exact io, by rw [← eα]; exact ib⟩
  have st2 : St 0 c2.s.heap := G.frame _ _ _ st0 fun b _ o e => k12 b o e
  have newD : NewAt X c c2 D := ⟨f01.toFrB.back hDn, ⟨_, hD2⟩, by rw [eF]; exact S1.fnone hDn, no12 D (S1.nown hDn)⟩
  have newW : ∀ b ∈ wr, NewAt X c c2 b := fun b hb => by
    obtain ⟨o, e⟩ := G.obj _ _ st0 b (G.sub b hb)
    exact ⟨(hw b hb).1, ⟨o, k12 b o e⟩, by rw [eF]; exact (hw b hb).2, no12 b (hf b (G.sub b hb)).1⟩
  have newA : ∀ b ∈ D :: wr, NewAt X c c2 b := fun b hb => by
    rcases List.mem_cons.mp hb with e | e
    · rw [e]; exact newD
    · exact newW b e
  have DF : D ∉ fp := fun z => by
    obtain ⟨o, e⟩ := G.obj _ _ st0 D z
    rw [hDn] at e; cases e
  show codeAny _ _ (.compStart (.DictComp kx vx [⟨tg, iter, ifs, 0⟩, ⟨tg1, iter1, ifs1, 0⟩] scope pos) 0 (.ref I) (.ref D) (compEnvC scope (cellsFrom ((c1.s.heap.push lo).objs.size + 1) scope.names (cloFrom X.env.cells scope.names [])) (c1.s.heap.push lo).objs.size X.env)) (compPost (model X.prog X.w) X.A E use Qf (.ref D) (c1.s.heap.push lo).objs.size) { c1.s with heap := pushCells ((c1.s.heap.push lo).push { cls := .type "dict", data := .dict #[] }) scope.names }
  have eh : c1.s.heap.push lo = c2.s.heap := by rw [← hc2]
  have es : ({ c1.s with heap := pushCells ((c1.s.heap.push lo).push { cls := .type "dict", data := .dict #[] }) scope.names } : Shared) = (blkCf scope vs c2).s := by rw [← hc2]; rfl
  rw [es, eh]
  have S3 := blk_start (by rw [et]; exact W.tk1) S2 ok
  have pg := hg c2.s.heap
  have pt := ht c2.s.heap
  have pi1 := hi1 c2.s.heap
  have pg1 := hg1 c2.s.heap
  have pt1 := ht1 c2.s.heap
  have pk := hkx c2.s.heap
  have pe := he c2.s.heap
  have C2 := blk_cells S2 ok
  show codeAny _ _ (.compStart (.DictComp kx vx [⟨tg, iter, ifs, 0⟩, ⟨tg1, iter1, ifs1, 0⟩] scope pos) 0 (.ref I) (.ref D) (blkEnv X scope c2.s.heap)) (compPost (model X.prog X.w) X.A E use Qf (.ref D) c2.s.heap.objs.size) _
  have kb := blk_keeps (scope := scope) c2.s.heap
  have st3 : St 0 (blkCf scope vs c2).s.heap := G.frame _ _ _ st2 fun b _ o e => kb b o e
  have nmF : ∀ b ∈ fp, ¬ Mine (X.blk own (blkEnv X scope c2.s.heap)) b := fun b hb z => by
    obtain ⟨o, e⟩ := G.obj _ _ st2 b hb
    exact (hf b hb).2 (blk_mine S2 ok e z)
  have nmD : ¬ Mine (X.blk own (blkEnv X scope c2.s.heap)) D := fun z => (newD.off S0 S2 f02.toFrB).nm (blk_mine S2 ok hD2 z)
  have offs : ∀ ck : Cf, ck.F D = none → ¬ Owns ck D → (∀ b ∈ wr, ck.F b = none) → (∀ b ∈ fp, ¬ Owns ck b) → ∀ b ∈ D :: wr, Off (X.blk own (blkEnv X scope c2.s.heap)) ck b := fun ck a1 a2 a3 a4 b hb => by
    refine blk_off S2 ok ((newA b hb).off S0 S2 f02.toFrB) (newA b hb).here ?_ ?_
    · rcases List.mem_cons.mp hb with e | e
      · rw [e]; exact a1
      · exact a3 b e
    · rcases List.mem_cons.mp hb with e | e
      · rw [e]; exact a2
      · exact a4 b (G.sub b e)
  have hideO : ∀ b, ¬ Owns c2 b → ¬ Owns (blkCf scope vs c2) b := fun b n ⟨i, io, ib⟩ => n ⟨i, (isOwn_hide io).2, ib⟩
  have loop : codeAny (model X.prog X.w) X.A (.compLoop (.DictComp kx vx [⟨tg, iter, ifs, 0⟩, ⟨tg1, iter1, ifs1, 0⟩] scope pos) 0 (.ref I) (.ref D) (blkEnv X scope c2.s.heap)) (compPost (model X.prog X.w) X.A E use Qf (.ref D) c2.s.heap.objs.size) (blkCf scope vs c2).s := by
    let Inv : Nat → Shared → Prop := fun k s' => ∃ i ck acc o es ep ks, ck.s = s' ∧ i ≤ ds.length ∧ k = ds.length + 1 - i ∧ SR (X.blk own (blkEnv X scope c2.s.heap)) ck ∧ FrX (X.blk own (blkEnv X scope c2.s.heap)) (D :: wr) (blkCf scope vs c2) ck ∧ St i s'.heap ∧ c1.s.toks ≤ s'.toks ∧
        ck.F D = none ∧ ¬ Owns ck D ∧ (∀ b ∈ wr, ck.F b = none) ∧ (∀ b ∈ fp, ¬ Owns ck b) ∧ ck.s.heap.get? D = some o ∧ o.ExactDict ∧ o.data = .dict es ep ∧ RepK X.w ck.F ck.s.toks es.toList ks ∧ (ks.map (·.1)).Nodup ∧ es.size ≤ sizeLine ∧ acc = ks.map (fun p => (keyD p.1, p.2)) ∧ dDc2Go g t p1 g1 t1 dk de (ds.drop i) acc ck.ρ = some (xs, ρf)
    let EE : Value → Shared → Prop := notedBy (model X.prog X.w) X.A (blkEnv X scope c2.s.heap) fun e s' => compPost (model X.prog X.w) X.A E use Qf (.ref D) c2.s.heap.objs.size (.error e) s'
    refine dc2_out (hs1 _) Inv ?_ (ds.length + 1)
      ⟨0, blkCf scope vs c2, [], lo, #[], _, [], rfl, Nat.zero_le _, rfl, S3, FrB.refl.x, st3, Nat.le_of_eq et.symm, newD.nf, hideO D newD.no, fun b hb => (newW b hb).nf, fun b hb => hideO b (no12 b (hf b hb).1), kb D _ hD2, ⟨rfl, rfl, rfl⟩, rfl, .nil, by simp, Nat.zero_le _, rfl, by rw [List.drop_zero]; show dDc2Go g t p1 g1 t1 dk de ds [] (hide vs 0 c2.ρ) = _; rw [eρ]; exact hd⟩
    rintro k s' ⟨i, ck, acc, ob, es, ep, kvl, rfl, hi', rfl, Sk, fk, st, tkk, DFn, DOn, wF, wO, hDk, hx, hdat, rk, nd, zsz, eacc, hdk⟩
    have hoff := offs ck DFn DOn wF wO
    have hoffW : ∀ b ∈ wr, Off (X.blk own (blkEnv X scope c2.s.heap)) ck b := fun b hb => hoff b (List.mem_cons_of_mem _ hb)
    have dW : D ∉ wr := fun z => DF (G.sub D z)
    by_cases hlt : i < ds.length
    · rw [List.drop_eq_getElem_cons hlt] at hdk
      refine wpAny_mono (G.goes X.A i ck.s (fun v s₂ => wpAny (model X.prog X.w) X.A (assign tg (blkEnv X scope c2.s.heap) v) (fun _ s₃ =>
          wpAny (model X.prog X.w) X.A (forIn ifs true fun c r => if r = true then do let ok ← isTrue c (blkEnv X scope c2.s.heap) (eval c (blkEnv X scope c2.s.heap)); pure (ForInStep.yield ok) else pure (ForInStep.yield r)) (fun ok s₃ =>
            if ok = true then wpAny (model X.prog X.w) X.A (eval iter1 (blkEnv X scope c2.s.heap)) (fun x s₄ => wpAny (model X.prog X.w) X.A (pyIter x) (fun it1 s₅ =>
              codeAny (model X.prog X.w) X.A (.compStart (.DictComp kx vx [⟨tg, iter, ifs, 0⟩, ⟨tg1, iter1, ifs1, 0⟩] scope pos) 1 it1 (.ref D) (blkEnv X scope c2.s.heap)) (fun r s' => match r with
                | .ok _ => ∃ m, m < ds.length + 1 - i ∧ Inv m s'
                | .error _ => False) s₅) EE s₄) EE s₃
            else ∃ m, m < ds.length + 1 - i ∧ Inv m s₃) EE s₃) EE s₂) EE S1.ok.hd hlt tkk st ?_) ?_ (fun _ _ e => e)
      · intro v h' tk ⟨d, hdk', y⟩ st' kk htk
        have ed : ds[i] = d := by
          have : ds[i]? = some ds[i] := by simp [hlt]
          rw [this] at hdk'
          exact Option.some.inj hdk'
        rw [ed] at hdk
        obtain ⟨S4, f4⟩ := Sk.touch (wr := wr) hoffW (s' := { ck.s with heap := h', toks := tk }) kk htk
        have f4 : FrX (X.blk own (blkEnv X scope c2.s.heap)) (D :: wr) ck { ck with s := { ck.s with heap := h', toks := tk } } := ⟨f4.fm, f4.tk, fun b o w => f4.hm b o (fun z => w (List.mem_cons_of_mem _ z)), fun b o w => f4.st b o (fun z => w (List.mem_cons_of_mem _ z)), f4.fr, f4.pr, f4.ka⟩
        have sF : Sub c1.F ck.F := by
          have := fk.fm
          have e : (blkCf scope vs c2).F = c1.F := eF
          rw [e] at this
          exact this
        have y' : Yld X.w ck.F tup d v { ck.s with heap := h', toks := tk } := by
          unfold Yld at y ⊢
          by_cases z : tup = true
          · rw [if_pos z] at y ⊢
            obtain ⟨T, vals, ds', e1, e2, e3, e4⟩ := y
            exact ⟨T, vals, ds', e1, e2, e3.mono sF (Nat.le_refl _), e4⟩
          · rw [if_neg z] at y ⊢
            exact y.mono sF (Nat.le_refl _)
        have hdk : (match g d ck.ρ with
          | some (.ok _ ρ1) => (match t ρ1 with
            | some (.ok b ρ2) => if b = true then (match p1 ρ2 with
              | some (.ok ds1 ρ3) => (match dDcGo g1 t1 dk de ds1 acc ρ3 with
                | some q => dDc2Go g t p1 g1 t1 dk de (ds.drop (i + 1)) q.1 q.2
                | none => none)
              | _ => none) else dDc2Go g t p1 g1 t1 dk de (ds.drop (i + 1)) acc ρ2
            | _ => none)
          | _ => none) = some (xs, ρf) := hdk
        have hD4 : h'.get? D = some ob := kk D _ dW hDk
        -- what stays
        have stay : ∀ {ca cb : Cf}, FrB (X.blk own (blkEnv X scope c2.s.heap)) ca cb → ca.F D = none → ¬ Owns ca D → (∀ b ∈ wr, ca.F b = none) → (∀ b ∈ fp, ¬ Owns ca b) → St (i + 1) ca.s.heap → (∀ o, ca.s.heap.get? D = some o → cb.s.heap.get? D = some o ∧ cb.F D = none ∧ ¬ Owns cb D) ∧ (∀ b ∈ wr, cb.F b = none) ∧ (∀ b ∈ fp, ¬ Owns cb b) ∧ St (i + 1) cb.s.heap := fun {ca cb} fab a1 a2 a3 a4 a5 => by
          have q : ∀ b ∈ fp, ∃ o, ca.s.heap.get? b = some o := G.obj _ _ a5
          refine ⟨fun o e => ?_, fun b hb => ?_, fun b hb => ?_, G.frame _ _ _ a5 fun b hb o e => (fab.st b o e (a4 b hb) (nmF b hb)).1⟩
          · obtain ⟨h1, h2, h3⟩ := fab.st D o e a2 nmD
            exact ⟨h1, h3 a1, h2⟩
          · obtain ⟨o, e⟩ := q b (G.sub b hb)
            exact (fab.st b o e (a4 b (G.sub b hb)) (nmF b (G.sub b hb))).2.2 (a3 b hb)
          · obtain ⟨o, e⟩ := q b hb
            exact (fab.st b o e (a4 b hb) (nmF b hb)).2.1
        cases e1 : g d ck.ρ with
        | none => rw [e1] at hdk; cases hdk
        | some o1 =>
          cases o1 with
          | ex _ _ => rw [e1] at hdk; cases hdk
          | ok u ρ1 =>
            simp only [e1] at hdk
            refine xTrue (thnF (pg.run { ck with s := { ck.s with heap := h', toks := tk } } d v _ S4 y' e1 (fun _ _ z => by cases z)) fun _ s5 ⟨c5, q5, eo5, f5, S5⟩ => ?_)
            subst q5
            cases eo5
            obtain ⟨D5, w5, o5, st5⟩ := stay f5 DFn DOn wF wO st'
            obtain ⟨hD5, DF5, DO5⟩ := D5 _ hD4
            cases e2 : t c5.ρ with
            | none => rw [e2] at hdk; cases hdk
            | some o2 =>
              cases o2 with
              | ex _ _ => rw [e2] at hdk; cases hdk
              | ok b ρ2 =>
                simp only [e2] at hdk
                refine xTrue (thnF (pt.run c5 _ S5 e2 trivial) fun b' s6 ⟨c6, q6, eo6, f6, S6⟩ => ?_)
                subst q6
                cases eo6
                obtain ⟨D6, w6, o6, st6⟩ := stay f6.toFrB DF5 DO5 w5 o5 st5
                obtain ⟨hD6, DF6, DO6⟩ := D6 _ hD5
                have f46 := (fk.trans f4).trans ((f5.trans f6.toFrB).x)
                have tk6 : c1.s.toks ≤ c6.s.toks := Nat.le_trans tkk (Nat.le_trans htk (Nat.le_trans f5.tk f6.tk))
                have fm6 : Sub ck.F c6.F := f5.fm.trans f6.fm
                have tm6 : ck.s.toks ≤ c6.s.toks := Nat.le_trans htk (Nat.le_trans f5.tk f6.tk)
                cases b with
                | false =>
                  simp only [Bool.false_eq_true, if_false] at hdk ⊢
                  exact ⟨ds.length + 1 - (i + 1), by omega, i + 1, c6, acc, ob, es, ep, kvl, rfl, hlt, rfl, S6, f46, st6, tk6, DF6, DO6, w6, o6, hD6, hx, hdat, rk.mono fm6 tm6, nd, zsz, eacc, hdk⟩
                | true =>
                  simp only [if_true] at hdk ⊢
                  cases e3 : p1 c6.ρ with
                  | none => rw [e3] at hdk; cases hdk
                  | some o3 =>
                    cases o3 with
                    | ex _ _ => rw [e3] at hdk; cases hdk
                    | ok ds1 ρ3 =>
                      simp only [e3] at hdk
                      cases e4 : dDcGo g1 t1 dk de ds1 acc ρ3 with
                      | none => rw [e4] at hdk; cases hdk
                      | some q4 =>
                        obtain ⟨acc', ρ4⟩ := q4
                        simp only [e4] at hdk
                        refine xTrue (thnF (pi1.run c6 _ S6 e3 trivial) fun xv s7 hv => xTrue (thnF hv fun itv s8 ⟨ds', c7, I1, eI, q7, eo7, f7, S7, W1⟩ => ?_))
                        subst q7 eI
                        cases eo7
                        obtain ⟨fp1, wr1, St1, G1, st1, hw1, hf1, hn1⟩ := W1.it
                        obtain ⟨D7, w7, o7, st7⟩ := stay f7.toFrB DF6 DO6 w6 o6 st6
                        obtain ⟨hD7, DF7, DO7⟩ := D7 _ hD6
                        have DF1 : D ∉ fp1 := fun z => (hn1 D z).elim (fun h => by rw [hD6] at h; cases h) (fun ⟨o, e⟩ => by rw [DF7] at e; cases e)
                        have loop1 : codeAny (model X.prog X.w) X.A (.compLoop (.DictComp kx vx [⟨tg, iter, ifs, 0⟩, ⟨tg1, iter1, ifs1, 0⟩] scope pos) 1 (.ref I1) (.ref D) (blkEnv X scope c2.s.heap)) (fun r s' => match r with
                          | .ok _ => ∃ m, m < ds.length + 1 - i ∧ Inv m s'
                          | .error _ => False) c7.s := by
                          have offs1 : ∀ cx : Cf, cx.F D = none → ¬ Owns cx D → (∀ b ∈ wr1, cx.F b = none) → (∀ b ∈ fp1, ¬ Owns cx b) → ∀ b ∈ D :: wr1, Off (X.blk own (blkEnv X scope c2.s.heap)) cx b := fun cx a1 a2 a3 a4 b hb => by
                            rcases List.mem_cons.mp hb with e | e
                            · rw [e]; exact blk_off S2 ok (newD.off S0 S2 f02.toFrB) newD.here a1 a2
                            · obtain ⟨o, eo⟩ := G1.obj _ _ st1 b (G1.sub b e)
                              have na : NewAt (X.blk own (blkEnv X scope c2.s.heap)) c6 c7 b := ⟨(hw1 b e).1, ⟨o, eo⟩, (hw1 b e).2, (hf1 b (G1.sub b e)).1⟩
                              have q := na.off S6 S7 f7.toFrB
                              exact ⟨q.nb, q.nm, q.nl, q.nc, a3 b e, a4 b (G1.sub b e)⟩
                          refine dc_turns (X := X.blk own (blkEnv X scope c2.s.heap)) (cs := c7) (T0 := c7.s.toks) (F1 := c7.F) (fun _ _ z => z) pg1 pt1 pk pe G1 S1.ok.hd (fun b hb => (hf1 b hb).2) nmD DF1 offs1 S7 st1 (Nat.le_refl _) (Sub.refl _) (fun b hb => (hw1 b hb).2) (fun b hb => (hf1 b hb).1)
                            ⟨DF7, DO7, ob, es, ep, kvl, hD7, hx, hdat, (rk.mono fm6 tm6).mono f7.fm f7.tk, nd, zsz, eacc⟩ e4 (fun c8 e8 S8 f8 hold8 => ?_) (fun Inv' turn n h => dc2_in Inv' turn n h)
                          obtain ⟨DF8, DO8, ob8, es8, ep8, ks8, hD8, hx8, hdat8, rk8, nd8, zsz8, eacc8⟩ := hold8
                          have keep : ∀ b ∈ fp, b ∉ D :: wr1 := fun b hb z => by
                            rcases List.mem_cons.mp z with e | e
                            · exact DF (e ▸ hb)
                            · obtain ⟨o, eo⟩ := G.obj _ _ st6 b hb
                              rw [(hw1 b e).1] at eo; cases eo
                          have fx : FrX (X.blk own (blkEnv X scope c2.s.heap)) (D :: wr) c6 c8 := by
                            have inn : ∀ b o, b ∉ D :: wr → c6.s.heap.get? b = some o → b ∉ D :: wr1 := fun b o w e z => by
                              rcases List.mem_cons.mp z with q | q
                              · exact w (by rw [q]; exact List.mem_cons_self)
                              · rw [(hw1 b q).1] at e; cases e
                            refine ⟨f7.fm.trans f8.fm, Nat.le_trans f7.tk f8.tk, fun b o w e => ?_, fun b o w e n nm => ?_, fun b o z l e => ?_, fun j d h => ?_, fun j h => ⟨(f8.ka j h).1.trans (f7.ka j h).1, fun z => (f7.ka j h).2 ((f8.ka j h).2 z)⟩⟩
                            · obtain ⟨o1, h1⟩ := f7.hm b o e
                              exact f8.hm b o1 (inn b o w e) h1
                            · obtain ⟨h1, n1, g1⟩ := f7.st b o e n nm
                              obtain ⟨h2, n2, g2⟩ := f8.st b o (inn b o w e) h1 n1 nm
                              exact ⟨h2, n2, fun z => g2 (g1 z)⟩
                            · obtain ⟨sl, h1⟩ := f7.fr b o z l e
                              obtain ⟨sl', h2⟩ := f8.fr b _ z l h1
                              exact ⟨sl', h2⟩
                            · obtain ⟨⟨d1, q1⟩, e1⟩ := f8.pr j d h
                              obtain ⟨q2, e2⟩ := f7.pr j d1 q1
                              exact ⟨q2, e1.trans e2⟩
                          have at7 : ∀ b ∈ fp, ∃ o, c7.s.heap.get? b = some o := G.obj _ _ st7
                          refine ⟨ds.length + 1 - (i + 1), by omega, i + 1, c8, acc', ob8, es8, ep8, ks8, rfl, hlt, rfl, S8, f46.trans fx, ?_, ?_, DF8, DO8, fun b hb => ?_, fun b hb => ?_, hD8, hx8, hdat8, rk8, nd8, zsz8, eacc8, by rw [e8]; exact hdk⟩
                          · exact G.frame _ _ _ st7 fun b hb o e => (f8.st b o (keep b hb) e (o7 b hb) (nmF b hb)).1
                          · exact Nat.le_trans tk6 (Nat.le_trans f7.tk f8.tk)
                          · obtain ⟨o, e⟩ := at7 b (G.sub b hb)
                            exact (f8.st b o (keep b (G.sub b hb)) e (o7 b (G.sub b hb)) (nmF b (G.sub b hb))).2.2 (w7 b hb)
                          · obtain ⟨o, e⟩ := at7 b hb
                            exact (f8.st b o (keep b hb) e (o7 b hb) (nmF b hb)).2.1
                        exact dc2_start loop1 (G1.self X.A 0 _ _ _ S1.ok.hd st1 loop1)
      · rintro r s₁ ⟨v, rfl, h⟩
        exact h
    · have ei : i = ds.length := by omega
      subst ei
      rw [List.drop_length] at hdk
      cases hdk
      refine wpAny_mono (G.stops X.A ck.s (fun s₂ => ∃ h' tk, s₂ = { ck.s with heap := h', toks := tk } ∧ (∀ b o, b ∉ wr → ck.s.heap.get? b = some o → h'.get? b = some o) ∧ ck.s.toks ≤ tk) _ S1.ok.hd st fun h' tk kk ht => ⟨h', tk, rfl, kk, ht⟩) ?_ (fun _ _ e => e)
      rintro r s₁ ⟨rfl, h', tk, rfl, kk, htk⟩
      obtain ⟨S4, f4⟩ := Sk.touch (wr := wr) hoffW (s' := { ck.s with heap := h', toks := tk }) kk htk
      have f4 : FrX (X.blk own (blkEnv X scope c2.s.heap)) (D :: wr) ck { ck with s := { ck.s with heap := h', toks := tk } } := ⟨f4.fm, f4.tk, fun b o w => f4.hm b o (fun z => w (List.mem_cons_of_mem _ z)), fun b o w => f4.st b o (fun z => w (List.mem_cons_of_mem _ z)), f4.fr, f4.pr, f4.ka⟩
      have hD4 : h'.get? D = some ob := kk D _ dW hDk
      obtain ⟨m, hm, _⟩ := S4.loc
      have hm : h'.Ns c2.s.heap.objs.size m := hm
      have offA : ∀ b ∈ D :: wr, Off X c2 b := fun b hb => (newA b hb).off S0 S2 f02.toFrB
      obtain ⟨c3, g1, g2, g3, g4, S5, f5, no5⟩ := blk_end S2 ok (fk.trans f4) S4 offA (h' := h') (Heap.SameBut.refl ..)
      have nC : c.s.heap.get? c2.s.heap.objs.size = none := f02.toFrB.back S2.new
      have g1 : c3.s = { ck.s with heap := h', toks := tk } := g1
      have hm : c3.s.heap.Ns c2.s.heap.objs.size m := by rw [g1]; exact hm
      rw [← g1]
      have hD5 : c3.s.heap.get? D = some ob := by rw [g1]; exact hD4
      have g4 : c3.F = ck.F := g4
      refine hq c3 D c2.s.heap.objs.size m (by rw [g2, eρ]) (by rw [g3, eα]) (FrX.close f02.toFrB f5 fun x hx => (newA x hx).old) S5 ⟨D, rfl, newD.old, ⟨by rw [g4]; exact DFn, ?_, S0.nbase newD.old, rfl, _, hD5, ?_⟩, ?_, (newD.off S0 S2 f02.toFrB).nm⟩ hm ⟨nC, ?_, ?_, ?_⟩ (Nat.ne_of_gt (Heap.lt_size hD2))
      · rw [← hD]; exact S1.nsys
      · refine .dic hx hdat zsz ?_ nd eacc
        rw [g4, g1]
        exact rk.mono (Sub.refl _) htk
      · exact no5 D newD.no DOn
      · obtain ⟨o, es, ep, q, _⟩ := hm
        exact ⟨o, q⟩
      · rw [g4]; exact Sk.mine _ (.inl rfl)
      · refine no5 _ (S2.nown S2.new) fun w => ?_
        exact (Sk.owned w).2 (.inl rfl)
  exact codeAny_compStart_dict loop (G.self X.A 0 _ _ _ S1.ok.hd st3 loop)
end
section
variable {X : Cx} {c c0 c1 c2 c3 : Cf} {scope : Scope} {kx vx tg iter tg1 iter1 : Expr} {ifs ifs1 : List Expr} {pos pos' : Pos} {tup tup1 : Bool} {p p1 : DA} {g g1 : D → Rho → Option (O Unit)} {t t1 : DT} {dk de : DE}
def dDc2 (vs : List Nat) (p : DA) (g : D → Rho → Option (O Unit)) (t : DT) (p1 : DA) (g1 : D → Rho → Option (O Unit)) (t1 : DT) (dk e : DE) : DE := fun ρ => obind (p ρ) fun ds ρ1 => (dDc2Go g t p1 g1 t1 dk e ds [] (hide vs 0 ρ1)).map fun q => .ok (.fresh (.dic q.1)) (unhide vs 0 ρ1 q.2)
theorem pd_dc2 (vs own : List Nat) (hi : PI X tup tg iter p) (ok : Blk X.N X.env.scope scope vs own)
    (hg : ∀ h, PGv (X.blk own (blkEnv X scope h)) tup tg g) (ht : ∀ h, PTs (X.blk own (blkEnv X scope h)) ifs t) (hi1 : ∀ h, PI (X.blk own (blkEnv X scope h)) tup1 tg1 iter1 p1) (hg1 : ∀ h, PGv (X.blk own (blkEnv X scope h)) tup1 tg1 g1) (ht1 : ∀ h, PTs (X.blk own (blkEnv X scope h)) ifs1 t1) (hkx : ∀ h, PD (X.blk own (blkEnv X scope h)) kx dk) (he : ∀ h, PD (X.blk own (blkEnv X scope h)) vx de) (hs : ∀ x, foldedSetIterable iter X.env x = pure x := by intro _; rfl) (hs1 : ∀ h x, foldedSetIterable iter1 (blkEnv X scope h) x = pure x := by intro _ _; rfl) :
    PD X (.DictComp kx vx [⟨tg, iter, ifs, 0⟩, ⟨tg1, iter1, ifs1, 0⟩] scope pos) (dDc2 vs p g t p1 g1 t1 dk de) := by
  refine ⟨fun c o S hd kex => ?_⟩
  rw [show eval (.DictComp kx vx [⟨tg, iter, ifs, 0⟩, ⟨tg1, iter1, ifs1, 0⟩] scope pos) X.env = comprehension (.DictComp kx vx [⟨tg, iter, ifs, 0⟩, ⟨tg1, iter1, ifs1, 0⟩] scope pos) scope X.env (firstIterPos [⟨tg, iter, ifs, 0⟩, ⟨tg1, iter1, ifs1, 0⟩] pos) newDict (firstAsync [⟨tg, iter, ifs, 0⟩, ⟨tg1, iter1, ifs1, 0⟩]) (firstIter [⟨tg, iter, ifs, 0⟩, ⟨tg1, iter1, ifs1, 0⟩] X.env) from rfl]
  refine wpAny_comprehension_free (use := none) rfl hs (closure_ok (blk_free S ok)) ok.kind (fun y hy e => by rw [ok.uniq y hy, e]) (hi.go S hd kex fun ds c1 I f S1 W hk => ?_)
  obtain ⟨⟨xs, ρf⟩, h3, h2⟩ := Option.map_eq_some_iff.mp hk
  cases h2
  refine dc2_core S f S1 W ok hg ht hi1 hg1 ht1 hs1 hkx he h3 rfl fun c3 D C m e1 e2 f3 S3 ro hn nC CD => ⟨m, hn, fun h' sb => ?_⟩
  have offC : ∀ b ∈ [C], Off X c3 b := fun b hb => by
    have e : b = C := by simpa using hb
    rw [e]; exact nC.off S S3 f3
  obtain ⟨S4, f4⟩ := S3.touch (wr := [C]) offC (s' := { c3.s with heap := h' }) (fun b o hb e => (sb.2 b (fun z => hb (by simp [z]))).trans e) (Nat.le_refl _)
  refine ⟨.fresh (.dic xs), { c3 with s := { c3.s with heap := h' } }, rfl, by show O.ok _ (unhide vs 0 c1.ρ ρf) = O.ok _ c3.ρ; rw [e1], ⟨FrX.close f3 f4 fun x hx => ?_, ?_⟩, S4, ?_⟩
  · have e : x = C := by simpa using hx
    rw [e]; exact nC.old
  · show c3.α = c.α
    rw [e2]; exact f.al
  · obtain ⟨a, ea, hn0, oa, no, nm⟩ := ro
    cases ea
    exact ⟨D, rfl, hn0, oa.keep (Sub.refl _) (Nat.le_refl _) oa.nf fun o q => (sb.2 D (Ne.symm CD)).trans q, no, nm⟩
end
end GB
/-! Small rules: tests of names, blocks and several names told by a look, texts taken apart, backwards, list.index, max and min of tuples. -/
namespace GB
open PySem PySem.Spec PyProof.Rows
open L2 (Key keyH keyIs mixKind Mod Look Vis Loc frs thn)
/-! ### looks -/
def blkB (N : List Str) (sc scope : Scope) (vs own : List Nat) : Bool :=
  decide (scope.kind = .function) && scope.names.all (fun y => decide (scope.names.lookup y.1 = some y.2)) &&
  scope.names.all (fun y => decide (y.2 = .free → sc.names.lookup y.1 = some .cell ∨ sc.names.lookup y.1 = some .free)) &&
  (N.zipIdx.all fun p => decide (scope.names.lookup p.1 = some .free) == vs.contains p.2) && vs.all (fun i => !own.contains i) && vs.all (fun i => decide (i < N.length))
theorem Blk.of {N : List Str} {sc scope : Scope} {vs own : List Nat} (h : blkB N sc scope vs own = true) : Blk N sc scope vs own := by
  simp only [blkB, Bool.and_eq_true, decide_eq_true_eq, List.all_eq_true, beq_iff_eq] at h
  obtain ⟨⟨⟨⟨⟨h1, h2⟩, h3⟩, h4⟩, h5⟩, h6⟩ := h
  refine ⟨h1, h2, h3, fun i x hx => ?_, fun i hi => ?_⟩
  · have := h4 (x, i) (by rw [List.mem_zipIdx_iff_getElem?]; exact hx)
    simp only at this
    rw [← this]
    simp
  · have hm : i ∈ vs := by simpa using hi
    have := h5 i hm
    simpa using this
def locB (sc : Scope) (x : Str) : Bool := decide (sc.names.lookup x = some .local) || decide (sc.names.lookup x = some .cell)
def parB (N : List Str) (sc : Scope) (is : List Nat) (xs : List Str) : Bool := (is.zip xs).all fun p => decide (N[p.1]? = some p.2) && locB sc p.2
theorem par_ok {X : Cx} {is : List Nat} {xs : List Str} (h : parB X.N X.env.scope is xs = true) (ha : ∀ i, X.asg i = true := by intro _; rfl) :
    ∀ (k : Nat) (i : Nat) (x : Str), is[k]? = some i → xs[k]? = some x → X.N[i]? = some x ∧ Loc X.env.scope x ∧ X.asg i = true := fun k i x h1 h2 => by
  simp only [parB, List.all_eq_true, Bool.and_eq_true, decide_eq_true_eq, locB, Bool.or_eq_true] at h
  have := h (i, x) (List.mem_of_getElem? (i := k) (by rw [List.getElem?_zip_eq_some]; exact ⟨h1, h2⟩))
  exact ⟨this.1, this.2, ha i⟩
section
variable {X : Cx} {c : Cf} {e a b o : Expr} {da db : DE} {x : Str} {pos pos' p p2 apos cpos : Pos} {es : List Expr}
def dTruV (p : DV) : DT := fun ρ => obind (p ρ) fun d ρ1 => some (.ok d.truth ρ1)
theorem pdt_truV {q : DV} (h : PV X a q) (he : ∀ whole, isTrue a X.env whole = (do let v ← whole; standAt a.pos; holding [v] (truthy v)) := by intro _; rfl) : PDT X a (dTruV q) := by
  refine ⟨fun c o S hd kx => ?_⟩
  rw [he]
  refine wpAny_bind (h.go S hd kx fun d c1 v f1 S1 w hk => ?_)
  cases hk
  refine wpAny_bind (wpAny_standAt (wpAny_holding (thn (tru_ok S1 w) fun b s2 ⟨c2, e2, eo, f2, S2⟩ => ?_)))
  injection eo with e1 e3
  subst e1
  exact ⟨c2, e2, by rw [← e3], f1.trans f2, S2⟩
/-! ### minus -/
def dNeg (d : DE) : DE := fun ρ => obind (d ρ) fun r ρ1 => match r.d with
  | .int i => some (.ok (.val (.int (-i))) ρ1)
  | _ => none
theorem pd_neg (ha : PD X a da) : PD X (.UnaryOp .USub a pos) (dNeg da) := by
  refine ⟨fun c o S hd kx => ?_⟩
  refine UnaryOp_ (ha.go S hd kx fun r c1 v f S1 ro hk => ?_)
  obtain ⟨F1, f1, S2, w, _, _⟩ := ro.froze f S1
  revert hk w
  generalize r.d = d
  intro hk w
  cases d with
  | int i =>
    cases hk
    obtain ⟨t, rfl⟩ := w.int_inv
    exact neg_int (PostE.from f1 (PostE.int S2 (Nat.le_succ _)))
  | _ => cases hk
/-! ### a text backwards -/
def dRevS (l : DL) : DE := fun ρ => obind (l ρ) fun x ρ1 => match x with
  | .val (.str s) => some (.ok (.val (.str s.reverse)) ρ1)
  | _ => none
theorem srev (s : List Nat) : (Builtin.Str.strSliceIndices none none (-1) s.length).filterMap (s[·]?) = s.reverse := by
  have e : Builtin.Str.strSliceIndices none none (-1) s.length = (List.range s.length).map fun k => s.length - 1 - k := PySem.W.krv_sliceRange s.length
  rw [e, PySem.W.krv_range, List.filterMap_reverse]
  congr 1
  have h := PySem.W.krv_all s.toArray
  simpa using h
theorem pd_revS {l : DL} {k : Nat} {p1 p3 : Pos} (ha : PG X e l) (htz : 0 < X.tz := by exact Nat.zero_lt_one) :
    PD X (.Subscript e (.Slice none none (some (.UnaryOp .USub (.Constant (.int 1) k p1) p2)) p3) pos) (dRevS l) := by
  refine ⟨fun c o S hd kx => ?_⟩
  refine Subscript_ (ha.go S hd kx fun x c1 v f1 S1 r1 hd1 => ?_)
  have hst : PO X (some (.UnaryOp .USub (.Constant (.int 1) k p1) p2)) (dSomeO (dSee (dNeg (dC (.int 1))))) := po_some (pv_of (pd_neg pd_int))
  refine wpAny_Slice ?_
  rw [evalPart_none]
  refine wpAny_pure (wpAny_pure ?_)
  refine thn (hst.run c1 (.ok (some (-1)) c1.ρ) S1 rfl (by trivial)) fun vs s2 ⟨i, c2, e2, eo, f2, S2, ip⟩ => ?_
  subst e2
  injection eo with e1 e3
  subst e1
  obtain ⟨S4, f4⟩ := S2.kept (s' := { c2.s with heap := c2.s.heap.push { cls := .type "slice", data := .fields #[.none, .none, vs] } }) (fun b o e => Heap.get?_push_of_some _ e) (Nat.le_refl _)
  cases x with
  | nm i => cases hd1
  | val d =>
    cases d with
    | str s =>
      cases hd1
      have r1 : Rep X.w c1.F c1.s.toks v (.str s) := r1
      have rs := r1.mono (f2.trans f4).fm (f2.trans f4).tk
      obtain ⟨t, rfl, t1, t2, z⟩ := rs.str_inv
      obtain ⟨u, hu, eu⟩ := L2.IsPart.raw ip
      cases u with
      | none => cases eu
      | some u =>
        obtain ⟨u1, u2⟩ := u
        simp only [Option.map_some, Option.some.injEq] at eu
        subst eu
        refine tail_any (ops := [.ref c2.s.heap.objs.size, .str (tx s) t]) (typeIs_str _ _ _) PySem.F.slot_str_getitem.lookup ?_ (by with_unfolding_all rfl)
        refine wpAny_getItem_str_slice (l := none) (u := none) (st := some (-1, u2)) ⟨_, Heap.get?_push_size _ rfl, rfl, by subst hu; rfl⟩ (by simp) ?_
        show Made.post (if ((-1 : Int) == 1 && _) = true then _ else Made.str ⟨((Builtin.Str.strSliceIndices none none (-1) (tx s).length).filterMap ((tx s).cps[·]?)).toArray⟩) _ _
        rw [if_neg (by simp)]
        have e : (Builtin.Str.strSliceIndices none none (-1) (tx s).length).filterMap ((tx s).cps[·]?) = s.reverse := by
          rw [tx_len]
          have := srev s
          simpa [tx] using this
        rw [e]
        have hz : s.reverse.length ≤ sizeLine := by rw [List.length_reverse]; exact z
        refine ⟨by show (tx s.reverse).length ≤ _; rw [tx_len]; exact hz, ?_⟩
        rw [e3]
        exact PostE.from ((f1.trans f2).trans f4) (PostE.tok S4 (Nat.le_succ _) (.str _ _ (Nat.ne_of_gt (S4.tkp htz)) (Nat.lt_succ_self _) hz))
    | _ => cases hd1
/-! ### a text taken apart -/
theorem draw_signs {prog : Program} {w : World} {A : Around} {E : Value → Shared → Prop} {F : FH} {I : Addr} {xs : List Nat} {t : Tok} : ∀ (n i : Nat) (s : Shared) (Q : List Value → Shared → Prop), 0 < s.toks → s.heap.IsStrIter I (strIterType (tx xs)) (tx xs) t i → i + n ≤ xs.length →
    (∀ h' tk vs, h'.IsStrIter I (strIterType (tx xs)) (tx xs) t (i + n) → Heap.SameBut I s.heap h' → s.toks ≤ tk → RepL w F tk vs (signs ((xs.drop i).take n)) → Q vs { s with heap := h', toks := tk }) →
    wpAny (model prog w) A (draw (.ref I) n) Q E s
  | 0, i, s, Q, h0, hit, _, hQ => by
    show wpAny _ _ (pure []) Q E s
    exact wpAny_pure (by simpa [signs] using hQ s.heap s.toks [] hit (Heap.SameBut.refl ..) (Nat.le_refl _) (by simp [signs]; exact .nil))
  | n + 1, i, s, Q, h0, hit, hle, hQ => by
    have hi : i < xs.length := by omega
    have hx : (tx xs).cps[i]? = some xs[i] := by simp [tx, hi]
    show wpAny _ _ (pyNext (.ref I) >>= _) Q E s
    refine wpAny_bind (next_sign hit hx fun h1 hit1 hs1 => ?_)
    refine wpAny_bind (wpAny_holding (draw_signs (F := F) n (i + 1) { s with heap := h1, toks := s.toks + 1 } _ (Nat.succ_pos _) hit1 (by omega) fun h2 tk vs hit2 hs2 ht r => wpAny_pure ?_))
    have ht' : s.toks + 1 ≤ tk := ht
    refine hQ h2 tk _ (by rw [show i + (n + 1) = i + 1 + n by omega]; exact hit2) (hs1.trans hs2) (by omega) ?_
    have hd : (xs.drop i).take (n + 1) = xs[i] :: (xs.drop (i + 1)).take n := by rw [List.drop_eq_getElem_cons hi, List.take_succ_cons]
    rw [hd]
    exact .cons (.str [xs[i]] s.toks (Nat.ne_of_gt h0) (Nat.lt_of_lt_of_le (Nat.lt_succ_self _) ht') (by show 1 ≤ sizeLine; decide)) r
def gtTxt (n : Nat) (h : List D → Rho → Option (O Unit)) : D → Rho → Option (O Unit) := fun d ρ => match d with
  | .str s => if s.length = n then h (signs s) ρ else none
  | _ => none
theorem pgt_txt {es : List Expr} {k : Nat} {h : List D → Rho → Option (O Unit)} {n : Nat} (hh : PGts X es h) (hn : (assignEach es X.env).length = n := by rfl) (hst : (assignEach es X.env).findIdx? (·.1) = none := by rfl) (htz : 0 < X.tz := by exact Nat.zero_lt_one) : PGt X (.Tuple es k pos) (gtTxt n h) := by
  refine ⟨fun c d v o S r hg kx => ?_⟩
  cases d with
  | str s =>
    have hg : (if s.length = n then h (signs s) c.ρ else none) = some o := hg
    by_cases z : s.length = n
    · rw [if_pos z] at hg
      obtain ⟨t, rfl, t1, t2, zz⟩ := r.str_inv
      rw [arm_assign_Tuple]
      refine wpAny_bind (wpAny_standAt ?_)
      unfold unpack
      rw [hn, hst]
      refine wpAny_bind (wpAny_holding ?_)
      unfold unpackItems notIterableAtAll
      refine wpAny_bind (wpAny_bind (wpAny_specialOf (typeIs_str _ _ _) F.slot_str_iter.lookup (wpAny_pure ?_)))
      simp only [Bool.false_eq_true, if_false]
      refine wpAny_bind (wpAny_holding (wpAny_pyIter_strU ?_))
      have new : (c.s.heap.push { cls := .type (strIterType (tx s)), data := .fields #[.str (tx s) t, .int 0 0] }).IsStrIter c.s.heap.objs.size (strIterType (tx s)) (tx s) t 0 := ⟨_, Heap.get?_push_size _ rfl, rfl, rfl⟩
      refine wpAny_bind (wpAny_holding (draw_signs (F := c.F) n 0 { c.s with heap := c.s.heap.push { cls := .type (strIterType (tx s)), data := .fields #[.str (tx s) t, .int 0 0] } } _ (S.tkp htz) new (by omega) fun h1 tk vs hit1 hs1 ht1 l => ?_))
      have el : signs ((s.drop 0).take n) = signs s := by rw [List.drop_zero, List.take_of_length_le (by omega)]
      rw [el] at l
      have ln : vs.length = n := by rw [l.length]; simp [signs, z]
      rw [if_neg (by omega)]
      refine wpAny_bind (wpAny_holding (next_end (i := 0 + n) S.ok.hd hit1 (by simp [tx]; omega) fun h2 he => ?_))
      simp only [Option.isSome_none, Bool.false_eq_true, if_false]
      refine wpAny_pure ?_
      obtain ⟨S1, f1⟩ := S.kept (s' := { c.s with heap := h2, toks := tk }) (fun b o e => by
        have nb : b ≠ c.s.heap.objs.size := Nat.ne_of_lt (Heap.lt_size e)
        exact he b o nb ((hs1.2 b nb).trans (Heap.get?_push_of_some _ e))) ht1
      exact thn (hh.run { c with s := { c.s with heap := h2, toks := tk } } (signs s) _ o S1 l hg fun e ρ' z => f1.toFrB.ks (kx e ρ' z)) fun _ s2 ⟨c2, q2, eo2, f2, S2⟩ => ⟨c2, q2, eo2, f1.toFrB.trans f2, S2⟩
    · rw [if_neg z] at hg; cases hg
  | _ => cases hg
end
end GB
/-! max and min of lists and tuples of ints, list.index of texts, how keywords bind. -/
namespace GB
open PySem PySem.Spec PyProof.Rows
open L2 (Key keyH keyIs mixKind Mod Look Vis Loc frs thn)
theorem foldMax (xs : List Int) : ∀ x : Int, ((xs.foldl (fun a y => if decide (a < y) = true then y else a) x = x ∨ xs.foldl (fun a y => if decide (a < y) = true then y else a) x ∈ xs) ∧ x ≤ xs.foldl (fun a y => if decide (a < y) = true then y else a) x ∧ ∀ y ∈ xs, y ≤ xs.foldl (fun a y => if decide (a < y) = true then y else a) x) := by
  induction xs with
  | nil => intro x; simp
  | cons y ys ih =>
    intro x
    rw [List.foldl_cons]
    by_cases h : x < y
    · simp only [h, decide_true, if_true]
      obtain ⟨h1, h2, h3⟩ := ih y
      refine ⟨Or.inr ?_, by omega, fun z hz => ?_⟩
      · rcases h1 with h1 | h1
        · rw [h1]; exact List.mem_cons_self
        · exact List.mem_cons_of_mem _ h1
      · rcases List.mem_cons.mp hz with rfl | hz
        · exact h2
        · exact h3 z hz
    · simp only [h, decide_false, Bool.false_eq_true, if_false]
      obtain ⟨h1, h2, h3⟩ := ih x
      refine ⟨?_, h2, fun z hz => ?_⟩
      · rcases h1 with h1 | h1
        · exact Or.inl h1
        · exact Or.inr (List.mem_cons_of_mem _ h1)
      · rcases List.mem_cons.mp hz with rfl | hz
        · omega
        · exact h3 z hz
theorem foldMin (xs : List Int) : ∀ x : Int, ((xs.foldl (fun a y => if decide (y < a) = true then y else a) x = x ∨ xs.foldl (fun a y => if decide (y < a) = true then y else a) x ∈ xs) ∧ xs.foldl (fun a y => if decide (y < a) = true then y else a) x ≤ x ∧ ∀ y ∈ xs, xs.foldl (fun a y => if decide (y < a) = true then y else a) x ≤ y) := by
  induction xs with
  | nil => intro x; simp
  | cons y ys ih =>
    intro x
    rw [List.foldl_cons]
    by_cases h : y < x
    · simp only [h, decide_true, if_true]
      obtain ⟨h1, h2, h3⟩ := ih y
      refine ⟨Or.inr ?_, by omega, fun z hz => ?_⟩
      · rcases h1 with h1 | h1
        · rw [h1]; exact List.mem_cons_self
        · exact List.mem_cons_of_mem _ h1
      · rcases List.mem_cons.mp hz with rfl | hz
        · exact h2
        · exact h3 z hz
    · simp only [h, decide_false, Bool.false_eq_true, if_false]
      obtain ⟨h1, h2, h3⟩ := ih x
      refine ⟨?_, h2, fun z hz => ?_⟩
      · rcases h1 with h1 | h1
        · exact Or.inl h1
        · exact Or.inr (List.mem_cons_of_mem _ h1)
      · rcases List.mem_cons.mp hz with rfl | hz
        · omega
        · exact h3 z hz
theorem maxOf_maxL (x : Int) (xs : List Int) : PySem.W.maxOf x xs = maxL (x :: xs) := by
  obtain ⟨h1, h2, h3⟩ := foldMax xs x
  have ne : x :: xs ≠ [] := by simp
  refine Int.le_antisymm ((maxL_mem ne).2 _ ?_) ?_
  · rcases h1 with h1 | h1
    · show PySem.W.maxOf x xs ∈ _
      have : PySem.W.maxOf x xs = x := h1
      rw [this]; exact List.mem_cons_self
    · exact List.mem_cons_of_mem _ h1
  · rcases List.mem_cons.mp (maxL_mem ne).1 with e | e
    · rw [e]; exact h2
    · exact h3 _ e
theorem minOf_minL (x : Int) (xs : List Int) : PySem.W.minOf x xs = minL (x :: xs) := by
  obtain ⟨h1, h2, h3⟩ := foldMin xs x
  have ne : x :: xs ≠ [] := by simp
  refine Int.le_antisymm ?_ ((minL_mem ne).2 _ ?_)
  · rcases List.mem_cons.mp (minL_mem ne).1 with e | e
    · rw [e]; exact h2
    · exact h3 _ e
  · rcases h1 with h1 | h1
    · have : PySem.W.minOf x xs = x := h1
      rw [this]; exact List.mem_cons_self
    · exact List.mem_cons_of_mem _ h1
section
variable {X : Cx} {c : Cf} {e a b o : Expr} {da db : DE} {x : Str} {pos pos' p p2 apos cpos : Pos} {es : List Expr}
def fMaxA : D → Option Res
  | .lst ds => fMaxL (.lst ds)
  | .tup ds => fMaxL (.lst ds)
  | _ => none
def fMinA : D → Option Res
  | .lst ds => fMinL (.lst ds)
  | .tup ds => fMinL (.lst ds)
  | _ => none
theorem ints_pys : ∀ {ds : List D} {ns : List Int}, intsD ds = some ns → D.pys ds = ns.map PyData.int
  | [], _, h => by cases h; rfl
  | d :: ds, _, h => by
    cases d with
    | int i =>
      obtain ⟨ms, h1, rfl⟩ := Option.map_eq_some_iff.mp (show (intsD ds).map (i :: ·) = some _ from h)
      simp only [D.pys, D.py, List.map_cons, ints_pys h1]
    | _ => cases h
theorem tup_ints (S : SR X c) {v : Value} {ds : List D} {ns : List Int} (rv : View X.w c v (.tup ds)) (hn : intsD ds = some ns) : ∃ a vs, v = .ref a ∧ c.s.heap.IsTuple a vs ∧ PySem.W.HoldAll c.s.heap vs.toList ns ∧ IntsAre vs.toList ns := by
  obtain ⟨a, o, vs, n, rfl, q, hc, hd, z, l⟩ := rv.tup_inv S.sub
  obtain ⟨as, r⟩ := RepL.reads S.sub l
  rw [ints_pys hn] at r
  exact ⟨a, vs, rfl, ⟨_, q, hc, n, hd⟩, ⟨as, r⟩, l.ints hn⟩
theorem ints_at : ∀ {vs : List Value} {ns : List Int} {i : Nat} {v : Value}, IntsAre vs ns → vs[i]? = some v → ∃ k t, v = .int k t
  | _, _, 0, _, .cons n t h, e => by simp at e; exact ⟨n, t, e.symm⟩
  | _, _, i + 1, _, .cons n t h, e => ints_at (i := i) h (by simpa using e)
theorem c1_maxA : C1 X (.builtin "max") fMaxA := by
  intro c v d r S rv h
  cases d with
  | lst ds => exact c1_maxL c v _ r S rv h
  | tup ds =>
    have h : (match intsD ds with | some ns => if ns = [] then none else some (Res.val (.int (maxL ns))) | none => none) = some r := h
    cases hn : intsD ds with
    | none => rw [hn] at h; cases h
    | some ns =>
      rw [hn] at h
      cases ns with
      | nil => simp at h
      | cons n ns =>
        simp only [if_neg (List.cons_ne_nil n ns)] at h; cases h
        obtain ⟨a, vs, rfl, it, H, ia⟩ := tup_ints S rv.view hn
        refine wpAny_with_toks (Nat.le_refl _) (PySem.W.max_tuple_datum S.ok.hd it H (by have := S.ok.room; show _ + 1 + 0 < _; omega) fun i v h' tk hv hh k ht => ?_)
        obtain ⟨j, t, rfl⟩ := ints_at ia (by simpa using hv)
        obtain ⟨as, rr⟩ := hh
        have e : j = maxL (n :: ns) := by
          rw [← maxOf_maxL]
          generalize PySem.W.maxOf n ns = m at rr
          have rr : Reads h' (.int j t) (.int m) as := rr
          cases rr
          rfl
        subst e
        exact PostE.keptI S k ht
  | _ => cases h
theorem c1_minA : C1 X (.builtin "min") fMinA := by
  intro c v d r S rv h
  cases d with
  | lst ds => exact c1_minL c v _ r S rv h
  | tup ds =>
    have h : (match intsD ds with | some ns => if ns = [] then none else some (Res.val (.int (minL ns))) | none => none) = some r := h
    cases hn : intsD ds with
    | none => rw [hn] at h; cases h
    | some ns =>
      rw [hn] at h
      cases ns with
      | nil => simp at h
      | cons n ns =>
        simp only [if_neg (List.cons_ne_nil n ns)] at h; cases h
        obtain ⟨a, vs, rfl, it, H, ia⟩ := tup_ints S rv.view hn
        refine wpAny_with_toks (Nat.le_refl _) (PySem.W.min_tuple_datum S.ok.hd it H (by have := S.ok.room; show _ + 1 + 0 < _; omega) fun i v h' tk hv hh k ht => ?_)
        obtain ⟨j, t, rfl⟩ := ints_at ia (by simpa using hv)
        obtain ⟨as, rr⟩ := hh
        have e : j = minL (n :: ns) := by
          rw [← minOf_minL]
          generalize PySem.W.minOf n ns = m at rr
          have rr : Reads h' (.int j t) (.int m) as := rr
          cases rr
          rfl
        subst e
        exact PostE.keptI S k ht
  | _ => cases h
/-! ### list.index of a text -/
def gIndexL : D → List D → Option Res
  | .lst ds, [.str t] => match strsD ds with
    | some ts => if t ∈ ts then some (.val (.int (ts.idxOf t : Nat))) else none
    | none => none
  | _, _ => none
def isTxt (k : Str) : Value → Bool
  | .str y _ => y == k
  | _ => false
theorem cm_indexL : CM X "list" "list.index" gIndexL := by
  intro c v d us ds r S rv rs h
  cases d with
  | lst xs =>
    match ds, rs, h with
    | [.str t], rs, h =>
      have h : (match strsD xs with | some ts => if t ∈ ts then some (Res.val (.int (ts.idxOf t : Nat))) else none | none => none) = some r := h
      cases hn : strsD xs with
      | none => rw [hn] at h; cases h
      | some ts =>
        rw [hn] at h
        by_cases q : t ∈ ts
        · simp only [if_pos q] at h; cases h
          obtain ⟨u, rfl, ru⟩ := rs.one
          obtain ⟨tk, rfl, _, _, _⟩ := ru.str_inv
          obtain ⟨a, vs, n, rfl, hq, z, l⟩ := rv.view.lst_inv S.sub
          obtain ⟨ls, e1, e2, _⟩ := l.strs hn
          have hlen : vs.size = ts.length := by
            have : vs.toList.length = ls.length := by rw [e1]; simp [strValues]
            have h2 : ls.length = ts.length := by
              have := congrArg List.length e2
              simpa using this
            rw [← h2, ← this]; simp
          have hj : ts.idxOf t < ts.length := List.idxOf_lt_length_iff.mpr q
          have at_ : ∀ (j : Nat) (hj : j < ts.length) (hv : j < vs.size), isTxt (tx t) vs[j] = decide (ts[j] = t) := fun j h1 h2 => by
            have hl : j < ls.length := by
              have := congrArg List.length e2
              simp at this; omega
            have e3 : vs[j] = .str ls[j].1 ls[j].2 := by
              have : vs.toList[j]? = (strValues ls)[j]? := by rw [e1]
              simp [strValues, hl, h2] at this
              exact this
            have e4 : ls[j].1 = tx ts[j] := by
              have : (ls.map (·.1))[j]? = (ts.map tx)[j]? := by rw [e2]
              simpa [hl, h1] using this
            rw [e3]
            show (ls[j].1 == tx t) = _
            rw [e4]
            by_cases w : ts[j] = t
            · rw [w]; simp
            · have : tx ts[j] ≠ tx t := fun z => w (tx_inj z)
              rw [decide_eq_false w]
              simpa using this
          refine call_meets PySem.F.slot_list_index ⟨_, hq, rfl⟩ PySem.F.entry_list_index (PySem.F.args_list_index_2 _ _)
            (SeqAt.list_indexAt a vs n none #[] (.str (tx t) tk) (isTxt (tx t)) (ts.idxOf t) (by omega) (by have := line63; omega) ?_ ?_) ⟨hq, fun y hy => ?_, ?_⟩
          · rw [at_ _ hj (by omega)]
            simp
          · intro m hm hlt
            rw [at_ _ (by omega) hm]
            have h3 := List.not_of_lt_findIdx (p := fun y => y == t) (xs := ts) (i := m) hlt
            simpa using h3
          · have hm : y ∈ vs.toList := by simpa using hy
            rw [e1] at hm
            obtain ⟨p, _, rfl⟩ := List.mem_map.mp hm
            exact PySem.SeqAt.EqAt.str_str p.1 p.2 (tx t) tk
          · exact PostE.int S (Nat.le_succ _)
        · simp only [if_neg q] at h; cases h
  | _ => cases h
end
theorem FunD.bindsK {K : PySem.W.Frag} {x qual : Str} {params : Arguments} {body : List Stmt} {scope : Scope} {kws : List (Str × L2.V)} {f : Addr} {fd : FuncData} {ps kn : List Str} {π : List Nat} {n : Nat} (F : L2.FunD K x qual params body scope [] kws f fd)
    (h : ∀ (kV doc pm : Value) (an : Option Addr) (cdv ct : Value) (us ws : List Value), us.length = n → ws.length = kn.length → bindArgs (PySem.W.fnOf x qual params body scope .none kV doc pm an cdv ct) ⟨us, kn.zip ws⟩ = pure (ps.zip (perm π (us ++ ws)))) : KBinds K fd ps kn π n := by
  obtain ⟨oc, od, dV, kV, doc, pm, an, cdv, ct, osl, rfl, lk, hcd, hD, hK⟩ := F.ex
  rcases hD with ⟨_, rfl⟩ | ⟨e, _⟩
  · exact fun s us ws _ h1 h2 => .of_eq (h kV doc pm an cdv ct us ws h1 h2)
  · exact absurd rfl e
end GB
/-! dict(a list of pairs); a call whose one argument is a list just made. -/
namespace GB
open PySem PySem.Spec PyProof.Rows
open L2 (Key keyH keyIs mixKind Mod Look Vis Loc frs thn)
section
variable {prog : Program} {w : World} {A : Around} {E : Value → Shared → Prop} {s : Shared} {F : FH}
theorem dictSet_exactT {T : Nat} {a : Addr} {o : Obj} {es : Array DictEntry} {ep : Nat} {ks : List (Key × D)} {k : Key} {key v : Value} {d : D} {Q : Unit → Shared → Prop} (ho : s.heap.get? a = some o) (hx : o.ExactDict) (hd : o.data = .dict es ep) (rk : RepK w F T es.toList ks) (nd : (ks.map (·.1)).Nodup)
    (rkey : Rep w F T key (keyD k)) (rv : Rep w F T v d) (hz : es.size < sizeLine)
    (hQ : ∀ h' o' es' ep' ks', h'.get? a = some o' → o'.ExactDict → o'.data = .dict es' ep' → es'.size ≤ es.size + 1 → RepK w F T es'.toList ks' → (ks'.map (·.1)).Nodup → ks'.map (fun p => (keyD p.1, p.2)) = dPut (ks.map fun p => (keyD p.1, p.2)) k d → Heap.SameBut a s.heap h' → Q () { s with heap := h', toks := s.toks + 1 }) :
    wpAny (model prog w) A (dictSet a key v) Q E s := by
  obtain ⟨kvs, p1, p2, p3, p4⟩ := rk.pairs (P := prog)
  have hk : KeysOf (mixKind prog w) es := fun e he => p4 e (by simpa using he)
  have hkey : keyIs k key = true := rkey.key_is
  unfold dictSet
  try with_reducible refine wpAny_holding ?_
  refine wpAny_bind ((mixKind prog w).pyHash (k := k) hkey ?_)
  unfold dictSetHashed
  try with_reducible refine wpAny_holding ?_
  refine wpAny_bind (wpAny_dictFind_of (knd := mixKind prog w) (s := { s with toks := s.toks + 1 }) (k := k) hkey ho hd hk ?_)
  have harr : es.findIdx? (fun e => (mixKind prog w).is k e.key) = es.toList.findIdx? (fun e => keyIs k e.key) := by obtain ⟨l⟩ := es; simp; rfl
  rw [harr]
  cases hi : es.toList.findIdx? (fun e => keyIs k e.key) with
  | some i =>
    obtain ⟨r1, r2⟩ := rk.put (k := k) rv hi nd
    have e2 : (ks.map fun p => if p.1 = k then (p.1, d) else p).map (·.1) = ks.map (·.1) := by
      rw [List.map_map]
      refine List.map_congr_left fun p _ => ?_
      simp only [Function.comp_apply]
      split <;> rfl
    have el : (es.modify i fun e => { e with val := v }).toList = es.toList.modify i fun e => { e with val := v } := by obtain ⟨l⟩ := es; simp
    refine wpAny_bind (wpAny_rule (wpAny_bind (wpAny_updateDict (s := { s with toks := s.toks + 1 }) ho hd (wpAny_point (hQ _ (o.mapDict fun es => es.modify i fun e => { e with val := v }) _ _ (ks.map fun p => if p.1 = k then (p.1, d) else p) (Heap.get?_update_self _ ho (Obj.isFreed_of_dict (Obj.data_mapDict hd _))) (hx.mapDict _) (Obj.data_mapDict hd _) (by rw [Array.size_modify]; omega) (by rw [el]; exact r1) (by rw [e2]; exact nd) ?_ (Heap.SameBut.update ..))))))
    rw [← putK_map]
    unfold putK
    rw [if_pos r2]
  | none =>
    obtain ⟨r1, r2⟩ := rk.nokey (k := k) hi
    refine wpAny_bind (wpAny_rule (wpAny_updateDictKeys (hz := Nat.le_of_lt hz) (s := { s with toks := s.toks + 1 }) ho hd (hQ _ (o.mapDictKeys fun es => es.push ⟨keyH w k, key, v⟩) _ _ (ks ++ [(k, d)]) (Heap.get?_update_self _ ho (Obj.isFreed_of_dict (Obj.data_mapDictKeys hd _))) (hx.mapDictKeys _) (Obj.data_mapDictKeys hd _) (by rw [Array.size_push]; exact Nat.le_refl _) (by rw [Array.toList_push]; exact rk.snoc (e := ⟨keyH w k, key, v⟩) rfl rkey rv) ?_ ?_ (Heap.SameBut.update ..))))
    · rw [List.map_append, List.nodup_append]
      refine ⟨nd, by simp, ?_⟩
      intro x hx y hy
      simp only [List.map_cons, List.map_nil, List.mem_singleton] at hy
      subst hy
      exact fun z => r2 (z ▸ hx)
    · rw [← putK_map]
      unfold putK
      rw [if_neg (by rw [r1]; decide)]
end
def pairD : D → Option (Key × D)
  | .tup [k, v] => k.key.map fun k => (k, v)
  | _ => none
def pairsD : List D → Option (List (Key × D))
  | [] => some []
  | d :: ds => match pairD d, pairsD ds with
    | some p, some ps => some (p :: ps)
    | _, _ => none
def dictL (kvs : List (Key × D)) : List (D × D) := kvs.foldl (fun acc p => dPut acc p.1 p.2) []
theorem pairsD_get : ∀ {ds : List D} {kvs : List (Key × D)}, pairsD ds = some kvs → kvs.length = ds.length ∧ ∀ (i : Nat) (k : Key) (d : D), kvs[i]? = some (k, d) → ds[i]? = some (.tup [keyD k, d])
  | [], _, h => by cases h; exact ⟨rfl, fun i k d h => by simp at h⟩
  | x :: ds, kvs, h => by
    rw [pairsD] at h
    cases h1 : pairD x with
    | none => rw [h1] at h; cases h
    | some p =>
      rw [h1] at h
      cases h2 : pairsD ds with
      | none => rw [h2] at h; cases h
      | some ps =>
        rw [h2] at h
        cases h
        obtain ⟨a, b⟩ := pairsD_get h2
        refine ⟨by simp [a], fun i k d hi => ?_⟩
        cases i with
        | zero =>
          simp at hi
          subst hi
          match x, h1 with
          | .tup [k', v], h1 =>
            obtain ⟨k2, e1, e2⟩ := Option.map_eq_some_iff.mp (show (k'.key).map (fun k => (k, v)) = some (k, d) from h1)
            cases e2
            rw [key_keyD e1]
            rfl
        | succ i => exact b i k d (by simpa using hi)
section
variable {X : Cx} {c : Cf} {e a b o : Expr} {da db : DE} {x : Str} {pos pos' p p2 apos cpos : Pos} {es : List Expr}
def fDictL : D → Option Res
  | .lst ds => (pairsD ds).map fun kvs => .fresh (.dic (dictL kvs))
  | _ => none
theorem pair_at (S : SR X c) {v k : Value} {ku : Key} {d : D} (r : Rep X.w c.F c.s.toks v (.tup [keyD ku, d])) : ∃ T k' v', v = .ref T ∧ PairAt c.s.heap T k' v' ∧ Rep X.w c.F c.s.toks k' (keyD ku) ∧ Rep X.w c.F c.s.toks v' d := by
  obtain ⟨a, o, vs, n, rfl, q, hc, hd, z, l⟩ := r.view.tup_inv S.sub
  obtain ⟨k', v', e, r1, r2⟩ := l.two
  have e2 : vs = #[k', v'] := by rw [← e]
  subst e2
  exact ⟨a, k', v', rfl, .inl ⟨o, q, hc, n, hd⟩, r1, r2⟩
theorem c1_dict : C1 X (.type "dict") fDictL := by
  intro c v d r S rv h
  cases d with
  | lst ds =>
    obtain ⟨kvs, hk, rfl⟩ := Option.map_eq_some_iff.mp (show (pairsD ds).map (fun kvs => Res.fresh (.dic (dictL kvs))) = some r from h)
    obtain ⟨hlen, hget⟩ := pairsD_get hk
    obtain ⟨a, vs, n, rfl, q, z, l⟩ := rv.view.lst_inv S.sub
    have hn : vs.size = kvs.length := by rw [hlen, size_len l.length]
    have ex : ∀ i : Nat, ∃ (T : Addr) (p : Value × Value), i < kvs.length → (vs[i]? = some (.ref T) ∧ PairAt c.s.heap T p.1 p.2 ∧ ∀ k d, kvs[i]? = some (k, d) → Rep X.w c.F c.s.toks p.1 (keyD k) ∧ Rep X.w c.F c.s.toks p.2 d) := fun i => by
      by_cases hi : i < kvs.length
      · obtain ⟨k, d, hkd⟩ : ∃ k d, kvs[i]? = some (k, d) := ⟨kvs[i].1, kvs[i].2, by simp [hi]⟩
        obtain ⟨u, hu, ru⟩ := l.get (hget i k d hkd)
        obtain ⟨T, k', v', rfl, pa, r1, r2⟩ := pair_at (k := .none) S ru
        exact ⟨T, (k', v'), fun _ => ⟨by simpa using hu, pa, fun k2 d2 e => by rw [hkd] at e; cases e; exact ⟨r1, r2⟩⟩⟩
      · exact ⟨0, (.none, .none), fun h => absurd h hi⟩
    obtain ⟨Ts, hT⟩ := Classical.axiomOfChoice ex
    obtain ⟨pf, hP⟩ := Classical.axiomOfChoice hT
    let ps : List (Value × Value) := (List.range kvs.length).map pf
    have psl : ps.length = kvs.length := by simp [ps]
    have psg : ∀ (j : Nat) k v, ps[j]? = some (k, v) → j < kvs.length ∧ pf j = (k, v) := fun j k v hj => by
      have hj' : j < kvs.length := by
        have := (List.getElem?_eq_some_iff.mp hj).1
        omega
      refine ⟨hj', ?_⟩
      simpa [ps, hj'] using hj
    have P := PairArg.list (prog := X.prog) (w := X.w) a vs Ts ps
    have ok : PlainSeq "list" c.s.heap a vs ∧ PairItems c.s.heap vs Ts ps := ⟨⟨_, n, q, rfl, rfl, rfl⟩, by rw [hn, psl], fun j k v hj => by
      obtain ⟨h1, h2⟩ := psg j k v hj
      obtain ⟨h3, h4, _⟩ := hP j h1
      rw [h2] at h4
      exact ⟨h3, h4⟩⟩
    refine wpAny_with_toks (Nat.le_refl _) (call_dict_arg P ok fun s1 hs1 hdf ok1 => ?_)
    subst hs1
    refine updateFrom_arg (A := X.A.in1) (d := c.s.heap.objs.size) (Tab := fun i h => ∃ o es ep ks, h.get? c.s.heap.objs.size = some o ∧ o.ExactDict ∧ o.data = .dict es ep ∧ es.size ≤ i ∧ RepK X.w c.F c.s.toks es.toList ks ∧ (ks.map (·.1)).Nodup ∧ ks.map (fun p => (keyD p.1, p.2)) = dictL (kvs.take i))
      P .none S.ok.hd ok1 hdf ⟨_, #[], _, [], Heap.get?_push_size _ rfl, ⟨rfl, rfl, rfl⟩, rfl, Nat.le_refl _, .nil, by simp, by simp [dictL]⟩ (fun i h ⟨o, _, _, _, e, _⟩ => Heap.lt_size e) (fun i h h' wr' hd _ ⟨o, es, ep, ks, e, r⟩ hk => ⟨o, es, ep, ks, hk _ _ hd e, r⟩) ?_ ?_
    · rintro i k v s' Q E' hi hrel ⟨o, es, ep, ks, e1, e2, e3, e4, e5, e6, e7⟩ _ hQ
      obtain ⟨h1, h2⟩ := psg i k v hrel
      obtain ⟨_, _, h3⟩ := hP i h1
      obtain ⟨ku, dv, hkd⟩ : ∃ k d, kvs[i]? = some (k, d) := ⟨kvs[i].1, kvs[i].2, by simp [h1]⟩
      obtain ⟨r1, r2⟩ := h3 ku dv hkd
      rw [h2] at r1 r2
      refine dictSet_exactT e1 e2 e3 e5 e6 r1 r2 (by omega) fun h' o' es' ep' ks' g1 g2 g3 g4 g5 g6 g7 sb => ?_
      refine hQ h' _ ⟨o', es', ep', ks', g1, g2, g3, by omega, g5, g6, ?_⟩ sb
      rw [g7, e7]
      have : kvs.take (i + 1) = kvs.take i ++ [(ku, dv)] := by rw [List.take_add_one, hkd]; rfl
      rw [this]
      simp [dictL, List.foldl_append]
    · rintro h' tk ⟨o, es, ep, ks, e1, e2, e3, e4, e5, e6, e7⟩ kp
      refine ⟨rfl, fun ht => ?_⟩
      have e8 : kvs.take ps.length = kvs := by rw [psl]; exact List.take_length
      rw [e8] at e7
      refine PostE.new (s' := { c.s with heap := h', toks := tk }) S (fun b o e => kp b o (Nat.ne_of_lt (Heap.lt_size e)) (by simp) (Heap.get?_push_of_some _ e)) ht S.new e1 (.dic e2 e3 (by omega) (e5.mono (Sub.refl _) ht) e6 e7.symm) S.nsys
  | _ => cases h
/-! ### a call that is handed a list just made -/
theorem SR.calledF (S : SR X c) {a : Addr} {d : D} (oa : OwnAt X.w X.base c.F c.s a d) (na : ¬ Owns c a) (nm : ¬ Mine X a) {ds' : List D} {r : Res} {u : Value} {s' : Shared} {F' : FH} (CE : CallEnd X.w X.base c.F c.s X.stack [true] [.ref a] ds' r u s' F') :
    ∃ c', c'.s = s' ∧ c'.ρ = c.ρ ∧ c'.α = c.α ∧ c'.F = F' ∧ FrX X [a] c c' ∧ SR X c' := by
  have ref1 : ∀ b, IsRef [true] [Value.ref a] b → b = a := fun b ⟨i, h1, h2⟩ => by
    cases i with
    | zero =>
      have h2 : some (Value.ref a) = some (Value.ref b) := h2
      cases h2; rfl
    | succ i => simp at h1
  have frm' : ∀ b o, b ∈ frs X.stack → c.s.heap.get? b = some o → ∃ sl, s'.heap.get? b = some { o with slots := sl } := fun b o z e => (CE.fr b o z e).1
  have still : ∀ b o, c.s.heap.get? b = some o → b ≠ a → (∃ sl, s'.heap.get? b = some { o with slots := sl }) ∧ (c.F b = none → F' b = none) := fun b o e n => by
    by_cases z : b ∈ frs X.stack
    · exact ⟨frm' b o z e, fun _ => (CE.fr b o z e).2⟩
    · obtain ⟨h1, h2⟩ := CE.st b o e (fun w => n (ref1 b w)) z
      exact ⟨⟨o.slots, h1⟩, h2⟩
  have cellno : ∀ y b, X.env.cells.lookup y = some b → b ≠ a := fun y b h w => by
    obtain ⟨o', e', r'⟩ := oa.ob
    rw [w] at h
    exact S.ncell e' r' y h
  have cel : ∀ y b, X.env.cells.lookup y = some b → ∀ v, c.s.heap.IsCell b v → s'.heap.IsCell b v := fun y b hy v ⟨o, q, dd⟩ => by
    obtain ⟨⟨sl, e⟩, _⟩ := still b o q (cellno y b hy)
    exact ⟨_, e, dd⟩
  have minen : ∀ b, Mine X b → b ≠ a := fun b z w => nm (w ▸ z)
  have mineF : ∀ b, Mine X b → F' b = none := fun b z => by
    obtain ⟨o, e⟩ := S.olds b (.inr z)
    exact (still b o e (minen b z)).2 (S.mine b z)
  have ownK : ∀ j d, isOwn c.ρ j → OwnAt X.w X.base c.F c.s (c.α j) d → ¬ Mine X (c.α j) → OwnAt X.w X.base F' s' (c.α j) d := fun j d q oj nmj => by
    obtain ⟨o, e⟩ := oj.ex
    have ne : c.α j ≠ a := fun z => na ⟨j, q, z⟩
    obtain ⟨h1, h2⟩ := CE.st _ o e (fun w => ne (ref1 _ w)) (fun w => nmj (.inr (.inr w)))
    exact oj.keep CE.fm CE.tk (h2 oj.nf) fun o' e' => by rw [e] at e'; cases e'; exact h1
  refine ⟨{ c with F := F', s := s' }, rfl, rfl, rfl, rfl, ⟨CE.fm, CE.tk, fun b o _ e => CE.hm b o e, fun b o hb e n nm' => ?_, fun b o z _ e => frm' b o z e, fun i d h => ⟨⟨d, h⟩, rfl⟩, fun i _ => ⟨rfl, id⟩⟩,
    ⟨S.ok, CE.os.trans S.os, CE.bare, fun b o e => ?_, ?_, ?_, fun y b hy => ?_, CE.sub, mineF, S.inj, fun b z => ?_, Nat.le_trans S.tk CE.tk, S.len, fun y b hy => ?_⟩⟩
  · have nb : b ≠ a := by simpa using hb
    obtain ⟨h1, h2⟩ := CE.st b o e (fun w => nb (ref1 b w)) (fun w => nm' (.inr (.inr w)))
    exact ⟨h1, n, h2⟩
  · have e1 := S.bk b o e
    have nm := (S.ok.bold b o e).2
    exact (CE.st b o e1 (fun w => by rw [ref1 b w, oa.nb] at e; cases e) (fun w => nm (.inr (.inr w)))).1
  · refine funs_of2 X.stack (fun b hb o q hd => ?_) S.frm
    obtain ⟨sl, e⟩ := frm' b o hb q
    exact ⟨_, e, hd⟩
  · obtain ⟨m, hm, slk⟩ := S.loc
    refine ⟨m, ?_, fun j x sl h1 h2 => ?_⟩
    · obtain ⟨o, es, ep, q, dd, rr⟩ := hm
      obtain ⟨⟨sl, e⟩, _⟩ := still _ o q (minen _ (.inl rfl))
      exact ⟨_, es, ep, e, dd, rr⟩
    · have old := slk j x sl h1 h2
      cases sl with
      | own d => obtain ⟨l, oj, no, nmj⟩ := old; exact ⟨Look.keep' cel l, ownK j d ⟨d, .inl h2⟩ oj nmj, no, nmj⟩
      | par d => obtain ⟨l, oj, nmj⟩ := old; exact ⟨Look.keep' cel l, ownK j d ⟨d, .inr h2⟩ oj nmj, nmj⟩
      | val d => obtain ⟨u, l, r⟩ := old; exact ⟨u, Look.keep' cel l, r.mono CE.fm CE.tk⟩
      | un => trivial
  · obtain ⟨v, z⟩ := S.cell y b hy
    exact ⟨v, cel y b hy v z⟩
  · obtain ⟨o, e⟩ := S.olds b z
    exact CE.hm b o e
  · obtain ⟨v, ⟨o, q, dd⟩⟩ := S.cell y b hy
    exact ⟨(still b o q (cellno y b hy)).2 (S.cfree y b hy).1, (S.cfree y b hy).2⟩
def dCallF (sp : DF) (a : DE) : DE := fun ρ => obind (a ρ) fun r ρ1 => match r with
  | .fresh d => (match sp [d] with
    | some (r', _) => some (.ok r' ρ1)
    | none => none)
  | _ => none
variable {k : Nat} {f : Addr} {fd : FuncData} {ps : List Str} {sp : DF}
theorem pd_callF (F : FnOk 1 X.prog X.w X.K X.mg X.base k f fd ps [true] sp) (hr : Room k X.A) (hm : X.mg x = some (.ref f)) (hk : PySem.W.keepIn X.K (.ref f) = true) (hb : L2.Binds X.K fd ps []) (ha : PD X e da) (hg : Gl X x := by rfl)
    (hdb : (x == ("__debug__" : Str)) = false := by decide) (he : starEach [e] X.env = (false, eval e X.env) :: starEach [] X.env := by rfl) (hpl : (backTo pos (starEach [] X.env)).any (·.1) = false := by rfl) (htz : 0 < X.tz := by exact Nat.zero_lt_one) :
    PD X (.Call (.Name x p) [e] [] pos) (dCallF sp da) := by
  refine ⟨fun c o S hd kx => ?_⟩
  refine wpAny_Call_Name_kw (S.glob hg hm ?_ hdb)
  refine PySem.W.callWith_K (h₀ := X.base) S.ok.mod.kin hk ?_ he hpl
  have e1 : starEach [e] X.env = [(false, eval e X.env)] := he
  rw [e1]
  show wpAny _ _ (spliced ((false, eval e X.env) :: backTo pos [])) _ _ _
  refine Calls.spliced_cons (ha.go S hd kx fun r c1 v f1 S1 ro hd1 => ?_)
  refine Calls.spliced_nil ⟨S1.kIn, ?_⟩
  cases r with
  | fresh d =>
    obtain ⟨a, rfl, hna, oa, no, nm⟩ := ro
    have hd1 : (match sp [d] with | some (r', _) => some (O.ok r' c1.ρ) | none => none) = some o := hd1
    cases hs : sp [d] with
    | none => rw [hs] at hd1; cases hd1
    | some rd =>
      obtain ⟨r', ds'⟩ := rd
      rw [hs] at hd1
      cases hd1
      have lk : ps.length = 1 := by rw [← F.lk]; rfl
      have ar : ArgsOk X.w X.base c1.F c1.s X.stack [true] [Value.ref a] [d] := ⟨rfl, rfl, fun i u d' h1 h2 h3 => by
        cases i with
        | zero => simp at h1
        | succ i => simp at h1, fun i u d' h1 h2 h3 => by
        cases i with
        | zero =>
          simp at h2 h3
          subst h2 h3
          exact ⟨a, rfl, oa, fun z => nm (.inr (.inr z))⟩
        | succ i => simp at h1, fun i j b h1 h2 _ _ => by
        cases i with
        | zero =>
          cases j with
          | zero => rfl
          | succ j => simp at h2
        | succ i => simp at h1⟩
      have hbt : BindsTo c1.s fd ⟨[Value.ref a], []⟩ (ps.zip [Value.ref a]) := by
        have := hb c1.s [Value.ref a] S1.kIn (by simp [lk])
        simpa using this
      refine call_of (codeAny_mono (F.run X.A X.stack c1.s c1.F ⟨[Value.ref a], []⟩ [Value.ref a] [d] ds' r' hr (S1.env0 htz) hbt ar hs) fun r2 s2 ⟨u, e2, F', CE⟩ => ?_)
      subst e2
      obtain ⟨c', q1, q2, q3, q4, fx, S'⟩ := S1.calledF oa no nm CE
      have fb : FrB X c c' := FrX.close f1.toFrB fx fun b hb => by
        have : b = a := by simpa using hb
        rw [this]; exact hna
      have ff : Fr X c c' := ⟨fb, by rw [q3]; exact f1.al⟩
      refine ⟨r', c', q1, by rw [q2], ff, S', ?_⟩
      have res := CE.res
      cases r' with
      | val d => rw [← q4, ← q1] at res; exact res
      | weak x => exact res
      | fresh d =>
        obtain ⟨b, eb, hnb, ob⟩ := res
        rw [← q4, ← q1] at ob
        have hcb : c.s.heap.get? b = none := by
          cases z : c.s.heap.get? b with
          | none => rfl
          | some o0 =>
            obtain ⟨o1, e1⟩ := f1.hm b o0 z
            rw [hnb] at e1; cases e1
        exact ⟨b, eb, hcb, ob, fun ⟨i, io, ib⟩ => by
          have w : Owns c1 b := ⟨i, q2 ▸ io, by rw [← q3]; exact ib⟩
          exact S1.nown hnb w, S1.nmine hnb⟩
  | val d => cases hd1
  | weak x => cases hd1
end
end GB
/-! list.count of a text. -/
namespace GB
open PySem PySem.Spec PyProof.Rows
open L2 (Key keyH keyIs mixKind Mod Look Vis Loc frs thn)
section
variable {X : Cx} {c : Cf}
def gCountL : D → List D → Option Res
  | .lst ds, [.str t] => match strsD ds with
    | some ts => some (.val (.int (ts.countP (fun s => decide (s = t)) : Nat)))
    | none => none
  | _, _ => none
theorem count_vals (t : List Nat) : ∀ {ls : List (Str × Tok)} {ts : List (List Nat)}, ls.map (·.1) = ts.map tx → (strValues ls).countP (isTxt (tx t)) = ts.countP fun s => decide (s = t)
  | [], [], _ => rfl
  | [], _ :: _, h => by simp at h
  | _ :: _, [], h => by simp at h
  | l :: ls, s :: ts, h => by
    simp only [List.map_cons, List.cons.injEq] at h
    have ih := count_vals t (ls := ls) (ts := ts) h.2
    have e : strValues (l :: ls) = .str l.1 l.2 :: strValues ls := rfl
    rw [e, List.countP_cons, List.countP_cons, ih]
    have : isTxt (tx t) (.str l.1 l.2) = decide (s = t) := by
      show (l.1 == tx t) = _
      rw [h.1]
      by_cases w : s = t
      · rw [w]; simp
      · have : tx s ≠ tx t := fun z => w (tx_inj z)
        rw [decide_eq_false w]
        simpa using this
    rw [this]
theorem cm_countL : CM X "list" "list.count" gCountL := by
  intro c v d us ds r S rv rs h
  cases d with
  | lst xs =>
    match ds, rs, h with
    | [.str t], rs, h =>
      have h : (match strsD xs with | some ts => some (Res.val (.int (ts.countP (fun s => decide (s = t)) : Nat))) | none => none) = some r := h
      cases hn : strsD xs with
      | none => rw [hn] at h; cases h
      | some ts =>
        rw [hn] at h
        cases h
        obtain ⟨u, rfl, ru⟩ := rs.one
        obtain ⟨tk, rfl, _, _, _⟩ := ru.str_inv
        obtain ⟨a, vs, n, rfl, hq, z, l⟩ := rv.view.lst_inv S.sub
        obtain ⟨ls, e1, e2, _⟩ := l.strs hn
        refine call_meets PySem.F.slot_list_count ⟨_, hq, rfl⟩ PySem.F.entry_list_count (PySem.F.args_list_count_2 _ _)
          (SeqAt.list_countAt a vs n none #[] (.str (tx t) tk) (isTxt (tx t))) ⟨hq, fun y hy => ?_, ?_⟩
        · have hm : y ∈ vs.toList := by simpa using hy
          rw [e1] at hm
          obtain ⟨p, _, rfl⟩ := List.mem_map.mp hm
          exact PySem.SeqAt.EqAt.str_str p.1 p.2 (tx t) tk
        · rw [e1, count_vals t e2]
          exact PostE.int S (Nat.le_succ _)
  | _ => cases h
end
end GB
/-! a list times a number. -/
namespace GB
open PySem PySem.Spec PyProof.Rows
open L2 (Key keyH keyIs mixKind Mod Look Vis Loc frs thn)
section
variable {X : Cx} {c : Cf}
def repL {α : Type} (n : Nat) (xs : List α) : List α := (List.replicate n xs).flatten
theorem repL_len {α : Type} (n : Nat) (xs : List α) : (repL n xs).length = n * xs.length := by
  induction n with
  | zero => simp [repL]
  | succ n ih =>
    unfold repL at ih ⊢
    rw [List.replicate_succ, List.flatten_cons, List.length_append, ih, Nat.add_mul]
    omega
theorem fold_rep (items : Array Value) : ∀ (n : Nat) (acc : Array Value), (List.foldl (fun x1 x2 => x1 ++ x2) acc (List.replicate n items)).toList = acc.toList ++ repL n items.toList
  | 0, acc => by simp [repL]
  | n + 1, acc => by
    rw [List.replicate_succ, List.foldl_cons, fold_rep items n, Array.toList_append]
    unfold repL
    rw [List.replicate_succ, List.flatten_cons, List.append_assoc]
theorem RepL.rep {w : World} {F : FH} {T : Nat} {vs : List Value} {ds : List D} (r : RepL w F T vs ds) : ∀ n : Nat, RepL w F T (repL n vs) (repL n ds)
  | 0 => .nil
  | n + 1 => by
    have ih := RepL.rep r n
    unfold repL at ih ⊢
    rw [List.replicate_succ, List.flatten_cons, List.replicate_succ, List.flatten_cons]
    exact r.append ih
def fMulL : D → D → Option Res
  | .lst xs, .int k => if k.natAbs ≤ 1000 ∧ xs.length * k.toNat ≤ 1000 then some (.fresh (.lst (repL k.toNat xs))) else none
  | _, _ => none
theorem op_mulL : OpG X (binaryOp .Mult) fMulL := by
  intro c x y d e r S rx ry h
  cases d with
  | lst xs =>
    cases e with
    | int k =>
      have h : (if k.natAbs ≤ 1000 ∧ xs.length * k.toNat ≤ 1000 then some (Res.fresh (.lst (repL k.toNat xs))) else none) = some r := h
      by_cases q : k.natAbs ≤ 1000 ∧ xs.length * k.toNat ≤ 1000
      · rw [if_pos q] at h
        cases h
        obtain ⟨u, rfl⟩ := ry.int_inv
        obtain ⟨a, vs, n, rfl, hl, z, l⟩ := rx.view.lst_inv S.sub
        have hlen : vs.size = xs.length := size_len l.length
        refine wpAny_binaryOp_repeat_ref (T := "list") (U := "int") (by decide) ⟨_, hl, rfl⟩ (fun s' => typeIs_int s' k u) noFill_list_mul F.fills_int_mul F.slot_int_rmul repeat_list F.slot_int_index.lookup
          (call_meets F.slot_int_rmul (typeIs_int c.s k u) F.entry_int_rmul (F.args_int_rmul_2 _ _) (int___rmul___int_list k u a vs n)
            ⟨hl, rfl, ⟨_, hl, rfl⟩, call_meets F.slot_list_mul ⟨_, hl, rfl⟩ F.entry_list_mul (F.args_list_mul_2 _ _)
              (AutoListH.list___mul___list_int_3 a vs n k u (by simp [Builtin.List.listFitsIndex]; omega) (by rw [hlen]; omega) (by simp only [Builtin.List.listTooLong, sizeLine, hlen]; simp; omega))
              ⟨hl, ?_⟩⟩)
        have e1 : (List.foldl (fun x1 x2 => x1 ++ x2) #[] (List.replicate (if vs.isEmpty = true then 0 else k.toNat) vs)).toList = repL k.toNat vs.toList := by
          rw [fold_rep]
          by_cases e : vs.isEmpty = true
          · have : vs.toList = [] := by simpa using e
            rw [this]
            have hn : ∀ n : Nat, repL n ([] : List Value) = [] := fun n => by
              have := repL_len n ([] : List Value)
              exact List.length_eq_zero_iff.mp (by simpa using this)
            rw [hn, hn]
            rfl
          · rw [if_neg e]; simp
        exact PostE.pushL S (Nat.le_refl _) (by
          have h1 := congrArg List.length e1
          rw [repL_len] at h1
          have h2 : (vs.toList).length = vs.size := by simp
          rw [h2, hlen] at h1
          rw [Array.length_toList] at h1
          rw [h1, Nat.mul_comm]
          have := le_line (n := xs.length * k.toNat) q.2
          exact this) (by rw [e1]; exact l.rep k.toNat)
      · rw [if_neg q] at h; cases h
    | _ => cases h
  | _ => cases h
end
end GB
/-! zip over texts: the signs' tokens are told. -/
namespace GB
open PySem PySem.Spec PyProof.Rows Builtin
open L2 (Key keyH keyIs mixKind Mod Look Vis Loc frs thn)
/-- an iterator whose items are told with the tokens given out -/
structure DrT (prog : Program) (w : World) (A : Around) (T0 : Nat) (it : Addr) (fp : List Addr) (n : Nat) (P : Nat → Value → Nat → Prop) (St : Nat → Heap → Prop) : Prop where
  up : ∀ i x t t', P i x t → t ≤ t' → P i x t'
  frame : ∀ i h h', St i h → (∀ b ∈ fp, ∀ o, h.get? b = some o → h'.get? b = some o) → St i h'
  item : ∀ i (s : Shared) (Q : Value → Shared → Prop) (E : Value → Shared → Prop), i < n → T0 ≤ s.toks → St i s.heap →
    (∀ x h' tk, P i x tk → s.toks ≤ tk → St (i + 1) h' → Heap.SameBut it s.heap h' → Q x { s with heap := h', toks := tk }) → wpAny (model prog w) A (SmallTypes.nextOf (.ref it)) Q E s
theorem DrT.over {prog : Program} {w : World} {A : Around} {T0 : Nat} {it : Addr} {fp : List Addr} {n : Nat} {P : Nat → Value → Nat → Prop} {St : Nat → Heap → Prop} (D : DrT prog w A T0 it fp n P St) {i : Nat} {h h' : Heap} {x : Addr} (st : St i h) (hs : Heap.SameBut x h h') (hx : x ∉ fp) : St i h' :=
  D.frame i h h' st fun b hb o e => hs.extBut b o (fun q => by rw [q] at hb; exact hx hb) e
theorem drT_text {prog : Program} {w : World} {A : Around} {F : FH} {T0 : Nat} (h0 : 0 < T0) (it : Addr) (x : List Nat) (t : Tok) :
    DrT prog w A T0 it [it] x.length (fun i v tk => ∃ d, (signs x)[i]? = some d ∧ Rep w F tk v d) (fun i h => h.IsStrIter it (strIterType (tx x)) (tx x) t i) where
  up := fun i v a b ⟨d, e, r⟩ hab => ⟨d, e, r.mono (Sub.refl _) hab⟩
  frame := fun i h h' st k => by
    obtain ⟨o, e, r⟩ := st
    exact ⟨o, k it (by simp) o e, r⟩
  item := fun i s Q E hi tp st hQ => by
    have hx : (tx x).cps[i]? = some x[i] := by simp [tx, hi]
    have fin : ∀ h', h'.IsStrIter it (strIterType (tx x)) (tx x) t (i + 1) → Heap.SameBut it s.heap h' → Q (.str ⟨#[x[i]]⟩ s.toks) { s with heap := h', toks := s.toks + 1 } := fun h' a b =>
      hQ _ h' (s.toks + 1) ⟨.str [x[i]], by simp [signs, hi], .str [x[i]] s.toks (Nat.ne_of_gt (Nat.lt_of_lt_of_le h0 tp)) (Nat.lt_succ_self _) (by show 1 ≤ sizeLine; decide)⟩ (Nat.le_succ _) a b
    cases ha : (tx x).cps.all (· < 128)
    · have e : strIterType (tx x) = "str_iterator" := by simp [strIterType, ha]
      rw [e] at st fin
      exact wpAny_nextOf_wide_item st hx fin
    · have e : strIterType (tx x) = "str_ascii_iterator" := by simp [strIterType, ha]
      rw [e] at st fin
      exact wpAny_nextOf_ascii_item st hx fin
section
variable {prog : Program} {w : World} {A : Around} {E : Value → Shared → Prop} {s : Shared} {Z I O j1 j2 : Addr} {fa fb : List Addr} {m1 m2 i T0 : Nat} {R1 R2 : Nat → Value → Nat → Prop} {St1 St2 : Nat → Heap → Prop} {u1 u2 : Value}
theorem zipT_item {Q : Value → Shared → Prop} (S : ZipSep2 Z I O j1 j2 fa fb) (D1 : DrT prog w A T0 j1 fa m1 R1 St1) (D2 : DrT prog w A T0 j2 fb m2 R2 St2) (ht0 : T0 ≤ s.toks)
    (hz : IsZip s.heap Z I O .none) (hI : IsTupOf2 s.heap I (.ref j1) (.ref j2)) (hO : IsTupOf2 s.heap O u1 u2) (st1 : St1 i s.heap) (st2 : St2 i s.heap) (l1 : i < m1) (l2 : i < m2)
    (hQ : ∀ x y h' tk, R1 i x tk → R2 i y tk → s.toks ≤ tk → IsZip h' Z I O (rawInt s.heap.objs.size) → IsTupOf2 h' O x y → St1 (i + 1) h' → St2 (i + 1) h' → IsTupOf2 h' s.heap.objs.size x y →
      (∀ c o, c ≠ Z → c ≠ O → c ≠ j1 → c ≠ j2 → s.heap.get? c = some o → h'.get? c = some o) → Q (.ref s.heap.objs.size) { s with heap := h', toks := tk }) :
    wpAny (model prog w) A (Builtin.«zip.__next__» ⟨[.ref Z], []⟩) (fun fin s' => ∃ v, fin = .done (.ret v) ∧ Q v s') E s := by
  obtain ⟨H, gs, dr, k0, os⟩ := s
  show wpAny _ _ (field (.ref Z) 2 >>= _) _ _ _; refine wpAny_bind (wpAny_field hz rfl (x := .bool false) rfl ?_)
  show wpAny _ _ (field (.ref Z) 3 >>= _) _ _ _; refine wpAny_bind (wpAny_field hz rfl (x := .ref I) rfl (wpAny_bind (wpAny_seqItems hI rfl ?_)))
  show wpAny _ _ (SmallTypes.ownedTupleIsFree (.ref Z) >>= _) _ _ _; refine wpAny_bind ?_; unfold SmallTypes.ownedTupleIsFree
  refine wpAny_bind (wpAny_field hz rfl (x := .none) rfl (wpAny_pure ?_)); simp only [if_true]
  refine wpAny_bind (wpAny_rule (wpAny_bind (wpAny_field hz rfl (x := .ref O) rfl (wpAny_bind (wpAny_setField_rec hz (by simp) fun a0 za sa => ?_)))))
  have za : IsZip a0 Z I O .ellipsis := za
  have sa : Heap.SameBut Z H a0 := sa
  refine wpAny_bind ?_; simp only [List.zipIdx_cons, List.zipIdx_nil, List.forIn_cons, List.forIn_nil]; refine wpAny_bind (wpAny_bind (wpAny_onRaise ?_))
  show wpAny _ _ (SmallTypes.nextOf (.ref j1) >>= _) _ _ ⟨a0, gs, dr, k0, os⟩
  refine wpAny_bind (D1.item i ⟨a0, gs, dr, k0, os⟩ _ _ l1 ht0 (D1.over st1 sa S.zf1) fun x b1 k1 rx kx sx sb => wpAny_pure ?_)
  have sb : Heap.SameBut j1 a0 b1 := sb
  have kx : k0 ≤ k1 := kx
  have o1 : IsTupOf2 b1 O u1 u2 := sb.extBut _ _ S.Ti1 (sa.extBut _ _ S.TOz hO)
  refine wpAny_bind (wpAny_seqItems (s := ⟨b1, gs, dr, k1, os⟩) o1 rfl (wpAny_bind (updateSeq_IsTupOf2 (s := ⟨b1, gs, dr, k1, os⟩) o1 fun c1 oc sc => ?_)))
  have oc : IsTupOf2 c1 O x u2 := oc
  have sc : Heap.SameBut O b1 c1 := sc
  refine wpAny_bind (wpAny_letGo (wpAny_pure (wpAny_bind (wpAny_bind (wpAny_onRaise ?_)))))
  show wpAny _ _ (SmallTypes.nextOf (.ref j2) >>= _) _ _ ⟨c1, gs, dr, k1, os⟩
  refine wpAny_bind (D2.item i ⟨c1, gs, dr, k1, os⟩ _ _ l2 (Nat.le_trans ht0 kx) (D2.over (D2.over (D2.over st2 sa S.zf2) sb S.sep1_2) sc S.Tf2) fun y d1 k2 ry ky sy sd => wpAny_pure ?_)
  have sd : Heap.SameBut j2 c1 d1 := sd
  have ky : k1 ≤ k2 := ky
  have o2 : IsTupOf2 d1 O x u2 := sd.extBut _ _ S.Ti2 oc
  refine wpAny_bind (wpAny_seqItems (s := ⟨d1, gs, dr, k2, os⟩) o2 rfl (wpAny_bind (updateSeq_IsTupOf2 (s := ⟨d1, gs, dr, k2, os⟩) o2 fun e1 oe se => ?_)))
  have oe : IsTupOf2 e1 O x y := oe
  have se : Heap.SameBut O d1 e1 := se
  refine wpAny_bind (wpAny_letGo (wpAny_pure (wpAny_pure (wpAny_bind (wpAny_seqItems (s := ⟨e1, gs, dr, k2, os⟩) oe rfl (wpAny_bind (wpAny_newTuple ?_)))))))
  have hsize : e1.objs.size = H.objs.size := by rw [se.1, sd.1, sc.1, sb.1, sa.1]
  have ze : IsZip e1 Z I O .ellipsis := se.extBut _ _ S.TOz.symm (sd.extBut _ _ S.zi2 (sc.extBut _ _ S.TOz.symm (sb.extBut _ _ S.zi1 za)))
  have kept : ∀ c o, c ≠ Z → c ≠ O → c ≠ j1 → c ≠ j2 → H.get? c = some o → e1.get? c = some o := fun c o n1 n2 n3 n4 q =>
    se.extBut _ _ n2 (sd.extBut _ _ n4 (sc.extBut _ _ n2 (sb.extBut _ _ n3 (sa.extBut _ _ n1 q))))
  have t1 : St1 (i + 1) e1 := D1.over (D1.over (D1.over sx sc S.Tf1) sd S.sep2_1) se S.Tf1
  have t2 : St2 (i + 1) e1 := D2.over sy se S.Tf2
  have zl : Z < e1.objs.size := Heap.lt_size ze
  show wpAny _ _ (SmallTypes.ownedTupleHandOut (.ref Z) (.ref e1.objs.size) >>= _) _ _ ⟨e1.push { cls := .type "tuple", data := .seq #[x, y] }, gs, dr, k2, os⟩
  refine wpAny_bind ?_; unfold SmallTypes.ownedTupleHandOut
  have zp : IsZip (e1.push { cls := .type "tuple", data := .seq #[x, y] }) Z I O .ellipsis := Heap.get?_push_of_some _ ze
  refine wpAny_bind (wpAny_setField_rec zp (by simp) fun f1 zf sf => ?_)
  have zf : IsZip f1 Z I O (rawInt e1.objs.size) := zf
  refine wpAny_setField_rec zf (by simp) fun f2 zg sg => ?_
  have zg : IsZip f2 Z I O (rawInt e1.objs.size) := zg
  have sf : Heap.SameBut Z (e1.push { cls := .type "tuple", data := .seq #[x, y] }) f1 := sf
  have sg : Heap.SameBut Z f1 f2 := sg
  have lift : ∀ c o, c ≠ Z → e1.get? c = some o → f2.get? c = some o := fun c o n q => sg.extBut _ _ n (sf.extBut _ _ n (Heap.get?_push_of_some _ q))
  have tt : IsTupOf2 f2 e1.objs.size x y := sg.extBut _ _ (Nat.ne_of_gt zl) (sf.extBut _ _ (Nat.ne_of_gt zl) (Heap.get?_push_size _ rfl))
  rw [hsize] at zg tt
  refine wpAny_pure ⟨_, rfl, ?_⟩
  show Q (.ref e1.objs.size) ⟨f2, gs, dr, k2, os⟩
  rw [hsize]
  exact hQ x y f2 k2 (D1.up _ _ _ _ rx ky) ry (Nat.le_trans kx ky) zg (lift _ _ S.TOz oe) (D1.frame _ _ _ t1 fun b hb o q => lift b o (fun e => S.zf1 (e ▸ hb)) q) (D2.frame _ _ _ t2 fun b hb o q => lift b o (fun e => S.zf2 (e ▸ hb)) q) tt fun c o n1 n2 n3 n4 q => lift c o n1 (kept c o n1 n2 n3 n4 q)
theorem pyNext_zipT {Q : Option Value → Shared → Prop} (S : ZipSep2 Z I O j1 j2 fa fb) (D1 : DrT prog w A.in1 T0 j1 fa m1 R1 St1) (D2 : DrT prog w A.in1 T0 j2 fb m2 R2 St2) (ht0 : T0 ≤ s.toks)
    (hz : IsZip s.heap Z I O .none) (hI : IsTupOf2 s.heap I (.ref j1) (.ref j2)) (hO : IsTupOf2 s.heap O u1 u2) (st1 : St1 i s.heap) (st2 : St2 i s.heap) (l1 : i < m1) (l2 : i < m2)
    (hQ : ∀ x y h' tk, R1 i x tk → R2 i y tk → s.toks ≤ tk → IsZip h' Z I O (rawInt s.heap.objs.size) → IsTupOf2 h' O x y → St1 (i + 1) h' → St2 (i + 1) h' → IsTupOf2 h' s.heap.objs.size x y →
      (∀ c o, c ≠ Z → c ≠ O → c ≠ j1 → c ≠ j2 → s.heap.get? c = some o → h'.get? c = some o) → Q (some (.ref s.heap.objs.size)) { s with heap := h', toks := tk }) :
    wpAny (model prog w) A (pyNext (.ref Z)) Q E s := by
  have hT : s.TypeIs (.ref Z) "zip" := ⟨_, hz, rfl⟩
  unfold pyNext; refine wpAny_bind (wpAny_attempt (wpAny_callSpecial?_slot (name := Str.ofString "__next__") hT F.slot_zip_next ?_))
  exact wpAny_call_entry F.slot_zip_next hT F.entry_zip_next (zipT_item S D1 D2 ht0 hz hI hO st1 st2 l1 l2 fun x y h' tk a1 a2 a3 a4 a5 a6 a7 a8 a9 => wpAny_pure (hQ x y h' tk a1 a2 a3 a4 a5 a6 a7 a8 a9)) (F.args_zip_next_1 _)
end
end GB
/-! zip over two texts. -/
namespace GB
open PySem PySem.Spec PyProof.Rows
open L2 (Key keyH keyIs mixKind Mod Look Vis Loc frs thn)
section
variable {X : Cx} {c c0 c1 c2 c3 : Cf} {e e2 : Expr} {es elts : List Expr} {kk : Nat} {tpos pos p : Pos}
theorem itr_zipS {prog : Program} {w : World} {F : FH} {T0 N : Nat} (h0 : 0 < T0) (xs ys : List Nat) (t u : Tok) :
    Itr prog w (.Tuple elts kk tpos) T0 (N + 4 : Nat) [(N + 4 : Nat), (N + 2 : Nat), (N + 3 : Nat), N, (N + 1 : Nat)] [(N + 4 : Nat), (N + 3 : Nat), N, (N + 1 : Nat)] (min xs.length ys.length)
      (fun k v s => ∃ d, (((signs xs).zip (signs ys)).map fun q : D × D => D.tup [q.1, q.2])[k]? = some d ∧ Yld w F true d v s)
      (fun i h => IsZip h (N + 4 : Nat) (N + 2 : Nat) (N + 3 : Nat) .none ∧ IsTupOf2 h (N + 2 : Nat) (.ref N) (.ref (N + 1 : Nat)) ∧ (∃ a b, IsTupOf2 h (N + 3 : Nat) a b) ∧ h.IsStrIter N (strIterType (tx xs)) (tx xs) t i ∧ h.IsStrIter (N + 1 : Nat) (strIterType (tx ys)) (tx ys) u i) := by
  have sep : ZipSep2 (N + 4 : Nat) (N + 2 : Nat) (N + 3 : Nat) N (N + 1 : Nat) [N] [(N + 1 : Nat)] := zip_sep2 (N := N) (fp1 := []) (fp2 := []) (fun _ h => nomatch h) (fun _ h => nomatch h)
  refine { sub := ?_, frame := ?_, obj := ?_, goes := ?_, stops := ?_, self := ?_ }
  · intro b hb
    simp only [List.mem_cons, List.not_mem_nil, or_false] at hb ⊢
    rcases hb with h | h | h | h <;> simp [h]
  · rintro i h h' ⟨hz, hI, ⟨a, b, hO⟩, s1, s2⟩ k
    refine ⟨k _ (by simp) _ hz, k _ (by simp) _ hI, ⟨a, b, k _ (by simp) _ hO⟩, ?_, ?_⟩
    · obtain ⟨o, e, r⟩ := s1; exact ⟨o, k _ (by simp) o e, r⟩
    · obtain ⟨o, e, r⟩ := s2; exact ⟨o, k _ (by simp) o e, r⟩
  · rintro i h ⟨hz, hI, ⟨a, b, hO⟩, s1, s2⟩ d hd
    simp only [List.mem_cons, List.not_mem_nil, or_false] at hd
    rcases hd with q | q | q | q | q
    · subst q; exact ⟨_, hz⟩
    · subst q; exact ⟨_, hI⟩
    · subst q; exact ⟨_, hO⟩
    · subst q; obtain ⟨o, e, _⟩ := s1; exact ⟨o, e⟩
    · subst q; obtain ⟨o, e, _⟩ := s2; exact ⟨o, e⟩
  · rintro A i s Q E hh hi ht ⟨hz, hI, ⟨a, b, hO⟩, s1, s2⟩ hQ
    refine pyNext_zipT sep (drT_text (F := F) h0 N xs t) (drT_text (F := F) h0 (N + 1 : Nat) ys u) ht hz hI hO s1 s2 (by omega) (by omega) fun x y h' tk rx ry kt hz' hO' s1' s2' hT hk => ?_
    refine ⟨_, rfl, wpAny_letOwnedTupleGo_zip (s := { s with heap := h', toks := tk }) hz' fun h2 hz2 sb => ?_⟩
    have hb : ∀ b o, b ≠ (N + 4 : Nat) → h'.get? b = some o → h2.get? b = some o := fun b o n q => (sb.2 b n).trans q
    have nI : (N + 2 : Nat) ≠ (N + 4 : Nat) := by omega
    have nO : (N + 3 : Nat) ≠ (N + 4 : Nat) := by omega
    have n1 : (N : Nat) ≠ (N + 4 : Nat) := by omega
    have n2 : (N + 1 : Nat) ≠ (N + 4 : Nat) := by omega
    have nT : s.heap.objs.size ≠ (N + 4 : Nat) := Nat.ne_of_gt (Heap.lt_size hz)
    refine hQ _ h2 tk ?_ ⟨hz2, hb _ _ nI (hk _ _ nI (by show (N + 2 : Nat) ≠ N + 3; omega) (by show (N + 2 : Nat) ≠ N; omega) (by show (N + 2 : Nat) ≠ N + 1; omega) hI), ⟨x, y, hb _ _ nO hO'⟩, ?_, ?_⟩ (fun b o hb' q => ?_) kt
    · obtain ⟨d1, e1, r1⟩ := rx
      obtain ⟨d2, e2, r2⟩ := ry
      refine ⟨.tup [d1, d2], ?_, ?_⟩
      · have hzp : ((signs xs).zip (signs ys))[i]? = some (d1, d2) := List.getElem?_zip_eq_some.mpr ⟨e1, e2⟩
        rw [List.getElem?_map, hzp]
        rfl
      · exact ⟨s.heap.objs.size, #[x, y], [d1, d2], rfl, ⟨_, hb _ _ nT hT, rfl, _, rfl⟩, .cons r1 (.cons r2 .nil), rfl⟩
    · obtain ⟨o, e, r⟩ := s1'; exact ⟨o, hb _ _ n1 e, r⟩
    · obtain ⟨o, e, r⟩ := s2'; exact ⟨o, hb _ _ n2 e, r⟩
    · simp only [List.mem_cons, List.not_mem_nil, or_false, not_or] at hb'
      exact hb b o hb'.1 (hk b o hb'.1 hb'.2.1 hb'.2.2.1 hb'.2.2.2 q)
  · rintro A s Q E hh ⟨hz, hI, ⟨a, b, hO⟩, s1, s2⟩ hQ
    have D1 := Draws.text (prog := prog) (w := w) (A := A.in1) hh N (tx xs) t
    have D2 := Draws.text (prog := prog) (w := w) (A := A.in1) hh (N + 1 : Nat) (tx ys) u
    have l1 : (tx xs).cps.size = xs.length := by simp [tx]
    have l2 : (tx ys).cps.size = ys.length := by simp [tx]
    refine wpAny_with_toks (Nat.le_refl _) (wpAny_pyNext_zipD2_end (i := min xs.length ys.length) sep D1 D2 hz hI hO s1 s2 (by omega) (by omega) (by omega) fun h' tk hk => fun ht => ?_)
    refine ⟨rfl, hQ h' tk (fun b o hb' q => ?_) ht⟩
    simp only [List.mem_cons, List.not_mem_nil, or_false, not_or] at hb'
    exact hk b o hb'.1 hb'.2.1 hb'.2.2.1 hb'.2.2.2 q
  · rintro A i s Q E hh ⟨hz, _⟩ q
    exact wpAny_pyIter_zip hz q
def zipS : List D → Option (List D)
  | [.str xs, .str ys] => some (((signs xs).zip (signs ys)).map fun q => .tup [q.1, q.2])
  | _ => none
def dZipS (a : DA) : DA := fun ρ => obind (a ρ) fun ds ρ1 => (zipS ds).map fun xs => .ok xs ρ1
theorem pi_zipS {d : DA} (hm : X.mg "zip" = none) (ha : PA X [e, e2] d) (hg : Gl X "zip" := by rfl) (hs : starEach [e, e2] X.env = (false, eval e X.env) :: starEach [e2] X.env := by rfl) (hpl : (backTo pos (starEach [e2] X.env)).any (·.1) = false := by rfl) (htz : 0 < X.tz := by exact Nat.zero_lt_one) :
    PI X true (.Tuple elts kk tpos) (.Call (.Name "zip" p) [e, e2] [] pos) (dZipS d) := by
  refine ⟨fun c o S hd kx => ?_⟩
  refine wpAny_Call_Name_kw (S.bltn hg hm PyProof.Rows.boot_zip (PyProof.Rows.callWith_type1 (ha.go S hd kx fun ds c1 vs f1 S1 r hk => ?_) hs hpl))
  obtain ⟨zs, hx, e1⟩ := Option.map_eq_some_iff.mp hk
  cases e1
  unfold zipS at hx
  split at hx
  · rename_i xs ys
    cases hx
    cases r with
    | cons r1 rr =>
      obtain ⟨v2, rfl, r2⟩ := rr.one
      obtain ⟨t, rfl, _⟩ := r1.str_inv
      obtain ⟨u, rfl, _⟩ := r2.str_inv
      refine zip_begins2 (begins_text (tx xs) t) (begins_text (tx ys) u) trivial trivial fun h' hz hI hO h1 h2 hsz hkp => wpAny_pyIter_zip hz ?_
      obtain ⟨S2, f2⟩ := S1.kept (s' := { c1.s with heap := h' }) hkp (Nat.le_refl _)
      have new : ∀ b, c1.s.heap.objs.size ≤ b → c1.s.heap.get? b = none := fun b hb => Heap.get?_none_of_le hb
      have big : ∀ b ∈ ([(c1.s.heap.objs.size + 4 : Nat), (c1.s.heap.objs.size + 2 : Nat), (c1.s.heap.objs.size + 3 : Nat), c1.s.heap.objs.size, (c1.s.heap.objs.size + 1 : Nat)] : List Addr), c1.s.heap.objs.size ≤ b := fun b hb => by
        simp only [List.mem_cons, List.not_mem_nil, or_false] at hb
        rcases hb with q | q | q | q | q
        · rw [q]; exact Nat.le_add_right _ _
        · rw [q]; exact Nat.le_add_right _ _
        · rw [q]; exact Nat.le_add_right _ _
        · rw [q]; exact Nat.le_refl _
        · rw [q]; exact Nat.le_add_right _ _
      have el : (((signs xs).zip (signs ys)).map fun q : D × D => D.tup [q.1, q.2]).length = min xs.length ys.length := by
        rw [List.length_map, List.length_zip]; simp [signs]
      have it := itr_zipS (prog := X.prog) (w := X.w) (elts := elts) (kk := kk) (tpos := tpos) (F := c1.F) (N := c1.s.heap.objs.size) (S1.tkp htz) xs ys t u
      rw [← el] at it
      refine ⟨_, { c1 with s := { c1.s with heap := h' } }, _, rfl, rfl, rfl, f1.trans f2, S2, S1.tkp htz, _, _, _, it, ⟨hz, hI, ⟨_, _, hO⟩, ⟨_, h1, rfl, rfl⟩, ⟨_, h2, rfl, rfl⟩⟩, ?_, ?_, ?_⟩
      · intro b hb
        have hb' : c1.s.heap.objs.size ≤ b := big b (by
          simp only [List.mem_cons, List.not_mem_nil, or_false] at hb ⊢
          rcases hb with q | q | q | q <;> simp [q])
        exact ⟨f1.toFrB.back (new b hb'), S1.fnone (new b hb')⟩
      · intro b hb
        exact ⟨S1.nown (new b (big b hb)), S1.nmine (new b (big b hb))⟩
      · intro b hb
        exact .inl (f1.toFrB.back (new b (big b hb)))
  · cases hx
end
end GB
/-! Several names at once, stored from the left (one of them is captured by a comprehension): all but the last frozen. -/
namespace GB
open PySem PySem.Spec PyProof.Rows
open L2 (Key keyH keyIs mixKind Mod Look Vis Loc frs thn)
section
variable {X : Cx} {c c0 c1 c2 c3 : Cf} {es ts : List Expr} {pos : Pos}
def Res.isVal : Res → Bool
  | .val _ => true
  | _ => false
def putFwd : List Nat → List Res → Rho → Rho
  | i :: is, r :: rs, ρ => putFwd is rs (ρ.set i (slotOf r))
  | _, _, ρ => ρ
def headsVal : List Res → Bool
  | [] => true
  | [_] => true
  | r :: rs => r.isVal && headsVal rs
def namesOf : List Expr → Option (List Str)
  | [] => some []
  | .Name x _ :: es => (namesOf es).map (x :: ·)
  | _ => none
theorem store_fwd : ∀ {is : List Nat} {ts : List Expr} {xs : List Str} {rs : List Res} {vs : List Value} {c0 c : Cf}, namesOf ts = some xs → RsOk X c0 c rs vs → SR X c → headsVal rs = true → is.length = rs.length → xs.length = rs.length → (∀ (k : Nat) (i : Nat) (x : Str), is[k]? = some i → xs[k]? = some x → X.N[i]? = some x ∧ Loc X.env.scope x ∧ X.asg i = true) →
    ∀ {Q : Unit → Shared → Prop} {E : Value → Shared → Prop}, (∀ c', c'.ρ = putFwd is rs c.ρ → FrB X c0 c' → SR X c' → Q () c'.s) →
    wpAny (model X.prog X.w) X.A (assignInOrder ((assignEach ts X.env).map (·.2)) vs) Q E c.s
  | is, ts, xs, [], vs, c0, c, hn, h, S, _, h1, h2, _, Q, E, hq => by
    cases h with
    | nil f _ =>
      cases xs with
      | cons _ _ => cases h2
      | nil =>
        have e : ts = [] := by
          cases ts with
          | nil => rfl
          | cons t ts =>
            cases t <;> simp [namesOf] at hn
        subst e
        exact assignInOrder_nil (hq c (by cases is <;> rfl) f S)
  | is, ts, xs, r :: rs, vs, c0, c, hn, h, S, hv, h1, h2, hN, Q, E, hq => by
    cases h with
    | @cons _ c1 _ _ v _ vs S0 f ro rr =>
      cases is with
      | nil => cases h1
      | cons i is =>
        cases xs with
        | nil => cases h2
        | cons x xs =>
          cases ts with
          | nil => simp [namesOf] at hn
          | cons t ts =>
            cases t with
            | Name y p =>
              obtain ⟨ys, e1, e2⟩ := Option.map_eq_some_iff.mp hn
              cases e2
              obtain ⟨hx, hl, has⟩ := hN 0 i x rfl rfl
              have hN' : ∀ (k : Nat) (i : Nat) (x : Str), is[k]? = some i → xs[k]? = some x → X.N[i]? = some x ∧ Loc X.env.scope x ∧ X.asg i = true := fun k i x a b => hN (k + 1) i x (by simpa using a) (by simpa using b)
              refine assignInOrder_cons (assign_Name ?_)
              cases rs with
              | nil =>
                refine thn (SR.store S0 (f.trans rr.fr) S (ro.later rr.fr) hx hl has) fun _ s3 ⟨c3, e3, e4, f3, S3, _⟩ => ?_
                subst e3
                cases rr with
                | nil _ _ =>
                  exact store_fwd (is := is) (rs := []) e1 (.nil f3 S0) S3 rfl (Nat.succ.inj h1) (Nat.succ.inj h2) hN' fun c' e f' S' => hq c' (by rw [e, e4]; rfl) f' S'
              | cons r2 rs =>
                have hv2 : (r.isVal && headsVal (r2 :: rs)) = true := hv
                rw [Bool.and_eq_true] at hv2
                cases r with
                | val d =>
                  have rd := ro.later rr.fr
                  refine thn (SR.store S FrB.refl S (r := .val d) (c0 := c) rd hx hl has) fun _ s3 ⟨c3, e3, e4, f3, S3, _⟩ => ?_
                  subst e3
                  exact store_fwd (is := is) (rs := r2 :: rs) e1 (rr.later f3) S3 hv2.2 (Nat.succ.inj h1) (Nat.succ.inj h2) hN' fun c' e f' S' => hq c' (by rw [e, e4]; rfl) (f.trans f') S'
                | _ => exact absurd hv2.1 (by simp [Res.isVal])
            | _ => simp [namesOf] at hn
def sParF (is : List Nat) (d : DR) : DS := fun ρ => ebind (d ρ) fun rs ρ1 => if is.length = rs.length ∧ rs.all (fun r => !r.isWeak) = true ∧ headsVal rs = true then some (.nx (putFwd is rs ρ1)) else none
theorem ps_parF {ts : List Expr} {xs : List Str} {d : DR} {kt k2 : Nat} {pt pt2 : Pos} (is : List Nat) (h : PR X es d) (hw : swappedStores [.Tuple ts kt pt] (.Tuple es k2 pt2) X.env = pure none) (hx : namesOf ts = some xs) (hl : is.length = xs.length := by rfl)
    (hN : ∀ (k : Nat) (i : Nat) (x : Str), is[k]? = some i → xs[k]? = some x → X.N[i]? = some x ∧ Loc X.env.scope x ∧ X.asg i = true)
    (hs : swapsWithSole [.Tuple ts kt pt] (.Tuple es k2 pt2) pos.line X.env = pure false := by rfl) (hn : is.length ≤ 1000 := by decide)
    (hst : (assignEach ts X.env).findIdx? (·.1) = none := by rfl) (hle : (assignEach ts X.env).length = is.length := by rfl) :
    PS X (.Assign [.Tuple ts kt pt] (.Tuple es k2 pt2) pos) (sParF is d) := by
  refine ⟨fun c o S hd kx => ?_⟩
  refine wpAny_Assign_stores (wpAny_Tuple_spliced (h.goS S hd kx fun rs c1 vs f1 S1 ro hk => ?_)) hs hw
  by_cases z : is.length = rs.length ∧ rs.all (fun r => !r.isWeak) = true ∧ headsVal rs = true
  · rw [if_pos z] at hk; cases hk
    have hlen : vs.length = is.length := by rw [ro.length, z.1]
    have small : vs.length ≤ sizeLine := by rw [hlen]; exact le_line hn
    refine ⟨small, ?_⟩
    show wpAny (model X.prog X.w) X.A (assignAll (.ref c1.s.heap.objs.size) [assign (.Tuple ts kt pt) X.env]) _ _ _
    obtain ⟨S2, f2⟩ := S1.kept (s' := { c1.s with heap := c1.s.heap.push { cls := .type "tuple", data := .seq vs.toArray } }) (fun b o e => Heap.get?_push_of_some _ e) (Nat.le_refl _)
    show wpAny (model X.prog X.w) X.A (assign (.Tuple ts kt pt) X.env (.ref c1.s.heap.objs.size)) _ _ _
    refine assign_Tuple_tuple S1.ok.hd (IsTup.new c1.s.heap _) (by rw [hle, ← hlen]; simp) hst fun h' hx' => ?_
    obtain ⟨S3, f3⟩ := S2.kept (s' := { c1.s with heap := h' }) (fun b o e => hx' b o (Nat.ne_of_lt (Heap.lt_size e)) e) (Nat.le_refl _)
    rw [List.toList_toArray]
    refine store_fwd (X := X) (is := is) (xs := xs) hx ((ro.later f2.toFrB).later f3.toFrB) S3 z.2.2 z.1 (by rw [← z.1, hl]) hN (fun c' e1 f' S' => ?_)
    exact ⟨c', rfl, f', S', by rw [e1]⟩
  · rw [if_neg z] at hk; cases hk
end
end GB
/-! Plain lemmas: texts sorted, dicts told by their keys, loops with an invariant. -/
namespace GB
open PySem PySem.Spec PyProof.Rows
/-! ### sorting -/
def ltT (a b : List Nat) : Bool := decide (a < b)
def sortT (ts : List (List Nat)) : List (List Nat) := ts.mergeSort fun a b => !decide (b < a)
def sortN (cs : List Nat) : List Nat := cs.mergeSort fun a b => decide (a ≤ b)
theorem leD_str (a b : List Nat) : leD (.str a) (.str b) = !decide (b < a) := by
  show (!(PyProof.Rows.lexLt PyProof.Rows.itemOrd [.inr (tx b).cps.toList] [.inr (tx a).cps.toList])) = _
  rw [tx_list, tx_list]
  simp only [PyProof.Rows.lexLt, Bool.and_false, Bool.or_false]
  rfl
theorem sortD_strs (ts : List (List Nat)) : sortD (ts.map .str) = (sortT ts).map .str := by
  unfold sortD sortT
  rw [List.map_mergeSort]
  intro a _ b _
  exact (leD_str a b).symm
theorem lt_one (a b : Nat) : (([a] : List Nat) < [b]) ↔ a < b := by
  constructor
  · intro h
    cases h with
    | rel h => exact h
    | cons h => cases h
  · intro h
    exact List.Lex.rel h
theorem sortT_signs (cs : List Nat) : sortT (cs.map fun c => [c]) = (sortN cs).map fun c => [c] := by
  unfold sortT sortN
  rw [← List.map_mergeSort]
  intro a _ b _
  rw [Bool.eq_iff_iff]
  simp [lt_one]
theorem signs_eq (cs : List Nat) : signs cs = (cs.map fun c => [c]).map D.str := by simp [signs]
theorem sortD_signs (cs : List Nat) : sortD (signs cs) = signs (sortN cs) := by
  rw [signs_eq, sortD_strs, sortT_signs, ← signs_eq]
theorem okSort_strs (ts : List (List Nat)) : okSort (ts.map .str) = true := by
  unfold okSort
  simp only [Bool.and_eq_true, Bool.or_eq_true, List.all_eq_true, List.mem_map, forall_exists_index, and_imp, forall_apply_eq_imp_iff₂]
  refine ⟨⟨fun a _ => ⟨rfl, rfl⟩, fun a _ b _ => rfl⟩, Or.inr fun a _ => rfl⟩
theorem okSort_signs (cs : List Nat) : okSort (signs cs) = true := by rw [signs_eq]; exact okSort_strs _
theorem sortN_perm (cs : List Nat) : (sortN cs).Perm cs := List.mergeSort_perm cs _
theorem sortN_mem {cs : List Nat} {c : Nat} : c ∈ sortN cs ↔ c ∈ cs := (sortN_perm cs).mem_iff
theorem sortN_le (cs : List Nat) : (sortN cs).Pairwise (· ≤ ·) := by
  have := List.pairwise_mergeSort (le := fun a b : Nat => decide (a ≤ b)) (by simp; omega) (by simp; omega) cs
  exact this.imp fun h => by simpa using h
theorem sortN_lt {cs : List Nat} (h : cs.Nodup) : (sortN cs).Pairwise (· < ·) := by
  have h1 := sortN_le cs
  have h2 : (sortN cs).Nodup := (sortN_perm cs).nodup_iff.mpr h
  exact (h1.and h2).imp fun ⟨a, b⟩ => by omega
/-- two ascending lists of the same members are the same -/
theorem asc_eq : ∀ {xs ys : List Nat}, xs.Pairwise (· < ·) → ys.Pairwise (· < ·) → (∀ c, c ∈ xs ↔ c ∈ ys) → xs = ys
  | [], [], _, _, _ => rfl
  | [], y :: ys, _, _, h => by have := (h y).mpr (by simp); simp at this
  | x :: xs, [], _, _, h => by have := (h x).mp (by simp); simp at this
  | x :: xs, y :: ys, h1, h2, h => by
    rw [List.pairwise_cons] at h1 h2
    have e : x = y := by
      have a := (h x).mp (by simp)
      have b := (h y).mpr (by simp)
      simp only [List.mem_cons] at a b
      rcases a with a | a
      · exact a
      · rcases b with b | b
        · exact b.symm
        · have := h2.1 x a
          have := h1.1 y b
          omega
    subst e
    rw [asc_eq h1.2 h2.2 fun c => ?_]
    have := h c
    simp only [List.mem_cons] at this
    constructor
    · intro q
      rcases this.mp (Or.inr q) with e | e
      · subst e; exact absurd (h1.1 c q) (by omega)
      · exact e
    · intro q
      rcases this.mpr (Or.inr q) with e | e
      · subst e; exact absurd (h2.1 c q) (by omega)
      · exact e
theorem sortN_asc {xs : List Nat} (h : xs.Pairwise (· < ·)) : sortN xs = xs :=
  asc_eq (sortN_lt (h.imp fun a => by omega)) h fun _ => sortN_mem
/-! ### the first of each -/
def firsts (l : List Nat) : List Nat := l.foldl (fun acc c => if c ∈ acc then acc else acc ++ [c]) []
theorem firsts_go (l : List Nat) : ∀ acc : List Nat, acc.Nodup → (l.foldl (fun acc c => if c ∈ acc then acc else acc ++ [c]) acc).Nodup ∧ ∀ c, c ∈ l.foldl (fun acc c => if c ∈ acc then acc else acc ++ [c]) acc ↔ c ∈ acc ∨ c ∈ l := by
  induction l with
  | nil => intro acc h; exact ⟨h, by simp⟩
  | cons x l ih =>
    intro acc h
    rw [List.foldl_cons]
    by_cases q : x ∈ acc
    · rw [if_pos q]
      obtain ⟨a, b⟩ := ih acc h
      refine ⟨a, fun c => (b c).trans ?_⟩
      simp only [List.mem_cons]
      constructor
      · rintro (z | z) <;> simp [z]
      · rintro (z | z | z)
        · exact Or.inl z
        · subst z; exact Or.inl q
        · exact Or.inr z
    · rw [if_neg q]
      obtain ⟨a, b⟩ := ih (acc ++ [x]) (by rw [List.nodup_append]; exact ⟨h, by simp, by intro a ha b hb; simp at hb; subst hb; intro z; exact q (z ▸ ha)⟩)
      refine ⟨a, fun c => (b c).trans ?_⟩
      simp only [List.mem_append, List.mem_cons, List.not_mem_nil, or_false, or_assoc]
theorem firsts_nodup (l : List Nat) : (firsts l).Nodup := (firsts_go l [] (by simp)).1
theorem firsts_mem {l : List Nat} {c : Nat} : c ∈ firsts l ↔ c ∈ l := by have := (firsts_go l [] (by simp)).2 c; simpa [firsts] using this
/-- the places of ties -/
def plc (ts : List (List Nat)) : List Nat := sortN (firsts ts.flatten)
theorem plc_asc (ts : List (List Nat)) : (plc ts).Pairwise (· < ·) := sortN_lt (firsts_nodup _)
theorem plc_mem {ts : List (List Nat)} {c : Nat} : c ∈ plc ts ↔ ∃ t ∈ ts, c ∈ t := by simp [plc, sortN_mem, firsts_mem, List.mem_flatten]
/-! ### loops -/
theorem dFor_inv {g : D → Rho → Option (O Unit)} {b : DS} (Inv : List D → Rho → Prop)
    (step : ∀ d ds ρ, Inv (d :: ds) ρ → ∃ ρ1, g d ρ = some (.ok () ρ1) ∧ ∃ ρ2, b ρ1 = some (.nx ρ2) ∧ Inv ds ρ2) : ∀ ds ρ, Inv ds ρ → ∃ ρ', dFor g b ds ρ = some (.nx ρ') ∧ Inv [] ρ'
  | [], ρ, h => ⟨ρ, rfl, h⟩
  | d :: ds, ρ, h => by
    obtain ⟨ρ1, h1, ρ2, h2, h3⟩ := step d ds ρ h
    obtain ⟨ρ', h4, h5⟩ := dFor_inv Inv step ds ρ2 h3
    refine ⟨ρ', ?_, h5⟩
    rw [dFor, h1]
    simp only [h2]
    exact h4
theorem lc_map {g : D → Rho → Option (O Unit)} {t : DT} {e : DE} {ds : List D} (Inv : Rho → Prop) (p : D → Bool) (f : D → D)
    (step : ∀ ρ, Inv ρ → ∀ d ∈ ds, ∃ ρ1, g d ρ = some (.ok () ρ1) ∧ ∃ ρ2, t ρ1 = some (.ok (p d) ρ2) ∧ (p d = false → Inv ρ2) ∧ (p d = true → ∃ r ρ3, e ρ2 = some (.ok r ρ3) ∧ r.isWeak = false ∧ r.d = f d ∧ Inv ρ3)) :
    ∀ ρ, Inv ρ → ∃ ρ', dLcGo g t e ds ρ = some ((ds.filter p).map f, ρ') ∧ Inv ρ' := by
  induction ds with
  | nil => intro ρ h; exact ⟨ρ, rfl, h⟩
  | cons d ds ih =>
    intro ρ h
    obtain ⟨ρ1, h1, ρ2, h2, h3, h4⟩ := step ρ h d (by simp)
    have ih := ih fun ρ h d hd => step ρ h d (by simp [hd])
    rw [dLcGo, h1]
    simp only [h2]
    cases hp : p d with
    | false =>
      obtain ⟨ρ', h5, h6⟩ := ih ρ2 (h3 hp)
      refine ⟨ρ', ?_, h6⟩
      simp [h5, hp]
    | true =>
      obtain ⟨r, ρ3, h5, h6, h7, h8⟩ := h4 hp
      obtain ⟨ρ', h9, h10⟩ := ih ρ3 h8
      refine ⟨ρ', ?_, h10⟩
      simp [h5, h6, h7, h9, hp]
theorem dWhile_step {t : DT} {b : DS} {n : Nat} {ρ ρ1 ρ2 : Rho} {o : OS} (h1 : t ρ = some (.ok true ρ1)) (h2 : b ρ1 = some (.nx ρ2)) (h3 : dWhile t b n ρ2 = some o) : dWhile t b (n + 1) ρ = some o := by
  rw [dWhile, h1]
  simp [h2, h3]
theorem dWhile_end {t : DT} {b : DS} {ρ ρ1 : Rho} (h1 : t ρ = some (.ok false ρ1)) : dWhile t b 1 ρ = some (.nx ρ1) := by
  rw [dWhile, h1]
  simp
/-- a loop with an invariant and a measure -/
theorem sWhile_inv {t : DT} {b : DS} (Inv : Nat → Rho → Prop) (Fin : Rho → Prop)
    (step : ∀ n ρ, Inv n ρ → (∃ ρ1, t ρ = some (.ok false ρ1) ∧ Fin ρ1) ∨ ∃ ρ1 ρ2 m, t ρ = some (.ok true ρ1) ∧ b ρ1 = some (.nx ρ2) ∧ m < n ∧ Inv m ρ2) :
    ∀ n ρ, Inv n ρ → ∃ ρ', sWhile t b ρ = some (.nx ρ') ∧ Fin ρ' := by
  have main : ∀ n ρ, Inv n ρ → ∃ k ρ', dWhile t b k ρ = some (.nx ρ') ∧ Fin ρ' := by
    intro n
    induction n using Nat.strongRecOn with
    | ind n ih =>
      intro ρ h
      rcases step n ρ h with ⟨ρ1, h1, h2⟩ | ⟨ρ1, ρ2, m, h1, h2, h3, h4⟩
      · exact ⟨1, ρ1, dWhile_end h1, h2⟩
      · obtain ⟨k, ρ', h5, h6⟩ := ih m h3 ρ2 h4
        exact ⟨k + 1, ρ', dWhile_step h1 h2 h5, h6⟩
  intro n ρ h
  obtain ⟨k, ρ', h1, h2⟩ := main n ρ h
  exact ⟨ρ', sWhile_eq h1, h2⟩
theorem perm_erase {α : Type} : ∀ {xs : List α} {k : Nat} (h : k < xs.length), ([xs[k]] ++ xs.eraseIdx k).Perm xs
  | x :: xs, 0, _ => List.Perm.refl _
  | x :: xs, k + 1, h => by
    have ih := perm_erase (xs := xs) (k := k) (by simpa using h)
    simp only [List.getElem_cons_succ, List.eraseIdx_cons_succ, List.singleton_append] at ih ⊢
    exact (List.Perm.swap _ _ _).trans (ih.cons x)
end GB
/-! The plain functions of the rules, unfolded. -/
namespace GB
open PySem PySem.Spec PyProof.Rows
theorem nrfl {α : Type} (a : α) : a = a := Eq.trans rfl rfl
section
variable {ρ : Rho}
@[simp] theorem z_Val (i : Nat) : dVar i ρ = (match ρ[i]? with | some (.val d) => some (.ok (.val d) ρ) | some (.own d) => some (.ok (.val d) (ρ.set i (.val d))) | _ => none) := nrfl _
@[simp] theorem z_C (d : D) : dC d ρ = some (.ok (.val d) ρ) := nrfl _
@[simp] theorem z_W (s : List Nat) : dW s ρ = some (.ok (.weak s) ρ) := nrfl _
@[simp] theorem z_Bin (f : D → D → Option Res) (a b : DE) : dBin f a b ρ = obind (a ρ) fun x ρ1 => obind (b ρ1) fun y ρ2 => (match f x.d y.d with | some z => some (.ok z ρ2) | none => none) := nrfl _
@[simp] theorem z_BinG (f : D → D → Option Res) (a b : DE) : dBinG f a b ρ = obind (a ρ) fun x ρ1 => obind (b ρ1) fun y ρ2 => if x.isWeak || y.isWeak then none else (match f x.d y.d with | some z => some (.ok z ρ2) | none => none) := nrfl _
@[simp] theorem z_Op2 (f : D → D → Option Res) (l : DL) (p : DV) : dOp2 f l p ρ = obind (l ρ) fun x ρ1 => obind (p ρ1) fun y ρ2 => (match x.now ρ2 with | some d => (match f d y with | some z => some (.ok z ρ2) | none => none) | none => none) := nrfl _
@[simp] theorem z_Tst (f : D → D → Option Res) (l : DL) (p : DV) : dTst f l p ρ = obind (l ρ) fun x ρ1 => obind (p ρ1) fun y ρ2 => (match x.now ρ2 with | some d => (match f d y with | some (.val (.bl b)) => some (.ok b ρ2) | _ => none) | none => none) := nrfl _
@[simp] theorem z_OfT (t : DT) : dOfT t ρ = obind (t ρ) fun b ρ1 => some (.ok (.val (.bl b)) ρ1) := nrfl _
@[simp] theorem z_Late (d : DE) : dLate d ρ = obind (d ρ) fun r ρ1 => some (.ok (.val r.d) ρ1) := nrfl _
@[simp] theorem z_LateAt (i : Nat) : dLateAt i ρ = (match ρ[i]? with | some (.val d) => some (.ok (.val d) ρ) | some (.own _) => some (.ok (.nm i) ρ) | some (.par _) => some (.ok (.nm i) ρ) | _ => none) := nrfl _
@[simp] theorem z_See (d : DE) : dSee d ρ = obind (d ρ) fun r ρ1 => some (.ok r.d ρ1) := nrfl _
@[simp] theorem z_LookAt (i : Nat) : dLookAt i ρ = (match ρ.at i with | some d => some (.ok d ρ) | none => none) := nrfl _
@[simp] theorem z_at (i : Nat) : ρ.at i = (match ρ[i]? with | some (.val d) => some d | some (.own d) => some d | some (.par d) => some d | _ => none) := nrfl _
@[simp] theorem z_Good (d : DE) : dGood d ρ = obind (d ρ) fun r ρ1 => if r.isWeak then none else some (.ok (.val r.d) ρ1) := nrfl _
@[simp] theorem z_nowV (d : D) : (LV.val d).now ρ = some d := nrfl _
@[simp] theorem z_nowN (i : Nat) : (LV.nm i).now ρ = (match ρ[i]? with | some (.own d) => some d | some (.par d) => some d | _ => none) := nrfl _
@[simp] theorem z_rv (d : D) : (Res.val d).d = d := nrfl _
@[simp] theorem z_rf (d : D) : (Res.fresh d).d = d := nrfl _
@[simp] theorem z_rw (s : List Nat) : (Res.weak s).d = .str s := nrfl _
@[simp] theorem z_wv (d : D) : (Res.val d).isWeak = false := nrfl _
@[simp] theorem z_wf (d : D) : (Res.fresh d).isWeak = false := nrfl _
@[simp] theorem z_ww (s : List Nat) : (Res.weak s).isWeak = true := nrfl _
@[simp] theorem z_sv (d : D) : slotOf (.val d) = .val d := nrfl _
@[simp] theorem z_sf (d : D) : slotOf (.fresh d) = .own d := nrfl _
@[simp] theorem z_mo (d : D) : (Slot.own d).mine = some d := nrfl _
@[simp] theorem z_mp (d : D) : (Slot.par d).mine = some d := nrfl _
@[simp] theorem z_po (d e : D) : (Slot.own d).put e = .own e := nrfl _
@[simp] theorem z_pp (d e : D) : (Slot.par d).put e = .par e := nrfl _
@[simp] theorem z_Nil : dNil ρ = some (.ok [] ρ) := nrfl _
@[simp] theorem z_Cons (a : DE) (r : DA) : dCons a r ρ = obind (a ρ) fun x ρ1 => if x.isWeak then none else obind (r ρ1) fun xs ρ2 => some (.ok (x.d :: xs) ρ2) := nrfl _
@[simp] theorem z_Tup (a : DA) : dTup a ρ = obind (a ρ) fun xs ρ1 => if xs.length ≤ 1000 then some (.ok (.val (.tup xs)) ρ1) else none := nrfl _
@[simp] theorem z_Lst (a : DA) : dLst a ρ = obind (a ρ) fun xs ρ1 => if xs.length ≤ 1000 then some (.ok (.fresh (.lst xs)) ρ1) else none := nrfl _
@[simp] theorem z_Call1 (g : D → Option Res) (a : DL) : dCall1 g a ρ = obind (a ρ) fun l ρ1 => (match l.now ρ1 with | some d => (match g d with | some z => some (.ok z ρ1) | none => none) | none => none) := nrfl _
@[simp] theorem z_CallA (g : List D → Option Res) (a : DA) : dCallA g a ρ = obind (a ρ) fun ds ρ1 => (match g ds with | some z => some (.ok z ρ1) | none => none) := nrfl _
@[simp] theorem z_Isi (T : String) (l : DL) : dIsi T l ρ = obind (l ρ) fun x ρ1 => (match x.now ρ1 with | some d => some (.ok (.val (.bl (isiB d.ty T))) ρ1) | none => none) := nrfl _
@[simp] theorem z_Meth (T : String) (g : D → List D → Option Res) (l : DL) (a : DA) : dMeth T g l a ρ = obind (l ρ) fun x ρ1 => (match x.now ρ1 with | some d1 => if tyOf d1 = T then obind (a ρ1) fun ds ρ2 => (match x.now ρ2 with | some d => (match g d ds with | some z => some (.ok z ρ2) | none => none) | none => none) else none | none => none) := nrfl _
@[simp] theorem z_MethW (T : String) (g : D → List D → Option (Res × D)) (i : Nat) (a : DA) : dMethW T g i a ρ = (match (ρ[i]?).bind Slot.mine with | some d1 => if tyOf d1 = T then obind (a ρ) (dWr g i) else none | none => none) := nrfl _
@[simp] theorem z_MethW0 (T : String) (g : D → List D → Option (Res × D)) (i : Nat) : dMethW0 T g i ρ = (match (ρ[i]?).bind Slot.mine with | some d1 => if tyOf d1 = T then dWr g i [] ρ else none | none => none) := nrfl _
@[simp] theorem z_Wr (g : D → List D → Option (Res × D)) (i : Nat) (ds : List D) : dWr g i ds ρ = (match ρ[i]? with | some sl => (match sl.mine with | some d => (match g d ds with | some (r, d') => some (.ok r (ρ.set i (sl.put d'))) | none => none) | none => none) | none => none) := nrfl _
@[simp] theorem z_aNil : aNil ρ = some (.ok [] ρ) := nrfl _
@[simp] theorem z_aVal (d : DE) (h : DLs) : aVal d h ρ = obind (d ρ) fun r ρ1 => if r.isWeak then none else obind (h ρ1) fun ls ρ2 => some (.ok (.val r.d :: ls) ρ2) := nrfl _
@[simp] theorem z_aRef (i : Nat) (h : DLs) : aRef i h ρ = (match (ρ[i]?).bind Slot.mine with | some _ => obind (h ρ) fun ls ρ2 => some (.ok (.nm i :: ls) ρ2) | none => none) := nrfl _
@[simp] theorem z_Call (sp : DF) (ks : List Bool) (a : DLs) : dCall sp ks a ρ = obind (a ρ) fun ls ρ1 => callLs sp ks ls ρ1 := nrfl _
@[simp] theorem z_CallK (sp : DF) (ks : List Bool) (π : List Nat) (n m : Nat) (a b : DLs) : dCallK sp ks π n m a b ρ = obind (a ρ) fun ls ρ1 => obind (b ρ1) fun ms ρ2 => if ls.length = n ∧ ms.length = m then callLs sp ks (perm π (ls ++ ms)) ρ2 else none := nrfl _
@[simp] theorem z_callLs (sp : DF) (ks : List Bool) (ls : List LV) : callLs sp ks ls ρ = if ls.map LV.isNm = ks ∧ (nmsOf ls).Nodup then (match argsNow ρ ls with | some ds => (match sp ds with | some (r, ds') => some (.ok r (putBack ls ds' ρ)) | none => none) | none => none) else none := nrfl _
@[simp] theorem z_isNv (d : D) : (LV.val d).isNm = false := nrfl _
@[simp] theorem z_isNn (i : Nat) : (LV.nm i).isNm = true := nrfl _
@[simp] theorem z_nms0 : nmsOf [] = [] := nrfl _
@[simp] theorem z_nmsV (d : D) (r : List LV) : nmsOf (.val d :: r) = nmsOf r := nrfl _
@[simp] theorem z_nmsN (i : Nat) (r : List LV) : nmsOf (.nm i :: r) = i :: nmsOf r := nrfl _
@[simp] theorem z_an0 : argsNow ρ [] = some [] := nrfl _
@[simp] theorem z_an1 (l : LV) (r : List LV) : argsNow ρ (l :: r) = (match l.now ρ, argsNow ρ r with | some d, some ds => some (d :: ds) | _, _ => none) := nrfl _
@[simp] theorem z_pb0 (ds : List D) : putBack [] ds ρ = ρ := by cases ds <;> rfl
@[simp] theorem z_pbV (d e : D) (r : List LV) (ds : List D) : putBack (.val d :: r) (e :: ds) ρ = putBack r ds ρ := nrfl _
@[simp] theorem z_pbN (i : Nat) (e : D) (r : List LV) (ds : List D) : putBack (.nm i :: r) (e :: ds) ρ = putBack r ds (ρ.modify i fun sl => sl.put e) := nrfl _
@[simp] theorem z_CallF (sp : DF) (a : DE) : dCallF sp a ρ = obind (a ρ) fun r ρ1 => (match r with | .fresh d => (match sp [d] with | some (r', _) => some (.ok r' ρ1) | none => none) | _ => none) := nrfl _
@[simp] theorem z_AndV (a b : DE) : dAndV a b ρ = obind (a ρ) fun r ρ1 => (match r.d with | .bl c => if c = true then b ρ1 else some (.ok (.val (.bl false)) ρ1) | _ => none) := nrfl _
@[simp] theorem z_OrV (a b : DE) : dOrV a b ρ = obind (a ρ) fun r ρ1 => (match r.d with | .bl c => if c = true then some (.ok (.val (.bl true)) ρ1) else b ρ1 | _ => none) := nrfl _
@[simp] theorem z_NotV (a : DE) : dNotV a ρ = obind (a ρ) fun r ρ1 => some (.ok (.val (.bl (!r.d.truth))) ρ1) := nrfl _
@[simp] theorem z_NotT (t : DT) : dNotT t ρ = obind (t ρ) fun b ρ1 => some (.ok (!b) ρ1) := nrfl _
@[simp] theorem z_AndT (t u : DT) : dAndT t u ρ = obind (t ρ) fun b ρ1 => if b = true then u ρ1 else some (.ok false ρ1) := nrfl _
@[simp] theorem z_OrT (t u : DT) : dOrT t u ρ = obind (t ρ) fun b ρ1 => if b = true then some (.ok true ρ1) else u ρ1 := nrfl _
@[simp] theorem z_If (t : DT) (a b : DE) : dIf t a b ρ = obind (t ρ) fun c ρ1 => if c = true then a ρ1 else b ρ1 := nrfl _
@[simp] theorem z_Tru (d : DE) : dTru d ρ = obind (d ρ) fun r ρ1 => some (.ok r.d.truth ρ1) := nrfl _
@[simp] theorem z_TruV (p : DV) : dTruV p ρ = obind (p ρ) fun d ρ1 => some (.ok d.truth ρ1) := nrfl _
@[simp] theorem z_RevS (l : DL) : dRevS l ρ = obind (l ρ) fun x ρ1 => (match x with | .val (.str s) => some (.ok (.val (.str s.reverse)) ρ1) | _ => none) := nrfl _
@[simp] theorem z_Sl (a : DL) (lo hi : DO) : dSl a lo hi ρ = obind (a ρ) fun x ρ1 => obind (lo ρ1) fun l ρ2 => obind (hi ρ2) fun h ρ3 => (match x.now ρ3 with | some d => (match fSl l h d with | some z => some (.ok z ρ3) | none => none) | none => none) := nrfl _
@[simp] theorem z_NoO : dNoO ρ = some (.ok none ρ) := nrfl _
@[simp] theorem z_SomeO (p : DV) : dSomeO p ρ = obind (p ρ) fun r ρ1 => (match r with | .int i => some (.ok (some i) ρ1) | _ => none) := nrfl _
@[simp] theorem z_Repl (z : List Nat) (l : DL) (a : DE) : dRepl z l a ρ = obind (l ρ) fun x ρ1 => (match x with | .val (.str s) => obind (a ρ1) fun y ρ2 => if y.isWeak then none else (match y.d with | .str t => if t ≠ z ∧ s.length + (s.length + 1) * z.length ≤ 16777216 then some (.ok (.val (.str (repT t z s))) ρ2) else none | _ => none) | _ => none) := nrfl _
@[simp] theorem z_Dic0 : dDic0 ρ = some (.ok (.fresh (.dic [])) ρ) := nrfl _
@[simp] theorem z_Items (d : DE) : dItems d ρ = obind (d ρ) fun r ρ1 => (itemsOf r.d).map fun ds => .ok ds ρ1 := nrfl _
@[simp] theorem z_Rng (a : DA) : dRng a ρ = obind (a ρ) fun ds ρ1 => (rngD ds).map fun xs => .ok xs ρ1 := nrfl _
@[simp] theorem z_Rng1 (a : DA) : dRng1 a ρ = obind (a ρ) fun ds ρ1 => (rng1 ds).map fun xs => .ok xs ρ1 := nrfl _
@[simp] theorem z_Zip (a : DA) : dZip a ρ = obind (a ρ) fun ds ρ1 => (zipD ds).map fun xs => .ok xs ρ1 := nrfl _
@[simp] theorem z_Lc (vs : List Nat) (p : DA) (g : D → Rho → Option (O Unit)) (t : DT) (e : DE) : dLc vs p g t e ρ = obind (p ρ) fun ds ρ1 => (lcAll vs g t e ds ρ1).map fun q => .ok (.fresh (.lst q.1)) q.2 := nrfl _
@[simp] theorem z_sLc (i : Nat) (vs : List Nat) (p : DA) (g : D → Rho → Option (O Unit)) (t : DT) (e : DE) : sLc i vs p g t e ρ = ebind (p ρ) fun ds ρ1 => (lcAll vs g t e ds ρ1).map fun q => .nx (q.2.set i (.own (.lst q.1))) := nrfl _
@[simp] theorem z_Dc (vs : List Nat) (p : DA) (g : D → Rho → Option (O Unit)) (t : DT) (dk e : DE) : dDc vs p g t dk e ρ = obind (p ρ) fun ds ρ1 => (dcAll vs g t dk e ds ρ1).map fun q => .ok (.fresh (.dic q.1)) q.2 := nrfl _
@[simp] theorem z_sDc (i : Nat) (vs : List Nat) (p : DA) (g : D → Rho → Option (O Unit)) (t : DT) (dk e : DE) : sDc i vs p g t dk e ρ = ebind (p ρ) fun ds ρ1 => (dcAll vs g t dk e ds ρ1).map fun q => .nx (q.2.set i (.own (.dic q.1))) := nrfl _
@[simp] theorem z_Dc2 (vs : List Nat) (p : DA) (g : D → Rho → Option (O Unit)) (t : DT) (p1 : DA) (g1 : D → Rho → Option (O Unit)) (t1 : DT) (dk e : DE) : dDc2 vs p g t p1 g1 t1 dk e ρ = obind (p ρ) fun ds ρ1 => (dDc2Go g t p1 g1 t1 dk e ds [] (hide vs 0 ρ1)).map fun q => .ok (.fresh (.dic q.1)) (unhide vs 0 ρ1 q.2) := nrfl _
@[simp] theorem z_tYes : tYes ρ = some (.ok true ρ) := nrfl _
@[simp] theorem z_gName (i : Nat) (d : D) : gtName i d ρ = some (.ok () (ρ.set i (.val d))) := nrfl _
@[simp] theorem z_gNil : gtNil [] ρ = some (.ok () ρ) := nrfl _
@[simp] theorem z_gCons (g : D → Rho → Option (O Unit)) (h : List D → Rho → Option (O Unit)) (d : D) (r : List D) : gtCons g h (d :: r) ρ = obind (g d ρ) fun _ ρ1 => h r ρ1 := nrfl _
@[simp] theorem z_gTup (n : Nat) (h : List D → Rho → Option (O Unit)) (ds : List D) : gtTup n h (.tup ds) ρ = if ds.length = n then h ds ρ else none := nrfl _
@[simp] theorem z_gTxt (n : Nat) (h : List D → Rho → Option (O Unit)) (s : List Nat) : gtTxt n h (.str s) ρ = if s.length = n then h (signs s) ρ else none := nrfl _
@[simp] theorem z_gSub (i : Nat) (l : DL) (v : D) : gtSub i l v ρ = (match (ρ[i]?).bind Slot.mine with | some _ => obind (l ρ) fun x ρ1 => (match x.now ρ1 with | some k => (match ρ1[i]? with | some sl => (match sl.mine with | some d => (match setD d k v with | some d' => some (.ok () (ρ1.set i (sl.put d'))) | none => none) | none => none) | none => none) | none => none) | none => none) := nrfl _
@[simp] theorem z_sNil : sNil ρ = some (.nx ρ) := nrfl _
@[simp] theorem z_sSeq (t u : DS) : sSeq t u ρ = (match t ρ with | some (.nx ρ1) => u ρ1 | x => x) := nrfl _
@[simp] theorem z_sRet (d : DE) : sRet d ρ = ebind (d ρ) fun r ρ1 => some (.ret r ρ1) := nrfl _
@[simp] theorem z_sDrop (d : DE) : sDrop d ρ = ebind (d ρ) fun _ ρ1 => some (.nx ρ1) := nrfl _
@[simp] theorem z_sIf (t : DT) (u v : DS) : sIf t u v ρ = ebind (t ρ) fun b ρ1 => if b = true then u ρ1 else v ρ1 := nrfl _
@[simp] theorem z_sAsg (i : Nat) (d : DE) : sAsg i d ρ = ebind (d ρ) fun r ρ1 => if r.isWeak then none else some (.nx (ρ1.set i (slotOf r))) := nrfl _
@[simp] theorem z_sAsgT (d : DE) (g : D → Rho → Option (O Unit)) : sAsgT d g ρ = ebind (d ρ) fun r ρ1 => if r.isWeak then none else (match g r.d ρ1 with | some (.ok _ ρ2) => some (.nx ρ2) | some (.ex e ρ2) => some (.ex e ρ2) | none => none) := nrfl _
@[simp] theorem z_sPar (is : List Nat) (d : DR) : sPar is d ρ = ebind (d ρ) fun rs ρ1 => if is.length = rs.length ∧ rs.all (fun r => !r.isWeak) = true then some (.nx (putAll is rs ρ1)) else none := nrfl _
@[simp] theorem z_rNil : rNil ρ = some (.ok [] ρ) := nrfl _
@[simp] theorem z_rCons (d : DE) (h : DR) : rCons d h ρ = obind (d ρ) fun r ρ1 => obind (h ρ1) fun rs ρ2 => some (.ok (r :: rs) ρ2) := nrfl _
@[simp] theorem z_pa1 (i : Nat) (is : List Nat) (r : Res) (rs : List Res) : putAll (i :: is) (r :: rs) ρ = (putAll is rs ρ).set i (slotOf r) := nrfl _
@[simp] theorem z_pa0 : putAll [] [] ρ = ρ := nrfl _
@[simp] theorem z_sFor (p : DA) (g : D → Rho → Option (O Unit)) (b : DS) : sFor p g b ρ = ebind (p ρ) fun ds ρ1 => dFor g b ds ρ1 := nrfl _
@[simp] theorem z_fn (n : Nat) (ks : List Bool) (t : DS) (ds : List D) : fnD n ks t ds = if ds.length = ks.length then (match t (startR ks ds ++ List.replicate (n - ks.length) .un) with | some (.ret r ρ) => (endR ks ds ρ).map fun q => (r, q) | some (.nx ρ) => (endR ks ds ρ).map fun q => (.val .non, q) | _ => none) else none := nrfl _
@[simp] theorem z_st0 : startR [] [] = [] := nrfl _
@[simp] theorem z_st1 (ks : List Bool) (d : D) (ds : List D) : startR (true :: ks) (d :: ds) = .par d :: startR ks ds := nrfl _
@[simp] theorem z_st2 (ks : List Bool) (d : D) (ds : List D) : startR (false :: ks) (d :: ds) = .val d :: startR ks ds := nrfl _
@[simp] theorem z_en0 : endR [] [] ρ = some [] := by cases ρ <;> rfl
@[simp] theorem z_en1 (ks : List Bool) (d d' : D) (ds : List D) (ρ : Rho) : endR (true :: ks) (d :: ds) (.par d' :: ρ) = (endR ks ds ρ).map (d' :: ·) := nrfl _
@[simp] theorem z_en2 (ks : List Bool) (d : D) (ds : List D) (s : Slot) (ρ : Rho) : endR (false :: ks) (d :: ds) (s :: ρ) = (endR ks ds ρ).map (d :: ·) := nrfl _
@[simp] theorem z_hi0 (vs : List Nat) (i : Nat) : hide vs i [] = [] := nrfl _
@[simp] theorem z_hi1 (vs : List Nat) (i : Nat) (s : Slot) (r : Rho) : hide vs i (s :: r) = (if vs.contains i then s else .un) :: hide vs (i + 1) r := nrfl _
@[simp] theorem z_un0 (vs : List Nat) (i : Nat) (q : Rho) : unhide vs i [] q = [] := by cases q <;> rfl
@[simp] theorem z_un1 (vs : List Nat) (i : Nat) (s t : Slot) (r q : Rho) : unhide vs i (s :: r) (t :: q) = (if vs.contains i then t else s) :: unhide vs (i + 1) r q := nrfl _
end
theorem lcAll_of {vs : List Nat} {g : D → Rho → Option (O Unit)} {t : DT} {e : DE} {ds xs : List D} {ρ ρ' : Rho} (hz : ds.length ≤ 16777216) (h : dLcGo g t e ds (hide vs 0 ρ) = some (xs, ρ')) : lcAll vs g t e ds ρ = some (xs, unhide vs 0 ρ ρ') := by
  unfold lcAll
  rw [if_pos hz, h]
  rfl
theorem cMulR {j : Int} (h : -(2 ^ 64) < j ∧ j < 2 ^ 64) (i : Int) : cMul i j = true := by
  have h : j.natAbs < 2 ^ 64 := by omega
  simp only [cMul, Bool.or_eq_true, decide_eq_true_eq]; exact Or.inr h
theorem cMulL {i : Int} (h : -(2 ^ 64) < i ∧ i < 2 ^ 64) (j : Int) : cMul i j = true := by
  have h : i.natAbs < 2 ^ 64 := by omega
  simp only [cMul, Bool.or_eq_true, decide_eq_true_eq]; exact Or.inl h
theorem rng_oneI {j : Int} (h0 : 0 ≤ j) (h : j ≤ 1000000) : rngD [.int j] = some (rngL 0 1 j.toNat) := by
  have : j.natAbs < 2 ^ 62 := by omega
  show (if j.natAbs < 2 ^ 62 then some (rngL 0 1 j.toNat) else none) = _
  rw [if_pos this]
theorem rng_one {n : Nat} (h : n ≤ 1000000) : rngD [.int (n : Int)] = some (rngL 0 1 n) := by
  have := rng_oneI (j := (n : Int)) (by omega) (by omega)
  rw [Int.toNat_natCast] at this
  exact this
theorem rng_two {i j : Int} (h0 : 0 ≤ i) (h1 : i ≤ 1000000) (h2 : 0 ≤ j) (h3 : j ≤ 1000000) : rngD [.int i, .int j] = some (rngL i 1 (j - i).toNat) := by
  have : i.natAbs < 2 ^ 62 ∧ j.natAbs < 2 ^ 62 := by omega
  show (if i.natAbs < 2 ^ 62 ∧ j.natAbs < 2 ^ 62 then some (rngL i 1 (j - i).toNat) else none) = _
  rw [if_pos this]
theorem seqIx {k : Int} {n : Nat} (h0 : 0 ≤ k) (h1 : k < n) : seqIndex? k n = some k.toNat := by
  unfold seqIndex?
  have h2 : ¬ k < 0 := by omega
  simp [h2, h0, h1]
theorem pop_at {ds : List D} {k : Int} (h0 : 0 ≤ k) (h1 : k < ds.length) (h2 : ds.length ≤ 1000000) : gPop (.lst ds) [.int k] = some (.val (ds[k.toNat]'(by omega)), .lst (ds.eraseIdx k.toNat)) := by
  have hb : k.natAbs < 2 ^ 63 := by omega
  show (if k.natAbs < 2 ^ 63 then (match seqIndex? k ds.length with | some k => (ds[k]?).map fun d => (Res.val d, D.lst (ds.eraseIdx k)) | none => none) else none) = _
  rw [if_pos hb, seqIx h0 h1]
  have hk : k.toNat < ds.length := by omega
  simp [hk]
theorem app_ok {ds : List D} {d : D} (h : ds.length ≤ 1000000) : gAppend (.lst ds) [d] = some (.val .non, .lst (ds ++ [d])) := by
  show (if ds.length < 16777216 then some (Res.val .non, D.lst (ds ++ [d])) else none) = _
  rw [if_pos (by omega)]
theorem ixN_nat {n i : Nat} (h : i < n) : L2.ixN n (i : Int) = some i := by
  unfold L2.ixN
  rw [if_pos (by omega), if_pos (by omega)]
  rfl
theorem atI_nat {α : Type} {xs : List α} {i : Nat} (h : i < xs.length) : L2.atI xs (i : Int) = some xs[i] := by
  unfold L2.atI
  rw [ixN_nat h]
  simp [h]
theorem atI_int {α : Type} {xs : List α} {k : Int} (h0 : 0 ≤ k) (h1 : k < xs.length) : L2.atI xs k = some (xs[k.toNat]'(by omega)) := by
  have e : k = (k.toNat : Int) := by omega
  have hk : k.toNat < xs.length := by omega
  have := atI_nat hk
  rw [← e] at this
  exact this
end GB
/-! Texts of signs: joined, sorted; dicts whose keys are signs. -/
namespace GB
open PySem
theorem strsD_strs (ts : List (List Nat)) : strsD (ts.map .str) = some ts := by
  induction ts with
  | nil => rfl
  | cons t ts ih => simp [strsD, ih]
theorem joinT_signs (xs : List Nat) : joinT [] (xs.map fun c => [c]) = xs := by
  cases xs with
  | nil => rfl
  | cons x xs =>
    simp only [List.map_cons, joinT, List.map_map]
    have : (xs.map ((fun x => [] ++ x) ∘ fun c => [c])).flatten = xs := by
      induction xs with
      | nil => rfl
      | cons y ys ih =>
        rw [List.map_cons, List.flatten_cons, ih]
        rfl
    rw [this]; rfl
theorem sum_signs (xs : List Nat) : ((xs.map fun c => [c]).map fun t : List Nat => t.length + ([] : List Nat).length).sum = xs.length := by
  induction xs with
  | nil => rfl
  | cons x xs ih =>
    rw [List.map_cons, List.map_cons, List.sum_cons, ih]
    simp only [List.length_cons, List.length_nil]
    omega
theorem join_signs {xs : List Nat} (h : xs.length ≤ 1000000) : gJoin (.str []) [.lst (signs xs)] = some (.val (.str xs)) := by
  have e : strsD (signs xs) = some (xs.map fun c => [c]) := by rw [signs_eq]; exact strsD_strs _
  show (match strsD (signs xs) with | some ts => if (ts.map fun t : List Nat => t.length + ([] : List Nat).length).sum ≤ 16777216 then some (Res.val (.str (joinT [] ts))) else none | none => none) = _
  rw [e]
  simp only
  rw [sum_signs, if_pos (by omega), joinT_signs]
theorem sorted_str (s : List Nat) : fSorted (.str s) = some (.fresh (.lst (signs (sortN s)))) := by
  show (if okSort (signs s) = true then some (Res.fresh (.lst (sortD (signs s)))) else none) = _
  rw [if_pos (okSort_signs s), sortD_signs]
theorem sorted_lst (s : List Nat) : fSorted (.lst (signs s)) = some (.fresh (.lst (signs (sortN s)))) := by
  show (if okSort (signs s) = true then some (Res.fresh (.lst (sortD (signs s)))) else none) = _
  rw [if_pos (okSort_signs s), sortD_signs]
theorem sorted_strs (ts : List (List Nat)) : fSorted (.lst (ts.map .str)) = some (.fresh (.lst ((sortT ts).map .str))) := by
  show (if okSort (ts.map .str) = true then some (Res.fresh (.lst (sortD (ts.map .str)))) else none) = _
  rw [if_pos (okSort_strs ts), sortD_strs]
theorem sortN_len (s : List Nat) : (sortN s).length = s.length := (sortN_perm s).length_eq
/-! ### dicts whose keys are signs -/
def ky (c : Nat) : L2.Key := .inr (tx [c])
theorem key_sign (c : Nat) : (D.str [c]).key = some (ky c) := rfl
theorem keyD_ky (c : Nat) : keyD (ky c) = .str [c] := rfl
theorem ky_inj {a b : Nat} (h : ky a = ky b) : a = b := by
  have h1 : tx [a] = tx [b] := by
    unfold ky at h
    injection h
  have := tx_inj h1
  simpa using this
def kf (l : List Nat) (f : Nat → D) : List (D × D) := l.map fun c => (D.str [c], f c)
def upd1 (f : Nat → D) (c : Nat) (v : D) : Nat → D := fun x => if x = c then v else f x
theorem kf_any (l : List Nat) (f : Nat → D) (c : Nat) : (kf l f).any (fun p => decide (p.1.key = some (ky c))) = decide (c ∈ l) := by
  induction l with
  | nil => simp [kf]
  | cons x l ih =>
    rw [kf, List.map_cons, List.any_cons]
    rw [show (l.map fun c => (D.str [c], f c)) = kf l f from rfl, ih]
    simp only [key_sign, Option.some.injEq]
    by_cases h : x = c
    · subst h; simp
    · have : ky x ≠ ky c := fun z => h (ky_inj z)
      have h' : ¬ c = x := fun z => h z.symm
      simp [this, h']
theorem dPut_kf {l : List Nat} {f : Nat → D} {c : Nat} {v : D} : dPut (kf l f) (ky c) v = kf (if c ∈ l then l else l ++ [c]) (upd1 f c v) := by
  unfold dPut
  rw [kf_any]
  by_cases h : c ∈ l
  · simp only [h, decide_true, if_true]
    simp only [kf, List.map_map]
    refine List.map_congr_left fun x hx => ?_
    simp only [Function.comp_apply, key_sign, Option.some.injEq, upd1]
    by_cases e : x = c
    · subst e; simp
    · have : ky x ≠ ky c := fun z => e (ky_inj z)
      simp [this, e]
  · simp only [h, decide_false, Bool.false_eq_true, if_false]
    rw [kf, kf, List.map_append]
    congr 1
    · refine List.map_congr_left fun x hx => ?_
      have : x ≠ c := fun z => h (z ▸ hx)
      simp [upd1, this]
    · simp [upd1, keyD_ky]
theorem dLook_kf {l : List Nat} {f : Nat → D} {c : Nat} (h : c ∈ l) : dLook (kf l f) (ky c) = some (f c) := by
  unfold dLook
  induction l with
  | nil => simp at h
  | cons x l ih =>
    rw [kf, List.map_cons, List.find?_cons]
    simp only [key_sign, Option.some.injEq]
    by_cases e : x = c
    · subst e; simp
    · have e' : ky x ≠ ky c := fun z => e (ky_inj z)
      simp only [e', decide_false]
      have hm : c ∈ l := by
        rcases List.mem_cons.mp h with z | z
        · exact absurd z.symm e
        · exact z
      exact ih hm
theorem kf_len (l : List Nat) (f : Nat → D) : (kf l f).length = l.length := by simp [kf]
theorem kf_keys (l : List Nat) (f : Nat → D) : (kf l f).map (·.1) = signs l := by simp [kf, signs]
theorem sorted_dic (l : List Nat) (f : Nat → D) : fSorted (.dic (kf l f)) = some (.fresh (.lst (signs (sortN l)))) := by
  show (if okSort ((kf l f).map (·.1)) = true then some (Res.fresh (.lst (sortD ((kf l f).map (·.1))))) else none) = _
  rw [kf_keys, if_pos (okSort_signs l), sortD_signs]
theorem list_dic (l : List Nat) (f : Nat → D) : fList (.dic (kf l f)) = some (.fresh (.lst (signs l))) := by
  show some (Res.fresh (.lst ((kf l f).map (·.1)))) = _
  rw [kf_keys]
theorem ix_dic {l : List Nat} {f : Nat → D} {c : Nat} (h : c ∈ l) : fIx (.dic (kf l f)) (.str [c]) = some (.val (f c)) := by
  show (dLook (kf l f) (ky c)).map Res.val = _
  rw [dLook_kf h]
  rfl
theorem set_dic {l : List Nat} {f : Nat → D} {c : Nat} {v : D} (h : l.length ≤ 1000000) : setD (.dic (kf l f)) (.str [c]) v = some (.dic (kf (if c ∈ l then l else l ++ [c]) (upd1 f c v))) := by
  show (if (kf l f).length < 16777216 then some (D.dic (dPut (kf l f) (ky c) v)) else none) = _
  rw [if_pos (by rw [kf_len]; omega), dPut_kf]
def yes : Nat → D := fun _ => .bl true
theorem upd1_yes (c : Nat) : upd1 yes c (.bl true) = yes := by funext x; simp [upd1, yes]
/-! ### signs of a text -/
theorem ix_str {s : List Nat} {k : Int} (h0 : 0 ≤ k) (h1 : k < s.length) : fIx (.str s) (.int k) = some (.val (.str [s[k.toNat]'(by omega)])) := by
  show (L2.atI s k).map (fun c => Res.val (.str [c])) = _
  rw [atI_int h0 h1]
  rfl
theorem ix_lst {s : List D} {k : Int} (h0 : 0 ≤ k) (h1 : k < s.length) : fIx (.lst s) (.int k) = some (.val (s[k.toNat]'(by omega))) := by
  show (L2.atI s k).map Res.val = _
  rw [atI_int h0 h1]
  rfl
theorem ix_tup {s : List D} {k : Int} (h0 : 0 ≤ k) (h1 : k < s.length) : fIx (.tup s) (.int k) = some (.val (s[k.toNat]'(by omega))) := by
  show (L2.atI s k).map Res.val = _
  rw [atI_int h0 h1]
  rfl
theorem ix2_0 (a b : Nat) : fIx (.str [a, b]) (.int 0) = some (.val (.str [a])) := ix_str (by decide) (by simp)
theorem ix2_1 (a b : Nat) : fIx (.str [a, b]) (.int 1) = some (.val (.str [b])) := ix_str (by decide) (by simp)
theorem in_sign (c : Nat) (s : List Nat) : fIn false (.str [c]) (.str s) = some (.val (.bl (decide (c ∈ s)))) := by
  show some (Res.val (.bl (xor false (decide (c ∈ s))))) = _
  rw [Bool.false_xor]
theorem items_str (s : List Nat) : itemsOf (.str s) = some (signs s) := rfl
theorem items_tup (s : List D) : itemsOf (.tup s) = some s := rfl
theorem items_lst (s : List D) : itemsOf (.lst s) = some s := rfl
theorem rep_sign (c : Nat) (s : List Nat) : repT [c] [] s = s.filter (· != c) := by
  unfold repT
  have := PyProof.Rows.replace_strikes (tx s) c
  rw [tx_list] at this
  exact this
theorem signs_app (l : List Nat) (c : Nat) : signs l ++ [D.str [c]] = signs (l ++ [c]) := by simp [signs]
theorem signs_cons (l : List Nat) (c : Nat) : D.str [c] :: signs l = signs (c :: l) := rfl
theorem signs_len (l : List Nat) : (signs l).length = l.length := by simp [signs]
theorem okEq_signs (l : List Nat) : (D.lst (signs l)).okEq = true := by
  have h1 : ∀ l : List Nat, D.flats (signs l) = true ∧ D.deeps (signs l) ≤ 1 := by
    intro l
    induction l with
    | nil => exact ⟨rfl, Nat.zero_le _⟩
    | cons c l ih =>
      obtain ⟨a, b⟩ := ih
      have e : signs (c :: l) = .str [c] :: signs l := rfl
      rw [e]
      refine ⟨by simp only [D.flats, D.flat, a, Bool.and_self], ?_⟩
      simp only [D.deeps, D.deep]
      omega
  obtain ⟨a, b⟩ := h1 l
  rw [D.okEq_iff]
  refine ⟨by simp only [D.flat]; exact a, ?_⟩
  simp only [D.deep]
  omega
theorem eqv_str (a b : List Nat) : PyData.eqv (D.str a).py (D.str b).py = decide (a = b) := by
  have h := PySem.W.Datum.eqv (tx a) (tx b)
  have h : PyData.eqv (.str (tx a)) (.str (tx b)) = decide (tx a = tx b) := h
  show PyData.eqv (.str (tx a)) (.str (tx b)) = _
  rw [h]
  by_cases e : a = b
  · subst e; simp
  · have : tx a ≠ tx b := fun z => e (tx_inj z)
    simp [e, this]
theorem any_signs (l : List Nat) (c : Nat) : ((signs l).any fun z => PyData.eqv z.py (D.str [c]).py) = decide (c ∈ l) := by
  induction l with
  | nil => rfl
  | cons x l ih =>
    have e : signs (x :: l) = .str [x] :: signs l := rfl
    rw [e, List.any_cons, ih, eqv_str]
    by_cases h : x = c
    · subst h; simp
    · have h' : ¬ c = x := fun z => h z.symm
      simp [h, h']
theorem in_lst (neg : Bool) (l : List Nat) (c : Nat) : fIn neg (.str [c]) (.lst (signs l)) = some (.val (.bl (xor neg (decide (c ∈ l))))) := by
  show (if (D.str [c]).okEq && (D.lst (signs l)).okEq then some (Res.val (.bl (xor neg ((signs l).any fun z => PyData.eqv z.py (D.str [c]).py)))) else none) = _
  rw [okEq_signs, any_signs]
  rfl
theorem pop0 (x : Nat) (l : List Nat) (h : l.length ≤ 1000) : gPop (.lst (signs (x :: l))) [.int 0] = some (.val (.str [x]), .lst (signs l)) := by
  have := pop_at (ds := signs (x :: l)) (k := 0) (by decide) (by rw [signs_len, List.length_cons]; omega) (by rw [signs_len, List.length_cons]; omega)
  rw [this]
  rfl
end GB
/-! the first place of a sign in a text -/
namespace GB
open PySem PySem.StrLaws
theorem occ_full (x y : Str) (hi : Nat) : ∀ (l : List Nat) (a : Array Nat) (f : Nat), a.size = 1 → (forIn l (a, f) (occBody x y hi 1)).run.fst = a
  | [], a, f, _ => rfl
  | i :: l, a, f, h => by
    rw [List.forIn_cons]
    unfold occBody
    have hc : ¬ (((((a, f) : Array Nat × Nat).fst.size < 1 ∧ ((a, f) : Array Nat × Nat).snd ≤ i) ∧ i + y.length ≤ hi) ∧ Builtin.Str.subAt x y i = true) := fun z => by
      have := z.1.1.1
      simp only at this
      omega
    rw [if_neg hc]
    exact occ_full x y hi l a f h
theorem occ_first (s : List Nat) (c : Nat) : ∀ (m k free : Nat), free ≤ k → k + m = s.length + 1 → c ∈ s.drop k → (forIn (List.range' k m) ((#[] : Array Nat), free) (occBody (tx s) (tx [c]) (tx s).length 1)).run.fst = #[k + (s.drop k).idxOf c]
  | 0, k, free, hf, hk, hc => by
    have : s.drop k = [] := List.drop_eq_nil_of_le (by omega)
    rw [this] at hc
    simp at hc
  | m + 1, k, free, hf, hk, hc => by
    have hlt : k < s.length := by
      by_cases q : k < s.length
      · exact q
      · rw [List.drop_eq_nil_of_le (by omega)] at hc
        simp at hc
    have hd : s.drop k = s[k] :: s.drop (k + 1) := List.drop_eq_getElem_cons hlt
    rw [List.range'_succ, List.forIn_cons]
    unfold occBody
    have so := subAt_one (tx s) c k
    rw [tx_list] at so
    have sl : (tx s).length = s.length := tx_len s
    by_cases q : s[k] = c
    · have h1 : s[k]? = some c := by rw [List.getElem?_eq_getElem hlt, q]
      obtain ⟨h2, h3⟩ := so.mpr h1
      have hcond : ((((#[] : Array Nat), free).fst.size < 1 ∧ ((#[] : Array Nat), free).snd ≤ k) ∧ k + (tx [c]).length ≤ (tx s).length) ∧ Builtin.Str.subAt (tx s) (tx [c]) k = true := ⟨⟨⟨by simp, hf⟩, h2⟩, h3⟩
      rw [if_pos hcond]
      rw [hd, List.idxOf_cons, q]
      simp only [beq_self_eq_true, cond_true, Nat.add_zero]
      exact occ_full (tx s) (tx [c]) _ (List.range' (k + 1) m) _ _ (by simp)
    · have h1 : ¬ s[k]? = some c := by rw [List.getElem?_eq_getElem hlt]; simpa using q
      have hcond : ¬ (((((#[] : Array Nat), free).fst.size < 1 ∧ ((#[] : Array Nat), free).snd ≤ k) ∧ k + (tx [c]).length ≤ (tx s).length) ∧ Builtin.Str.subAt (tx s) (tx [c]) k = true) := fun z => h1 (so.mp ⟨z.1.2, z.2⟩)
      rw [if_neg hcond]
      have hc' : c ∈ s.drop (k + 1) := by
        rw [hd] at hc
        rcases List.mem_cons.mp hc with e | e
        · exact absurd e.symm q
        · exact e
      have ih := occ_first s c m (k + 1) free (by omega) (by omega) hc'
      have e : (forIn (List.range' (k + 1) m) ((#[] : Array Nat), free) (occBody (tx s) (tx [c]) (tx s).length 1)).run.fst = #[k + (s.drop k).idxOf c] := by
        rw [ih, hd, List.idxOf_cons]
        have : (s[k] == c) = false := by simpa using q
        rw [this]
        simp only [cond_false]
        rw [show k + 1 + List.idxOf c (s.drop (k + 1)) = k + (List.idxOf c (s.drop (k + 1)) + 1) by omega]
      exact e
theorem index_str {s : List Nat} {c : Nat} (h : c ∈ s) : gIndexS (.str s) [.str [c]] = some (.val (.int (s.idxOf c : Nat))) := by
  show (match Builtin.Str.occurrences (tx s) (tx [c]) 0 (tx s).length 1 with | i :: _ => some (Res.val (.int (i : Nat))) | [] => none) = _
  rw [occ_eq]
  have sl : (tx s).length = s.length := tx_len s
  have := occ_first s c (s.length + 1 - 0) 0 0 (Nat.le_refl _) (by omega) (by simpa using h)
  rw [sl] at this ⊢
  rw [this]
  simp
end GB

namespace GL
open GB PySem
noncomputable section
def d__law_way_by : DS :=
(sSeq (sRet (dCall1 fTuple (dGood (dLc [1] (dItems (dVar 0)) (gtName 2) tYes (dIf (dTst fLtD (dLate (dMeth "list" gIndexL (dLateAt 1) (dCons (dOp2 fIx (dLateAt 2) (dSee (dC (.int 0)))) dNil))) (dSee (dMeth "list" gIndexL (dLateAt 1) (dCons (dOp2 fIx (dLateAt 2) (dSee (dC (.int 1)))) dNil)))) (dVar 2) (dRevS (dLateAt 2)))))))
  sNil)
def sp__law_way_by : DF := fnD 3 [false, false] d__law_way_by
def d__law_deal : DS :=
(sSeq (sIf (dTst fGtD (dLate (dOp2 fIx (dLateAt 0) (dSee (dC (.int 0))))) (dSee (dC (.int 0)))) (sSeq (sAsgT (dCallA fDivmod (dCons (dOp2 fIx (dLateAt 0) (dSee (dC (.int 0)))) (dCons (dVar 1) dNil))) (gtTup 2 (gtCons (gtSub 0 (dGood (dC (.int 0)))) (gtCons (gtName 2) gtNil))))
  (sSeq (sRet (dVar 2))
  sNil)) sNil)
  (sSeq (sAsgT (dBinG fAdd (dOp2 fIx (dLateAt 0) (dSee (dC (.int 2)))) (dC (.int 1))) (gtSub 0 (dGood (dC (.int 2)))))
  (sSeq (sAsg 3 (dBin fMod (dCall1 fInt1 (dGood (dBinG fAdd (dBin fMul (dOp2 fIx (dLateAt 0) (dSee (dC (.int 1)))) (dC (.int 21503))) (dBin fMul (dC (.int 11003)) (dOp2 fIx (dLateAt 0) (dSee (dC (.int 2)))))))) (dC (.int 2147483489))))
  (sSeq (sAsgT (dBin fMod (dCall1 fInt1 (dGood (dBinG fAdd (dBin fMul (dVar 3) (dBinG fAdd (dBin fMod (dCall1 fInt1 (dLateAt 3)) (dC (.int 5011))) (dC (.int 30011)))) (dBin fMul (dC (.int 31)) (dOp2 fIx (dLateAt 0) (dSee (dC (.int 2)))))))) (dC (.int 2147483489))) (gtSub 0 (dGood (dC (.int 1)))))
  (sSeq (sRet (dBin fMod (dCall1 fInt1 (dGood (dBin fDiv (dOp2 fIx (dLateAt 0) (dSee (dC (.int 1)))) (dC (.int 383))))) (dVar 1)))
  sNil)))))
def sp__law_deal : DF := fnD 4 [true, false] d__law_deal
def d__law_shuffled : DS :=
(sSeq (sPar [2, 3] (rCons (dCall1 fList (dLateAt 1)) (rCons (dLst dNil) rNil)))
  (sSeq (sFor (dRng (dCons (dCall1 fLen (dLateAt 2)) dNil)) (gtName 4) (sSeq (sDrop (dMethW "list" gAppend 3 (dCons (dMethW "list" gPop 2 (dCons (dCall sp__law_deal [true, false] (aRef 0 (aVal (dCall1 fLen (dLateAt 2)) aNil))) dNil)) dNil)))
  sNil))
  (sSeq (sRet (dVar 3))
  sNil)))
def sp__law_shuffled : DF := fnD 5 [true, false] d__law_shuffled
def d__law_places : DS :=
(sSeq (sAsg 1 dDic0)
  (sSeq (sFor (dItems (dVar 0)) (gtName 2) (sSeq (sAsgT (dC (.bl true)) (gtSub 1 (dGood (dOp2 fIx (dLateAt 2) (dSee (dC (.int 0)))))))
  (sSeq (sAsgT (dC (.bl true)) (gtSub 1 (dGood (dOp2 fIx (dLateAt 2) (dSee (dC (.int 1)))))))
  sNil)))
  (sSeq (sRet (dMeth "str" gJoin (dGood (dC (.str []))) (dCons (dCall1 fSorted (dGood (dCall1 fList (dLateAt 1)))) dNil)))
  sNil)))
def sp__law_places : DF := fnD 3 [false] d__law_places
def d__law_way : DS :=
(sSeq (sRet (dCall sp__law_way_by [false, false] (aVal (dVar 1) (aVal (dCall sp__law_shuffled [true, false] (aRef 0 (aVal (dCall1 fList (dGood (dCall sp__law_places [false] (aVal (dVar 1) aNil)))) aNil))) aNil))))
  sNil)
def sp__law_way : DF := fnD 2 [true, false] d__law_way
def d__law_web : DS :=
(sSeq (sAsg 3 (dMeth "str" gJoin (dGood (dC (.str []))) (dCons (dCall1 fSorted (dGood (dSl (dGood (dCall sp__law_shuffled [true, false] (aRef 0 (aVal (dCall1 fList (dGood (dC (.str [97, 98, 99, 100, 101, 102, 103, 109, 113, 120, 121, 122])))) aNil)))) dNoO (dSomeO (dSee (dBinG fAdd (dC (.int 2)) (dCall sp__law_deal [true, false] (aRef 0 (aVal (dBin fSub (dVar 1) (dC (.int 1))) aNil))))))))) dNil)))
  (sSeq (sAsg 4 dDic0)
  (sSeq (sFor (dRng (dCons (dC (.int 1)) (dCons (dCall1 fLen (dLateAt 3)) dNil))) (gtName 5) (sSeq (sAsgT (dC (.bl true)) (gtSub 4 (dGood (dBinG fAdd (dOp2 fIx (dLateAt 3) (dSee (dCall sp__law_deal [true, false] (aRef 0 (aVal (dVar 5) aNil))))) (dOp2 fIx (dLateAt 3) (dLookAt 5))))))
  sNil))
  (sSeq (sFor (dRng (dCons (dCall sp__law_deal [true, false] (aRef 0 (aVal (dBinG fAdd (dVar 2) (dC (.int 1))) aNil))) dNil)) (gtName 6) (sSeq (sAsg 7 (dCall1 fSorted (dGood (dSl (dGood (dCall sp__law_shuffled [true, false] (aRef 0 (aVal (dCall1 fList (dLateAt 3)) aNil)))) dNoO (dSomeO (dSee (dC (.int 2))))))))
  (sSeq (sIf (dTst fLtD (dLate (dCall1 fLen (dLateAt 4))) (dSee (dC (.int 10)))) (sSeq (sAsgT (dC (.bl true)) (gtSub 4 (dGood (dBinG fAdd (dOp2 fIx (dLateAt 7) (dSee (dC (.int 0)))) (dOp2 fIx (dLateAt 7) (dSee (dC (.int 1))))))))
  sNil) sNil)
  sNil)))
  (sSeq (sRet (dCall1 fTuple (dGood (dCall1 fSorted (dGood (dCall1 fList (dLateAt 4)))))))
  sNil)))))
def sp__law_web : DF := fnD 8 [true, false, false] d__law_web
def d__law_depths : DS :=
(sSeq (sAsg 1 (dCall1 fDictL (dGood (dLc [] (dItems (dCall sp__law_places [false] (aVal (dVar 0) aNil))) (gtName 2) tYes (dTup (dCons (dVar 2) (dCons (dC (.int 1)) dNil)))))))
  (sSeq (sFor (dRng (dCons (dC (.int 7)) dNil)) (gtName 3) (sSeq (sFor (dItems (dVar 0)) (gtTxt 2 (gtCons (gtName 4) (gtCons (gtName 5) gtNil))) (sSeq (sAsgT (dCallA fMax2 (dCons (dOp2 fIx (dLateAt 1) (dLookAt 5)) (dCons (dBinG fAdd (dOp2 fIx (dLateAt 1) (dLookAt 4)) (dC (.int 1))) dNil))) (gtSub 1 (dLateAt 5)))
  sNil))
  sNil))
  (sSeq (sRet (dCall1 fTuple (dGood (dLc [1] (dItems (dCall sp__law_places [false] (aVal (dVar 0) aNil))) (gtName 2) tYes (dOp2 fIx (dLateAt 1) (dLookAt 2))))))
  sNil)))
def sp__law_depths : DF := fnD 6 [false] d__law_depths
def d_places_in : DS :=
(sSeq (sRet (dMeth "str" gJoin (dGood (dC (.str []))) (dCons (dCall1 fSorted (dGood (dDc2 [] (dItems (dVar 0)) (gtName 1) tYes (dItems (dVar 1)) (gtName 2) tYes (dVar 2) (dC (.bl true))))) dNil)))
  sNil)
def sp_places_in : DF := fnD 3 [false] d_places_in
def d_sorted_text : DS :=
(sSeq (sRet (dMeth "str" gJoin (dGood (dC (.str []))) (dCons (dCall1 fSorted (dLateAt 0)) dNil)))
  sNil)
def sp_sorted_text : DF := fnD 1 [false] d_sorted_text
def d_neighbours_in : DS :=
(sSeq (sRet (dCall sp_sorted_text [false] (aVal (dLc [1] (dItems (dVar 0)) (gtName 2) (dTst (fIn false) (dLateAt 1) (dLookAt 2)) (dRepl [] (dLateAt 2) (dVar 1))) aNil)))
  sNil)
def sp_neighbours_in : DF := fnD 3 [false, false] d_neighbours_in
def d_spread_over : DS :=
(sSeq (sPar [2, 3] (rCons (dLst (dCons (dVar 1) dNil)) (rCons (dLst (dCons (dVar 1) dNil)) rNil)))
  (sSeq (sWhile (dTruV (dLookAt 3)) (sSeq (sFor (dItems (dCall sp_neighbours_in [false, false] (aVal (dVar 0) (aVal (dMethW "list" gPop 3 (dCons (dC (.int 0)) dNil)) aNil)))) (gtName 4) (sSeq (sIf (dTst (fIn true) (dLateAt 4) (dLookAt 2)) (sSeq (sDrop (dMethW "list" gAppend 2 (dCons (dVar 4) dNil)))
  (sSeq (sDrop (dMethW "list" gAppend 3 (dCons (dVar 4) dNil)))
  sNil)) sNil)
  sNil))
  sNil))
  (sSeq (sRet (dSl (dLateAt 2) (dSomeO (dSee (dC (.int 1)))) dNoO))
  sNil)))
def sp_spread_over : DF := fnD 5 [false, false] d_spread_over
def d_reached_in : DS :=
(sSeq (sAsg 2 (dVar 1))
  (sSeq (sFor (dItems (dCall sp_spread_over [false, false] (aVal (dVar 0) (aVal (dVar 1) aNil)))) (gtName 3) (sSeq (sAsg 2 (dBinG fAdd (dVar 2) (dVar 3)))
  sNil))
  (sSeq (sRet (dCall sp_sorted_text [false] (aVal (dVar 2) aNil)))
  sNil)))
def sp_reached_in : DF := fnD 4 [false, false] d_reached_in
def d_does_hang : DS :=
(sSeq (sAsg 1 (dCall sp_places_in [false] (aVal (dVar 0) aNil)))
  (sSeq (sRet (dOp2 (fEq false) (dLate (dCall sp_reached_in [false, false] (aVal (dVar 0) (aVal (dOp2 fIx (dLateAt 1) (dSee (dC (.int 0)))) aNil)))) (dLookAt 1)))
  sNil))
def sp_does_hang : DF := fnD 2 [false] d_does_hang
def d_is_letters : DS :=
(sSeq (sRet (dAndV (dIsi "str" (dLateAt 0)) (dCall1 fAll (dGood (dLc [] (dItems (dVar 0)) (gtName 1) tYes (dOp2 (fIn false) (dLateAt 1) (dSee (dW [97, 98, 99, 100, 101, 102, 103, 104, 105, 106, 107, 108, 109, 110, 111, 112, 113, 114, 115, 116, 117, 118, 119, 120, 121, 122]))))))))
  sNil)
def sp_is_letters : DF := fnD 2 [false] d_is_letters
def d_is_tie_form : DS :=
(sSeq (sRet (dAndV (dCall sp_is_letters [false] (aVal (dVar 0) aNil)) (dAndV (dOp2 (fEq false) (dLate (dCall1 fLen (dLateAt 0))) (dSee (dC (.int 2)))) (dOp2 fLtD (dLate (dOp2 fIx (dLateAt 0) (dSee (dC (.int 0))))) (dSee (dOp2 fIx (dLateAt 0) (dSee (dC (.int 1)))))))))
  sNil)
def sp_is_tie_form : DF := fnD 1 [false] d_is_tie_form
def d_is_web_form : DS :=
(sSeq (sIf (dOrT (dNotT (dTru (dIsi "tuple" (dLateAt 0)))) (dNotT (dChain fLeD fLeD (dLate (dC (.int 1))) (dLate (dCall1 fLen (dLateAt 0))) (dSee (dC (.int 10)))))) (sSeq (sRet (dC (.bl false)))
  sNil) sNil)
  (sSeq (sIf (dOrT (dNotT (dTru (dCall1 fAll (dGood (dLc [] (dItems (dVar 0)) (gtName 1) tYes (dCall sp_is_tie_form [false] (aVal (dVar 1) aNil))))))) (dNotT (dTru (dCall1 fAll (dGood (dLc [] (dZip (dCons (dVar 0) (dCons (dSl (dLateAt 0) (dSomeO (dSee (dC (.int 1)))) dNoO) dNil))) (gtTup 2 (gtCons (gtName 2) (gtCons (gtName 3) gtNil))) tYes (dOp2 fLtD (dLateAt 2) (dLookAt 3)))))))) (sSeq (sRet (dC (.bl false)))
  sNil) sNil)
  (sSeq (sRet (dAndV (dOp2 fLeD (dLate (dCall1 fLen (dGood (dCall sp_places_in [false] (aVal (dVar 0) aNil))))) (dSee (dC (.int 7)))) (dCall sp_does_hang [false] (aVal (dVar 0) aNil))))
  sNil)))
def sp_is_web_form : DF := fnD 4 [false] d_is_web_form
def d_web_in : DS :=
(sSeq (sRet (dCall1 fTuple (dGood (dLc [] (dItems (dVar 0)) (gtName 1) tYes (dCall sp_sorted_text [false] (aVal (dVar 1) aNil))))))
  sNil)
def sp_web_in : DF := fnD 2 [false] d_web_in
def d_leads_round : DS :=
(sSeq (sAsg 1 (dCall1 fList (dGood (dCall sp_places_in [false] (aVal (dVar 0) aNil)))))
  (sSeq (sWhile (dTruV (dLookAt 1)) (sSeq (sAsg 2 (dLc [0, 1] (dItems (dVar 1)) (gtName 3) (dNotT (dTru (dCall1 fAny (dGood (dLc [1, 3] (dItems (dVar 0)) (gtName 4) tYes (dAndV (dOp2 (fEq false) (dLate (dOp2 fIx (dLateAt 4) (dSee (dC (.int 1))))) (dLookAt 3)) (dOp2 (fIn false) (dLate (dOp2 fIx (dLateAt 4) (dSee (dC (.int 0))))) (dLookAt 1)))))))) (dVar 3)))
  (sSeq (sIf (dTst (fEq false) (dLateAt 2) (dSee (dLst dNil))) (sSeq (sRet (dC (.bl true)))
  sNil) sNil)
  (sSeq (sAsg 1 (dLc [2] (dItems (dVar 1)) (gtName 3) (dTst (fIn true) (dLateAt 3) (dLookAt 2)) (dVar 3)))
  sNil))))
  (sSeq (sRet (dC (.bl false)))
  sNil)))
def sp_leads_round : DF := fnD 5 [false] d_leads_round
def d_is_arrow_form : DS :=
(sSeq (sRet (dAndV (dCall sp_is_letters [false] (aVal (dVar 0) aNil)) (dAndV (dOp2 (fEq false) (dLate (dCall1 fLen (dLateAt 0))) (dSee (dC (.int 2)))) (dOp2 (fEq true) (dLate (dOp2 fIx (dLateAt 0) (dSee (dC (.int 0))))) (dSee (dOp2 fIx (dLateAt 0) (dSee (dC (.int 1)))))))))
  sNil)
def sp_is_arrow_form : DF := fnD 1 [false] d_is_arrow_form
def d_is_way_form : DS :=
(sSeq (sIf (dOrT (dNotT (dTru (dIsi "tuple" (dLateAt 0)))) (dNotT (dTru (dCall1 fAll (dGood (dLc [] (dItems (dVar 0)) (gtName 1) tYes (dCall sp_is_arrow_form [false] (aVal (dVar 1) aNil)))))))) (sSeq (sRet (dC (.bl false)))
  sNil) sNil)
  (sSeq (sRet (dAndV (dCall sp_is_web_form [false] (aVal (dCall sp_web_in [false] (aVal (dVar 0) aNil)) aNil)) (dNotV (dCall sp_leads_round [false] (aVal (dVar 0) aNil)))))
  sNil))
def sp_is_way_form : DF := fnD 2 [false] d_is_way_form
def d_check_way : DS :=
(sSeq (sIf (dNotT (dTru (dCall sp_is_way_form [false] (aVal (dVar 0) aNil)))) (sSeq (fun _ => none)
  sNil) sNil)
  sNil)
def sp_check_way : DF := fnD 1 [false] d_check_way
def d_depths_in : DS :=
(sSeq (sAsg 1 (dCall sp_places_in [false] (aVal (dVar 0) aNil)))
  (sSeq (sAsg 2 (dDc [] (dItems (dVar 1)) (gtName 3) tYes (dVar 3) (dC (.int 1))))
  (sSeq (sFor (dItems (dVar 1)) (gtName 4) (sSeq (sFor (dItems (dVar 0)) (gtName 5) (sSeq (sAsgT (dCallA fMax2 (dCons (dOp2 fIx (dLateAt 2) (dSee (dOp2 fIx (dLateAt 5) (dSee (dC (.int 1)))))) (dCons (dBinG fAdd (dOp2 fIx (dLateAt 2) (dSee (dOp2 fIx (dLateAt 5) (dSee (dC (.int 0)))))) (dC (.int 1))) dNil))) (gtSub 2 (dGood (dOp2 fIx (dLateAt 5) (dSee (dC (.int 1)))))))
  sNil))
  sNil))
  (sSeq (sRet (dLc [2] (dItems (dVar 1)) (gtName 3) tYes (dOp2 fIx (dLateAt 2) (dLookAt 3))))
  sNil))))
def sp_depths_in : DF := fnD 6 [false] d_depths_in
def d_depths : DS :=
(sSeq (sDrop (dCall sp_check_way [false] (aVal (dVar 0) aNil)))
  (sSeq (sRet (dCall1 fTuple (dGood (dCall sp_depths_in [false] (aVal (dVar 0) aNil)))))
  sNil))
def sp_depths : DF := fnD 1 [false] d_depths
def d_depth : DS :=
(sSeq (sDrop (dCall sp_check_way [false] (aVal (dVar 0) aNil)))
  (sSeq (sRet (dCall1 fMaxA (dGood (dCall sp_depths_in [false] (aVal (dVar 0) aNil)))))
  sNil))
def sp_depth : DF := fnD 1 [false] d_depth
def d__law_right : DS :=
(sSeq (sFor (dRng (dCons (dC (.int 12)) dNil)) (gtName 1) (sSeq (sAsg 2 (dCall sp__law_way [true, false] (aRef 0 (aVal (dCall sp__law_web [true, false, false] (aRef 0 (aVal (dC (.int 7)) (aVal (dC (.int 4)) aNil)))) aNil))))
  (sSeq (sPar [3, 4] (rCons (dCall sp__law_depths [false] (aVal (dVar 2) aNil)) (rCons (dCall sp__law_places [false] (aVal (dVar 2) aNil)) rNil)))
  (sSeq (sIf (dTst (fEq true) (dLate (dCall1 fRepr (dGood (dLst (dCons (dCall sp_depths [false] (aVal (dVar 2) aNil)) (dCons (dCallK sp_depths [false] [0] 0 1 aNil (aVal (dVar 2) aNil)) (dCons (dCall sp_depth [false] (aVal (dVar 2) aNil)) (dCons (dCallK sp_depth [false] [0] 0 1 aNil (aVal (dVar 2) aNil)) dNil)))))))) (dSee (dCall1 fRepr (dGood (dLst (dCons (dVar 3) (dCons (dVar 3) (dCons (dCall1 fMaxA (dLateAt 3)) (dCons (dCall1 fMaxA (dLateAt 3)) dNil))))))))) (sSeq (sRet (dC (.bl false)))
  sNil) sNil)
  (sSeq (sFor (dItems (dVar 2)) (gtTxt 2 (gtCons (gtName 5) (gtCons (gtName 6) gtNil))) (sSeq (sIf (dTst fGeD (dLate (dOp2 fIx (dLateAt 3) (dSee (dMeth "str" gIndexS (dLateAt 4) (dCons (dVar 5) dNil))))) (dSee (dOp2 fIx (dLateAt 3) (dSee (dMeth "str" gIndexS (dLateAt 4) (dCons (dVar 6) dNil)))))) (sSeq (sRet (dC (.bl false)))
  sNil) sNil)
  sNil))
  sNil)))))
  (sSeq (sRet (dC (.bl true)))
  sNil))
def sp__law_right : DF := fnD 7 [true] d__law_right
def d__law_pail : DS :=
(sSeq (sAsg 2 (dBinG fAdd (dC (.int 95003)) (dBin fMul (dC (.int 9901)) (dVar 1))))
  (sSeq (sFor (dItems (dSl (dLateAt 0) dNoO (dSomeO (dSee (dC (.int 12)))))) (gtName 3) (sSeq (sAsg 2 (dBin fMod (dCall1 fInt1 (dGood (dBinG fAdd (dBinG fAdd (dBin fMul (dVar 2) (dC (.int 58013))) (dBin fMul (dBin fMod (dCall1 fInt1 (dLateAt 3)) (dC (.int 2147483489))) (dC (.int 13)))) (dC (.int 7))))) (dC (.int 2147483489))))
  sNil))
  (sSeq (sAsg 4 (dIf (dTst fLtD (dLateAt 1) (dSee (dCall1 fLen (dLateAt 0)))) (dCall1 fInt1 (dGood (dOp2 fIx (dLateAt 0) (dLookAt 1)))) (dC (.int 0))))
  (sSeq (sAsg 2 (dBin fMod (dCall1 fInt1 (dGood (dBinG fAdd (dBinG fAdd (dBin fMul (dVar 2) (dC (.int 89))) (dBin fMul (dBin fMod (dVar 4) (dC (.int 2147483489))) (dC (.int 68023)))) (dC (.int 11))))) (dC (.int 2147483489))))
  (sSeq (sRet (dLst (dCons (dIf (dOrT (dTst fLtD (dLateAt 4) (dSee (dC (.int 0)))) (dTst fGeD (dLateAt 4) (dSee (dBin fPow (dC (.int 10)) (dC (.int 15)))))) (dCall1 fAbs (dLateAt 4)) (dC (.int 0))) (dCons (dVar 2) (dCons (dC (.int 0)) dNil)))))
  sNil)))))
def sp__law_pail : DF := fnD 5 [false, false] d__law_pail
def d_law : DS :=
(sSeq (sRet (dCall1 fAll (dGood (dLc [0] (dRng1 (dCons (dCallA fMax2 (dCons (dC (.int 2)) (dCons (dCallA fMin2 (dCons (dCall1 fLen (dLateAt 0)) (dCons (dC (.int 3)) dNil))) dNil))) dNil)) (gtName 1) tYes (dCallF sp__law_right (dCall sp__law_pail [false, false] (aVal (dVar 0) (aVal (dVar 1) aNil))))))))
  sNil)
def sp_law : DF := fnD 2 [false] d_law
end
end GL
namespace GL
open GB PySem
def IsPail (d : D) : Prop := ∃ a b c : Int, d = .lst [.int a, .int b, .int c]
theorem deal_ok {p : D} {top : Int} (hp : IsPail p) (h0 : 0 < top) (h1 : top < 1073741824) : ∃ (k : Int) (p' : D), 0 ≤ k ∧ k < top ∧ IsPail p' ∧ sp__law_deal [p, .int top] = some (.val (.int k), [p', .int top]) := by
  obtain ⟨a, b, c, rfl⟩ := hp
  have h1' : top.natAbs < 1073741824 := by omega
  by_cases ha : 0 < a
  · refine ⟨a % top, .lst [.int (a / top), .int b, .int c], Int.emod_nonneg _ (by omega), Int.emod_lt_of_pos _ h0, ⟨_, _, _, rfl⟩, ?_⟩
    simp [sp__law_deal, d__law_deal, fIx, L2.atI, fGtD, fLt, ha, fDivmod, h0, h1', setD, L2.ixN, List.replicate]
  · have m0 : 0 ≤ (b * 21503 + 11003 * (c + 1)) % 2147483489 := Int.emod_nonneg _ (by omega)
    have m1 : (b * 21503 + 11003 * (c + 1)) % 2147483489 < 2147483489 := Int.emod_lt_of_pos _ (by omega)
    refine ⟨(((b * 21503 + 11003 * (c + 1)) % 2147483489 * ((b * 21503 + 11003 * (c + 1)) % 2147483489 % 5011 + 30011) + 31 * (c + 1)) % 2147483489 / 383) % top, .lst [.int a, .int (((b * 21503 + 11003 * (c + 1)) % 2147483489 * ((b * 21503 + 11003 * (c + 1)) % 2147483489 % 5011 + 30011) + 31 * (c + 1)) % 2147483489), .int (c + 1)], Int.emod_nonneg _ (by omega), Int.emod_lt_of_pos _ h0, ⟨_, _, _, rfl⟩, ?_⟩
    have cm : ∀ j, cMul ((b * 21503 + 11003 * (c + 1)) % 2147483489) j = true := cMulL (by omega)
    simp [sp__law_deal, d__law_deal, fIx, L2.atI, fGtD, fLt, ha, setD, L2.ixN, fAdd, fMul, fMod, fDiv, fInt, fInt1, cm, cPos, cDiv, h0, cMulR (j := 21503) (by decide), cMulL (i := 11003) (by decide), cMulL (i := 31) (by decide)]
theorem shuffled_ok {p : D} {ds : List D} (hp : IsPail p) (hn : ds.length ≤ 1000) : ∃ (es : List D) (p' : D), es.Perm ds ∧ IsPail p' ∧ sp__law_shuffled [p, .lst ds] = some (.val (.lst es), [p', .lst ds]) := by
  obtain ⟨ρ', h1, h2⟩ := dFor_inv (g := gtName 4) (b := (sSeq (sDrop (dMethW "list" gAppend 3 (dCons (dMethW "list" gPop 2 (dCons (dCall sp__law_deal [true, false] (aRef 0 (aVal (dCall1 fLen (dLateAt 2)) aNil))) dNil)) dNil))) sNil))
    (fun rem ρ => ∃ p left found ts, IsPail p ∧ ρ = [.par p, .val (.lst ds), .own (.lst left), .own (.lst found), ts] ∧ left.length = rem.length ∧ (found ++ left).Perm ds)
    (by
      rintro d rem ρ ⟨p, left, found, ts, hp, rfl, hl, hperm⟩
      have hlen : left.length ≤ 1000 := by have := hperm.length_eq; simp at this; omega
      have hf : found.length ≤ 1000 := by have := hperm.length_eq; simp at this; omega
      have hpos : 0 < left.length := by rw [hl]; simp
      obtain ⟨k, p', k0, k1, hp', he⟩ := deal_ok (top := left.length) hp (by omega) (by omega)
      have hk : k.toNat < left.length := by omega
      refine ⟨_, rfl, [.par p', .val (.lst ds), .own (.lst (left.eraseIdx k.toNat)), .own (.lst (found ++ [left[k.toNat]])), .val d], ?_, p', _, _, _, hp', rfl, ?_, ?_⟩
      · simp [fLen, he, tyOf, pop_at k0 k1 (by omega), app_ok (ds := found) (by omega)]
      · rw [List.length_eraseIdx_of_lt hk, hl]; simp
      · refine List.Perm.trans ?_ hperm
        rw [List.append_assoc]
        refine List.Perm.append_left _ ?_
        exact perm_erase hk)
    (rngL 0 1 ds.length) [.par p, .val (.lst ds), .own (.lst ds), .own (.lst []), .un] ⟨p, ds, [], .un, hp, rfl, by rw [rngL_length], by simp⟩
  obtain ⟨p', left, found, ts, hp', rfl, hl, hperm⟩ := h2
  have e : left = [] := List.length_eq_zero_iff.mp (by simpa using hl)
  subst e
  rw [List.append_nil] at hperm
  refine ⟨found, p', hperm, hp', ?_⟩
  simp [sp__law_shuffled, d__law_shuffled, fList, fLen, rng_one (n := ds.length) (by omega), h1, List.replicate]
end GL
namespace GL
open GB PySem
theorem sorted_text_str {s : List Nat} (h : s.length ≤ 1000000) : sp_sorted_text [.str s] = some (.val (.str (sortN s)), [.str s]) := by
  have hj := join_signs (xs := sortN s) (by rw [sortN_len]; exact h)
  simp [sp_sorted_text, d_sorted_text, sorted_str, tyOf, hj]
theorem sorted_text_lst {s : List Nat} (h : s.length ≤ 1000000) : sp_sorted_text [.lst (signs s)] = some (.val (.str (sortN s)), [.lst (signs s)]) := by
  have hj := join_signs (xs := sortN s) (by rw [sortN_len]; exact h)
  simp [sp_sorted_text, d_sorted_text, sorted_lst, tyOf, hj]
def addF (acc : List Nat) (c : Nat) : List Nat := if c ∈ acc then acc else acc ++ [c]
theorem addF_len (acc : List Nat) (c : Nat) : (addF acc c).length ≤ acc.length + 1 := by
  unfold addF
  split <;> simp
theorem dc_keys (cs : List Nat) : ∀ (acc : List Nat) (t : D) (s2 : Slot), acc.length + cs.length ≤ 1000000 → ∃ s2', dDcGo (gtName 2) tYes (dVar 2) (dC (.bl true)) (signs cs) (kf acc yes) [.un, .val t, s2] = some (kf (cs.foldl addF acc) yes, [.un, .val t, s2']) := by
  induction cs with
  | nil => intro acc t s2 _; exact ⟨s2, rfl⟩
  | cons c cs ih =>
    intro acc t s2 h
    obtain ⟨s2', e⟩ := ih (addF acc c) t (.val (.str [c])) (by have := addF_len acc c; simp at h; omega)
    refine ⟨s2', ?_⟩
    have e1 : signs (c :: cs) = .str [c] :: signs cs := rfl
    have e2 : (kf acc yes).length < 16777216 := by rw [kf_len]; simp at h; omega
    have e3 : dPut (kf acc yes) (ky c) (.bl true) = kf (addF acc c) yes := by rw [dPut_kf, upd1_yes]; rfl
    rw [e1, dDcGo]
    simp only [z_gName, List.set_cons_succ, List.set_cons_zero, z_tYes, if_true, z_Val, List.getElem?_cons_succ, List.getElem?_cons_zero, z_wv, Bool.false_eq_true, if_false, z_C, z_rv, key_sign, e2, e3]
    exact e
theorem dc2_keys (ts : List (List Nat)) : ∀ (acc : List Nat) (s1 s2 : Slot), acc.length + ts.flatten.length ≤ 1000000 → ∃ s1' s2', dDc2Go (gtName 1) tYes (dItems (dVar 1)) (gtName 2) tYes (dVar 2) (dC (.bl true)) (ts.map .str) (kf acc yes) [.un, s1, s2] = some (kf (ts.flatten.foldl addF acc) yes, [.un, s1', s2']) := by
  induction ts with
  | nil => intro acc s1 s2 _; exact ⟨s1, s2, rfl⟩
  | cons t ts ih =>
    intro acc s1 s2 h
    have h' : acc.length + t.length + ts.flatten.length ≤ 1000000 := by rw [List.flatten_cons, List.length_append] at h; omega
    obtain ⟨s2', e⟩ := dc_keys t acc (.str t) s2 (by omega)
    have lenF : ∀ (cs acc : List Nat), (cs.foldl addF acc).length ≤ acc.length + cs.length := by
      intro cs
      induction cs with
      | nil => intro acc; simp
      | cons c cs ih => intro acc; have := ih (addF acc c); have := addF_len acc c; simp only [List.foldl_cons, List.length_cons]; omega
    obtain ⟨s1'', s2'', e2⟩ := ih (t.foldl addF acc) (.val (.str t)) s2' (by have := lenF t acc; omega)
    refine ⟨s1'', s2'', ?_⟩
    rw [List.map_cons, dDc2Go]
    simp only [z_gName, List.set_cons_succ, List.set_cons_zero, z_tYes, if_true, z_Items, z_Val, List.getElem?_cons_succ, List.getElem?_cons_zero, obind_ok, z_rv, items_str, Option.map_some, e]
    rw [List.flatten_cons, List.foldl_append]
    exact e2
theorem places_in_ok {ts : List (List Nat)} (h : ts.flatten.length ≤ 1000000) : sp_places_in [.tup (ts.map .str)] = some (.val (.str (plc ts)), [.tup (ts.map .str)]) := by
  obtain ⟨s1, s2, e⟩ := dc2_keys ts [] .un .un (by simpa using h)
  have e' : dDc2Go (gtName 1) tYes (dItems (dVar 1)) (gtName 2) tYes (dVar 2) (dC (.bl true)) (ts.map .str) [] [.un, .un, .un] = some (kf (firsts ts.flatten) yes, [.un, s1, s2]) := e
  have hl : (firsts ts.flatten).length ≤ 1000000 := by
    have lenF : ∀ (cs acc : List Nat), (cs.foldl addF acc).length ≤ acc.length + cs.length := by
      intro cs
      induction cs with
      | nil => intro acc; simp
      | cons c cs ih => intro acc; have := ih (addF acc c); have := addF_len acc c; simp only [List.foldl_cons, List.length_cons]; omega
    have := lenF ts.flatten []
    simp at this h ⊢
    exact Nat.le_trans this h
  have hj := join_signs (xs := plc ts) (by unfold plc; rw [sortN_len]; exact hl)
  have hp : sortN (firsts ts.flatten) = plc ts := rfl
  simp [sp_places_in, d_places_in, sorted_dic, tyOf, hj, e', List.replicate, items_tup, hp]
/-! ### webs as pairs of signs -/
abbrev Web := List (Nat × Nat)
def tt (t : Nat × Nat) : List Nat := [t.1, t.2]
def tts (w : Web) : List (List Nat) := w.map tt
def wD (w : Web) : D := .tup ((tts w).map .str)
def oth (p : Nat) (t : Nat × Nat) : Nat := if t.1 = p then t.2 else t.1
def nb (w : Web) (p : Nat) : List Nat := sortN ((w.filter fun t => decide (p ∈ tt t)).map (oth p))
def inD (p : Nat) : D → Bool
  | .str s => decide (p ∈ s)
  | _ => false
def stD (p : Nat) : D → D
  | .str s => .str (s.filter (· != p))
  | d => d
theorem nb_list {w : Web} {p : Nat} (hne : ∀ t ∈ w, t.1 ≠ t.2) : ((((tts w).map D.str).filter (inD p)).map (stD p)) = signs ((w.filter fun t => decide (p ∈ tt t)).map (oth p)) := by
  induction w with
  | nil => rfl
  | cons t w ih =>
    have ih := ih fun t ht => hne t (by simp [ht])
    have hn := hne t (by simp)
    have e : (tts (t :: w)).map D.str = .str (tt t) :: (tts w).map D.str := rfl
    rw [e, List.filter_cons, List.filter_cons]
    by_cases h : p ∈ tt t
    · have h1 : inD p (.str (tt t)) = true := decide_eq_true h
      have h2 : (decide (p ∈ tt t)) = true := decide_eq_true h
      rw [if_pos h1, if_pos h2, List.map_cons, ih]
      have h3 : stD p (.str (tt t)) = .str [oth p t] := by
        obtain ⟨a, b⟩ := t
        simp only [tt, List.mem_cons, List.not_mem_nil, or_false] at h hn
        show D.str ([a, b].filter (· != p)) = _
        unfold oth
        rcases h with h | h
        · subst h
          have : ¬ b = p := fun z => hn z.symm
          simp [this]
        · subst h
          have : ¬ a = p := fun z => hn z
          simp [this]
      rw [h3]
      rfl
    · have h1 : ¬ inD p (.str (tt t)) = true := by show ¬ decide (p ∈ tt t) = true; simp [h]
      have h2 : ¬ (decide (p ∈ tt t)) = true := by simp [h]
      rw [if_neg h1, if_neg h2, ih]
theorem neighbours_in_ok {w : Web} {p : Nat} (hne : ∀ t ∈ w, t.1 ≠ t.2) (hl : w.length ≤ 1000) : sp_neighbours_in [wD w, .str [p]] = some (.val (.str (nb w p)), [wD w, .str [p]]) := by
  obtain ⟨ρ', h1, s, rfl⟩ := lc_map (g := gtName 2) (t := dTst (fIn false) (dLateAt 1) (dLookAt 2)) (e := dRepl [] (dLateAt 2) (dVar 1)) (ds := (tts w).map D.str)
    (fun ρ => ∃ s, ρ = [.un, .val (.str [p]), s]) (inD p) (stD p) (by
      rintro ρ ⟨s, rfl⟩ d hd
      obtain ⟨x, hx, rfl⟩ := List.mem_map.mp hd
      obtain ⟨t, ht, rfl⟩ := List.mem_map.mp hx
      refine ⟨_, z_gName _ _, [.un, .val (.str [p]), .val (.str (tt t))], ?_, fun _ => ⟨_, rfl⟩, fun _ => ⟨.val (.str ((tt t).filter (· != p))), [.un, .val (.str [p]), .val (.str (tt t))], ?_, rfl, rfl, ⟨_, rfl⟩⟩⟩
      · simp [in_sign, inD]
      · simp [rep_sign, tt])
    [.un, .val (.str [p]), .un] ⟨_, rfl⟩
  have hlen : ((tts w).map D.str).length ≤ 16777216 := by simp [tts]; omega
  have h2 : dLcGo (gtName 2) (dTst (fIn false) (dLateAt 1) (dLookAt 2)) (dRepl [] (dLateAt 2) (dVar 1)) ((tts w).map D.str) (hide [1] 0 [.val (wD w), .val (.str [p]), .un]) = some (signs ((w.filter fun t => decide (p ∈ tt t)).map (oth p)), [.un, .val (.str [p]), s]) := by
    rw [← nb_list hne]; exact h1
  have h3 := lcAll_of hlen h2
  have h4 : ((w.filter fun t => decide (p ∈ tt t)).map (oth p)).length ≤ 1000000 := by
    rw [List.length_map]
    have := List.length_filter_le (fun t => decide (p ∈ tt t)) w
    omega
  have h5 := sorted_text_lst h4
  have h6 : itemsOf (wD w) = some ((tts w).map D.str) := rfl
  simp [sp_neighbours_in, d_neighbours_in, List.replicate, h6, h3, h5]
  rfl
end GL
namespace GL
open GB PySem
theorem nb_mem {w : Web} {p y : Nat} : y ∈ nb w p ↔ ∃ t ∈ w, p ∈ tt t ∧ y = oth p t := by
  unfold nb
  rw [sortN_mem, List.mem_map]
  constructor
  · rintro ⟨t, ht, rfl⟩
    rw [List.mem_filter] at ht
    exact ⟨t, ht.1, by simpa using ht.2, rfl⟩
  · rintro ⟨t, h1, h2, rfl⟩
    exact ⟨t, by rw [List.mem_filter]; exact ⟨h1, by simpa using h2⟩, rfl⟩
theorem nb_plc {w : Web} {p y : Nat} (h : y ∈ nb w p) : y ∈ plc (tts w) := by
  obtain ⟨t, ht, h1, rfl⟩ := nb_mem.mp h
  rw [plc_mem]
  refine ⟨tt t, List.mem_map_of_mem ht, ?_⟩
  unfold oth tt
  split <;> simp
theorem nodup_sub_len {xs ys : List Nat} (h : xs.Nodup) (hs : ∀ x ∈ xs, x ∈ ys) : xs.length ≤ ys.length := by
  induction xs generalizing ys with
  | nil => simp
  | cons x xs ih =>
    rw [List.nodup_cons] at h
    have hx := hs x (by simp)
    have := ih (ys := ys.erase x) h.2 fun z hz => by
      have hzx : z ≠ x := fun e => h.1 (e ▸ hz)
      exact (List.mem_erase_of_ne hzx).mpr (hs z (by simp [hz]))
    rw [List.length_erase_of_mem hx] at this
    have hp : 0 < ys.length := List.length_pos_of_mem hx
    simp only [List.length_cons]
    omega
/-- what is known while places are met -/
structure Met (w : Web) (p : Nat) (met line : List Nat) (x : Option Nat) : Prop where
  nd : met.Nodup
  sub : ∀ z ∈ met, z ∈ plc (tts w)
  lin : ∀ z ∈ line, z ∈ met
  hd : ∃ r, met = p :: r
  cl : ∀ z ∈ met, z ∉ line → some z = x ∨ ∀ y ∈ nb w z, y ∈ met
def sBody : DS := (sSeq (sIf (dTst (fIn true) (dLateAt 4) (dLookAt 2)) (sSeq (sDrop (dMethW "list" gAppend 2 (dCons (dVar 4) dNil)))
  (sSeq (sDrop (dMethW "list" gAppend 3 (dCons (dVar 4) dNil)))
  sNil)) sNil)
  sNil)
theorem met_turns {w : Web} {p x n : Nat} (hP : (plc (tts w)).length ≤ 500) : ∀ (ys : List Nat) (met line : List Nat) (s : GB.Slot), Met w p met line (some x) → (∀ y ∈ ys, y ∈ plc (tts w)) → (∀ y ∈ nb w x, y ∈ met ∨ y ∈ ys) → 2 * ((plc (tts w)).length - met.length) + line.length ≤ n → line.length ≤ met.length →
    ∃ met' line' s', dFor (gtName 4) sBody (signs ys) [.val (wD w), .val (.str [p]), .own (.lst (signs met)), .own (.lst (signs line)), s] = some (.nx [.val (wD w), .val (.str [p]), .own (.lst (signs met')), .own (.lst (signs line')), s']) ∧ Met w p met' line' none ∧ 2 * ((plc (tts w)).length - met'.length) + line'.length ≤ n ∧ line'.length ≤ met'.length := by
  intro ys
  induction ys with
  | nil =>
    intro met line s M _ hx hn hl
    refine ⟨met, line, s, rfl, ⟨M.nd, M.sub, M.lin, M.hd, fun z hz hzl => ?_⟩, hn, hl⟩
    rcases M.cl z hz hzl with e | e
    · cases e
      exact Or.inr fun y hy => by simpa using hx y hy
    · exact Or.inr e
  | cons y ys ih =>
    intro met line s M hys hx hn hl
    have e1 : signs (y :: ys) = .str [y] :: signs ys := rfl
    have ml : met.length ≤ (plc (tts w)).length := nodup_sub_len M.nd M.sub
    by_cases h : y ∈ met
    · obtain ⟨met', line', s', h1, h2⟩ := ih met line (.val (.str [y])) M (fun z hz => hys z (by simp [hz])) (fun z hz => by
        rcases hx z hz with q | q
        · exact Or.inl q
        · rcases List.mem_cons.mp q with rfl | q
          · exact Or.inl h
          · exact Or.inr q) hn hl
      refine ⟨met', line', s', ?_, h2⟩
      rw [e1, dFor]
      simp [sBody, in_lst, h]
      simpa [sBody] using h1
    · have M' : Met w p (met ++ [y]) (line ++ [y]) (some x) := by
        refine ⟨?_, ?_, ?_, ?_, ?_⟩
        · rw [List.nodup_append]
          refine ⟨M.nd, by simp, ?_⟩
          intro a ha b hb
          simp at hb
          subst hb
          intro z
          exact h (z ▸ ha)
        · intro z hz
          rcases List.mem_append.mp hz with q | q
          · exact M.sub z q
          · simp at q; subst q; exact hys z (by simp)
        · intro z hz
          rcases List.mem_append.mp hz with q | q
          · exact List.mem_append_left _ (M.lin z q)
          · exact List.mem_append_right _ q
        · obtain ⟨r, e⟩ := M.hd
          exact ⟨r ++ [y], by rw [e]; rfl⟩
        · intro z hz hzl
          have hzy : z ≠ y := fun e => hzl (by simp [e])
          have hzm : z ∈ met := by
            rcases List.mem_append.mp hz with q | q
            · exact q
            · simp at q; exact absurd q hzy
          rcases M.cl z hzm (fun q => hzl (List.mem_append_left _ q)) with e | e
          · exact Or.inl e
          · exact Or.inr fun u hu => List.mem_append_left _ (e u hu)
      have ml' : (met ++ [y]).length ≤ (plc (tts w)).length := nodup_sub_len M'.nd M'.sub
      obtain ⟨met', line', s', h1, h2⟩ := ih (met ++ [y]) (line ++ [y]) (.val (.str [y])) M' (fun z hz => hys z (by simp [hz])) (fun z hz => by
        rcases hx z hz with q | q
        · exact Or.inl (List.mem_append_left _ q)
        · rcases List.mem_cons.mp q with rfl | q
          · exact Or.inl (by simp)
          · exact Or.inr q) (by simp at ml' ⊢; omega) (by simp; omega)
      refine ⟨met', line', s', ?_, h2⟩
      have a1 := app_ok (ds := signs met) (d := .str [y]) (by rw [signs_len]; omega)
      have a2 := app_ok (ds := signs line) (d := .str [y]) (by rw [signs_len]; omega)
      rw [signs_app] at a1 a2
      rw [e1, dFor]
      simp [sBody, in_lst, h, tyOf, a1, a2]
      simpa [sBody] using h1
/-- spread_over: all that is met hangs together with the place -/
theorem spread_over_ok {w : Web} {p : Nat} (hne : ∀ t ∈ w, t.1 ≠ t.2) (hl : w.length ≤ 1000) (hP : (plc (tts w)).length ≤ 500) (hp : p ∈ plc (tts w)) :
    ∃ r : List Nat, (p :: r).Nodup ∧ (∀ z ∈ p :: r, z ∈ plc (tts w)) ∧ (∀ z ∈ p :: r, ∀ y ∈ nb w z, y ∈ p :: r) ∧ sp_spread_over [wD w, .str [p]] = some (.fresh (.lst (signs r)), [wD w, .str [p]]) := by
  obtain ⟨ρ', h1, h2⟩ := sWhile_inv (t := dTruV (dLookAt 3)) (b := (sSeq (sFor (dItems (dCall sp_neighbours_in [false, false] (aVal (dVar 0) (aVal (dMethW "list" gPop 3 (dCons (dC (.int 0)) dNil)) aNil)))) (gtName 4) sBody) sNil))
    (fun n ρ => ∃ met line s, ρ = [.val (wD w), .val (.str [p]), .own (.lst (signs met)), .own (.lst (signs line)), s] ∧ Met w p met line none ∧ 2 * ((plc (tts w)).length - met.length) + line.length ≤ n ∧ line.length ≤ met.length)
    (fun ρ => ∃ met s, ρ = [.val (wD w), .val (.str [p]), .own (.lst (signs met)), .own (.lst (signs [])), s] ∧ Met w p met [] none)
    (by
      rintro n ρ ⟨met, line, s, rfl, M, hn, hlm⟩
      have ml : met.length ≤ (plc (tts w)).length := nodup_sub_len M.nd M.sub
      cases line with
      | nil => exact Or.inl ⟨_, by simp [D.truth, signs], met, s, rfl, M⟩
      | cons x line =>
        refine Or.inr ?_
        have M' : Met w p met line (some x) := ⟨M.nd, M.sub, fun z hz => M.lin z (by simp [hz]), M.hd, fun z hz hzl => by
          by_cases e : z = x
          · exact Or.inl (by rw [e])
          · rcases M.cl z hz (by simp [e, hzl]) with q | q
            · cases q
            · exact Or.inr q⟩
        obtain ⟨met', line', s', h1, h2, h3, h4⟩ := met_turns hP (p := p) (x := x) (n := n - 1) (nb w x) met line s M' (fun y hy => nb_plc hy) (fun y hy => Or.inr hy) (by simp at hn; omega) (by simp at hlm; omega)
        refine ⟨[.val (wD w), .val (.str [p]), .own (.lst (signs met)), .own (.lst (signs (x :: line))), s], [.val (wD w), .val (.str [p]), .own (.lst (signs met')), .own (.lst (signs line')), s'], n - 1, ?_, ?_, ?_, ?_⟩
        · simp [D.truth, signs]
        · have hp0 := pop0 x line (by rw [List.length_cons] at hlm; omega)
          have hnb := neighbours_in_ok (p := x) hne hl
          simp [tyOf, hp0, hnb, items_str, h1]
        · simp at hn; omega
        · exact ⟨met', line', s', rfl, h2, h3, h4⟩)
    (2 * ((plc (tts w)).length - 1) + 1) [.val (wD w), .val (.str [p]), .own (.lst (signs [p])), .own (.lst (signs [p])), .un]
    ⟨[p], [p], .un, rfl, ⟨by simp, by simpa using hp, by simp, ⟨[], rfl⟩, by simp⟩, by simp, by simp⟩
  obtain ⟨met, s, rfl, M⟩ := h2
  obtain ⟨r, rfl⟩ := M.hd
  refine ⟨r, M.nd, M.sub, fun z hz => ?_, ?_⟩
  · rcases M.cl z hz (by simp) with q | q
    · cases q
    · exact q
  · have hsl : fSl (some 1) none (.lst (signs (p :: r))) = some (.fresh (.lst (signs r))) := by
      have e : cutL (signs (p :: r)) (some 1) none = signs r := by
        unfold cutL
        simp [HT.sIx, signs]
        exact List.take_of_length_le (by simp)
      show some (Res.fresh (.lst (cutL (signs (p :: r)) (some 1) none))) = _
      rw [e]
    have h1' := h1
    simp only [sBody] at h1'
    have ep : signs [p] = [D.str [p]] := rfl
    rw [ep] at h1'
    simp [sp_spread_over, d_spread_over, List.replicate, h1', hsl]
theorem reached_in_ok {w : Web} {p : Nat} (hne : ∀ t ∈ w, t.1 ≠ t.2) (hl : w.length ≤ 1000) (hP : (plc (tts w)).length ≤ 500) (hp : p ∈ plc (tts w)) :
    ∃ r : List Nat, (p :: r).Nodup ∧ (∀ z ∈ p :: r, z ∈ plc (tts w)) ∧ (∀ z ∈ p :: r, ∀ y ∈ nb w z, y ∈ p :: r) ∧ sp_reached_in [wD w, .str [p]] = some (.val (.str (sortN (p :: r))), [wD w, .str [p]]) := by
  obtain ⟨r, h1, h2, h3, h4⟩ := spread_over_ok hne hl hP hp
  refine ⟨r, h1, h2, h3, ?_⟩
  have rl : (p :: r).length ≤ 500 := Nat.le_trans (nodup_sub_len h1 h2) hP
  obtain ⟨ρ', e1, e2⟩ := dFor_inv (g := gtName 3) (b := (sSeq (sAsg 2 (dBinG fAdd (dVar 2) (dVar 3))) sNil))
    (fun rem ρ => ∃ a b s, rem = signs b ∧ ρ = [.val (wD w), .val (.str [p]), .val (.str a), s] ∧ a ++ b = p :: r)
    (by
      rintro d rem ρ ⟨a, b, s, hb, rfl, hab⟩
      cases b with
      | nil => cases hb
      | cons y b =>
        cases hb
        refine ⟨_, z_gName _ _, [.val (wD w), .val (.str [p]), .val (.str (a ++ [y])), .val (.str [y])], ?_, a ++ [y], b, _, rfl, rfl, by rw [← hab]; simp⟩
        have hla : a.length + 1 ≤ 16777216 := by
          have := congrArg List.length hab
          simp at this rl
          omega
        have hadd : fAdd (.str a) (.str [y]) = some (.val (.str (a ++ [y]))) := if_pos hla
        simp [hadd])
    (signs r) [.val (wD w), .val (.str [p]), .val (.str [p]), .un] ⟨[p], r, .un, rfl, rfl, rfl⟩
  obtain ⟨a, b, s, hb, rfl, hab⟩ := e2
  cases b with
  | cons y b => cases hb
  | nil =>
    rw [List.append_nil] at hab
    subst hab
    have hs := sorted_text_str (s := p :: r) (by omega)
    simp [sp_reached_in, d_reached_in, List.replicate, h4, items_lst, e1, hs]
theorem oth_ne {w : Web} {p : Nat} {t : Nat × Nat} (hn : t.1 ≠ t.2) : (p = t.1 → oth p t = t.2) ∧ (p = t.2 → oth p t = t.1) := by
  refine ⟨fun h => by subst h; simp [oth], fun h => ?_⟩
  subst h
  unfold oth
  rw [if_neg hn]
def Hangs (w : Web) : Prop := ∀ S : Nat → Prop, (∃ z, z ∈ plc (tts w) ∧ S z) → (∀ t ∈ w, S t.1 ↔ S t.2) → ∀ z ∈ plc (tts w), S z
theorem does_hang_ok {w : Web} (hne : ∀ t ∈ w, t.1 ≠ t.2) (hl : w.length ≤ 100) (h0 : w ≠ []) (hg : Hangs w) (hP : (plc (tts w)).length ≤ 500) : sp_does_hang [wD w] = some (.val (.bl true), [wD w]) := by
  have hfl : ∀ w : Web, (tts w).flatten.length = 2 * w.length := by
    intro w
    induction w with
    | nil => rfl
    | cons t w ih => simp only [tts, List.map_cons, List.flatten_cons, List.length_append, List.length_cons] at ih ⊢; rw [ih]; simp [tt]; omega
  have hpl := places_in_ok (ts := tts w) (by rw [hfl]; omega)
  have hpl : sp_places_in [wD w] = some (.val (.str (plc (tts w))), [wD w]) := hpl
  have hne' : plc (tts w) ≠ [] := by
    obtain ⟨t, w', rfl⟩ := List.exists_cons_of_ne_nil h0
    intro e
    have : t.1 ∈ plc (tts (t :: w')) := by rw [plc_mem]; exact ⟨tt t, by simp [tts], by simp [tt]⟩
    rw [e] at this
    simp at this
  have hpos : 0 < (plc (tts w)).length := List.length_pos_iff.mpr hne'
  have hp : (plc (tts w))[0] ∈ plc (tts w) := List.getElem_mem _
  obtain ⟨r, h1, h2, h3, h4⟩ := reached_in_ok hne (by omega) hP hp
  have key : ∀ z ∈ plc (tts w), z ∈ (plc (tts w))[0] :: r := hg (fun z => z ∈ (plc (tts w))[0] :: r) ⟨_, hp, by simp⟩ fun t ht => by
    have hn := hne t ht
    constructor
    · intro h
      exact h3 _ h _ (nb_mem.mpr ⟨t, ht, by simp [tt], by rw [(oth_ne (w := w) hn).1 rfl]⟩)
    · intro h
      exact h3 _ h _ (nb_mem.mpr ⟨t, ht, by simp [tt], by rw [(oth_ne (w := w) hn).2 rfl]⟩)
  have e : sortN ((plc (tts w))[0] :: r) = plc (tts w) := asc_eq (sortN_lt h1) (plc_asc _) fun c => by
    rw [sortN_mem]
    exact ⟨fun h => h2 c h, fun h => key c h⟩
  rw [e] at h4
  have hix : fIx (.str (plc (tts w))) (.int 0) = some (.val (.str [(plc (tts w))[0]])) := ix_str (by decide) (by simpa using hpos)
  have heq : fEq false (.str (plc (tts w))) (.str (plc (tts w))) = some (.val (.bl true)) := by
    show some (Res.val (.bl (xor false (decide (plc (tts w) = plc (tts w)))))) = _
    simp
  simp [sp_does_hang, d_does_hang, List.replicate, hpl, hix, h4, heq]
end GL
namespace GB
open PySem
@[simp] theorem z_Chain {ρ : Rho} (f g : D → D → Option Res) (a b : DL) (e : DV) : dChain f g a b e ρ = obind (a ρ) fun x ρ1 => obind (b ρ1) fun y ρ2 => (match x.now ρ2, y.now ρ2 with | some d, some d' => (match f d d' with | some (.val (.bl true)) => obind (e ρ2) fun z ρ3 => (match y.now ρ3 with | some d2 => (match g d2 z with | some (.val (.bl w)) => some (.ok w ρ3) | _ => none) | none => none) | some (.val (.bl false)) => some (.ok false ρ2) | _ => none) | _, _ => none) := nrfl _
theorem all_true {ds : List D} (h : ∀ d ∈ ds, d = .bl true) : fAll (.lst ds) = some (.val (.bl true)) := by
  have e : boolsD ds = some (ds.map fun _ => true) := by
    induction ds with
    | nil => rfl
    | cons d ds ih =>
      have := h d (by simp)
      subst this
      show (boolsD ds).map (true :: ·) = _
      rw [ih fun d hd => h d (by simp [hd])]
      rfl
  show (boolsD ds).map (fun ns => Res.val (.bl (ns.all id))) = _
  rw [e]
  simp
theorem any_of {ds : List D} {bs : List Bool} (h : ds = bs.map D.bl) : fAny (.lst ds) = some (.val (.bl (bs.any id))) := by
  subst h
  have e : boolsD (bs.map D.bl) = some bs := by
    induction bs with
    | nil => rfl
    | cons d ds ih => show (boolsD (ds.map D.bl)).map (d :: ·) = _; rw [ih]; rfl
  show (boolsD (bs.map D.bl)).map (fun ns => Res.val (.bl (ns.any id))) = _
  rw [e]
  rfl
theorem lc_all {g : D → Rho → Option (O Unit)} {e : DE} {ds : List D} (Inv : Rho → Prop)
    (step : ∀ ρ, Inv ρ → ∀ d ∈ ds, ∃ ρ1, g d ρ = some (.ok () ρ1) ∧ ∃ r ρ3, e ρ1 = some (.ok r ρ3) ∧ r.isWeak = false ∧ r.d = .bl true ∧ Inv ρ3) (ρ : Rho) (h : Inv ρ) :
    ∃ xs ρ', dLcGo g tYes e ds ρ = some (xs, ρ') ∧ fAll (.lst xs) = some (.val (.bl true)) ∧ Inv ρ' := by
  obtain ⟨ρ', h1, h2⟩ := lc_map (g := g) (t := tYes) (e := e) (ds := ds) Inv (fun _ => true) (fun _ => .bl true) (fun ρ hi d hd => by
    obtain ⟨ρ1, a1, r, ρ3, a2, a3, a4, a5⟩ := step ρ hi d hd
    exact ⟨ρ1, a1, ρ1, z_tYes, fun z => (nomatch z), fun _ => ⟨r, ρ3, a2, a3, a4, a5⟩⟩) ρ h
  exact ⟨_, ρ', h1, all_true (fun d hd => by obtain ⟨_, _, rfl⟩ := List.mem_map.mp hd; rfl), h2⟩
theorem eq_str (s t : List Nat) : fEq false (.str s) (.str t) = some (.val (.bl (decide (s = t)))) := by
  show some (Res.val (.bl (xor false (decide (s = t))))) = _
  rw [Bool.false_xor]
theorem ne_str (s t : List Nat) : fEq true (.str s) (.str t) = some (.val (.bl (!decide (s = t)))) := by
  show some (Res.val (.bl (xor true (decide (s = t))))) = _
  rw [Bool.true_xor]
theorem eq_int (s t : Int) : fEq false (.int s) (.int t) = some (.val (.bl (decide (s = t)))) := by
  show some (Res.val (.bl (xor false (decide (s = t))))) = _
  rw [Bool.false_xor]
theorem lt_str (s t : List Nat) : fLtD (.str s) (.str t) = some (.val (.bl (decide (s < t)))) := rfl
theorem lt_int (s t : Int) : fLtD (.int s) (.int t) = some (.val (.bl (decide (s < t)))) := rfl
theorem le_int (s t : Int) : fLeD (.int s) (.int t) = some (.val (.bl (decide (s ≤ t)))) := rfl
theorem gt_int (s t : Int) : fGtD (.int s) (.int t) = some (.val (.bl (decide (t < s)))) := rfl
theorem ge_int (s t : Int) : fGeD (.int s) (.int t) = some (.val (.bl (decide (t ≤ s)))) := rfl
theorem len_str (s : List Nat) : fLen (.str s) = some (.val (.int s.length)) := rfl
theorem len_tup (s : List D) : fLen (.tup s) = some (.val (.int s.length)) := rfl
theorem len_lst (s : List D) : fLen (.lst s) = some (.val (.int s.length)) := rfl
theorem cut1 {α : Type} {l : List α} (h : 1 ≤ l.length) : cutL l (some 1) none = l.drop 1 := by
  unfold cutL
  cases l with
  | nil => simp at h
  | cons x l =>
    simp [HT.sIx]
theorem eq_nil {d : D} {ds : List D} (h : (D.lst (d :: ds)).okEq = true) : fEq false (.lst (d :: ds)) (.lst []) = some (.val (.bl false)) := by
  show (if (D.lst (d :: ds)).okEq && (D.lst []).okEq then some (Res.val (.bl (xor false (PyData.eqv (D.lst (d :: ds)).py (D.lst []).py)))) else none) = _
  have h2 : (D.lst []).okEq = true := rfl
  rw [h, h2]
  simp only [D.py, D.pys, PyData.eqv, Bool.and_self, if_true]
  try rfl
end GB

namespace GL
open GB PySem
def LT : List Nat := [97, 98, 99, 100, 101, 102, 103, 104, 105, 106, 107, 108, 109, 110, 111, 112, 113, 114, 115, 116, 117, 118, 119, 120, 121, 122]
theorem is_letters_ok {s : List Nat} (h : ∀ c ∈ s, c ∈ LT) (hl : s.length ≤ 1000) : sp_is_letters [.str s] = some (.val (.bl true), [.str s]) := by
  obtain ⟨xs, ρ', h1, h2, s1, rfl⟩ := lc_all (g := gtName 1) (e := dOp2 (fIn false) (dLateAt 1) (dSee (dW LT))) (ds := signs s) (fun ρ => ∃ a, ρ = [.un, a]) (by
    rintro ρ ⟨a, rfl⟩ d hd
    obtain ⟨c, hc, rfl⟩ := List.mem_map.mp hd
    refine ⟨_, z_gName _ _, .val (.bl true), [.un, .val (.str [c])], ?_, rfl, rfl, ⟨_, rfl⟩⟩
    simp [in_sign, h c hc]) [.un, .un] ⟨_, rfl⟩
  have h3 := lcAll_of (vs := []) (ρ := [.val (.str s), .un]) (by rw [signs_len]; omega) h1
  have hty : isiB (D.str s).ty "str" = true := rfl
  unfold LT at h3
  simp [sp_is_letters, d_is_letters, List.replicate, hty, items_str, h3, h2]
theorem is_tie_ok {t : Nat × Nat} (h1 : t.1 ∈ LT) (h2 : t.2 ∈ LT) (h3 : t.1 < t.2) : sp_is_tie_form [.str (tt t)] = some (.val (.bl true), [.str (tt t)]) := by
  have hl := is_letters_ok (s := tt t) (by intro c hc; simp [tt] at hc; rcases hc with rfl | rfl <;> assumption) (by simp [tt])
  have a0 : fIx (.str (tt t)) (.int 0) = some (.val (.str [t.1])) := ix2_0 _ _
  have a1 : fIx (.str (tt t)) (.int 1) = some (.val (.str [t.2])) := ix2_1 _ _
  have hlt : ([t.1] : List Nat) < [t.2] := (lt_one _ _).mpr h3
  have hlen : (tt t).length = 2 := rfl
  simp [sp_is_tie_form, d_is_tie_form, List.replicate, hl, a0, a1, len_str, eq_int, lt_str, hlt, hlen]
theorem is_arrow_ok {t : Nat × Nat} (h1 : t.1 ∈ LT) (h2 : t.2 ∈ LT) (h3 : t.1 ≠ t.2) : sp_is_arrow_form [.str (tt t)] = some (.val (.bl true), [.str (tt t)]) := by
  have hl := is_letters_ok (s := tt t) (by intro c hc; simp [tt] at hc; rcases hc with rfl | rfl <;> assumption) (by simp [tt])
  have a0 : fIx (.str (tt t)) (.int 0) = some (.val (.str [t.1])) := ix2_0 _ _
  have a1 : fIx (.str (tt t)) (.int 1) = some (.val (.str [t.2])) := ix2_1 _ _
  have hlen : (tt t).length = 2 := rfl
  simp [sp_is_arrow_form, d_is_arrow_form, List.replicate, hl, a0, a1, len_str, eq_int, ne_str, h3, hlen]
structure WebOk (w : Web) : Prop where
  len1 : 1 ≤ w.length
  len2 : w.length ≤ 10
  lets : ∀ t ∈ w, t.1 ∈ LT ∧ t.2 ∈ LT ∧ t.1 < t.2
  asc : (tts w).Pairwise (· < ·)
  few : (plc (tts w)).length ≤ 7
  hang : Hangs w
theorem flat_len : ∀ w : Web, (tts w).flatten.length = 2 * w.length := by
  intro w
  induction w with
  | nil => rfl
  | cons t w ih => simp only [tts, List.map_cons, List.flatten_cons, List.length_append, List.length_cons] at ih ⊢; rw [ih]; simp [tt]; omega
theorem pair_lt {l : List (List Nat)} (h : l.Pairwise (· < ·)) : ∀ q ∈ l.zip (l.drop 1), q.1 < q.2 := by
  induction l with
  | nil => simp
  | cons x l ih =>
    cases l with
    | nil => simp
    | cons y l =>
      rw [List.pairwise_cons] at h
      intro q hq
      simp only [List.drop_succ_cons, List.drop_zero, List.zip_cons_cons, List.mem_cons] at hq
      rcases hq with rfl | hq
      · exact h.1 y (by simp)
      · exact ih h.2 q (by simpa using hq)
theorem is_web_form_ok {w : Web} (W : WebOk w) : sp_is_web_form [wD w] = some (.val (.bl true), [wD w]) := by
  have hl1 := W.len1
  have hl2 := W.len2
  have hlen : ((tts w).map D.str).length = w.length := by simp [tts]
  obtain ⟨xs, ρ', h1, h2, s1, s2, s3, rfl⟩ := lc_all (g := gtName 1) (e := dCall sp_is_tie_form [false] (aVal (dVar 1) aNil)) (ds := (tts w).map D.str) (fun ρ => ∃ a b c, ρ = [.un, a, b, c]) (by
    rintro ρ ⟨a, b, c, rfl⟩ d hd
    obtain ⟨x, hx, rfl⟩ := List.mem_map.mp hd
    obtain ⟨t, ht, rfl⟩ := List.mem_map.mp hx
    obtain ⟨g1, g2, g3⟩ := W.lets t ht
    have ht := is_tie_ok g1 g2 g3
    refine ⟨_, z_gName _ _, .val (.bl true), [.un, .val (.str (tt t)), b, c], ?_, rfl, rfl, ⟨_, _, _, rfl⟩⟩
    simp [ht]) [.un, .un, .un, .un] ⟨_, _, _, rfl⟩
  have h3 := lcAll_of (vs := []) (ρ := [.val (wD w), .un, .un, .un]) (by omega) h1
  have hz : zipD [wD w, .tup (((tts w).map D.str).drop 1)] = some (((tts w).zip ((tts w).drop 1)).map fun q => .tup [.str q.1, .str q.2]) := by
    show some ((((tts w).map D.str).zip (((tts w).map D.str).drop 1)).map fun q => D.tup [q.1, q.2]) = _
    rw [← List.map_drop, List.zip_map, List.map_map]
    rfl
  obtain ⟨ys, ρ', k1, k2, a1, a2, a3, rfl⟩ := lc_all (g := gtTup 2 (gtCons (gtName 2) (gtCons (gtName 3) gtNil))) (e := dOp2 fLtD (dLateAt 2) (dLookAt 3)) (ds := ((tts w).zip ((tts w).drop 1)).map fun q => D.tup [.str q.1, .str q.2]) (fun ρ => ∃ a b c, ρ = [.un, a, b, c]) (by
    rintro ρ ⟨a, b, c, rfl⟩ d hd
    obtain ⟨q, hq, rfl⟩ := List.mem_map.mp hd
    have hlt := pair_lt W.asc q hq
    refine ⟨[.un, a, .val (.str q.1), .val (.str q.2)], by simp, .val (.bl true), [.un, a, .val (.str q.1), .val (.str q.2)], ?_, rfl, rfl, ⟨_, _, _, rfl⟩⟩
    simp [lt_str, hlt]) [.un, .un, .un, .un] ⟨_, _, _, rfl⟩
  have k3 := lcAll_of (vs := []) (ρ := [.val (wD w), .un, .un, .un]) (by simp [tts]; omega) k1
  have hsl : fSl (some 1) none (wD w) = some (.val (.tup (((tts w).map D.str).drop 1))) := by
    show some (Res.val (.tup (cutL ((tts w).map D.str) (some 1) none))) = _
    rw [cut1 (by omega)]
  have hpl : sp_places_in [wD w] = some (.val (.str (plc (tts w))), [wD w]) := places_in_ok (ts := tts w) (by rw [flat_len]; omega)
  have hh := does_hang_ok (w := w) (fun t ht => by have := (W.lets t ht).2.2; omega) (by omega) (by intro e; subst e; simp at hl1) W.hang (by have := W.few; omega)
  have hty : isiB (wD w).ty "tuple" = true := rfl
  have hln : fLen (wD w) = some (.val (.int w.length)) := by
    show some (Res.val (.int ((tts w).map D.str).length)) = _
    rw [hlen]
  have hit : itemsOf (wD w) = some ((tts w).map D.str) := rfl
  have b1 : (1 : Int) ≤ (w.length : Int) := by omega
  have b2 : (w.length : Int) ≤ 10 := by omega
  have b3 : ((plc (tts w)).length : Int) ≤ 7 := by have := W.few; omega
  simp [sp_is_web_form, d_is_web_form, List.replicate, hty, hln, le_int, b1, b2, D.truth, hit, h3, h2, hsl, hz, k3, k2, hpl, len_str, b3, hh, -List.drop_one]
end GL
namespace GL
open GB PySem
def srt (t : Nat × Nat) : Nat × Nat := if t.1 ≤ t.2 then t else (t.2, t.1)
theorem sortN_two (t : Nat × Nat) : sortN (tt t) = tt (srt t) := by
  obtain ⟨a, b⟩ := t
  unfold srt
  by_cases h : a ≤ b
  · simp only [h, if_true]
    unfold sortN tt
    rw [List.mergeSort_of_pairwise]
    simp [h]
  · simp only [h, if_false]
    have e : tt (b, a) = sortN (tt (b, a)) := by
      unfold sortN tt
      rw [List.mergeSort_of_pairwise]
      simp; omega
    rw [e]
    refine asc_eq (sortN_lt (by simp [tt]; omega)) (sortN_lt (by simp [tt]; omega)) fun c => ?_
    rw [sortN_mem, sortN_mem]
    simp [tt]
    exact Or.comm
theorem tt_srt {t : Nat × Nat} {c : Nat} : c ∈ tt (srt t) ↔ c ∈ tt t := by rw [← sortN_two, sortN_mem]
structure WayOk (v : Web) : Prop where
  web : WebOk (v.map srt)
  rank : ∃ rk : Nat → Nat, ∀ a ∈ v, rk a.1 < rk a.2
theorem WayOk.ne {v : Web} (h : WayOk v) {a : Nat × Nat} (ha : a ∈ v) : a.1 ≠ a.2 := by
  obtain ⟨rk, hr⟩ := h.rank
  intro e
  have := hr a ha
  rw [e] at this
  omega
theorem plc_srt (v : Web) : plc (tts (v.map srt)) = plc (tts v) := asc_eq (plc_asc _) (plc_asc _) fun c => by
  rw [plc_mem, plc_mem]
  simp only [tts, List.map_map, List.mem_map, Function.comp_apply]
  constructor
  · rintro ⟨_, ⟨a, ha, rfl⟩, hc⟩
    exact ⟨_, ⟨a, ha, rfl⟩, tt_srt.mp hc⟩
  · rintro ⟨_, ⟨a, ha, rfl⟩, hc⟩
    exact ⟨_, ⟨a, ha, rfl⟩, tt_srt.mpr hc⟩
theorem web_in_ok {v : Web} (hl : v.length ≤ 1000) : sp_web_in [wD v] = some (.val (wD (v.map srt)), [wD v]) := by
  obtain ⟨ρ', h1, s, rfl⟩ := lc_map (g := gtName 1) (t := tYes) (e := dCall sp_sorted_text [false] (aVal (dVar 1) aNil)) (ds := (tts v).map D.str)
    (fun ρ => ∃ s, ρ = [.un, s]) (fun _ => true) (fun d => match d with | .str s => .str (sortN s) | d => d) (by
      rintro ρ ⟨s, rfl⟩ d hd
      obtain ⟨x, hx, rfl⟩ := List.mem_map.mp hd
      obtain ⟨t, ht, rfl⟩ := List.mem_map.mp hx
      have hs := sorted_text_str (s := tt t) (by simp [tt])
      refine ⟨_, z_gName _ _, _, z_tYes, fun z => (nomatch z), fun _ => ⟨.val (.str (sortN (tt t))), [.un, .val (.str (tt t))], ?_, rfl, rfl, ⟨_, rfl⟩⟩⟩
      simp [hs]) [.un, .un] ⟨_, rfl⟩
  have h3 := lcAll_of (vs := []) (ρ := [.val (wD v), .un]) (by simp [tts]; omega) h1
  have e : ((((tts v).map D.str).filter fun _ => true).map fun d => match d with | .str s => .str (sortN s) | d => d) = (tts (v.map srt)).map D.str := by
    rw [List.filter_eq_self.mpr (by simp)]
    simp only [tts, List.map_map]
    refine List.map_congr_left fun t _ => ?_
    show D.str (sortN (tt t)) = D.str (tt (srt t))
    rw [sortN_two]
  rw [e] at h3
  have hit : itemsOf (wD v) = some ((tts v).map D.str) := rfl
  simp [sp_web_in, d_web_in, List.replicate, hit, h3, fTuple]
  rfl
/-! ### no arrows lead round -/
def blocked (v : Web) (left : List Nat) (x : Nat) : Bool := v.any fun a => decide (a.2 = x) && decide (a.1 ∈ left)
theorem min_rank {left : List Nat} (rk : Nat → Nat) (h : left ≠ []) : ∃ x ∈ left, ∀ y ∈ left, rk x ≤ rk y := by
  induction left with
  | nil => exact absurd rfl h
  | cons x l ih =>
    by_cases e : l = []
    · subst e; exact ⟨x, by simp, by simp⟩
    · obtain ⟨z, hz, hm⟩ := ih e
      by_cases q : rk x ≤ rk z
      · refine ⟨x, by simp, fun y hy => ?_⟩
        rcases List.mem_cons.mp hy with rfl | hy
        · exact Nat.le_refl _
        · exact Nat.le_trans q (hm y hy)
      · refine ⟨z, by simp [hz], fun y hy => ?_⟩
        rcases List.mem_cons.mp hy with rfl | hy
        · omega
        · exact hm y hy
def eAny : DE := dCall1 fAny (dGood (dLc [1, 3] (dItems (dVar 0)) (gtName 4) tYes (dAndV (dOp2 (fEq false) (dLate (dOp2 fIx (dLateAt 4) (dSee (dC (.int 1))))) (dLookAt 3)) (dOp2 (fIn false) (dLate (dOp2 fIx (dLateAt 4) (dSee (dC (.int 0))))) (dLookAt 1)))))
theorem eAny_ok {v : Web} {left : List Nat} {x : Nat} {s2 s4 : GB.Slot} (hl : v.length ≤ 1000) : eAny [.val (wD v), .val (.lst (signs left)), s2, .val (.str [x]), s4] = some (.ok (.val (.bl (blocked v left x))) [.val (wD v), .val (.lst (signs left)), s2, .val (.str [x]), s4]) := by
  obtain ⟨ρ', h1, s, rfl⟩ := lc_map (g := gtName 4) (t := tYes) (e := dAndV (dOp2 (fEq false) (dLate (dOp2 fIx (dLateAt 4) (dSee (dC (.int 1))))) (dLookAt 3)) (dOp2 (fIn false) (dLate (dOp2 fIx (dLateAt 4) (dSee (dC (.int 0))))) (dLookAt 1))) (ds := (tts v).map D.str)
    (fun ρ => ∃ s, ρ = [.un, .val (.lst (signs left)), .un, .val (.str [x]), s]) (fun _ => true) (fun d => match d with | .str [a, b] => .bl (decide (b = x) && decide (a ∈ left)) | d => d) (by
      rintro ρ ⟨s, rfl⟩ d hd
      obtain ⟨y, hy, rfl⟩ := List.mem_map.mp hd
      obtain ⟨t, ht, rfl⟩ := List.mem_map.mp hy
      have a0 : fIx (.str (tt t)) (.int 0) = some (.val (.str [t.1])) := ix2_0 _ _
      have a1 : fIx (.str (tt t)) (.int 1) = some (.val (.str [t.2])) := ix2_1 _ _
      refine ⟨_, z_gName _ _, _, z_tYes, fun z => (nomatch z), fun _ => ⟨.val (.bl (decide (t.2 = x) && decide (t.1 ∈ left))), [.un, .val (.lst (signs left)), .un, .val (.str [x]), .val (.str (tt t))], ?_, rfl, rfl, ⟨_, rfl⟩⟩⟩
      by_cases q : t.2 = x
      · simp [a0, a1, eq_str, in_lst, q]
      · simp [a0, a1, eq_str, in_lst, q]) [.un, .val (.lst (signs left)), .un, .val (.str [x]), .un] ⟨_, rfl⟩
  have h3 := lcAll_of (vs := [1, 3]) (ρ := [.val (wD v), .val (.lst (signs left)), s2, .val (.str [x]), s4]) (by simp [tts]; omega) h1
  have e : ((((tts v).map D.str).filter fun _ => true).map fun d => match d with | .str [a, b] => D.bl (decide (b = x) && decide (a ∈ left)) | d => d) = (v.map fun a => decide (a.2 = x) && decide (a.1 ∈ left)).map D.bl := by
    rw [List.filter_eq_self.mpr (by simp)]
    simp only [tts, List.map_map]
    rfl
  rw [e] at h3
  have ha := any_of (ds := (v.map fun a => decide (a.2 = x) && decide (a.1 ∈ left)).map D.bl) rfl
  have hb : ((v.map fun a => decide (a.2 = x) && decide (a.1 ∈ left)).any id) = blocked v left x := by
    rw [List.any_map]
    rfl
  rw [hb] at ha
  have hit : itemsOf (wD v) = some ((tts v).map D.str) := rfl
  simp [eAny, hit, h3, ha, -List.map_map]
theorem leads_round_ok {v : Web} (hl : v.length ≤ 100) (hr : ∃ rk : Nat → Nat, ∀ a ∈ v, rk a.1 < rk a.2) : sp_leads_round [wD v] = some (.val (.bl false), [wD v]) := by
  obtain ⟨rk, hr⟩ := hr
  have hpl : sp_places_in [wD v] = some (.val (.str (plc (tts v))), [wD v]) := places_in_ok (ts := tts v) (by rw [flat_len]; omega)
  have hpn : (plc (tts v)).length ≤ 200 := by
    have h1 : (plc (tts v)).length ≤ (tts v).flatten.length := nodup_sub_len ((plc_asc _).imp fun h => by omega) fun z hz => by
      obtain ⟨t, ht, hc⟩ := plc_mem.mp hz
      exact List.mem_flatten.mpr ⟨t, ht, hc⟩
    rw [flat_len] at h1
    omega
  obtain ⟨ρ', h1, ρl, ρf, s3, s4, rfl⟩ := sWhile_inv (t := dTruV (dLookAt 1)) (b := (sSeq (sAsg 2 (dLc [0, 1] (dItems (dVar 1)) (gtName 3) (dNotT (dTru eAny)) (dVar 3)))
  (sSeq (sIf (dTst (fEq false) (dLateAt 2) (dSee (dLst dNil))) (sSeq (sRet (dC (.bl true)))
  sNil) sNil)
  (sSeq (sAsg 1 (dLc [2] (dItems (dVar 1)) (gtName 3) (dTst (fIn true) (dLateAt 3) (dLookAt 2)) (dVar 3)))
  sNil))))
    (fun n ρ => ∃ left s2 s3 s4, ρ = [.val (wD v), .own (.lst (signs left)), s2, s3, s4] ∧ left.length ≤ n ∧ left.length ≤ 200)
    (fun ρ => ∃ s1 s2 s3 s4, ρ = [.val (wD v), s1, s2, s3, s4]) (by
      rintro n ρ ⟨left, s2, s3, s4, rfl, hn, h200⟩
      cases left with
      | nil => exact Or.inl ⟨[.val (wD v), .own (.lst (signs [])), s2, s3, s4], by simp [D.truth, signs], _, _, _, _, rfl⟩
      | cons x left0 =>
        refine Or.inr ?_
        generalize hL : x :: left0 = left at *
        have hne : left ≠ [] := by rw [← hL]; simp
        obtain ⟨m, hm, hmin⟩ := min_rank rk hne
        -- the free ones
        obtain ⟨ρ1, g1, t3, t4, rfl⟩ := lc_map (g := gtName 3) (t := dNotT (dTru eAny)) (e := dVar 3) (ds := signs left)
          (fun ρ => ∃ a b, ρ = [.val (wD v), .val (.lst (signs left)), .un, a, b]) (fun d => match d with | .str [y] => !blocked v left y | _ => false) (fun d => d) (by
            rintro ρ ⟨a, b, rfl⟩ d hd
            obtain ⟨y, hy, rfl⟩ := List.mem_map.mp hd
            have he := eAny_ok (v := v) (left := left) (x := y) (s2 := .un) (s4 := b) (by omega)
            refine ⟨_, z_gName _ _, [.val (wD v), .val (.lst (signs left)), .un, .val (.str [y]), b], ?_, fun _ => ⟨_, _, rfl⟩, fun _ => ⟨.val (.str [y]), [.val (wD v), .val (.lst (signs left)), .un, .val (.str [y]), b], ?_, rfl, rfl, ⟨_, _, rfl⟩⟩⟩
            · simp [he, D.truth]
            · simp) [.val (wD v), .val (.lst (signs left)), .un, .un, .un] ⟨_, _, rfl⟩
        have g2 := lcAll_of (vs := [0, 1]) (ρ := [.val (wD v), .val (.lst (signs left)), s2, s3, s4]) (by rw [signs_len]; omega) g1
        have g3 : ((signs left).filter fun d => match d with | .str [y] => !blocked v left y | _ => false).map (fun d => d) = signs (left.filter fun y => !blocked v left y) := by
          rw [List.map_id', signs, signs, List.filter_map]
          rfl
        rw [g3] at g2
        generalize hF : (left.filter fun y => !blocked v left y) = free at *
        have hmf : m ∈ free := by
          rw [← hF, List.mem_filter]
          refine ⟨hm, ?_⟩
          rw [Bool.not_eq_true']
          unfold blocked
          rw [List.any_eq_false]
          intro a ha
          simp only [Bool.and_eq_true, decide_eq_true_eq, not_and]
          intro e q
          have h1 := hr a ha
          have h2 := hmin a.1 q
          rw [e] at h1
          omega
        -- what is left
        obtain ⟨ρ2, k1, u3, u4, rfl⟩ := lc_map (g := gtName 3) (t := dTst (fIn true) (dLateAt 3) (dLookAt 2)) (e := dVar 3) (ds := signs left)
          (fun ρ => ∃ a b, ρ = [.un, .un, .own (.lst (signs free)), a, b]) (fun d => match d with | .str [y] => !decide (y ∈ free) | _ => false) (fun d => d) (by
            rintro ρ ⟨a, b, rfl⟩ d hd
            obtain ⟨y, hy, rfl⟩ := List.mem_map.mp hd
            refine ⟨_, z_gName _ _, [.un, .un, .own (.lst (signs free)), .val (.str [y]), b], ?_, fun _ => ⟨_, _, rfl⟩, fun _ => ⟨.val (.str [y]), [.un, .un, .own (.lst (signs free)), .val (.str [y]), b], ?_, rfl, rfl, ⟨_, _, rfl⟩⟩⟩
            · simp [in_lst]
            · simp) [.un, .un, .own (.lst (signs free)), .un, .un] ⟨_, _, rfl⟩
        have k2 := lcAll_of (vs := [2]) (ρ := [.val (wD v), .val (.lst (signs left)), .own (.lst (signs free)), s3, s4]) (by rw [signs_len]; omega) k1
        have k3 : ((signs left).filter fun d => match d with | .str [y] => !decide (y ∈ free) | _ => false).map (fun d => d) = signs (left.filter fun y => !decide (y ∈ free)) := by
          rw [List.map_id', signs, signs, List.filter_map]
          rfl
        rw [k3] at k2
        have hshort : (left.filter fun y => !decide (y ∈ free)).length < left.length := by
          refine List.length_filter_lt_length_iff_exists.mpr ⟨m, hm, ?_⟩
          simp [hmf]
        refine ⟨[.val (wD v), .own (.lst (signs left)), s2, s3, s4], [.val (wD v), .own (.lst (signs (left.filter fun y => !decide (y ∈ free)))), .own (.lst (signs free)), s3, s4], n - 1, ?_, ?_, ?_, ?_⟩
        · rw [← hL]; simp [D.truth, signs]
        · obtain ⟨f0, fr, rfl⟩ : ∃ f0 fr, free = f0 :: fr := List.exists_cons_of_ne_nil (List.ne_nil_of_mem hmf)
          have hq := eq_nil (d := .str [f0]) (ds := signs fr) (okEq_signs (f0 :: fr))
          have hq : fEq false (.lst (signs (f0 :: fr))) (.lst []) = some (.val (.bl false)) := hq
          simp [items_lst, g2, hq, k2]
        · have : 0 < left.length := List.length_pos_iff.mpr hne
          omega
        · exact ⟨_, _, _, _, rfl, by omega, by omega⟩)
    200 [.val (wD v), .own (.lst (signs (plc (tts v)))), .un, .un, .un] ⟨_, _, _, _, rfl, hpn, hpn⟩
  have hls : fList (.str (plc (tts v))) = some (.fresh (.lst (signs (plc (tts v))))) := rfl
  simp only [eAny] at h1
  simp [sp_leads_round, d_leads_round, List.replicate, hpl, hls, h1]
theorem is_way_form_ok {v : Web} (W : WayOk v) : sp_is_way_form [wD v] = some (.val (.bl true), [wD v]) := by
  have hl1 := W.web.len1
  have hl2 := W.web.len2
  rw [List.length_map] at hl1 hl2
  obtain ⟨xs, ρ', h1, h2, s1, rfl⟩ := lc_all (g := gtName 1) (e := dCall sp_is_arrow_form [false] (aVal (dVar 1) aNil)) (ds := (tts v).map D.str) (fun ρ => ∃ a, ρ = [.un, a]) (by
    rintro ρ ⟨a, rfl⟩ d hd
    obtain ⟨x, hx, rfl⟩ := List.mem_map.mp hd
    obtain ⟨t, ht, rfl⟩ := List.mem_map.mp hx
    obtain ⟨g1, g2, _⟩ := W.web.lets (srt t) (List.mem_map_of_mem ht)
    have g3 : t.1 ∈ LT ∧ t.2 ∈ LT := by
      by_cases h : t.1 ≤ t.2
      · rw [show srt t = t from if_pos h] at g1 g2; exact ⟨g1, g2⟩
      · rw [show srt t = (t.2, t.1) from if_neg h] at g1 g2; exact ⟨g2, g1⟩
    have ha := is_arrow_ok g3.1 g3.2 (W.ne ht)
    refine ⟨_, z_gName _ _, .val (.bl true), [.un, .val (.str (tt t))], ?_, rfl, rfl, ⟨_, rfl⟩⟩
    simp [ha]) [.un, .un] ⟨_, rfl⟩
  have h3 := lcAll_of (vs := []) (ρ := [.val (wD v), .un]) (by simp [tts]; omega) h1
  have hty : isiB (wD v).ty "tuple" = true := rfl
  have hit : itemsOf (wD v) = some ((tts v).map D.str) := rfl
  have hwi := web_in_ok (v := v) (by omega)
  have hwf := is_web_form_ok W.web
  have hlr := leads_round_ok (v := v) (by omega) W.rank
  simp [sp_is_way_form, d_is_way_form, List.replicate, hty, hit, h3, h2, D.truth, hwi, hwf, hlr]
theorem check_way_ok {v : Web} (W : WayOk v) : sp_check_way [wD v] = some (.val .non, [wD v]) := by
  simp [sp_check_way, d_check_way, List.replicate, is_way_form_ok W, D.truth]
end GL
namespace GL
open GB PySem
theorem addF_sub {acc : List Nat} {c : Nat} : ∀ z ∈ addF acc c, z ∈ acc ∨ z = c := by
  intro z hz
  unfold addF at hz
  split at hz
  · exact Or.inl hz
  · simpa using hz
theorem law_places_ok {v : Web} (hl : v.length ≤ 1000) : sp__law_places [wD v] = some (.val (.str (plc (tts v))), [wD v]) := by
  obtain ⟨ρ', h1, w', acc, s, hw, rfl, hlen, hacc⟩ := dFor_inv (g := gtName 2) (b := (sSeq (sAsgT (dC (.bl true)) (gtSub 1 (dGood (dOp2 fIx (dLateAt 2) (dSee (dC (.int 0)))))))
  (sSeq (sAsgT (dC (.bl true)) (gtSub 1 (dGood (dOp2 fIx (dLateAt 2) (dSee (dC (.int 1)))))))
  sNil)))
    (fun rem ρ => ∃ w' : Web, ∃ acc s, rem = (tts w').map D.str ∧ ρ = [.val (wD v), .own (.dic (kf acc yes)), s] ∧ acc.length + 2 * w'.length ≤ 2 * v.length ∧ (tts w').flatten.foldl addF acc = firsts (tts v).flatten)
    (by
      rintro d rem ρ ⟨w', acc, s, hw, rfl, hlen, hacc⟩
      cases w' with
      | nil => cases hw
      | cons t w' =>
        cases hw
        have a0 : fIx (.str (tt t)) (.int 0) = some (.val (.str [t.1])) := ix2_0 _ _
        have a1 : fIx (.str (tt t)) (.int 1) = some (.val (.str [t.2])) := ix2_1 _ _
        simp only [List.length_cons] at hlen
        have l1 := addF_len acc t.1
        have l2 := addF_len (addF acc t.1) t.2
        have s1 : setD (.dic (kf acc yes)) (.str [t.1]) (.bl true) = some (.dic (kf (addF acc t.1) yes)) := by
          rw [set_dic (by omega), upd1_yes]; rfl
        have s2 : setD (.dic (kf (addF acc t.1) yes)) (.str [t.2]) (.bl true) = some (.dic (kf (addF (addF acc t.1) t.2) yes)) := by
          rw [set_dic (by omega), upd1_yes]; rfl
        refine ⟨_, z_gName _ _, [.val (wD v), .own (.dic (kf (addF (addF acc t.1) t.2) yes)), .val (.str (tt t))], ?_, w', _, _, rfl, rfl, by omega, ?_⟩
        · simp [a0, a1, s1, s2]
        · rw [← hacc]; rfl)
    ((tts v).map D.str) [.val (wD v), .own (.dic (kf [] yes)), .un] ⟨v, [], .un, rfl, rfl, by simp, rfl⟩
  cases w' with
  | cons t w' => cases hw
  | nil =>
    have hacc : acc = firsts (tts v).flatten := hacc
    subst hacc
    have hs := list_dic (firsts (tts v).flatten) yes
    have hso := sorted_lst (firsts (tts v).flatten)
    have hp : sortN (firsts (tts v).flatten) = plc (tts v) := rfl
    have hj := join_signs (xs := plc (tts v)) (by rw [← hp, sortN_len]; simp at hlen; omega)
    have hit : itemsOf (wD v) = some ((tts v).map D.str) := rfl
    have h1 : dFor (gtName 2) _ ((tts v).map D.str) [.val (wD v), .own (.dic []), .un] = _ := h1
    simp [sp__law_places, d__law_places, List.replicate, hit, h1, hs, hso, hp, tyOf, hj]
/-! ### the sweeps -/
def relax (f : Nat → Int) (a : Nat × Nat) : Nat → Int := fun x => if x = a.2 then max (f a.2) (f a.1 + 1) else f x
def sweep (v : Web) (f : Nat → Int) : Nat → Int := v.foldl relax f
def sweeps (v : Web) : Nat → (Nat → Int) → Nat → Int
  | 0, f => f
  | n + 1, f => sweeps v n (sweep v f)
def fI (f : Nat → Int) : Nat → D := fun c => .int (f c)
theorem upd1_fI (f : Nat → Int) (c : Nat) (m : Int) : upd1 (fI f) c (.int m) = fI (fun x => if x = c then m else f x) := by
  funext x
  by_cases h : x = c
  · simp [upd1, fI, h]
  · simp [upd1, fI, h]
theorem set_fI {P : List Nat} {f : Nat → Int} {a : Nat × Nat} (h1 : a.2 ∈ P) (hl : P.length ≤ 1000000) : setD (.dic (kf P (fI f))) (.str [a.2]) (.int (max (f a.2) (f a.1 + 1))) = some (.dic (kf P (fI (relax f a)))) := by
  rw [set_dic hl, if_pos h1, upd1_fI]
  rfl
theorem add_int (i j : Int) : fAdd (.int i) (.int j) = some (.val (.int (i + j))) := rfl
theorem max_two (i j : Int) : fMax2 [.int i, .int j] = some (.val (.int (max i j))) := rfl
def bodyP : DS := (sSeq (sAsgT (dCallA fMax2 (dCons (dOp2 fIx (dLateAt 2) (dSee (dOp2 fIx (dLateAt 5) (dSee (dC (.int 1)))))) (dCons (dBinG fAdd (dOp2 fIx (dLateAt 2) (dSee (dOp2 fIx (dLateAt 5) (dSee (dC (.int 0)))))) (dC (.int 1))) dNil))) (gtSub 2 (dGood (dOp2 fIx (dLateAt 5) (dSee (dC (.int 1)))))))
  sNil)
theorem sweepP {P : List Nat} {x0 x1 s3 s4 : GB.Slot} (hP : P.length ≤ 1000000) : ∀ (w : Web) (f : Nat → Int) (s5 : GB.Slot), (∀ a ∈ w, a.1 ∈ P ∧ a.2 ∈ P) → ∃ s5', dFor (gtName 5) bodyP ((tts w).map D.str) [x0, x1, .own (.dic (kf P (fI f))), s3, s4, s5] = some (.nx [x0, x1, .own (.dic (kf P (fI (sweep w f)))), s3, s4, s5'])
  | [], f, s5, _ => ⟨s5, rfl⟩
  | a :: w, f, s5, h => by
    obtain ⟨ha1, ha2⟩ := h a (by simp)
    obtain ⟨s5', e⟩ := sweepP (x0 := x0) (x1 := x1) (s3 := s3) (s4 := s4) hP w (relax f a) (.val (.str (tt a))) fun b hb => h b (by simp [hb])
    refine ⟨s5', ?_⟩
    have a0 : fIx (.str (tt a)) (.int 0) = some (.val (.str [a.1])) := ix2_0 _ _
    have a1 : fIx (.str (tt a)) (.int 1) = some (.val (.str [a.2])) := ix2_1 _ _
    have d1 : fIx (.dic (kf P (fI f))) (.str [a.1]) = some (.val (.int (f a.1))) := ix_dic ha1
    have d2 : fIx (.dic (kf P (fI f))) (.str [a.2]) = some (.val (.int (f a.2))) := ix_dic ha2
    have st := set_fI (f := f) (a := a) ha2 hP
    have e1 : (tts (a :: w)).map D.str = .str (tt a) :: (tts w).map D.str := rfl
    rw [e1, dFor]
    simp [bodyP, a0, a1, d1, d2, add_int, max_two, st]
    simpa [bodyP, sweep] using e
theorem sweepsP {P : List Nat} {v : Web} {x1 s3 : GB.Slot} (hP : P.length ≤ 1000000) (hv : ∀ a ∈ v, a.1 ∈ P ∧ a.2 ∈ P) : ∀ (ds : List D) (f : Nat → Int) (s4 s5 : GB.Slot), ∃ s4' s5', dFor (gtName 4) (sSeq (sFor (dItems (dVar 0)) (gtName 5) bodyP) sNil) ds [.val (wD v), x1, .own (.dic (kf P (fI f))), s3, s4, s5] = some (.nx [.val (wD v), x1, .own (.dic (kf P (fI (sweeps v ds.length f)))), s3, s4', s5'])
  | [], f, s4, s5 => ⟨s4, s5, rfl⟩
  | d :: ds, f, s4, s5 => by
    obtain ⟨t5, e⟩ := sweepP (x0 := .val (wD v)) (x1 := x1) (s3 := s3) (s4 := .val d) hP v f s5 hv
    obtain ⟨s4', s5', e2⟩ := sweepsP (x1 := x1) (s3 := s3) hP hv ds (sweep v f) (.val d) t5
    refine ⟨s4', s5', ?_⟩
    have hit : itemsOf (wD v) = some ((tts v).map D.str) := rfl
    rw [dFor]
    simp [hit, e]
    exact e2
theorem dc_ones (cs : List Nat) : ∀ (acc : List Nat) (a b c d e : GB.Slot), acc.length + cs.length ≤ 1000000 → (acc ++ cs).Nodup → ∃ d', dDcGo (gtName 3) tYes (dVar 3) (dC (.int 1)) (signs cs) (kf acc (fI fun _ => 1)) [a, b, c, d, e, .un] = some (kf (acc ++ cs) (fI fun _ => 1), [a, b, c, d', e, .un]) := by
  induction cs with
  | nil => intro acc a b c d e _ _; exact ⟨d, by simp [signs, dDcGo]⟩
  | cons x cs ih =>
    intro acc a b c d e h hn
    have hx : x ∉ acc := by
      rw [List.nodup_append] at hn
      intro z
      exact hn.2.2 x z x (by simp) rfl
    obtain ⟨d', q⟩ := ih (acc ++ [x]) a b c (.val (.str [x])) e (by simp at h ⊢; omega) (by simpa using hn)
    refine ⟨d', ?_⟩
    have e1 : signs (x :: cs) = .str [x] :: signs cs := rfl
    have e2 : (kf acc (fI fun _ => 1)).length < 16777216 := by rw [kf_len]; simp at h; omega
    have e3 : dPut (kf acc (fI fun _ => 1)) (ky x) (.int 1) = kf (acc ++ [x]) (fI fun _ => 1) := by
      rw [dPut_kf, if_neg hx, upd1_fI]
      congr 1
      funext y
      simp [fI]
    rw [e1, dDcGo]
    simp only [z_gName, List.set_cons_succ, List.set_cons_zero, z_tYes, if_true, z_Val, List.getElem?_cons_succ, List.getElem?_cons_zero, z_wv, Bool.false_eq_true, if_false, z_C, z_rv, key_sign, e2, e3]
    rw [q]
    simp
theorem plc_nodup (ts : List (List Nat)) : (plc ts).Nodup := (plc_asc ts).imp fun h => by omega
theorem plc_ends {v : Web} : ∀ a ∈ v, a.1 ∈ plc (tts v) ∧ a.2 ∈ plc (tts v) := fun a ha =>
  ⟨plc_mem.mpr ⟨tt a, List.mem_map_of_mem ha, by simp [tt]⟩, plc_mem.mpr ⟨tt a, List.mem_map_of_mem ha, by simp [tt]⟩⟩
def one : Nat → Int := fun _ => 1
theorem depths_in_ok {v : Web} (hl : v.length ≤ 100) (hP : (plc (tts v)).length ≤ 500) : sp_depths_in [wD v] = some (.fresh (.lst ((plc (tts v)).map (fI (sweeps v (plc (tts v)).length one)))), [wD v]) := by
  have hpl : sp_places_in [wD v] = some (.val (.str (plc (tts v))), [wD v]) := places_in_ok (ts := tts v) (by rw [flat_len]; omega)
  obtain ⟨d', h1⟩ := dc_ones (plc (tts v)) [] .un .un .un .un .un (by simp; omega) (by simpa using plc_nodup _)
  have h1 : dDcGo (gtName 3) tYes (dVar 3) (dC (.int 1)) (signs (plc (tts v))) [] [.un, .un, .un, .un, .un, .un] = some (kf (plc (tts v)) (fI one), [.un, .un, .un, d', .un, .un]) := h1
  have h2 : dcAll [] (gtName 3) tYes (dVar 3) (dC (.int 1)) (signs (plc (tts v))) [.val (wD v), .val (.str (plc (tts v))), .un, .un, .un, .un] = some (kf (plc (tts v)) (fI one), [.val (wD v), .val (.str (plc (tts v))), .un, .un, .un, .un]) := by
    unfold dcAll
    simp [h1]
  obtain ⟨s4, s5, h3⟩ := sweepsP (P := plc (tts v)) (x1 := .val (.str (plc (tts v)))) (s3 := .un) (by omega) plc_ends (signs (plc (tts v))) one .un .un
  rw [signs_len] at h3
  generalize hf : sweeps v (plc (tts v)).length one = f at *
  obtain ⟨ρ', h4, s, rfl⟩ := lc_map (g := gtName 3) (t := tYes) (e := dOp2 fIx (dLateAt 2) (dLookAt 3)) (ds := signs (plc (tts v)))
    (fun ρ => ∃ s, ρ = [.un, .un, .own (.dic (kf (plc (tts v)) (fI f))), s, .un, .un]) (fun _ => true) (fun d => match d with | .str [c] => fI f c | d => d) (by
      rintro ρ ⟨s, rfl⟩ d hd
      obtain ⟨c, hc, rfl⟩ := List.mem_map.mp hd
      have hx : fIx (.dic (kf (plc (tts v)) (fI f))) (.str [c]) = some (.val (fI f c)) := ix_dic hc
      refine ⟨_, z_gName _ _, _, z_tYes, fun z => (nomatch z), fun _ => ⟨.val (fI f c), [.un, .un, .own (.dic (kf (plc (tts v)) (fI f))), .val (.str [c]), .un, .un], ?_, rfl, rfl, ⟨_, rfl⟩⟩⟩
      simp [hx]) [.un, .un, .own (.dic (kf (plc (tts v)) (fI f))), .un, .un, .un] ⟨_, rfl⟩
  have h5 := lcAll_of (vs := [2]) (ρ := [.val (wD v), .val (.str (plc (tts v))), .own (.dic (kf (plc (tts v)) (fI f))), .un, s4, s5]) (by rw [signs_len]; omega) h4
  have h6 : (((signs (plc (tts v))).filter fun _ => true).map fun d => match d with | .str [c] => fI f c | d => d) = (plc (tts v)).map (fI f) := by
    rw [List.filter_eq_self.mpr (by simp), signs, List.map_map]
    rfl
  rw [h6] at h5
  simp only [bodyP] at h3
  simp [sp_depths_in, d_depths_in, List.replicate, hpl, items_str, h2, h3, h5]
end GL
namespace GL
open GB PySem
def bodyL : DS := (sSeq (sAsgT (dCallA fMax2 (dCons (dOp2 fIx (dLateAt 1) (dLookAt 5)) (dCons (dBinG fAdd (dOp2 fIx (dLateAt 1) (dLookAt 4)) (dC (.int 1))) dNil))) (gtSub 1 (dLateAt 5)))
  sNil)
def gTH : D → Rho → Option (O Unit) := gtTxt 2 (gtCons (gtName 4) (gtCons (gtName 5) gtNil))
theorem gTH_ok (a : Nat × Nat) (x0 x1 x2 x3 x4 x5 : GB.Slot) : gTH (.str (tt a)) [x0, x1, x2, x3, x4, x5] = some (.ok () [x0, x1, x2, x3, .val (.str [a.1]), .val (.str [a.2])]) := by
  have e : signs (tt a) = [.str [a.1], .str [a.2]] := rfl
  have hl : (tt a).length = 2 := rfl
  simp [gTH, hl, e]
theorem sweepL {P : List Nat} {x0 x2 x3 : GB.Slot} (hP : P.length ≤ 1000000) : ∀ (w : Web) (f : Nat → Int) (s4 s5 : GB.Slot), (∀ a ∈ w, a.1 ∈ P ∧ a.2 ∈ P) → ∃ s4' s5', dFor gTH bodyL ((tts w).map D.str) [x0, .own (.dic (kf P (fI f))), x2, x3, s4, s5] = some (.nx [x0, .own (.dic (kf P (fI (sweep w f)))), x2, x3, s4', s5'])
  | [], f, s4, s5, _ => ⟨s4, s5, rfl⟩
  | a :: w, f, s4, s5, h => by
    obtain ⟨ha1, ha2⟩ := h a (by simp)
    obtain ⟨s4', s5', e⟩ := sweepL (x0 := x0) (x2 := x2) (x3 := x3) hP w (relax f a) (.val (.str [a.1])) (.val (.str [a.2])) fun b hb => h b (by simp [hb])
    refine ⟨s4', s5', ?_⟩
    have d1 : fIx (.dic (kf P (fI f))) (.str [a.1]) = some (.val (.int (f a.1))) := ix_dic ha1
    have d2 : fIx (.dic (kf P (fI f))) (.str [a.2]) = some (.val (.int (f a.2))) := ix_dic ha2
    have st := set_fI (f := f) (a := a) ha2 hP
    have e1 : (tts (a :: w)).map D.str = .str (tt a) :: (tts w).map D.str := rfl
    rw [e1, dFor, gTH_ok]
    simp [bodyL, d1, d2, add_int, max_two, st]
    simpa [bodyL, sweep] using e
theorem sweepsL {P : List Nat} {v : Web} {x2 : GB.Slot} (hP : P.length ≤ 1000000) (hv : ∀ a ∈ v, a.1 ∈ P ∧ a.2 ∈ P) : ∀ (ds : List D) (f : Nat → Int) (s3 s4 s5 : GB.Slot), ∃ s3' s4' s5', dFor (gtName 3) (sSeq (sFor (dItems (dVar 0)) gTH bodyL) sNil) ds [.val (wD v), .own (.dic (kf P (fI f))), x2, s3, s4, s5] = some (.nx [.val (wD v), .own (.dic (kf P (fI (sweeps v ds.length f)))), x2, s3', s4', s5'])
  | [], f, s3, s4, s5 => ⟨s3, s4, s5, rfl⟩
  | d :: ds, f, s3, s4, s5 => by
    obtain ⟨t4, t5, e⟩ := sweepL (x0 := .val (wD v)) (x2 := x2) (x3 := .val d) hP v f s4 s5 hv
    obtain ⟨s3', s4', s5', e2⟩ := sweepsL (x2 := x2) hP hv ds (sweep v f) (.val d) t4 t5
    refine ⟨s3', s4', s5', ?_⟩
    have hit : itemsOf (wD v) = some ((tts v).map D.str) := rfl
    rw [dFor]
    simp [hit, e]
    exact e2
theorem dict_ones {P : List Nat} (h : P.Nodup) : fDictL (.lst (P.map fun c => .tup [.str [c], .int 1])) = some (.fresh (.dic (kf P (fI one)))) := by
  have e : pairsD (P.map fun c => .tup [.str [c], .int 1]) = some (P.map fun c => (ky c, D.int 1)) := by
    clear h
    induction P with
    | nil => rfl
    | cons c P ih =>
      rw [List.map_cons, pairsD, ih]
      rfl
  have e2 : ∀ (cs acc : List Nat), (acc ++ cs).Nodup → (cs.map fun c => (ky c, D.int 1)).foldl (fun acc p => dPut acc p.1 p.2) (kf acc (fI one)) = kf (acc ++ cs) (fI one) := by
    intro cs
    induction cs with
    | nil => intro acc _; simp
    | cons x cs ih =>
      intro acc hn
      have hx : x ∉ acc := by
        rw [List.nodup_append] at hn
        intro z
        exact hn.2.2 x z x (by simp) rfl
      have e3 : dPut (kf acc (fI one)) (ky x) (.int 1) = kf (acc ++ [x]) (fI one) := by
        rw [dPut_kf, if_neg hx, upd1_fI]
        congr 1
        funext y
        simp [fI, one]
      rw [List.map_cons, List.foldl_cons]
      show List.foldl _ (dPut (kf acc (fI one)) (ky x) (.int 1)) _ = _
      rw [e3, ih (acc ++ [x]) (by simpa using hn)]
      simp
  show (pairsD (P.map fun c => .tup [.str [c], .int 1])).map (fun kvs => Res.fresh (.dic (dictL kvs))) = _
  rw [e]
  have := e2 P [] (by simpa using h)
  show some (Res.fresh (D.dic (dictL (P.map fun c => (ky c, D.int 1))))) = _
  unfold dictL
  have e0 : kf [] (fI one) = [] := rfl
  rw [e0] at this
  rw [this]
  rfl
theorem law_depths_ok {v : Web} (hl : v.length ≤ 100) (hP : (plc (tts v)).length ≤ 500) : sp__law_depths [wD v] = some (.val (.tup ((plc (tts v)).map (fI (sweeps v 7 one)))), [wD v]) := by
  have hpl := law_places_ok (v := v) (by omega)
  obtain ⟨ρ', g1, s, rfl⟩ := lc_map (g := gtName 2) (t := tYes) (e := dTup (dCons (dVar 2) (dCons (dC (.int 1)) dNil))) (ds := signs (plc (tts v)))
    (fun ρ => ∃ s, ρ = [.un, .un, s, .un, .un, .un]) (fun _ => true) (fun d => match d with | .str [c] => .tup [.str [c], .int 1] | d => d) (by
      rintro ρ ⟨s, rfl⟩ d hd
      obtain ⟨c, hc, rfl⟩ := List.mem_map.mp hd
      refine ⟨_, z_gName _ _, _, z_tYes, fun z => (nomatch z), fun _ => ⟨.val (.tup [.str [c], .int 1]), [.un, .un, .val (.str [c]), .un, .un, .un], ?_, rfl, rfl, ⟨_, rfl⟩⟩⟩
      simp) [.un, .un, .un, .un, .un, .un] ⟨_, rfl⟩
  have g2 := lcAll_of (vs := []) (ρ := [.val (wD v), .un, .un, .un, .un, .un]) (by rw [signs_len]; omega) g1
  have g3 : (((signs (plc (tts v))).filter fun _ => true).map fun d => match d with | .str [c] => D.tup [.str [c], .int 1] | d => d) = (plc (tts v)).map (fun c => .tup [.str [c], .int 1]) := by
    rw [List.filter_eq_self.mpr (by simp), signs, List.map_map]
    rfl
  rw [g3] at g2
  have g4 := dict_ones (plc_nodup (tts v))
  obtain ⟨s3, s4, s5, h3⟩ := sweepsL (P := plc (tts v)) (x2 := .un) (by omega) plc_ends (rngL 0 1 7) one .un .un .un
  rw [rngL_length] at h3
  generalize hf : sweeps v 7 one = f at *
  obtain ⟨ρ', h4, s, rfl⟩ := lc_map (g := gtName 2) (t := tYes) (e := dOp2 fIx (dLateAt 1) (dLookAt 2)) (ds := signs (plc (tts v)))
    (fun ρ => ∃ s, ρ = [.un, .own (.dic (kf (plc (tts v)) (fI f))), s, .un, .un, .un]) (fun _ => true) (fun d => match d with | .str [c] => fI f c | d => d) (by
      rintro ρ ⟨s, rfl⟩ d hd
      obtain ⟨c, hc, rfl⟩ := List.mem_map.mp hd
      have hx : fIx (.dic (kf (plc (tts v)) (fI f))) (.str [c]) = some (.val (fI f c)) := ix_dic hc
      refine ⟨_, z_gName _ _, _, z_tYes, fun z => (nomatch z), fun _ => ⟨.val (fI f c), [.un, .own (.dic (kf (plc (tts v)) (fI f))), .val (.str [c]), .un, .un, .un], ?_, rfl, rfl, ⟨_, rfl⟩⟩⟩
      simp [hx]) [.un, .own (.dic (kf (plc (tts v)) (fI f))), .un, .un, .un, .un] ⟨_, rfl⟩
  have h5 := lcAll_of (vs := [1]) (ρ := [.val (wD v), .own (.dic (kf (plc (tts v)) (fI f))), .un, s3, s4, s5]) (by rw [signs_len]; omega) h4
  have h6 : (((signs (plc (tts v))).filter fun _ => true).map fun d => match d with | .str [c] => fI f c | d => d) = (plc (tts v)).map (fI f) := by
    rw [List.filter_eq_self.mpr (by simp), signs, List.map_map]
    rfl
  rw [h6] at h5
  have hr : rngD [.int 7] = some (rngL 0 1 7) := rng_oneI (j := 7) (by decide) (by decide)
  simp only [bodyL, gTH] at h3
  simp [sp__law_depths, d__law_depths, List.replicate, hpl, items_str, g2, g4, hr, h3, h5, fTuple]
/-! ### the sweeps come to an end -/
def Sat (v : Web) (rk : Nat → Nat) (t : Nat) (f : Nat → Int) : Prop := ∀ a ∈ v, rk a.2 ≤ t → f a.1 + 1 ≤ f a.2
theorem relax_keep {v : Web} {rk : Nat → Nat} {t : Nat} {f : Nat → Int} (hr : ∀ a ∈ v, rk a.1 < rk a.2) (h : Sat v rk t f) {a : Nat × Nat} (ha : a ∈ v) : (∀ x, rk x ≤ t → relax f a x = f x) ∧ Sat v rk t (relax f a) ∧ (∀ x, f x ≤ relax f a x) := by
  have k1 : ∀ x, rk x ≤ t → relax f a x = f x := fun x hx => by
    unfold relax
    by_cases e : x = a.2
    · rw [if_pos e]
      subst e
      have := h a ha hx
      omega
    · rw [if_neg e]
  refine ⟨k1, fun b hb hbt => ?_, fun x => ?_⟩
  · rw [k1 _ hbt, k1 _ (by have := hr b hb; omega)]
    exact h b hb hbt
  · unfold relax
    by_cases e : x = a.2
    · rw [if_pos e, e]; omega
    · rw [if_neg e]; omega
theorem sweep_keep {v : Web} {rk : Nat → Nat} {t : Nat} (hr : ∀ a ∈ v, rk a.1 < rk a.2) : ∀ (w : Web) (f : Nat → Int), (∀ a ∈ w, a ∈ v) → Sat v rk t f → (∀ x, rk x ≤ t → sweep w f x = f x) ∧ Sat v rk t (sweep w f) ∧ (∀ x, f x ≤ sweep w f x)
  | [], f, _, h => ⟨fun _ _ => rfl, h, fun _ => by show f _ ≤ f _; omega⟩
  | a :: w, f, hw, h => by
    obtain ⟨a1, a2, a3⟩ := relax_keep hr h (hw a (by simp))
    obtain ⟨b1, b2, b3⟩ := sweep_keep hr w (relax f a) (fun b hb => hw b (by simp [hb])) a2
    exact ⟨fun x hx => (b1 x hx).trans (a1 x hx), b2, fun x => by have := a3 x; have := b3 x; show f x ≤ sweep w (relax f a) x; omega⟩
theorem sweep_more {v : Web} {rk : Nat → Nat} {t : Nat} (hr : ∀ a ∈ v, rk a.1 < rk a.2) : ∀ (w : Web) (f : Nat → Int), (∀ a ∈ w, a ∈ v) → Sat v rk t f → ∀ a ∈ w, rk a.2 ≤ t + 1 → sweep w f a.1 + 1 ≤ sweep w f a.2
  | [], f, _, _, a, ha, _ => by simp at ha
  | b :: w, f, hw, h, a, ha, hat => by
    obtain ⟨a1, a2, a3⟩ := relax_keep hr h (hw b (by simp))
    show sweep w (relax f b) a.1 + 1 ≤ sweep w (relax f b) a.2
    have hw' : ∀ c ∈ w, c ∈ v := fun c hc => hw c (by simp [hc])
    rcases List.mem_cons.mp ha with e | ha'
    · subst e
      obtain ⟨k1, k2, k3⟩ := sweep_keep hr w (relax f a) hw' a2
      have h1 := hr a (hw a (by simp))
      have e1 := k1 a.1 (by omega)
      have e2 := k3 a.2
      have e3 : f a.1 + 1 ≤ relax f a a.2 := by unfold relax; rw [if_pos rfl]; omega
      have e4 : relax f a a.1 = f a.1 := a1 a.1 (by omega)
      omega
    · exact sweep_more hr w (relax f b) hw' a2 a ha' hat
theorem sat_next {v : Web} {rk : Nat → Nat} {t : Nat} {f : Nat → Int} (hr : ∀ a ∈ v, rk a.1 < rk a.2) (h : Sat v rk t f) : Sat v rk (t + 1) (sweep v f) := fun a ha hat => sweep_more hr v f (fun _ h => h) h a ha hat
theorem sat_sweeps {v : Web} {rk : Nat → Nat} (hr : ∀ a ∈ v, rk a.1 < rk a.2) : ∀ (n t : Nat) (f : Nat → Int), Sat v rk t f → Sat v rk (t + n) (sweeps v n f)
  | 0, t, f, h => h
  | n + 1, t, f, h => by
    have := sat_sweeps hr n (t + 1) (sweep v f) (sat_next hr h)
    rw [show t + (n + 1) = t + 1 + n by omega]
    exact this
theorem sat_fix {v : Web} {f : Nat → Int} (h : ∀ a ∈ v, f a.1 + 1 ≤ f a.2) : sweep v f = f := by
  have : ∀ (w : Web), (∀ a ∈ w, f a.1 + 1 ≤ f a.2) → sweep w f = f := by
    intro w
    induction w with
    | nil => intro _; rfl
    | cons a w ih =>
      intro hw
      have e : relax f a = f := by
        funext x
        unfold relax
        by_cases q : x = a.2
        · rw [if_pos q]
          have := hw a (by simp)
          rw [q]; omega
        · rw [if_neg q]
      show sweep w (relax f a) = f
      rw [e]
      exact ih fun b hb => hw b (by simp [hb])
  exact this v h
theorem sweeps_fix {v : Web} {f : Nat → Int} (h : ∀ a ∈ v, f a.1 + 1 ≤ f a.2) : ∀ n, sweeps v n f = f
  | 0 => rfl
  | n + 1 => by rw [sweeps, sat_fix h]; exact sweeps_fix h n
theorem sweeps_add {v : Web} : ∀ (n m : Nat) (f : Nat → Int), sweeps v (n + m) f = sweeps v m (sweeps v n f)
  | 0, m, f => by rw [Nat.zero_add]; rfl
  | n + 1, m, f => by rw [show n + 1 + m = (n + m) + 1 by omega, sweeps, sweeps_add n m]; rfl
end GL
namespace GL
open GB PySem
structure Drawn (v : Web) : Prop where
  ok : WayOk v
  rk : ∃ rk : Nat → Nat, (∀ a ∈ v, rk a.1 < rk a.2) ∧ ∀ a ∈ v, rk a.2 ≤ (plc (tts v)).length
theorem Drawn.len {v : Web} (h : Drawn v) : 1 ≤ v.length ∧ v.length ≤ 10 := by
  have h1 := h.ok.web.len1
  have h2 := h.ok.web.len2
  rw [List.length_map] at h1 h2
  exact ⟨h1, h2⟩
theorem Drawn.few {v : Web} (h : Drawn v) : (plc (tts v)).length ≤ 7 := by
  have := h.ok.web.few
  rw [plc_srt] at this
  exact this
def dep (v : Web) : Nat → Int := sweeps v 7 one
theorem Drawn.dep_eq {v : Web} (h : Drawn v) : sweeps v (plc (tts v)).length one = dep v ∧ ∀ a ∈ v, dep v a.1 + 1 ≤ dep v a.2 := by
  obtain ⟨rk, h1, h2⟩ := h.rk
  have s0 : Sat v rk 0 one := fun a ha hat => by have := h1 a ha; omega
  have s1 := sat_sweeps h1 (plc (tts v)).length 0 one s0
  rw [Nat.zero_add] at s1
  have s2 : ∀ a ∈ v, sweeps v (plc (tts v)).length one a.1 + 1 ≤ sweeps v (plc (tts v)).length one a.2 := fun a ha => s1 a ha (h2 a ha)
  have e : dep v = sweeps v (plc (tts v)).length one := by
    unfold dep
    have hf := h.few
    have e7 : 7 = (plc (tts v)).length + (7 - (plc (tts v)).length) := by omega
    have e8 : sweeps v 7 one = sweeps v ((plc (tts v)).length + (7 - (plc (tts v)).length)) one := by rw [← e7]
    rw [e8, sweeps_add, sweeps_fix s2]
  exact ⟨e.symm, fun a ha => by rw [e]; exact s2 a ha⟩
theorem relax_bd {f : Nat → Int} {B : Int} (h : ∀ x, 0 ≤ f x ∧ f x ≤ B) (a : Nat × Nat) : ∀ x, 0 ≤ relax f a x ∧ relax f a x ≤ B + 1 := fun x => by
  unfold relax
  have h1 := h x
  have h2 := h a.1
  have h3 := h a.2
  by_cases e : x = a.2
  · rw [if_pos e]; omega
  · rw [if_neg e]; omega
theorem sweep_bd : ∀ (w : Web) {f : Nat → Int} {B : Int}, (∀ x, 0 ≤ f x ∧ f x ≤ B) → ∀ x, 0 ≤ sweep w f x ∧ sweep w f x ≤ B + w.length
  | [], f, B, h => fun x => by have := h x; show 0 ≤ f x ∧ f x ≤ B + (0 : Nat); omega
  | a :: w, f, B, h => fun x => by
    have := sweep_bd w (relax_bd h a) x
    show 0 ≤ sweep w (relax f a) x ∧ sweep w (relax f a) x ≤ B + ((w.length + 1 : Nat) : Int)
    omega
theorem sweeps_bd {v : Web} (hv : v.length ≤ 10) : ∀ (n : Nat) {f : Nat → Int} {B : Int}, (∀ x, 0 ≤ f x ∧ f x ≤ B) → ∀ x, 0 ≤ sweeps v n f x ∧ sweeps v n f x ≤ B + 10 * n
  | 0, f, B, h => fun x => by have := h x; show 0 ≤ f x ∧ f x ≤ B + 10 * (0 : Nat); omega
  | n + 1, f, B, h => fun x => by
    have h1 : ∀ x, 0 ≤ sweep v f x ∧ sweep v f x ≤ B + 10 := fun x => by have := sweep_bd v h x; omega
    have := sweeps_bd hv n h1 x
    show 0 ≤ sweeps v n (sweep v f) x ∧ sweeps v n (sweep v f) x ≤ B + 10 * ((n + 1 : Nat) : Int)
    omega
theorem dep_bd {v : Web} (hv : v.length ≤ 10) : ∀ x, 0 ≤ dep v x ∧ dep v x ≤ 71 := fun x => by
  have := sweeps_bd hv 7 (f := one) (B := 1) (fun x => by show (0 : Int) ≤ 1 ∧ (1 : Int) ≤ 1; omega) x
  unfold dep
  omega
/-! ### lists of small numbers shown -/
def small (i : Int) : Prop := 0 ≤ i ∧ i ≤ 1000
theorem small_w {i : Int} (h : small i) : PyData.weight (.int i) ≤ 11 := by
  unfold PyData.weight
  split
  · omega
  · have h1 : i.natAbs < 2 ^ 10 := by have := h.1; have := h.2; omega
    have h2 : i.natAbs ≠ 0 := by
      intro z
      have : i = 0 := by omega
      rename_i q
      simp [this] at q
    have := (Nat.log2_lt h2).mpr h1
    omega
theorem small_n {i : Int} (h : small i) : D.num (.int i) = true := by
  show decide (i.natAbs < 10 ^ 55) = true
  have h1 := h.1
  have h2 := h.2
  have : i.natAbs < 10 ^ 55 := by
    have : i.natAbs ≤ 1000 := by omega
    exact Nat.lt_of_le_of_lt this (by decide)
  exact decide_eq_true this
theorem ints_show : ∀ {P : List Nat} {f : Nat → Int}, (∀ x, small (f x)) → D.nums (P.map (fI f)) = true ∧ D.deeps (P.map (fI f)) = 0 ∧ PyData.weightAll (D.pys (P.map (fI f))) ≤ 12 * P.length
  | [], f, h => ⟨rfl, rfl, by simp [D.pys, PyData.weightAll]⟩
  | x :: P, f, h => by
    obtain ⟨a, b, c⟩ := ints_show (P := P) h
    refine ⟨?_, ?_, ?_⟩
    · simp only [List.map_cons, D.nums, a, Bool.and_true]
      exact small_n (h x)
    · simp only [List.map_cons, D.deeps, b]
      rfl
    · simp only [List.map_cons, D.pys, PyData.weightAll, List.length_cons]
      have := small_w (h x)
      have e : (fI f x).py = .int (f x) := rfl
      rw [e]
      omega
theorem intsD_map (P : List Nat) (f : Nat → Int) : intsD (P.map (fI f)) = some (P.map f) := by
  induction P with
  | nil => rfl
  | cons x P ih => show (intsD (P.map (fI f))).map (f x :: ·) = _; rw [ih]; rfl
theorem max_map {P : List Nat} {f : Nat → Int} (h : P ≠ []) : fMaxL (.lst (P.map (fI f))) = some (.val (.int (maxL (P.map f)))) := by
  show (match intsD (P.map (fI f)) with | some ns => if ns = [] then none else some (Res.val (.int (maxL ns))) | none => none) = _
  rw [intsD_map]
  simp [h]
theorem max_small {P : List Nat} {f : Nat → Int} (h : P ≠ []) (hs : ∀ x, small (f x)) : small (maxL (P.map f)) := by
  obtain ⟨x, _, e⟩ := List.mem_map.mp (maxL_mem (ns := P.map f) (by simpa using h)).1
  rw [← e]
  exact hs x
theorem show4 {P : List Nat} {f : Nat → Int} {m : Int} (hs : ∀ x, small (f x)) (hm : small m) (hP : P.length ≤ 100) : (D.lst [.tup (P.map (fI f)), .tup (P.map (fI f)), .int m, .int m]).okShow = true := by
  obtain ⟨a, b, c⟩ := ints_show (P := P) hs
  have hw := small_w hm
  unfold D.okShow
  simp only [Bool.and_eq_true, decide_eq_true_eq]
  refine ⟨⟨?_, ?_⟩, ?_⟩
  · simp only [D.num, D.nums, a, Bool.and_self, Bool.and_true]
    exact small_n hm
  · simp only [D.deep, D.deeps, b]
    decide
  · simp only [D.py, D.pys, PyData.weight, PyData.weightAll]
    simp only [PyData.weight] at hw
    omega
theorem depths_ok {v : Web} (W : Drawn v) : sp_depths [wD v] = some (.val (.tup ((plc (tts v)).map (fI (dep v)))), [wD v]) := by
  have h1 := check_way_ok W.ok
  have h2 := depths_in_ok (v := v) (by have := W.len; omega) (by have := W.few; omega)
  rw [W.dep_eq.1] at h2
  simp [sp_depths, d_depths, List.replicate, h1, h2, fTuple]
theorem Drawn.pne {v : Web} (W : Drawn v) : plc (tts v) ≠ [] := by
  have := W.len
  obtain ⟨a, v', rfl⟩ : ∃ a v', v = a :: v' := by
    cases v with
    | nil => simp at this
    | cons a v' => exact ⟨a, v', rfl⟩
  intro e
  have := (plc_ends (v := a :: v') a (by simp)).1
  rw [e] at this
  simp at this
theorem depth_ok {v : Web} (W : Drawn v) : sp_depth [wD v] = some (.val (.int (maxL ((plc (tts v)).map (dep v)))), [wD v]) := by
  have h1 := check_way_ok W.ok
  have h2 := depths_in_ok (v := v) (by have := W.len; omega) (by have := W.few; omega)
  rw [W.dep_eq.1] at h2
  have h3 := max_map (f := dep v) W.pne
  simp [sp_depth, d_depth, List.replicate, h1, h2, fMaxA, h3]
/-! ### one lap -/
noncomputable def lapB : DS := (sSeq (sAsg 2 (dCall sp__law_way [true, false] (aRef 0 (aVal (dCall sp__law_web [true, false, false] (aRef 0 (aVal (dC (.int 7)) (aVal (dC (.int 4)) aNil)))) aNil))))
  (sSeq (sPar [3, 4] (rCons (dCall sp__law_depths [false] (aVal (dVar 2) aNil)) (rCons (dCall sp__law_places [false] (aVal (dVar 2) aNil)) rNil)))
  (sSeq (sIf (dTst (fEq true) (dLate (dCall1 fRepr (dGood (dLst (dCons (dCall sp_depths [false] (aVal (dVar 2) aNil)) (dCons (dCallK sp_depths [false] [0] 0 1 aNil (aVal (dVar 2) aNil)) (dCons (dCall sp_depth [false] (aVal (dVar 2) aNil)) (dCons (dCallK sp_depth [false] [0] 0 1 aNil (aVal (dVar 2) aNil)) dNil)))))))) (dSee (dCall1 fRepr (dGood (dLst (dCons (dVar 3) (dCons (dVar 3) (dCons (dCall1 fMaxA (dLateAt 3)) (dCons (dCall1 fMaxA (dLateAt 3)) dNil))))))))) (sSeq (sRet (dC (.bl false)))
  sNil) sNil)
  (sSeq (sFor (dItems (dVar 2)) (gtTxt 2 (gtCons (gtName 5) (gtCons (gtName 6) gtNil))) (sSeq (sIf (dTst fGeD (dLate (dOp2 fIx (dLateAt 3) (dSee (dMeth "str" gIndexS (dLateAt 4) (dCons (dVar 5) dNil))))) (dSee (dOp2 fIx (dLateAt 3) (dSee (dMeth "str" gIndexS (dLateAt 4) (dCons (dVar 6) dNil)))))) (sSeq (sRet (dC (.bl false)))
  sNil) sNil)
  sNil))
  sNil))))
theorem at_idx {P : List Nat} {f : Nat → Int} {c : Nat} (h : c ∈ P) : fIx (.tup (P.map (fI f))) (.int (P.idxOf c : Nat)) = some (.val (.int (f c))) := by
  have hlt : P.idxOf c < P.length := List.idxOf_lt_length_iff.mpr h
  rw [ix_tup (by omega) (by simp; omega)]
  simp [fI]
theorem lap_ok {p p1 p2 s1 s2 s3 s4 s5 s6 : D} {t1 t2 t3 t4 t5 t6 : GB.Slot} {w v : Web} (h1 : sp__law_web [p, .int 7, .int 4] = some (.val (wD w), [p1, .int 7, .int 4])) (h2 : sp__law_way [p1, wD w] = some (.val (wD v), [p2, wD w])) (W : Drawn v) :
    ∃ t2' t3' t4' t5' t6', lapB [.par p, t1, t2, t3, t4, t5, t6] = some (.nx [.par p2, t1, t2', t3', t4', t5', t6']) := by
  have hl := W.len
  have hf := W.few
  have hd := law_depths_ok (v := v) (by omega) (by omega)
  have hd : sp__law_depths [wD v] = some (.val (.tup ((plc (tts v)).map (fI (dep v)))), [wD v]) := hd
  have hp := law_places_ok (v := v) (by omega)
  have e1 := depths_ok W
  have e2 := depth_ok W
  have hs : ∀ x, small (dep v x) := fun x => by have := dep_bd hl.2 x; unfold small; omega
  have hm := max_map (f := dep v) W.pne
  have hsh := show4 (P := plc (tts v)) (f := dep v) hs (max_small W.pne hs) (by omega)
  have hr : fRepr (.lst [.tup ((plc (tts v)).map (fI (dep v))), .tup ((plc (tts v)).map (fI (dep v))), .int (maxL ((plc (tts v)).map (dep v))), .int (maxL ((plc (tts v)).map (dep v)))]) = some (.weak (D.lst [.tup ((plc (tts v)).map (fI (dep v))), .tup ((plc (tts v)).map (fI (dep v))), .int (maxL ((plc (tts v)).map (dep v))), .int (maxL ((plc (tts v)).map (dep v)))]).shown) := if_pos hsh
  generalize hX : (D.tup ((plc (tts v)).map (fI (dep v)))) = X at *
  generalize hM : maxL ((plc (tts v)).map (dep v)) = M at *
  have hmX : fMaxA X = some (.val (.int M)) := by rw [← hX]; exact hm
  obtain ⟨ρ', k1, v', u5, u6, hv', rfl, _⟩ := dFor_inv (g := gtTxt 2 (gtCons (gtName 5) (gtCons (gtName 6) gtNil))) (b := (sSeq (sIf (dTst fGeD (dLate (dOp2 fIx (dLateAt 3) (dSee (dMeth "str" gIndexS (dLateAt 4) (dCons (dVar 5) dNil))))) (dSee (dOp2 fIx (dLateAt 3) (dSee (dMeth "str" gIndexS (dLateAt 4) (dCons (dVar 6) dNil)))))) (sSeq (sRet (dC (.bl false)))
  sNil) sNil)
  sNil))
    (fun rem ρ => ∃ v' : Web, ∃ u5 u6, rem = (tts v').map D.str ∧ ρ = [.par p2, t1, .val (wD v), .val X, .val (.str (plc (tts v))), u5, u6] ∧ ∀ a ∈ v', a ∈ v)
    (by
      rintro d rem ρ ⟨v', u5, u6, hv', rfl, hsub⟩
      cases v' with
      | nil => cases hv'
      | cons a v' =>
        cases hv'
        have ha := hsub a (by simp)
        obtain ⟨c1, c2⟩ := plc_ends (v := v) a ha
        have hlt := W.dep_eq.2 a ha
        have e : signs (tt a) = [.str [a.1], .str [a.2]] := rfl
        have hl2 : (tt a).length = 2 := rfl
        have i1 := index_str c1
        have i2 := index_str c2
        have x1 : fIx X (.int ((plc (tts v)).idxOf a.1 : Nat)) = some (.val (.int (dep v a.1))) := by rw [← hX]; exact at_idx c1
        have x2 : fIx X (.int ((plc (tts v)).idxOf a.2 : Nat)) = some (.val (.int (dep v a.2))) := by rw [← hX]; exact at_idx c2
        have hge : decide (dep v a.2 ≤ dep v a.1) = false := decide_eq_false (by omega)
        refine ⟨[.par p2, t1, .val (wD v), .val X, .val (.str (plc (tts v))), .val (.str [a.1]), .val (.str [a.2])], by simp [hl2, e], [.par p2, t1, .val (wD v), .val X, .val (.str (plc (tts v))), .val (.str [a.1]), .val (.str [a.2])], ?_, v', _, _, rfl, rfl, fun b hb => hsub b (by simp [hb])⟩
        simp [tyOf, i1, i2, x1, x2, ge_int, hge])
    ((tts v).map D.str) [.par p2, t1, .val (wD v), .val X, .val (.str (plc (tts v))), t5, t6] ⟨v, t5, t6, rfl, rfl, fun _ h => h⟩
  have hit : itemsOf (wD v) = some ((tts v).map D.str) := rfl
  refine ⟨.val (wD v), .val X, .val (.str (plc (tts v))), u5, u6, ?_⟩
  have hperm : ∀ l : LV, perm [0] [l] = [l] := fun l => rfl
  simp [lapB, h1, h2, hd, hp, e1, e2, hperm, hmX, hr, ne_str, hit, k1]
end GL
namespace GB
open PySem
/-! ### dicts whose keys are texts -/
def kt (l : List (List Nat)) : List (D × D) := l.map fun s => (D.str s, D.bl true)
def kyT (s : List Nat) : L2.Key := .inr (tx s)
theorem key_str (s : List Nat) : (D.str s).key = some (kyT s) := rfl
theorem keyD_kyT (s : List Nat) : keyD (kyT s) = .str s := by
  show D.str (tx s).cps.toList = _
  rw [tx_list]
theorem kyT_inj {a b : List Nat} (h : kyT a = kyT b) : a = b := by
  have h1 : tx a = tx b := by
    unfold kyT at h
    injection h
  exact tx_inj h1
theorem kt_any (l : List (List Nat)) (s : List Nat) : (kt l).any (fun p => decide (p.1.key = some (kyT s))) = decide (s ∈ l) := by
  induction l with
  | nil => simp [kt]
  | cons x l ih =>
    rw [kt, List.map_cons, List.any_cons]
    rw [show (l.map fun c => (D.str c, D.bl true)) = kt l from rfl, ih]
    simp only [key_str, Option.some.injEq]
    by_cases h : x = s
    · subst h; simp
    · have : kyT x ≠ kyT s := fun z => h (kyT_inj z)
      have h' : ¬ s = x := fun z => h z.symm
      simp [this, h']
theorem dPut_kt {l : List (List Nat)} {s : List Nat} : dPut (kt l) (kyT s) (.bl true) = kt (if s ∈ l then l else l ++ [s]) := by
  unfold dPut
  rw [kt_any]
  by_cases h : s ∈ l
  · simp only [h, decide_true, if_true]
    simp only [kt, List.map_map]
    refine List.map_congr_left fun x hx => ?_
    simp only [Function.comp_apply, key_str, Option.some.injEq]
    split <;> rfl
  · simp only [h, decide_false, Bool.false_eq_true, if_false]
    rw [kt, kt, List.map_append, keyD_kyT]
    rfl
theorem set_kt {l : List (List Nat)} {s : List Nat} (h : l.length ≤ 1000000) : setD (.dic (kt l)) (.str s) (.bl true) = some (.dic (kt (if s ∈ l then l else l ++ [s]))) := by
  show (if (kt l).length < 16777216 then some (D.dic (dPut (kt l) (kyT s) (.bl true))) else none) = _
  rw [if_pos (by simp [kt]; omega), dPut_kt]
theorem list_kt (l : List (List Nat)) : fList (.dic (kt l)) = some (.fresh (.lst (l.map .str))) := by
  show some (Res.fresh (.lst ((kt l).map (·.1)))) = _
  simp [kt]
theorem len_kt (l : List (List Nat)) : fLen (.dic (kt l)) = some (.val (.int l.length)) := by
  show some (Res.val (.int (kt l).length)) = _
  simp [kt]
theorem rngL_one (n : Nat) : rngL 1 1 n = (List.range' 1 n).map fun k : Nat => D.int k := by
  unfold rngL
  rw [List.range'_eq_map_range, List.map_map]
  refine List.map_congr_left fun k _ => ?_
  simp
/-- a rearrangement of a list of signs is a list of signs -/
def unS : D → Nat
  | .str [c] => c
  | _ => 0
theorem perm_signs {es : List D} {cs : List Nat} (h : es.Perm (signs cs)) : es = signs (es.map unS) ∧ (es.map unS).Perm cs := by
  constructor
  · have : ∀ d ∈ es, D.str [unS d] = d := fun d hd => by
      obtain ⟨c, _, rfl⟩ := List.mem_map.mp (h.mem_iff.mp hd)
      rfl
    rw [signs, List.map_map]
    conv => lhs; rw [← List.map_id es]
    exact List.map_congr_left fun d hd => (this d hd).symm
  · have := h.map unS
    have e : (signs cs).map unS = cs := by
      rw [signs, List.map_map]
      exact List.map_id cs
    rw [e] at this
    exact this
theorem tri {a b : List Nat} (h1 : ¬ a < b) (h2 : ¬ b < a) : a = b := List.le_antisymm (List.not_lt.mp h2) (List.not_lt.mp h1)
theorem sortT_perm (ts : List (List Nat)) : (sortT ts).Perm ts := List.mergeSort_perm ts _
theorem sortT_asc {ts : List (List Nat)} (h : ts.Nodup) : (sortT ts).Pairwise (· < ·) := by
  have h1 : (sortT ts).Pairwise fun a b => (!decide (b < a)) = true := List.pairwise_mergeSort (by
    intro a b c h1 h2
    simp only [Bool.not_eq_true', decide_eq_false_iff_not] at h1 h2 ⊢
    intro h
    by_cases q : a < b
    · exact h2 (List.lt_trans h q)
    · have e := tri q h1
      subst e
      exact h2 h) (by
    intro a b
    simp only [Bool.or_eq_true, Bool.not_eq_true', decide_eq_false_iff_not]
    by_cases q : b < a
    · exact Or.inr (List.lt_asymm q)
    · exact Or.inl q) ts
  have h2 : (sortT ts).Nodup := (sortT_perm ts).nodup_iff.mpr h
  exact (h1.and h2).imp fun {x y} ⟨a, b⟩ => by
    simp only [Bool.not_eq_true', decide_eq_false_iff_not] at a
    by_cases q : x < y
    · exact q
    · exact absurd (tri q a) b
end GB

namespace GL
open GB PySem
/-! ### the law's own way of a web -/
def rkO (ord : List Nat) (c : Nat) : Nat := (ord.map fun c => [c]).idxOf [c]
theorem rkO_lt {ord : List Nat} {c : Nat} (h : c ∈ ord) : rkO ord c < ord.length := by
  have : [c] ∈ ord.map fun c => [c] := List.mem_map_of_mem h
  have := List.idxOf_lt_length_iff.mpr this
  simpa [rkO] using this
theorem rkO_inj {ord : List Nat} {a b : Nat} (ha : a ∈ ord) (hb : b ∈ ord) (h : rkO ord a = rkO ord b) : a = b := by
  have h1 : [a] ∈ ord.map fun c => [c] := List.mem_map_of_mem ha
  have h2 : [b] ∈ ord.map fun c => [c] := List.mem_map_of_mem hb
  have e1 := List.getElem_idxOf (List.idxOf_lt_length_iff.mpr h1)
  have e2 := List.getElem_idxOf (List.idxOf_lt_length_iff.mpr h2)
  unfold rkO at h
  simp only [h] at e1
  rw [e1] at e2
  simpa using e2
theorem index_signs {ord : List Nat} {c : Nat} (h : c ∈ ord) : gIndexL (.lst (signs ord)) [.str [c]] = some (.val (.int (rkO ord c : Nat))) := by
  have hm : [c] ∈ ord.map fun c => [c] := List.mem_map_of_mem h
  show (match strsD (signs ord) with | some ts => if [c] ∈ ts then some (Res.val (.int (ts.idxOf [c] : Nat))) else none | none => none) = _
  rw [signs_eq, strsD_strs]
  simp only
  rw [if_pos hm]
  rfl
def ori (ord : List Nat) (t : Nat × Nat) : Nat × Nat := if rkO ord t.1 < rkO ord t.2 then t else (t.2, t.1)
theorem way_by_ok {w : Web} {ord : List Nat} (ho : ∀ t ∈ w, t.1 ∈ ord ∧ t.2 ∈ ord) (hl : w.length ≤ 1000) : sp__law_way_by [wD w, .lst (signs ord)] = some (.val (wD (w.map (ori ord))), [wD w, .lst (signs ord)]) := by
  obtain ⟨ρ', h1, s, rfl⟩ := lc_map (g := gtName 2) (t := tYes) (e := dIf (dTst fLtD (dLate (dMeth "list" gIndexL (dLateAt 1) (dCons (dOp2 fIx (dLateAt 2) (dSee (dC (.int 0)))) dNil))) (dSee (dMeth "list" gIndexL (dLateAt 1) (dCons (dOp2 fIx (dLateAt 2) (dSee (dC (.int 1)))) dNil)))) (dVar 2) (dRevS (dLateAt 2))) (ds := (tts w).map D.str)
    (fun ρ => ∃ s, ρ = [.un, .val (.lst (signs ord)), s]) (fun _ => true) (fun d => match d with | .str [a, b] => .str (tt (ori ord (a, b))) | d => d) (by
      rintro ρ ⟨s, rfl⟩ d hd
      obtain ⟨x, hx, rfl⟩ := List.mem_map.mp hd
      obtain ⟨t, ht, rfl⟩ := List.mem_map.mp hx
      obtain ⟨o1, o2⟩ := ho t ht
      have a0 : fIx (.str (tt t)) (.int 0) = some (.val (.str [t.1])) := ix2_0 _ _
      have a1 : fIx (.str (tt t)) (.int 1) = some (.val (.str [t.2])) := ix2_1 _ _
      have i1 := index_signs o1
      have i2 := index_signs o2
      refine ⟨_, z_gName _ _, _, z_tYes, fun z => (nomatch z), fun _ => ⟨.val (.str (tt (ori ord t))), [.un, .val (.lst (signs ord)), .val (.str (tt t))], ?_, rfl, rfl, ⟨_, rfl⟩⟩⟩
      by_cases q : rkO ord t.1 < rkO ord t.2
      · have q' : ((rkO ord t.1 : Nat) : Int) < ((rkO ord t.2 : Nat) : Int) := by omega
        simp [tyOf, a0, a1, i1, i2, lt_int, q, q', ori]
      · have q' : ¬ ((rkO ord t.1 : Nat) : Int) < ((rkO ord t.2 : Nat) : Int) := by omega
        have er : (tt t).reverse = tt (t.2, t.1) := rfl
        simp [tyOf, a0, a1, i1, i2, lt_int, q, q', ori, er]) [.un, .val (.lst (signs ord)), .un] ⟨_, rfl⟩
  have h3 := lcAll_of (vs := [1]) (ρ := [.val (wD w), .val (.lst (signs ord)), .un]) (by simp [tts]; omega) h1
  have e : ((((tts w).map D.str).filter fun _ => true).map fun d => match d with | .str [a, b] => D.str (tt (ori ord (a, b))) | d => d) = (tts (w.map (ori ord))).map D.str := by
    rw [List.filter_eq_self.mpr (by simp)]
    simp only [tts, List.map_map]
    rfl
  rw [e] at h3
  have hit : itemsOf (wD w) = some ((tts w).map D.str) := rfl
  simp [sp__law_way_by, d__law_way_by, List.replicate, hit, h3, fTuple]
  rfl
theorem srt_ori {ord : List Nat} {t : Nat × Nat} (h : t.1 < t.2) : srt (ori ord t) = t := by
  unfold ori
  by_cases q : rkO ord t.1 < rkO ord t.2
  · rw [if_pos q]; exact if_pos (by omega)
  · rw [if_neg q]; exact if_neg (by show ¬ t.2 ≤ t.1; omega)
theorem map_srt {w : Web} {ord : List Nat} (h : ∀ t ∈ w, t.1 < t.2) : (w.map (ori ord)).map srt = w := by
  rw [List.map_map]
  conv => rhs; rw [← List.map_id w]
  exact List.map_congr_left fun t ht => srt_ori (h t ht)
theorem way_ok {w : Web} {p : D} (hp : IsPail p) (W : WebOk w) : ∃ v p', sp__law_way [p, wD w] = some (.val (wD v), [p', wD w]) ∧ IsPail p' ∧ Drawn v := by
  have hl2 := W.len2
  have hf := W.few
  have hpl := law_places_ok (v := w) (by omega)
  obtain ⟨es, p', hperm, hp', hs⟩ := shuffled_ok (ds := signs (plc (tts w))) hp (by rw [signs_len]; omega)
  obtain ⟨ee, hperm⟩ := perm_signs hperm
  rw [ee] at hs
  generalize es.map unS = ord at *
  have hmem : ∀ t ∈ w, t.1 ∈ ord ∧ t.2 ∈ ord := fun t ht => ⟨hperm.mem_iff.mpr (plc_ends t ht).1, hperm.mem_iff.mpr (plc_ends t ht).2⟩
  have hw := way_by_ok hmem (by omega)
  have hlt : ∀ t ∈ w, t.1 < t.2 := fun t ht => (W.lets t ht).2.2
  have hls : fList (.str (plc (tts w))) = some (.fresh (.lst (signs (plc (tts w))))) := rfl
  refine ⟨w.map (ori ord), p', ?_, hp', ?_⟩
  · simp [sp__law_way, d__law_way, List.replicate, hpl, hls, hs, hw]
  · have hr : ∀ a ∈ w.map (ori ord), rkO ord a.1 < rkO ord a.2 := fun a ha => by
      obtain ⟨t, ht, rfl⟩ := List.mem_map.mp ha
      unfold ori
      by_cases q : rkO ord t.1 < rkO ord t.2
      · rw [if_pos q]; exact q
      · rw [if_neg q]
        have hne : rkO ord t.1 ≠ rkO ord t.2 := fun e => by
          have := rkO_inj (hmem t ht).1 (hmem t ht).2 e
          have := hlt t ht
          omega
        show rkO ord t.2 < rkO ord t.1
        omega
    have hs : (w.map (ori ord)).map srt = w := map_srt hlt
    have hpe : plc (tts (w.map (ori ord))) = plc (tts w) := by rw [← plc_srt, hs]
    refine ⟨⟨by rw [hs]; exact W, rkO ord, hr⟩, rkO ord, hr, fun a ha => ?_⟩
    rw [hpe]
    have h1 := (plc_ends a ha).2
    rw [hpe] at h1
    have := rkO_lt (hperm.mem_iff.mpr h1)
    have := hperm.length_eq
    omega
end GL
namespace GB
open PySem
theorem cutH {α : Type} {l : List α} {n : Nat} (h : n ≤ l.length) : cutL l none (some (n : Int)) = l.take n := by
  have h0 : ¬ (n : Int) < 0 := by omega
  have h1 : ((min n l.length : Nat)) = n := by omega
  unfold cutL HT.sIx
  simp [h0, h1]
  try omega
theorem add_str {s t : List Nat} (h : s.length + t.length ≤ 1000000) : fAdd (.str s) (.str t) = some (.val (.str (s ++ t))) := if_pos (by omega)
end GB
namespace GL
open GB PySem
def L12 : List Nat := [97, 98, 99, 100, 101, 102, 103, 109, 113, 120, 121, 122]
/-- ties among the letters L -/
structure Ties (L : List Nat) (w : Web) : Prop where
  mem : ∀ t ∈ w, t.1 ∈ L ∧ t.2 ∈ L ∧ t.1 < t.2
  nd : w.Nodup
theorem tt_inj {a b : Nat × Nat} (h : tt a = tt b) : a = b := by
  unfold tt at h
  simp at h
  exact Prod.ext h.1 h.2
theorem tts_mem {w : Web} {t : Nat × Nat} : tt t ∈ tts w ↔ t ∈ w := by
  constructor
  · intro h
    obtain ⟨u, hu, e⟩ := List.mem_map.mp h
    rw [← tt_inj e]; exact hu
  · exact fun h => List.mem_map_of_mem h
def addT (w : Web) (t : Nat × Nat) : Web := if t ∈ w then w else w ++ [t]
theorem tts_add (w : Web) (t : Nat × Nat) : (if tt t ∈ tts w then tts w else tts w ++ [tt t]) = tts (addT w t) := by
  unfold addT
  by_cases h : t ∈ w
  · rw [if_pos h, if_pos (tts_mem.mpr h)]
  · rw [if_neg h, if_neg fun z => h (tts_mem.mp z)]
    simp [tts]
theorem addT_mem {w : Web} {t u : Nat × Nat} : u ∈ addT w t ↔ u ∈ w ∨ u = t := by
  unfold addT
  by_cases h : t ∈ w
  · rw [if_pos h]
    exact ⟨Or.inl, fun q => q.elim id fun e => e ▸ h⟩
  · rw [if_neg h]; simp
theorem addT_len (w : Web) (t : Nat × Nat) : (addT w t).length ≤ w.length + 1 ∧ w.length ≤ (addT w t).length := by
  unfold addT
  split <;> simp
theorem Ties.add {L : List Nat} {w : Web} (h : Ties L w) {t : Nat × Nat} (ht : t.1 ∈ L ∧ t.2 ∈ L ∧ t.1 < t.2) : Ties L (addT w t) := by
  refine ⟨fun u hu => ?_, ?_⟩
  · rcases addT_mem.mp hu with q | q
    · exact h.mem u q
    · rw [q]; exact ht
  · unfold addT
    by_cases q : t ∈ w
    · rw [if_pos q]; exact h.nd
    · rw [if_neg q, List.nodup_append]
      exact ⟨h.nd, by simp, fun a ha b hb => by simp at hb; subst hb; intro z; exact q (z ▸ ha)⟩
/-- each of the letters 1 .. n - 1 is tied to an earlier one -/
def Tree (L : List Nat) (n : Nat) (w : Web) : Prop := ∀ j (hj : j < L.length), 1 ≤ j → j < n → ∃ i, ∃ hi : i < L.length, i < j ∧ (L[i], L[j]) ∈ w
theorem Tree.hangs {L : List Nat} {w : Web} (h : Tree L L.length w) (hm : ∀ t ∈ w, t.1 ∈ L ∧ t.2 ∈ L ∧ t.1 < t.2) : Hangs w := by
  intro S ⟨z0, hz0, hs0⟩ hc
  have inL : ∀ z ∈ plc (tts w), z ∈ L := fun z hz => by
    obtain ⟨s, hs, hzs⟩ := plc_mem.mp hz
    obtain ⟨t, ht, rfl⟩ := List.mem_map.mp hs
    have := hm t ht
    simp [tt] at hzs
    rcases hzs with rfl | rfl
    · exact this.1
    · exact this.2.1
  have hpos : 0 < L.length := List.length_pos_of_mem (inL z0 hz0)
  have key : ∀ j (hj : j < L.length), S L[j] ↔ S L[0] := by
    intro j
    induction j using Nat.strongRecOn with
    | ind j ih =>
      intro hj
      by_cases e : j = 0
      · subst e; exact Iff.rfl
      · obtain ⟨i, hi, hij, ht⟩ := h j hj (by omega) hj
        exact (hc _ ht).symm.trans (ih i hij hi)
  have all : ∀ z ∈ L, S z ↔ S L[0] := fun z hz => by
    obtain ⟨j, hj, rfl⟩ := List.getElem_of_mem hz
    exact key j hj
  intro z hz
  exact (all z (inL z hz)).mpr ((all z0 (inL z0 hz0)).mp hs0)
theorem web_sorted {L : List Nat} {w : Web} (hL : L.length ≤ 7) (hL2 : 2 ≤ L.length) (hLT : ∀ c ∈ L, c ∈ LT) (h : Ties L w) (ht : Tree L L.length w) (hw : w.length ≤ 10) : ∃ w', sortT (tts w) = tts w' ∧ WebOk w' := by
  have hp := sortT_perm (tts w)
  have he : ∃ w' : Web, sortT (tts w) = tts w' := by
    refine ⟨(sortT (tts w)).map fun s => (s.headD 0, s.tail.headD 0), ?_⟩
    unfold tts
    rw [List.map_map]
    conv => lhs; rw [← List.map_id (sortT _)]
    refine List.map_congr_left fun s hs => ?_
    obtain ⟨t, _, rfl⟩ := List.mem_map.mp (hp.mem_iff.mp hs)
    rfl
  obtain ⟨w', e⟩ := he
  have hm : ∀ t, t ∈ w' ↔ t ∈ w := fun t => by
    rw [← tts_mem, ← e, hp.mem_iff, tts_mem]
  have hlen : w'.length = w.length := by
    have h1 := hp.length_eq
    rw [e] at h1
    simpa [tts] using h1
  have hnd : (tts w).Nodup := by
    unfold tts
    exact List.Pairwise.map tt (fun a b hab z => hab (tt_inj z)) h.nd
  have hm' : ∀ t ∈ w', t.1 ∈ L ∧ t.2 ∈ L ∧ t.1 < t.2 := fun t ht => h.mem t ((hm t).mp ht)
  have ht' : Tree L L.length w' := fun j hj h1 h2 => by
    obtain ⟨i, hi, hij, hq⟩ := ht j hj h1 h2
    exact ⟨i, hi, hij, (hm _).mpr hq⟩
  refine ⟨w', e, ⟨?_, by omega, fun t ht => ?_, ?_, ?_, ht'.hangs hm'⟩⟩
  · obtain ⟨i, hi, _, hq⟩ := ht 1 (by omega) (by omega) (by omega)
    have : 0 < w.length := List.length_pos_of_mem hq
    omega
  · have := hm' t ht
    exact ⟨hLT _ this.1, hLT _ this.2.1, this.2.2⟩
  · rw [← e]; exact sortT_asc hnd
  · refine Nat.le_trans (nodup_sub_len (plc_nodup _) fun z hz => ?_) hL
    obtain ⟨s, hs, hzs⟩ := plc_mem.mp hz
    obtain ⟨t, ht, rfl⟩ := List.mem_map.mp hs
    have := hm' t ht
    simp [tt] at hzs
    rcases hzs with rfl | rfl
    · exact this.1
    · exact this.2.1
end GL
namespace GL
open GB PySem
noncomputable def bodyT : DS := (sSeq (sAsgT (dC (.bl true)) (gtSub 4 (dGood (dBinG fAdd (dOp2 fIx (dLateAt 3) (dSee (dCall sp__law_deal [true, false] (aRef 0 (aVal (dVar 5) aNil))))) (dOp2 fIx (dLateAt 3) (dLookAt 5))))))
  sNil)
theorem tree_ok {L : List Nat} {s1 s2 s6 s7 : GB.Slot} (hL : L.Pairwise (· < ·)) (hl : L.length ≤ 7) (h2 : 2 ≤ L.length) {p : D} (hp : IsPail p) :
    ∃ p' w s5, IsPail p' ∧ Ties L w ∧ Tree L L.length w ∧ w.length ≤ 6 ∧ dFor (gtName 5) bodyT (rngL 1 1 (L.length - 1)) [.par p, s1, s2, .val (.str L), .own (.dic (kt (tts []))), .un, s6, s7] = some (.nx [.par p', s1, s2, .val (.str L), .own (.dic (kt (tts w))), s5, s6, s7]) := by
  obtain ⟨ρ', h1, k, p', w, s5, hk, rfl, hp', hk1, hk2, ht, htr, hw⟩ := dFor_inv (g := gtName 5) (b := bodyT)
    (fun rem ρ => ∃ (k : Nat), ∃ p' w s5, rem = (List.range' k (L.length - k)).map (fun k : Nat => D.int k) ∧ ρ = [.par p', s1, s2, .val (.str L), .own (.dic (kt (tts w))), s5, s6, s7] ∧ IsPail p' ∧ 1 ≤ k ∧ k ≤ L.length ∧ Ties L w ∧ Tree L k w ∧ w.length ≤ k - 1)
    (by
      rintro d rem ρ ⟨k, p', w, s5, hr, rfl, hp', hk1, hk2, ht, htr, hw⟩
      by_cases hkl : k = L.length
      · rw [hkl, Nat.sub_self] at hr
        cases hr
      · have hkl' : k < L.length := by omega
        have hsub : L.length - k = (L.length - (k + 1)) + 1 := by omega
        rw [hsub, List.range'_succ, List.map_cons] at hr
        cases hr
        obtain ⟨m, p2, m0, m1, hp2, hd⟩ := deal_ok (top := (k : Int)) hp' (by omega) (by omega)
        have hmk : m.toNat < k := by omega
        have hml : m.toNat < L.length := by omega
        have x1 : fIx (.str L) (.int m) = some (.val (.str [L[m.toNat]])) := ix_str m0 (by omega)
        have x2 : fIx (.str L) (.int (k : Int)) = some (.val (.str [L[k]])) := ix_str (k := (k : Int)) (by omega) (by omega)
        have hadd : fAdd (.str [L[m.toNat]]) (.str [L[k]]) = some (.val (.str (tt (L[m.toNat], L[k])))) := add_str (by simp)
        have hlt : L[m.toNat] < L[k] := List.pairwise_iff_getElem.mp hL _ _ hml hkl' hmk
        have hset := set_kt (l := tts w) (s := tt (L[m.toNat], L[k])) (by simp [tts]; omega)
        rw [tts_add] at hset
        refine ⟨_, z_gName _ _, [.par p2, s1, s2, .val (.str L), .own (.dic (kt (tts (addT w (L[m.toNat], L[k]))))), .val (.int (k : Int)), s6, s7], ?_, k + 1, p2, _, _, rfl, rfl, hp2, by omega, by omega, ht.add ⟨List.getElem_mem _, List.getElem_mem _, hlt⟩, fun j hj j1 j2 => ?_, ?_⟩
        · simp [bodyT, hd, x1, x2, hadd, hset]
        · by_cases e : j = k
          · subst e
            exact ⟨m.toNat, hml, hmk, addT_mem.mpr (Or.inr rfl)⟩
          · obtain ⟨i, hi, hij, hq⟩ := htr j hj j1 (by omega)
            exact ⟨i, hi, hij, addT_mem.mpr (Or.inl hq)⟩
        · have := (addT_len w (L[m.toNat], L[k])).1
          omega)
    (rngL 1 1 (L.length - 1)) [.par p, s1, s2, .val (.str L), .own (.dic (kt (tts []))), .un, s6, s7]
    ⟨1, p, [], .un, rngL_one _, rfl, hp, Nat.le_refl _, by omega, ⟨by simp, by simp⟩, fun j hj j1 j2 => by omega, by simp⟩
  have hkl : k = L.length := by
    by_cases e : k = L.length
    · exact e
    · have hsub : L.length - k = (L.length - (k + 1)) + 1 := by omega
      rw [hsub, List.range'_succ, List.map_cons] at hk
      cases hk
  subst hkl
  exact ⟨p', w, s5, hp', ht, htr, by omega, h1⟩
noncomputable def bodyX : DS := (sSeq (sAsg 7 (dCall1 fSorted (dGood (dSl (dGood (dCall sp__law_shuffled [true, false] (aRef 0 (aVal (dCall1 fList (dLateAt 3)) aNil)))) dNoO (dSomeO (dSee (dC (.int 2))))))))
  (sSeq (sIf (dTst fLtD (dLate (dCall1 fLen (dLateAt 4))) (dSee (dC (.int 10)))) (sSeq (sAsgT (dC (.bl true)) (gtSub 4 (dGood (dBinG fAdd (dOp2 fIx (dLateAt 7) (dSee (dC (.int 0)))) (dOp2 fIx (dLateAt 7) (dSee (dC (.int 1))))))))
  sNil) sNil)
  sNil))
theorem two_sorted {ord L : List Nat} (hp : ord.Perm L) (hn : L.Nodup) (h2 : 2 ≤ L.length) : ∃ a b, a ∈ L ∧ b ∈ L ∧ a < b ∧ sortN (ord.take 2) = [a, b] := by
  have hlen := hp.length_eq
  obtain ⟨x, y, r, rfl⟩ : ∃ x y r, ord = x :: y :: r := by
    match ord, hlen with
    | [], h => simp at h; omega
    | [x], h => simp at h; omega
    | x :: y :: r, _ => exact ⟨x, y, r, rfl⟩
  have hnd : (x :: y :: r).Nodup := hp.nodup_iff.mpr hn
  have hxy : x ≠ y := by
    rw [List.nodup_cons] at hnd
    intro e
    exact hnd.1 (by rw [e]; simp)
  have hx : x ∈ L := hp.mem_iff.mp (by simp)
  have hy : y ∈ L := hp.mem_iff.mp (by simp)
  have e : (x :: y :: r).take 2 = tt (x, y) := rfl
  rw [e, sortN_two]
  unfold srt
  by_cases q : x ≤ y
  · rw [if_pos q]
    exact ⟨x, y, hx, hy, by omega, rfl⟩
  · rw [if_neg q]
    exact ⟨y, x, hy, hx, by omega, rfl⟩
theorem extras_ok {L : List Nat} {s1 s2 s5 : GB.Slot} (hn : L.Nodup) (hl : L.length ≤ 7) (h2 : 2 ≤ L.length) : ∀ (ds : List D) (p : D) (w : Web) (s6 s7 : GB.Slot), IsPail p → Ties L w → Tree L L.length w → w.length ≤ 10 →
    ∃ p' w' s6' s7', IsPail p' ∧ Ties L w' ∧ Tree L L.length w' ∧ w'.length ≤ 10 ∧ dFor (gtName 6) bodyX ds [.par p, s1, s2, .val (.str L), .own (.dic (kt (tts w))), s5, s6, s7] = some (.nx [.par p', s1, s2, .val (.str L), .own (.dic (kt (tts w'))), s5, s6', s7'])
  | [], p, w, s6, s7, hp, ht, htr, hw => ⟨p, w, s6, s7, hp, ht, htr, hw, rfl⟩
  | d :: ds, p, w, s6, s7, hp, ht, htr, hw => by
    obtain ⟨es, p', hperm, hp', hs⟩ := shuffled_ok (ds := signs L) hp (by rw [signs_len]; omega)
    obtain ⟨ee, hperm⟩ := perm_signs hperm
    rw [ee] at hs
    generalize es.map unS = ord at *
    obtain ⟨a, b, ha, hb, hab, e2⟩ := two_sorted hperm hn h2
    have hls : fList (.str L) = some (.fresh (.lst (signs L))) := rfl
    have hol : 2 ≤ (signs ord).length := by rw [signs_len, hperm.length_eq]; omega
    have hsl : fSl none (some 2) (.lst (signs ord)) = some (.fresh (.lst (signs (ord.take 2)))) := by
      show some (Res.fresh (.lst (cutL (signs ord) none (some ((2 : Nat) : Int))))) = _
      rw [cutH hol]
      simp [signs, List.map_take]
    have hso : fSorted (.lst (signs (ord.take 2))) = some (.fresh (.lst (signs [a, b]))) := by rw [sorted_lst, e2]
    have x0 : fIx (.lst (signs [a, b])) (.int 0) = some (.val (.str [a])) := ix_lst (by decide) (by simp [signs])
    have x1 : fIx (.lst (signs [a, b])) (.int 1) = some (.val (.str [b])) := ix_lst (by decide) (by simp [signs])
    have hadd : fAdd (.str [a]) (.str [b]) = some (.val (.str (tt (a, b)))) := add_str (by simp)
    have hlen : fLen (.dic (kt (tts w))) = some (.val (.int w.length)) := by rw [len_kt]; simp [tts]
    by_cases q : w.length < 10
    · have q' : ((w.length : Nat) : Int) < 10 := by omega
      have hset := set_kt (l := tts w) (s := tt (a, b)) (by simp [tts]; omega)
      rw [tts_add] at hset
      have htr' : Tree L L.length (addT w (a, b)) := fun j hj j1 j2 => by
        obtain ⟨i, hi, hij, hq⟩ := htr j hj j1 j2
        exact ⟨i, hi, hij, addT_mem.mpr (Or.inl hq)⟩
      obtain ⟨p2, w2, s6', s7', i1, i2, i3, i4, i5⟩ := extras_ok (s1 := s1) (s2 := s2) (s5 := s5) hn hl h2 ds p' (addT w (a, b)) (.val d) (.own (.lst (signs [a, b]))) hp' (ht.add ⟨ha, hb, hab⟩) htr' (by have := (addT_len w (a, b)).1; omega)
      refine ⟨p2, w2, s6', s7', i1, i2, i3, i4, ?_⟩
      rw [dFor]
      simp [bodyX, hls, hs, hsl, hso, hlen, lt_int, q', x0, x1, hadd, hset]
      simpa [bodyX] using i5
    · have q' : ¬ ((w.length : Nat) : Int) < 10 := by omega
      obtain ⟨p2, w2, s6', s7', i1, i2, i3, i4, i5⟩ := extras_ok (s1 := s1) (s2 := s2) (s5 := s5) hn hl h2 ds p' w (.val d) (.own (.lst (signs [a, b]))) hp' ht htr hw
      refine ⟨p2, w2, s6', s7', i1, i2, i3, i4, ?_⟩
      rw [dFor]
      simp [bodyX, hls, hs, hsl, hso, hlen, lt_int, q']
      simpa [bodyX] using i5
theorem web_ok {p : D} (hp : IsPail p) : ∃ w p', IsPail p' ∧ WebOk w ∧ sp__law_web [p, .int 7, .int 4] = some (.val (wD w), [p', .int 7, .int 4]) := by
  obtain ⟨es, p1, hperm, hp1, hs⟩ := shuffled_ok (ds := signs L12) hp (by rw [signs_len]; decide)
  obtain ⟨ee, hperm⟩ := perm_signs hperm
  rw [ee] at hs
  generalize es.map unS = ord at *
  obtain ⟨k, p2, k0, k1, hp2, hd⟩ := deal_ok (top := 6) hp1 (by decide) (by decide)
  have hol : ord.length = 12 := hperm.length_eq
  have hnL : (ord.take (2 + k.toNat)).Nodup := (List.take_sublist _ _).nodup (hperm.nodup_iff.mpr (by decide))
  generalize hLd : sortN (ord.take (2 + k.toNat)) = L at *
  have hLlen : L.length = 2 + k.toNat := by
    rw [← hLd, sortN_len, List.length_take]
    omega
  have hLa : L.Pairwise (· < ·) := by rw [← hLd]; exact sortN_lt hnL
  have hLn : L.Nodup := hLa.imp fun h => by omega
  have hLT : ∀ c ∈ L, c ∈ LT := fun c hc => by
    rw [← hLd, sortN_mem] at hc
    have h1 : c ∈ L12 := hperm.mem_iff.mp (List.mem_of_mem_take hc)
    have : ∀ c ∈ L12, c ∈ LT := by decide
    exact this c h1
  obtain ⟨p3, w, s5, hp3, ht, htr, hw, h1⟩ := tree_ok (s1 := .val (.int 7)) (s2 := .val (.int 4)) (s6 := .un) (s7 := .un) hLa (by omega) (by omega) hp2
  obtain ⟨m, p4, m0, m1, hp4, hm⟩ := deal_ok (top := 5) hp3 (by decide) (by decide)
  obtain ⟨p5, w', s6, s7, hp5, ht', htr', hw', h2⟩ := extras_ok (s1 := .val (.int 7)) (s2 := .val (.int 4)) (s5 := s5) hLn (by omega) (by omega) (rngL 0 1 m.toNat) p4 w .un .un hp4 ht htr (by omega)
  obtain ⟨w2, e2, W⟩ := web_sorted (by omega) (by omega) hLT ht' htr' hw'
  refine ⟨w2, p5, hp5, W, ?_⟩
  have hls : fList (.str [97, 98, 99, 100, 101, 102, 103, 109, 113, 120, 121, 122]) = some (.fresh (.lst (signs L12))) := rfl
  have hadd : fAdd (.int 2) (.int k) = some (.val (.int (2 + k))) := rfl
  have hsl : fSl none (some (2 + k)) (.lst (signs ord)) = some (.fresh (.lst (signs (ord.take (2 + k.toNat))))) := by
    have e : (2 + k : Int) = ((2 + k.toNat : Nat) : Int) := by omega
    rw [e]
    show some (Res.fresh (.lst (cutL (signs ord) none (some ((2 + k.toNat : Nat) : Int))))) = _
    rw [cutH (by rw [signs_len]; omega)]
    simp [signs, List.map_take]
  have hso : fSorted (.lst (signs (ord.take (2 + k.toNat)))) = some (.fresh (.lst (signs L))) := by rw [sorted_lst, hLd]
  have hj := join_signs (xs := L) (by omega)
  have hr1 : rngD [.int 1, .int (L.length : Int)] = some (rngL 1 1 (L.length - 1)) := by
    rw [rng_two (by decide) (by decide) (by omega) (by omega)]
    congr 2
    omega
  have hr2 : rngD [.int m] = some (rngL 0 1 m.toNat) := rng_oneI m0 (by omega)
  have hlk := list_kt (tts w')
  have hsk : fSorted (.lst ((tts w').map .str)) = some (.fresh (.lst ((tts w2).map .str))) := by rw [sorted_strs, e2]
  have s61 : fSub (.int 7) (.int 1) = some (.val (.int 6)) := rfl
  have a51 : fAdd (.int 4) (.int 1) = some (.val (.int 5)) := rfl
  have hk0 : kt (tts []) = [] := rfl
  rw [hk0] at h1
  simp only [bodyT] at h1
  simp only [bodyX] at h2
  simp [sp__law_web, d__law_web, List.replicate, hls, hs, s61, hd, hadd, hsl, hso, tyOf, hj, len_str, hr1, h1, a51, hm, hr2, h2, hlk, hsk, fTuple]
  rfl
end GL
namespace GL
open GB PySem
theorem right_ok {p : D} (hp : IsPail p) : ∃ p', sp__law_right [p] = some (.val (.bl true), [p']) := by
  obtain ⟨ρ', h1, p', t1, t2, t3, t4, t5, t6, hp', rfl⟩ := dFor_inv (g := gtName 1) (b := lapB)
    (fun rem ρ => ∃ p' t1 t2 t3 t4 t5 t6, IsPail p' ∧ ρ = [.par p', t1, t2, t3, t4, t5, t6])
    (by
      rintro d rem ρ ⟨p', t1, t2, t3, t4, t5, t6, hp', rfl⟩
      obtain ⟨w, p1, hp1, W, h1⟩ := web_ok hp'
      obtain ⟨v, p2, h2, hp2, hv⟩ := way_ok hp1 W
      obtain ⟨a2, a3, a4, a5, a6, h3⟩ := lap_ok (s1 := .non) (s2 := .non) (s3 := .non) (s4 := .non) (s5 := .non) (s6 := .non) (t1 := .val d) (t2 := t2) (t3 := t3) (t4 := t4) (t5 := t5) (t6 := t6) h1 h2 hv
      exact ⟨_, z_gName _ _, _, h3, _, _, _, _, _, _, _, hp2, rfl⟩)
    (rngL 0 1 12) [.par p, .un, .un, .un, .un, .un, .un] ⟨p, .un, .un, .un, .un, .un, .un, hp, rfl⟩
  have hr : rngD [.int 12] = some (rngL 0 1 12) := rng_oneI (j := 12) (by decide) (by decide)
  refine ⟨p', ?_⟩
  simp only [lapB] at h1
  simp [sp__law_right, d__law_right, List.replicate, hr, h1]
def bodyM : DS := (sSeq (sAsg 2 (dBin fMod (dCall1 fInt1 (dGood (dBinG fAdd (dBinG fAdd (dBin fMul (dVar 2) (dC (.int 58013))) (dBin fMul (dBin fMod (dCall1 fInt1 (dLateAt 3)) (dC (.int 2147483489))) (dC (.int 13)))) (dC (.int 7))))) (dC (.int 2147483489))))
  sNil)
theorem int_one (i : Int) : fInt1 (.int i) = some (.val (.int i)) := rfl
theorem mul_okR {i j : Int} (h : -(2 ^ 64) < j ∧ j < 2 ^ 64) : fMul (.int i) (.int j) = some (.val (.int (i * j))) := if_pos (cMulR h i)
theorem mul_okL {i j : Int} (h : -(2 ^ 64) < i ∧ i < 2 ^ 64) : fMul (.int i) (.int j) = some (.val (.int (i * j))) := if_pos (cMulL h j)
theorem mod_ok {i j : Int} (h : 0 < j) : fMod (.int i) (.int j) = some (.val (.int (i % j))) := if_pos (decide_eq_true h)
theorem pow_ok : fPow (.int 10) (.int 15) = some (.val (.int 1000000000000000)) := by
  show (if cPow 10 15 = true then some (Res.val (.int ((10 : Int) ^ (15 : Int).toNat))) else none) = _
  rw [if_pos (by decide)]
  rfl
theorem pail_ok {ns : List Int} {turn : Int} (h0 : 0 ≤ turn) : ∃ q, IsPail q ∧ sp__law_pail [.lst (ns.map D.int), .int turn] = some (.fresh q, [.lst (ns.map D.int), .int turn]) := by
  generalize hcs : cutL ns none (some 12) = cs
  obtain ⟨ρ', h1, m, s3, rfl, _⟩ := dFor_inv (g := gtName 3) (b := bodyM)
    (fun rem ρ => ∃ (m : Int), ∃ s3, ρ = [.val (.lst (ns.map D.int)), .val (.int turn), .val (.int m), s3, .un] ∧ ∃ cs : List Int, rem = cs.map D.int)
    (by
      rintro d rem ρ ⟨m, s3, rfl, cs, hcs⟩
      cases cs with
      | nil => cases hcs
      | cons c cs =>
        cases hcs
        refine ⟨_, z_gName _ _, [.val (.lst (ns.map D.int)), .val (.int turn), .val (.int ((m * 58013 + c % 2147483489 * 13 + 7) % 2147483489)), .val (.int c), .un], ?_, _, _, rfl, cs, rfl⟩
        simp [bodyM, mul_okR (j := 58013) (by decide), mul_okR (j := 13) (by decide), mod_ok (j := 2147483489) (by decide), int_one, add_int])
    (cs.map D.int) [.val (.lst (ns.map D.int)), .val (.int turn), .val (.int (95003 + 9901 * turn)), .un, .un] ⟨_, .un, rfl, cs, rfl⟩
  have hsl : fSl none (some 12) (.lst (ns.map D.int)) = some (.fresh (.lst (cs.map D.int))) := by
    show some (Res.fresh (.lst (cutL (ns.map D.int) none (some 12)))) = _
    rw [cutL_map, hcs]
  have hm : fMul (.int 9901) (.int turn) = some (.val (.int (9901 * turn))) := mul_okL (by decide)
  simp only [bodyM] at h1
  have hlen : fLen (.lst (ns.map D.int)) = some (.val (.int (ns.length : Int))) := by rw [len_lst, List.length_map]
  have own : ∃ o : Int, (dIf (dTst fLtD (dLateAt 1) (dSee (dCall1 fLen (dLateAt 0)))) (dCall1 fInt1 (dGood (dOp2 fIx (dLateAt 0) (dLookAt 1)))) (dC (.int 0))) [.val (.lst (ns.map D.int)), .val (.int turn), .val (.int m), s3, .un] = some (.ok (.val (.int o)) [.val (.lst (ns.map D.int)), .val (.int turn), .val (.int m), s3, .un]) := by
    by_cases q : turn < (ns.length : Int)
    · have hx := ix_lst (s := ns.map D.int) (k := turn) h0 (by simpa using q)
      have e : (ns.map D.int)[turn.toNat]'(by simp; omega) = .int (ns[turn.toNat]'(by omega)) := by simp
      rw [e] at hx
      exact ⟨_, by simp [hlen, lt_int, q, hx, int_one]; rfl⟩
    · exact ⟨0, by simp [hlen, lt_int, q]⟩
  obtain ⟨o, ho⟩ := own
  generalize hM : (m * 89 + o % 2147483489 * 68023 + 11) % 2147483489 = M
  by_cases q : o < 0 ∨ 1000000000000000 ≤ o
  · refine ⟨.lst [.int (if o < 0 then -o else o), .int M, .int 0], ⟨_, _, _, rfl⟩, ?_⟩
    have hab : fAbs (.int o) = some (.val (.int (if o < 0 then -o else o))) := rfl
    by_cases q1 : o < 0
    · have q1' : decide (o < 0) = true := decide_eq_true q1
      simp [sp__law_pail, d__law_pail, List.replicate, hm, add_int, hsl, items_lst, h1, -z_If]
      simp [ho, -z_If]
      simp [int_one, add_int, mul_okR (j := 89) (by decide), mul_okR (j := 68023) (by decide), mod_ok (j := 2147483489) (by decide), hM, lt_int, ge_int, q1, hab]
    · have q2 : 1000000000000000 ≤ o := by omega
      simp [sp__law_pail, d__law_pail, List.replicate, hm, add_int, hsl, items_lst, h1, -z_If]
      simp [ho, -z_If]
      simp [int_one, add_int, mul_okR (j := 89) (by decide), mul_okR (j := 68023) (by decide), mod_ok (j := 2147483489) (by decide), hM, lt_int, ge_int, q1, q2, hab, pow_ok]
  · refine ⟨.lst [.int 0, .int M, .int 0], ⟨_, _, _, rfl⟩, ?_⟩
    have q1 : ¬ o < 0 := fun z => q (Or.inl z)
    have q2 : ¬ 1000000000000000 ≤ o := fun z => q (Or.inr z)
    simp [sp__law_pail, d__law_pail, List.replicate, hm, add_int, hsl, items_lst, h1, -z_If]
    simp [ho, -z_If]
    simp [int_one, add_int, mul_okR (j := 89) (by decide), mul_okR (j := 68023) (by decide), mod_ok (j := 2147483489) (by decide), hM, lt_int, ge_int, q1, q2, pow_ok]
theorem law_math (ns : List Int) (hl : ns.length ≤ 63) (hb : ∀ m ∈ ns, Builtin.Int.intBits m ≤ 1048576) : sp_law [.lst (ns.map D.int)] = some (.val (.bl true), [.lst (ns.map D.int)]) := by
  have hlen : fLen (.lst (ns.map D.int)) = some (.val (.int (ns.length : Int))) := by rw [len_lst, List.length_map]
  have hmin : fMin2 [.int (ns.length : Int), .int 3] = some (.val (.int (min (ns.length : Int) 3))) := rfl
  have hmax : fMax2 [.int 2, .int (min (ns.length : Int) 3)] = some (.val (.int (max 2 (min (ns.length : Int) 3)))) := rfl
  generalize hn : max 2 (min (ns.length : Int) 3) = n at *
  have hn0 : 0 ≤ n ∧ n ≤ 3 := by omega
  have hr : rng1 [.int n] = some (rngL 0 1 n.toNat) := if_pos (by omega)
  obtain ⟨xs, ρ', h1, h2, s, rfl⟩ := lc_all (g := gtName 1) (e := dCallF sp__law_right (dCall sp__law_pail [false, false] (aVal (dVar 0) (aVal (dVar 1) aNil)))) (ds := rngL 0 1 n.toNat) (fun ρ => ∃ s, ρ = [.val (.lst (ns.map D.int)), s]) (by
    rintro ρ ⟨s, rfl⟩ d hd
    obtain ⟨k, _, rfl⟩ := List.mem_map.mp hd
    obtain ⟨q, hq, hpl⟩ := pail_ok (ns := ns) (turn := 0 + (k : Int) * 1) (by omega)
    obtain ⟨q', hr⟩ := right_ok hq
    refine ⟨_, z_gName _ _, .val (.bl true), [.val (.lst (ns.map D.int)), .val (.int (0 + (k : Int) * 1))], ?_, rfl, rfl, ⟨_, rfl⟩⟩
    generalize (0 + (k : Int) * 1) = kk at *
    simp [hpl, hr]) [.val (.lst (ns.map D.int)), .un] ⟨_, rfl⟩
  have h3 := lcAll_of (vs := [0]) (ρ := [.val (.lst (ns.map D.int)), .un]) (by rw [rngL_length]; omega) h1
  simp [sp_law, d_law, List.replicate, hlen, hmin, hmax, hr, h3, h2]
end GL
/-! Sets of texts: set(v), len of it, sorted of it. -/
namespace GB
open PySem PySem.Spec PyProof.Rows
open L2 (Key keyH keyIs mixKind Mod Look Vis Loc frs thn Ris SetAt)
def strOf (e : Int × Value) : List Nat := match e.2 with | .str x _ => x.cps.toList | _ => []
def GoodT (P : Program) (w : World) (F : FH) (T : Nat) (e : Int × Value) : Prop := ∃ s, Rep w F T e.2 (.str s) ∧ e.1 = (strKind P w).hash (tx s)
/-- the set of texts at a: L its members in some order; it can be gone through -/
def SetX (P : Program) (w : World) (F : FH) (h : Heap) (a : Addr) (T : Nat) (L : List (List Nat)) : Prop :=
  ∃ o es ep t, h.get? a = some o ∧ o.ExactSet ∧ o.data = .set es ep t ∧ (∀ e ∈ es.toList, GoodT P w F T e) ∧ (es.toList.map strOf).Perm L ∧ L.Nodup ∧
    es.size < scanBound ∧ t.fits es.size = true ∧ Ris t.place.toList ∧ (w.params.followText "set-order" = true ∨ t.led = true)
section
variable {P : Program} {w : World} {F : FH} {h h' : Heap} {a : Addr} {T T' : Nat} {L : List (List Nat)}
theorem GoodT.mono {e : Int × Value} (g : GoodT P w F T e) (t : T ≤ T') : GoodT P w F T' e := by
  obtain ⟨s, r, h⟩ := g
  exact ⟨s, r.mono (Sub.refl _) t, h⟩
theorem SetX.at (R : SetX P w F h a T L) (k : ∀ o, h.get? a = some o → h'.get? a = some o) (t : T ≤ T') : SetX P w F h' a T' L := by
  obtain ⟨o, es, ep, tb, ho, hx, hd, g, r⟩ := R
  exact ⟨o, es, ep, tb, k o ho, hx, hd, fun e he => (g e he).mono t, r⟩
theorem strOf_good {e : Int × Value} (g : GoodT P w F T e) : ∃ t, e.2 = .str (tx (strOf e)) t ∧ e.1 = (strKind P w).hash (tx (strOf e)) := by
  obtain ⟨s, r, h⟩ := g
  obtain ⟨t, e2, _⟩ := r.str_inv
  have : strOf e = s := by
    unfold strOf
    rw [e2]
    exact tx_list s
  rw [this]
  exact ⟨t, e2, h⟩
theorem goodT_elems {l : List (Int × Value)} (g : ∀ e ∈ l, GoodT P w F T e) : ElemsOf (strKind P w) l := fun e he => by
  obtain ⟨t, h1, h2⟩ := strOf_good (g e he)
  exact ⟨⟨tx (strOf e), by rw [h1]; exact strKind_is P w _ t, h2⟩, by rw [h1] <;> rfl⟩
theorem goodT_is {e : Int × Value} (g : GoodT P w F T e) (s : List Nat) : (strKind P w).is (tx s) e.2 = true ↔ strOf e = s := by
  obtain ⟨t, h1, _⟩ := strOf_good g
  rw [h1]
  show ((tx (strOf e) == tx s) = true) ↔ _
  rw [beq_iff_eq]
  exact ⟨fun z => tx_inj z, fun z => by rw [z]⟩
theorem goodT_mem {l : List (Int × Value)} (g : ∀ e ∈ l, GoodT P w F T e) (s : List Nat) : s ∈ l.map strOf ↔ ∃ e ∈ l, (strKind P w).is (tx s) e.2 = true := by
  rw [List.mem_map]
  constructor
  · rintro ⟨e, he, q⟩
    exact ⟨e, he, (goodT_is (g e he) s).2 q⟩
  · rintro ⟨e, he, q⟩
    exact ⟨e, he, (goodT_is (g e he) s).1 q⟩
theorem setX_fresh {h : Heap} {a : Addr} (ho : h.get? a = some { cls := .type "set", dict := none, data := .set #[] 0 (.fresh 0 0 (!w.params.followText "set-order")) }) : SetX P w F h a T [] :=
  ⟨_, #[], 0, _, ho, ⟨rfl, rfl, rfl⟩, rfl, (fun e he => by simp at he), List.Perm.refl _, List.nodup_nil, (by decide), (by rfl), List.Pairwise.nil, by
    show _ ∨ (!w.params.followText "set-order") = true
    cases w.params.followText "set-order"
    · exact .inr rfl
    · exact .inl rfl⟩
end
section
variable {P : Program} {w : World} {A : Around} {E : Value → Shared → Prop} {s : Shared} {a : Addr} {F : FH} {T : Nat} {L : List (List Nat)}
/-- what stands behind a new member is laid -/
theorem setX_tail {g : Bool → Sem Unit} (hg : ∀ (b : Bool) (s₁ : Shared) (Q' : Unit → Shared → Prop), Q' () s₁ → wpAny (model P w) A (g b) Q' E s₁)
    {o : Obj} {es : Array (Int × Value)} {ep : Nat} {t : SetTable} (ho : s.heap.get? a = some o) (hex : o.ExactSet) (hd : o.data = .set es ep t)
    {es1 : Array (Int × Value)} {t2 : SetTable} {L' : List (List Nat)} (g1 : ∀ e ∈ es1.toList, GoodT P w F T e) (p1 : (es1.toList.map strOf).Perm L') (nd1 : L'.Nodup)
    (hb1 : es1.size < scanBound) (hf2 : t2.fits es1.size = true) (hr : Ris t2.place.toList) (hl : w.params.followText "set-order" = true ∨ t2.led = true) {wasDummy : Bool} {R : Option Bool → Shared → Prop}
    (hR : ∀ h', Heap.SameBut a s.heap h' → SetX P w F h' a T L' → R (some true) { s with heap := h' }) :
    wpAny (model P w) A (do
        storeSet a es1 t2
        if (!wasDummy && t2.tooFull) = true then do
            g (relayAll t2 es1 (SetTable.grown es1.size)).2.2
            storeSet a (relayAll t2 es1 (SetTable.grown es1.size)).1 (relayAll t2 es1 (SetTable.grown es1.size)).2.1
            pure (some true)
          else pure (some true)) R E s := by
  refine wpAny_bind (wpAny_storeSet_of ho hd ?_ (fits_of_scanBound hb1))
  have ho1 := L2.store_at (es' := es1) (t' := t2) ho hd
  have sb1 := Heap.SameBut.update s.heap a (Obj.putSet es1 t2)
  split
  · have pm := relayAll_perm t2 es1 (SetTable.grown es1.size)
    have hf3 := relayAll_fits t2 es1 (SetTable.grown es1.size)
    have hr3 := L2.relayAll_ris t2 es1 (SetTable.grown es1.size)
    have hl3 := L2.relayAll_led t2 es1 (SetTable.grown es1.size)
    generalize relayAll t2 es1 (SetTable.grown es1.size) = Z at pm hf3 hr3 hl3 ⊢
    obtain ⟨es2, t3, gave⟩ := Z
    dsimp only at pm hf3 hr3 hl3 ⊢
    have hsz : es2.size = es1.size := by rw [← Array.length_toList, pm.length_eq, Array.length_toList]
    have hb2 : es2.size < scanBound := by rw [hsz]; exact hb1
    refine wpAny_bind (hg _ _ _ ?_)
    refine wpAny_bind (wpAny_storeSet_of ho1 rfl ?_ (fits_of_scanBound hb2))
    have ho2 := L2.store_at (es' := es2) (t' := t3) ho1 rfl
    refine wpAny_pure (hR _ (sb1.trans (Heap.SameBut.update _ a _)) ?_)
    exact ⟨_, es2, _, t3, ho2, hex, rfl, fun e he => g1 e (pm.mem_iff.mp he), (pm.map strOf).trans p1, nd1, hb2, hf3, hr3, hl.imp id fun z => by rw [hl3]; exact z⟩
  · exact wpAny_pure (hR _ sb1 ⟨_, es1, _, t2, ho1, hex, rfl, g1, p1, nd1, hb1, hf2, hr, hl⟩)
theorem setX_add {x : List Nat} {v : Value} {Q : Bool → Shared → Prop} (R : SetX P w F s.heap a T L) (rv : Rep w F T v (.str x)) (room : L.length + 1 < scanBound)
    (hQ : ∀ h' b, Heap.SameBut a s.heap h' → SetX P w F h' a T (if x ∈ L then L else L ++ [x]) → Q b { s with heap := h' }) :
    wpAny (model P w) A (setAddHashed a v ((strKind P w).hash (tx x))) Q E s := by
  obtain ⟨o, es, ep, t, ho, hex, hd, g, pe, nd, hb, hf, hr, hl⟩ := R
  obtain ⟨tk, rfl, hz⟩ := rv.str_inv
  have hkey : (strKind P w).is (tx x) (.str (tx x) tk) = true := strKind_is P w _ tk
  have hsc : (Value.str (tx x) tk).scannable = true := rfl
  have hel : ElemsOf (strKind P w) es.toList := goodT_elems g
  have hn : es.size = L.length := by rw [← Array.length_toList, ← pe.length_eq, List.length_map]
  unfold setAddHashed setAddHashedIn
  refine wpAny_holding (wpAny_bind (wpAny_setState_of ho hd hf ?_))
  dsimp only
  rw [byScan_of hsc hb hel]
  simp only [↓reduceIte]
  unfold setAddByScan
  refine wpAny_bind ?_
  refine wpAny_bind (wpAny_rule ?_)
  refine wpAny_bind (wpAny_setScan_of hkey ho hd hf hel ?_)
  cases hfi : List.findIdx? (fun e => (strKind P w).is (tx x) e.2) es.toList with
  | some j =>
    dsimp only
    obtain ⟨hj, pj, _⟩ := List.findIdx?_eq_some_iff_getElem.mp hfi
    have hm : x ∈ L := pe.mem_iff.mp ((goodT_mem g x).2 ⟨es.toList[j], List.getElem_mem hj, pj⟩)
    refine wpAny_pure (wpAny_pure ?_)
    refine hQ s.heap _ (Heap.SameBut.refl a s.heap) ?_
    rw [if_pos hm]
    exact ⟨o, es, ep, t, ho, hex, hd, g, pe, nd, hb, hf, hr, hl⟩
  | none =>
    dsimp only
    have hnm : x ∉ L := fun z => by
      obtain ⟨e, he, q⟩ := (goodT_mem g x).1 (pe.mem_iff.mpr z)
      have c := List.findIdx?_eq_none_iff.mp hfi e he
      rw [q] at c
      cases c
    have hgw : ∀ (b : Bool) {s₁ : Shared} {Q' : Unit → Shared → Prop}, Q' () s₁ → wpAny (model P w) A (match b with | true => rule "set.scan.the-table-gave-way" | false => pure ()) Q' E s₁ :=
      fun b s₁ Q' q => by cases b <;> first | exact wpAny_pure q | exact wpAny_rule q
    have pm := layNew_perm t es ((strKind P w).hash (tx x)) (.str (tx x) tk)
    have hf1 := layNew_fits t es ((strKind P w).hash (tx x)) (.str (tx x) tk)
    have hr1 := L2.layNew_ris t es ((strKind P w).hash (tx x)) (.str (tx x) tk) hr
    have hl1 := L2.layNew_led t es ((strKind P w).hash (tx x)) (.str (tx x) tk)
    generalize layNew t es ((strKind P w).hash (tx x)) (.str (tx x) tk) = Z at pm hf1 hr1 hl1 ⊢
    obtain ⟨es1, t1, wasDummy, gave⟩ := Z
    dsimp only at pm hf1 hr1 hl1 ⊢
    rw [Array.toList_push] at pm
    have g1 : ∀ e ∈ es1.toList, GoodT P w F T e := fun e he => by
      rcases List.mem_append.mp (pm.mem_iff.mp he) with z | z
      · exact g e z
      · rw [List.mem_singleton.mp z]; exact ⟨x, rv, rfl⟩
    have p1 : (es1.toList.map strOf).Perm (L ++ [x]) := by
      have q := pm.map strOf
      rw [List.map_append] at q
      have e : [((strKind P w).hash (tx x), Value.str (tx x) tk)].map strOf = [x] := by
        show [strOf _] = [x]
        congr 1
      rw [e] at q
      exact q.trans (pe.append_right [x])
    have nd1 : (L ++ [x]).Nodup := List.nodup_append.mpr ⟨nd, by simp, fun y hy z hz => by
      rw [List.mem_singleton] at hz
      rw [hz]
      exact fun e => hnm (e ▸ hy)⟩
    have hsz : es1.size = L.length + 1 := by rw [← Array.length_toList, pm.length_eq, List.length_append, Array.length_toList, hn]; rfl
    have hb1 : es1.size < scanBound := by rw [hsz]; exact room
    have hled : w.params.followText "set-order" = true ∨ t1.led = true := hl.imp id fun z => by rw [hl1]; exact z
    have fin : ∀ h', Heap.SameBut a s.heap h' → SetX P w F h' a T (L ++ [x]) → Q true { s with heap := h' } := fun h' sb r => by
      have q := hQ h' true sb
      rw [if_neg hnm] at q
      exact q r
    refine wpAny_bind (hgw _ ?_)
    split
    · refine wpAny_bind ?_
      rw [hashByValue_scannable 8 hsc]
      refine wpAny_pure ?_
      refine setX_tail ?_ ho hex hd g1 p1 nd1 hb1 ?_ ?_ ?_ ?_
      · intro b s₁ Q' q; cases b <;> first | exact wpAny_pure q | exact wpAny_rule q
      · first | (split <;> first | exact hf1 | exact SetTable.fits_plain_off hf1) | exact hf1
      · first | (split <;> exact hr1) | exact hr1
      · first | (split <;> exact hled) | exact hled
      · intro h' sb r; dsimp only; exact wpAny_pure (fin h' sb r)
    · refine wpAny_bind (wpAny_pure ?_)
      simp only [↓reduceIte]
      refine setX_tail ?_ ho hex hd g1 p1 nd1 hb1 hf1 hr1 hled ?_
      · intro b s₁ Q' q; cases b <;> first | exact wpAny_pure q | exact wpAny_rule q
      · intro h' sb r; dsimp only; exact wpAny_pure (fin h' sb r)
end
end GB
/-! set(v) of texts: the call. -/
namespace GB
open PySem PySem.Spec PyProof.Rows
open L2 (Key keyH keyIs mixKind Mod Look Vis Loc frs thn Ris SetAt)
def addX (L : List (List Nat)) (x : List Nat) : List (List Nat) := if x ∈ L then L else L ++ [x]
theorem addX_len (L : List (List Nat)) (x : List Nat) : (addX L x).length ≤ L.length + 1 := by
  unfold addX; split
  · omega
  · simp
/-- the name that the loop's items would be stored in -/
def tgX : Expr := .Name "x" ⟨0, 0, 0, 0⟩
section
variable {P : Program} {w : World} {A : Around} {E : Value → Shared → Prop} {F : FH}
/-- an iterator over texts is gone through, each is added -/
theorem set_loop {T0 : Nat} {I S : Addr} {fp wr : List Addr} {xs : List (List Nat)} {St : Nat → Heap → Prop} {R : Result → Shared → Prop} (hh : A.handled = none)
    (W : Itr P w tgX T0 I fp wr xs.length (fun k v s' => ∃ d, (xs.map D.str)[k]? = some d ∧ Yld w F false d v s') St) (hSf : S ∉ fp) :
    ∀ (k i : Nat) (s : Shared) (L : List (List Nat)), xs.length - i = k → i ≤ xs.length → T0 ≤ s.toks → St i s.heap → SetX P w F s.heap S s.toks L → L.length + (xs.length - i) + 1 < scanBound →
      (∀ h' tk, (∀ b o, b ∉ wr → b ≠ S → s.heap.get? b = some o → h'.get? b = some o) → s.toks ≤ tk → SetX P w F h' S tk ((xs.drop i).foldl addX L) → R (.ok (.ret .none)) { s with heap := h', toks := tk }) →
      codeAny (model P w) A (.builtin "set.update.loop" ⟨[.ref S, .ref I], []⟩) R s := by
  have hSw : S ∉ wr := fun h => hSf (W.sub _ h)
  intro k
  induction k with
  | zero =>
    intro i s L hk hi ht hst hS hroom hR
    have hin : i = xs.length := by omega
    subst hin
    refine codeAny_builtin PyProof.Rows.F.entry_set_update_loop ?_
    rw [Around.under_plainId PyProof.Rows.F.plain_set_update_loop _]
    show wpAny _ A.in1 (pyNext (.ref I) >>= _) _ _ s
    refine wpAny_bind (thn (W.stops A.in1 s (fun s1 => R (.ok (.ret .none)) s1) _ hh hst fun h' tk hk' tt => ?_) fun r s1 ⟨e, q⟩ => ?_)
    · refine hR h' tk (fun b o hb _ e => hk' b o hb e) tt ?_
      rw [List.drop_length]
      exact hS.at (fun o e => hk' S o hSw e) tt
    · subst e
      show wpAny _ A.in1 (ret Value.none) _ _ s1
      exact wpAny_pure q
  | succ k ih =>
    intro i s L hk hi ht hst hS hroom hR
    have hlt : i < xs.length := by omega
    refine codeAny_builtin PyProof.Rows.F.entry_set_update_loop ?_
    rw [Around.under_plainId PyProof.Rows.F.plain_set_update_loop _]
    show wpAny _ A.in1 (pyNext (.ref I) >>= _) _ _ s
    refine wpAny_bind (thn (W.goes A.in1 i s (fun v s2 => wpAny (model P w) A.in1 (do
        let _ ← holding [v] (setAdd S v)
        again (.builtin "set.update.loop" ⟨[.ref S, .ref I], []⟩)) (fun fin s' => match fin with | .done f => R (.ok f) s' | .again c' => c'.quiet = true ∧ codeAny (model P w) A c' R s') (fun e s' => R (.error e) s') s2) _ hh hlt ht hst fun v h' tk hy st' hk' tt => ?_) fun r s1 ⟨v, e, q⟩ => ?_)
    · obtain ⟨d, e1, e2⟩ := hy
      have e2 : Rep w F tk v d := e2
      have hx : (xs.map D.str)[i]? = some (.str xs[i]) := by simp [hlt]
      rw [hx] at e1
      cases e1
      have hS' : SetX P w F h' S tk L := hS.at (fun o e => hk' S o hSw e) tt
      refine wpAny_bind (wpAny_holding ?_)
      unfold setAdd
      refine wpAny_holding ?_
      obtain ⟨tv, ev, zv⟩ := e2.str_inv
      rw [ev]
      refine wpAny_bind ((PySem.strKind P w).pyHash (k := tx xs[i]) (strKind_is _ _ _ _) ?_)
      rw [← ev]
      have hS2 : SetX P w F h' S (tk + 1) L := hS'.at (fun _ e => e) (Nat.le_succ _)
      refine setX_add (s := { s with heap := h', toks := tk + 1 }) hS2 (e2.mono (Sub.refl _) (Nat.le_succ _)) (by omega) fun h2 b hsb hS3 => ?_
      have hS3 : SetX P w F h2 S (tk + 1) (addX L xs[i]) := hS3
      have al := addX_len L xs[i]
      have t1 : T0 ≤ tk + 1 := Nat.le_trans ht (Nat.le_trans tt (Nat.le_succ _))
      have st2 : St (i + 1) h2 := W.frame _ _ _ st' fun b hb o e => by
        rw [hsb.2 b (fun h : b = S => hSf (by rw [← h]; exact hb))]; exact e
      refine wpAny_pure ⟨plainId_quiet PyProof.Rows.F.plain_set_update_loop _, ih (i + 1) { s with heap := h2, toks := tk + 1 } (addX L xs[i]) (by omega) hlt t1 st2 hS3 (by omega) fun h3 tk3 hk3 tt3 hS4 => ?_⟩
      refine hR h3 tk3 (fun b o hb hbS e => hk3 b o hb hbS ?_) (Nat.le_trans tt (Nat.le_trans (Nat.le_succ _) tt3)) ?_
      · rw [hsb.2 b hbS]
        exact hk' b o hb e
      · rw [List.drop_eq_getElem_cons hlt, List.foldl_cons]
        exact hS4
    · subst e
      exact wpAny_bind (f := fun _ => (do
        let _ ← holding [v] (setAdd S v)
        again (.builtin "set.update.loop" ⟨[.ref S, .ref I], []⟩))) q
end
end GB
/-! set(v), v a list, a tuple of texts or a text. -/
namespace GB
open PySem PySem.Spec PyProof.Rows
open L2 (Key keyH keyIs mixKind Mod Look Vis Loc frs thn Ris SetAt code_set_led1)
section
variable {P : Program} {w : World} {A : Around} {E : Value → Shared → Prop} {s : Shared} {F : FH}
/-- v's items are the texts xs, wherever it is gone through later -/
def Gives (P : Program) (w : World) (F : FH) (s : Shared) (v : Value) (xs : List (List Nat)) : Prop :=
  ∀ (A' : Around) (S : Addr) (s' : Shared) (Q' : Unit → Shared → Prop) (E' : Value → Shared → Prop), A'.handled = none → (∀ b o, s.heap.get? b = some o → s'.heap.get? b = some o) → s.toks ≤ s'.toks →
    (∀ ob fp St, Itr P w tgX s'.toks s'.heap.objs.size fp [s'.heap.objs.size] xs.length (fun k v s2 => ∃ d, (xs.map D.str)[k]? = some d ∧ Yld w F false d v s2) St → St 0 (s'.heap.push ob) → (∀ b ∈ fp, b = s'.heap.objs.size ∨ ∃ o, s.heap.get? b = some o) →
      wpAny (model P w) A' (do let _ ← runValue (.builtin "set.update.loop" ⟨[.ref S, .ref s'.heap.objs.size], []⟩)) Q' E' { s' with heap := s'.heap.push ob }) →
    wpAny (model P w) A' (Builtin.Frozenset.updateFrom "set.__init__" S v) Q' E' s'
set_option maxHeartbeats 6400000 in
theorem call_setX {v : Value} {xs : List (List Nat)} {Q : Value → Shared → Prop} (hh : A.handled = none) (hv : Gives P w F s v xs) (hroom : xs.length + 1 < scanBound)
    (h : ∀ (h' : Heap) (tk : Nat), SetX P w F h' s.heap.objs.size tk (xs.foldl addX []) → (∀ b o, s.heap.get? b = some o → h'.get? b = some o) → s.toks ≤ tk → Q (.ref s.heap.objs.size) { s with heap := h', toks := tk }) :
    wpAny (model P w) A (call (.type "set") [v]) Q E s := by
  obtain ⟨c, tl, hmro⟩ := PySem.F.called_set.mro
  have hmade := PySem.F.called_set.made
  have hsub := PySem.F.called_set.sub
  refine wpAny_call (codeAny_of_tree ?_)
  show wpAny _ _ (callAny (.type "set") _) _ _ _
  refine wpAny_pure ⟨Code.quiet_builtin _ (by decide +kernel), codeAny_builtin PySem.F.entry_type_call ?_⟩
  rw [Around.under_plain (weight_type_call_type "set" [v] []) rfl]
  have h1 := PySem.F.called_set.notType
  have h2 := PySem.F.called_set.canCreate
  have hct := PySem.F.typeCall_set_1 v
  repeat (any_goals (first | assumption | wp_step))
  refine codeAny_mono (code_set_led1 v (E := E) (Q₁ := fun obj s₁ => obj = .ref s.heap.objs.size ∧ s₁ = { s with heap := s.heap.push { cls := .type "set", dict := none, data := .set #[] 0 (.fresh 0 0 (!w.params.followText "set-order")) } }) ⟨rfl, rfl⟩) fun r s₁ hr => ?_
  cases r with
  | error e => exact hr
  | ok fl =>
    cases fl with
    | ret obj =>
      obtain ⟨rfl, rfl⟩ := hr
      have hS : (s.heap.push { cls := .type "set", dict := none, data := .set #[] 0 (.fresh 0 0 (!w.params.followText "set-order")) }).get? s.heap.objs.size = some { cls := .type "set", dict := none, data := .set #[] 0 (.fresh 0 0 (!w.params.followText "set-order")) } := Heap.get?_push_size _ rfl
      have hT : Shared.TypeIs { s with heap := s.heap.push { cls := .type "set", dict := none, data := .set #[] 0 (.fresh 0 0 (!w.params.followText "set-order")) } } (.ref s.heap.objs.size) "set" := ⟨_, hS, rfl⟩
      have hli := PySem.F.called_set.init.lookup
      have hbi := PySem.F.called_set.init.bind (.ref s.heap.objs.size)
      repeat (any_goals (first | assumption | wp_step))
      refine codeAny_mono (codeAny_call_builtin (R := wants (fun r s₂ => r = .none ∧ ∃ h' tk, s₂ = { s with heap := h', toks := tk } ∧ SetX P w F h' s.heap.objs.size tk (xs.foldl addX []) ∧
          (∀ b o, s.heap.get? b = some o → h'.get? b = some o) ∧ s.toks ≤ tk) E) PySem.F.called_set.init.plain PySem.F.entry_set_init (PySem.check_set_init_1 hT ?_)) fun r₂ s₂ hr₂ => ?_
      · unfold Builtin.«set.__init__» noKeywords
        generalize hU : Builtin.Frozenset.updateFrom = U
        wp_walk
        subst hU
        have hh3 : A.in1.in1.in1.handled = none := by simp [hh]
        refine hv _ s.heap.objs.size _ _ _ (by simp [hh]) (fun b o e => Heap.get?_push_of_some _ e) (Nat.le_refl _) fun ob fp St W st hfp => ?_
        have hz1 : (s.heap.push { cls := .type "set", dict := none, data := .set #[] 0 (.fresh 0 0 (!w.params.followText "set-order")) }).objs.size = s.heap.objs.size + 1 := Heap.size_push ..
        have none_of : ∀ b, s.heap.objs.size ≤ b → s.heap.get? b = none := fun b hb => by
          cases q : s.heap.get? b with
          | none => rfl
          | some o => exact absurd (Nat.lt_of_lt_of_le (Heap.lt_size q) hb) (Nat.lt_irrefl _)
        refine wpAny_bind (wpAny_runValue ?_)
        refine set_loop (by simp [hh]) W (fun hm => ?_) (xs.length - 0) 0 { s with heap := (s.heap.push { cls := .type "set", dict := none, data := .set #[] 0 (.fresh 0 0 (!w.params.followText "set-order")) }).push ob } [] rfl (Nat.zero_le _) (Nat.le_refl _) st ?hS0 (by simpa using hroom) ?hR
        · rcases hfp _ hm with z | ⟨o, e⟩
          · have z : s.heap.objs.size = s.heap.objs.size + 1 := by rw [← hz1]; exact z
            omega
          · rw [none_of _ (Nat.le_refl _)] at e; cases e
        case hS0 => exact setX_fresh (Heap.get?_push_of_some _ hS)
        case hR =>
          intro h' tk hk tt hX
          show wpAny _ _ _ _ _ _
          refine wpAny_pure ?_
          show wpAny _ _ (ret Value.none) _ _ _
          refine wpAny_pure ⟨rfl, h', tk, rfl, hX, fun b o e => ?_, tt⟩
          have hb1 : b ≠ s.heap.objs.size := Nat.ne_of_lt (Heap.lt_size e)
          refine hk b o (fun z => ?_) hb1 (Heap.get?_push_of_some _ (Heap.get?_push_of_some _ e))
          have z := List.mem_singleton.mp z
          have := Heap.lt_size e
          have z : b = s.heap.objs.size + 1 := by rw [← hz1]; exact z
          rw [z] at this
          exact absurd this (Nat.not_lt_of_le (Nat.le_succ _))
      · cases r₂ with
        | error e => exact hr₂
        | ok fl₂ =>
          cases fl₂ with
          | ret r =>
            obtain ⟨rfl, h', tk, rfl, hX, hk', tt⟩ := hr₂
            repeat (any_goals (first | assumption | wp_step))
            exact h _ _ hX hk' tt
          | _ => exact hr₂.elim
    | _ => exact hr.elim
end
end GB
/-! len(set(v)), sorted(set(v)) of texts: the rules. -/
namespace GB
open PySem PySem.Spec PyProof.Rows PySem.W
open L2 (Key keyH keyIs mixKind Mod Look Vis Loc frs thn Ris SetAt)
section
variable {P : Program} {w : World} {A : Around} {E : Value → Shared → Prop} {s : Shared} {F : FH}
/-- texts of a value -/
def textsD : D → Option (List (List Nat))
  | .str s => some (s.map fun c => [c])
  | .lst ds => ds.mapM fun d => match d with | .str s => some s | _ => none
  | .tup ds => ds.mapM fun d => match d with | .str s => some s | _ => none
  | _ => none
theorem mapM_strs {ds : List D} {xs : List (List Nat)} (h : (ds.mapM fun d => match d with | D.str s => some s | _ => none) = some xs) : ds = xs.map D.str := by
  induction ds generalizing xs with
  | nil =>
    simp at h
    subst h; rfl
  | cons d ds ih =>
    rw [List.mapM_cons] at h
    cases d with
    | str s =>
      simp only [Option.pure_def, Option.bind_eq_bind, Option.bind_some] at h
      obtain ⟨ys, h1, h2⟩ := Option.bind_eq_some_iff.mp h
      cases h2
      rw [ih h1]; rfl
    | _ => simp at h
theorem upd_list {l : Addr} {items : Array Value} {S : Addr} {id : String} {Q : Unit → Shared → Prop} (hl : s.heap.IsList l items)
    (h : wpAny (model P w) A (pyIter (.ref l)) (fun it s1 => wpAny (model P w) A (do let _ ← runValue (.builtin "set.update.loop" ⟨[.ref S, it], []⟩)) Q E s1) E s) : wpAny (model P w) A (Builtin.Frozenset.updateFrom id S (.ref l)) Q E s := by
  obtain ⟨ol, hol, hcl, nl, hdl⟩ := hl
  obtain ⟨ocls, odict, odata, oslots⟩ := ol
  simp only at hcl hdl
  subst hcl; subst hdl
  have hsls := PySem.F.sub_list_set
  have hslf := PySem.F.sub_list_frozenset
  have hne : (Value.type "list" == Value.type "dict") = false := by decide
  unfold Builtin.Frozenset.updateFrom
  generalize hPI : pyIter = PI at h ⊢
  wp_walk
  exact h
theorem upd_tuple {l : Addr} {items : Array Value} {S : Addr} {id : String} {Q : Unit → Shared → Prop} (hl : s.heap.IsTuple l items)
    (h : wpAny (model P w) A (pyIter (.ref l)) (fun it s1 => wpAny (model P w) A (do let _ ← runValue (.builtin "set.update.loop" ⟨[.ref S, it], []⟩)) Q E s1) E s) : wpAny (model P w) A (Builtin.Frozenset.updateFrom id S (.ref l)) Q E s := by
  obtain ⟨ol, hol, hcl, nl, hdl⟩ := hl
  obtain ⟨ocls, odict, odata, oslots⟩ := ol
  simp only at hcl hdl
  subst hcl; subst hdl
  have hsls := PySem.F.sub_tuple_set
  have hslf := PySem.F.sub_tuple_frozenset
  have hne : (Value.type "tuple" == Value.type "dict") = false := by decide
  unfold Builtin.Frozenset.updateFrom
  generalize hPI : pyIter = PI at h ⊢
  wp_walk
  exact h
theorem upd_str {x : Str} {t : Tok} {S : Addr} {id : String} {Q : Unit → Shared → Prop}
    (h : wpAny (model P w) A (pyIter (.str x t)) (fun it s1 => wpAny (model P w) A (do let _ ← runValue (.builtin "set.update.loop" ⟨[.ref S, it], []⟩)) Q E s1) E s) : wpAny (model P w) A (Builtin.Frozenset.updateFrom id S (.str x t)) Q E s := by
  have hsls := PySem.F.sub_str_set
  have hslf := PySem.F.sub_str_frozenset
  have hne : (Value.type "str" == Value.type "dict") = false := by decide
  unfold Builtin.Frozenset.updateFrom
  generalize hPI : pyIter = PI at h ⊢
  wp_walk
  exact h
end
end GB
/-! len(set(v)), sorted(set(v)) of texts: the rules. -/
namespace GB
open PySem PySem.Spec PyProof.Rows PySem.W
open L2 (Key keyH keyIs mixKind Mod Look Vis Loc frs thn Ris SetAt)
theorem triT {a b : List Nat} (h1 : ¬ a < b) (h2 : ¬ b < a) : a = b := List.le_antisymm (List.not_lt.mp h2) (List.not_lt.mp h1)
theorem sortT_le (ts : List (List Nat)) : (sortT ts).Pairwise fun a b => ¬ b < a := by
  have h1 : (sortT ts).Pairwise fun a b => (!decide (b < a)) = true := List.pairwise_mergeSort (by
    intro a b c h1 h2
    simp only [Bool.not_eq_true', decide_eq_false_iff_not] at h1 h2 ⊢
    intro h
    by_cases q : a < b
    · exact h2 (List.lt_trans h q)
    · have e := triT q h1
      subst e
      exact h2 h) (by
    intro a b
    simp only [Bool.or_eq_true, Bool.not_eq_true', decide_eq_false_iff_not]
    by_cases q : b < a
    · exact Or.inr (List.lt_asymm q)
    · exact Or.inl q) ts
  exact h1.imp fun h => by simpa using h
theorem sortT_same {xs ys : List (List Nat)} (h : xs.Perm ys) : sortT xs = sortT ys := by
  have p : (sortT xs).Perm (sortT ys) := ((List.mergeSort_perm xs _).trans h).trans (List.mergeSort_perm ys _).symm
  refine List.Perm.eq_of_pairwise (le := fun a b => ¬ b < a) (fun a b _ _ h1 h2 => triT h2 h1) (sortT_le xs) (sortT_le ys) p
section
open PySem.Calls PyProof.Rows
variable {prog : Program} {w : World} {A : Around} {E : Value → Shared → Prop} {s : Shared}
/-- sorted(x) where x's items are collected in some order -/
theorem sorted_coll2 {x : Value} {β : Type} {R : Value → β → Prop} {bs : List β} {enc : β → PyData} {Q : Value → Shared → Prop}
    (hc : ∀ (E' : Value → Shared → Prop) (Q' : List Value → Shared → Prop), (∀ (s1 : Shared) (acc : List Value) (bs' : List β), (∀ b o, s.heap.get? b = some o → s1.heap.get? b = some o) → s.toks ≤ s1.toks → s1.gens = s.gens → s1.os = s.os → bs'.Perm bs → EachIs R acc bs' → Q' acc s1) → wpAny (model prog w) A.in1 (collect x) Q' E' s)
    (ha : argsOk "sorted" ⟨[x], []⟩) (er : ∀ h v b, R v b → Reads h v (enc b) []) (hal : ∀ bs' : List β, bs'.Perm bs → AllAlike (bs'.map enc)) (hk : ∀ bs' : List β, bs'.Perm bs → Sortable (bs'.map enc)) (hL : bs.length ≤ sizeLine) (hu : ∀ b, b ∈ bs → A.units + 2 + (enc b).depth < cLine)
    (h : ∀ (s1 : Shared) (h' : Heap) (out : List Value) (c : Nat) (bs' : List β), (∀ b o, s.heap.get? b = some o → s1.heap.get? b = some o) → (∀ b o, s.heap.get? b = some o → h'.get? b = some o) → s.toks ≤ s1.toks → s1.gens = s.gens → s1.os = s.os → bs'.Perm bs → h'.get? s1.heap.objs.size = some (seqObj "list" (List.toArray out) c) → EachIs R out (bs'.mergeSort (dataLe false enc)) → Q (.ref s1.heap.objs.size) { s1 with heap := h' }) :
    wpAny (model prog w) A (call (.builtin "sorted") [x]) Q E s := by
  refine call_function_entry kind_sorted plain_sorted entry_sorted ha ?_
  unfold Builtin.«sorted»
  refine wpAny_bind (m := checkCount "sorted" 1 1 _) (wpAny_pure ?_)
  refine wpAny_bind (hc _ _ fun s1 acc bs' k1 ht hg ho hp ea => ?_)
  have hlen : acc.length = bs'.length := ea.length
  have hL' : bs'.length ≤ sizeLine := by rw [hp.length_eq]; exact hL
  refine wpAny_bind (wpAny_newList ?_ (by rw [hlen]; exact hL'))
  have hat : (s1.heap.push (seqObj "list" acc.toArray 0)).get? s1.heap.objs.size = some (seqObj "list" acc.toArray 0) := Heap.get?_push_size _ rfl
  have er' : ∀ (g : Heap), EachIs (fun v b => ∃ as, Reads g v (enc b) as ∧ s1.heap.objs.size ∉ as) acc bs' := fun g => ea.mono fun v b r => ⟨[], er g v b r, by simp⟩
  refine wpAny_bind (wpAny_holding (wpAny_mono (E := fun _ _ => False) (list_sort_data (A := A.in1) (s := { s1 with heap := s1.heap.push (seqObj "list" acc.toArray 0) }) hat ea (er' _) (hal bs' hp) (hk bs' hp) hL'
    (fun b hb => by have := hu b (hp.mem_iff.mp hb); show A.units + 1 + 1 + _ < _; omega) (Q := fun _ s' => Q (.ref s1.heap.objs.size) s') fun out hol eo => ?_) (fun _ s' q => ?_) fun _ _ z => z.elim))
  · obtain ⟨c, hcc⟩ := sortedHeap_at (vs := acc) (out := out.toArray) hat
    refine h s1 _ out c bs' k1 (fun b o e0 => ?_) ht hg ho hp hcc eo
    have e1 := k1 b o e0
    have hlt := Heap.lt_size e1
    have e2 := Heap.get?_push_of_some (seqObj "list" acc.toArray 0) e1
    exact (sortedHeap_old (Nat.ne_of_lt hlt) (Heap.lt_size e2)).trans e2
  · exact wpAny_pure ⟨_, rfl, q⟩
end
section
variable {X : Cx} {c c0 c1 c2 : Cf} {e : Expr} {pos p2 pos' : Pos} {x : Str} {p : Pos}
/-- what is asked of a set of texts -/
def CX (X : Cx) (f : Value) (g : List (List Nat) → Option Res) : Prop := ∀ (c : Cf) (a : Addr) (L : List (List Nat)) (r : Res), SR X c → SetX X.prog X.w c.F c.s.heap a c.s.toks L → g L = some r → wpAny (model X.prog X.w) X.A (call f [.ref a]) (PostE X c (.ok r c.ρ)) X.xe c.s
def xLen (L : List (List Nat)) : Option Res := some (.val (.int L.length))
def xSorted (L : List (List Nat)) : Option Res := some (.fresh (.lst ((sortT L).map .str)))
theorem cx_len : CX X (.builtin "len") xLen := by
  intro c a L r S hX h
  cases h
  obtain ⟨o, es, ep, t, ho, hex, hd, g, pe, nd, hb, hf, hr, hl⟩ := hX
  have hn : es.size = L.length := by rw [← Array.length_toList, ← pe.length_eq, List.length_map]
  have hb' : es.size < 4096 := hb
  refine call_len_set ho hex hd hf (by omega) ?_
  rw [hn]
  exact PostE.int S (by omega)
theorem each_str {w : World} {F : FH} {T : Nat} : ∀ {vs : List Value} {xs : List (List Nat)}, (∀ v ∈ vs, ∃ s, Rep w F T v (.str s)) → vs.map (fun v => strOf (0, v)) = xs → EachIs (fun v d => Rep w F T v d ∧ ∃ s, d = .str s) vs (xs.map D.str)
  | [], _, _, rfl => .nil
  | v :: vs, _, h, rfl => by
    obtain ⟨s, r⟩ := h v (by simp)
    obtain ⟨t, e, _⟩ := id r.str_inv
    have es : strOf (0, v) = s := by
      unfold strOf
      simp only [e]
      exact tx_list s
    refine .cons ⟨?_, _, rfl⟩ (each_str (fun u hu => h u (by simp [hu])) rfl)
    show Rep w F T v (.str (strOf (0, v)))
    rw [es]; exact r
theorem cx_sorted : CX X (.builtin "sorted") xSorted := by
  intro c a L r S hX h
  cases h
  obtain ⟨o, es, ep, t, ho, hex, hd, g, pe, nd, hb, hf, hr, hl⟩ := hX
  have hb' : es.size < 4096 := hb
  have hn : es.size = L.length := by rw [← Array.length_toList, ← pe.length_eq, List.length_map]
  have ok : ∀ bs' : List D, bs'.Perm (L.map D.str) → okSort bs' = true := fun bs' hp => by
    obtain ⟨ts, rfl⟩ : ∃ ts : List (List Nat), bs' = ts.map D.str := by
      refine ⟨bs'.map fun d => match d with | .str s => s | _ => [], ?_⟩
      rw [List.map_map]
      refine (List.map_id' bs').symm.trans (List.map_congr_left fun d hd => ?_)
      obtain ⟨y, _, rfl⟩ := List.mem_map.mp (hp.mem_iff.mp hd)
      rfl
    exact okSort_strs ts
  refine sorted_coll2 (R := fun v d => Rep X.w c.F c.s.toks v d ∧ ∃ s, d = .str s) (enc := D.py) (bs := L.map D.str) (fun E' Q' hQ' => ?_) (PyProof.Rows.args_sorted1 _) (fun h v b z => ?_) (fun bs' hp => okSort_al (ok bs' hp)) (fun bs' hp => okSort_so (ok bs' hp))
    (by rw [List.length_map, ← hn, sizeLine_eq]; omega) (fun b hb => sort_room S (okSort_de (ok _ (List.Perm.refl _)) hb)) fun s1 h' out n bs' k1 k ht hg ho' hp e eo => ?_
  · refine wpAny_with_toks (Nat.le_refl _) (L2.collect_set (A := X.A.in1) S.ok.hd ⟨o, ho, hex.1, hd⟩ hf hb hr hl fun s1 vs k1 hz hg ho' pm tt => ?_)
    have hv : ∀ v ∈ vs, ∃ s, Rep X.w c.F c.s.toks v (.str s) := fun v hv => by
      obtain ⟨e, he, q⟩ := List.mem_map.mp (pm.mem_iff.mp hv)
      obtain ⟨s, r, _⟩ := g e he
      exact ⟨s, q ▸ r⟩
    refine hQ' s1 vs ((vs.map fun v => strOf (0, v)).map D.str) k1 tt hg ho' ?_ (each_str hv rfl)
    refine List.Perm.map _ ?_
    have q := pm.map fun v => strOf (0, v)
    rw [List.map_map] at q
    exact q.trans pe
  · obtain ⟨z1, s, rfl⟩ := z
    exact bare_sign h z1
  · obtain ⟨ts, hts⟩ : ∃ ts : List (List Nat), bs' = ts.map D.str ∧ ts.Perm L := by
      refine ⟨bs'.map fun d => match d with | .str s => s | _ => [], ?_, ?_⟩
      · rw [List.map_map]
        refine (List.map_id' bs').symm.trans (List.map_congr_left fun d hd => ?_)
        obtain ⟨y, _, rfl⟩ := List.mem_map.mp (hp.mem_iff.mp hd)
        rfl
      · have q := hp.map fun d => match d with | D.str s => s | _ => []
        rw [List.map_map] at q
        have e : L.map ((fun d => match d with | D.str s => s | _ => []) ∘ D.str) = L := List.map_id' L
        rw [e] at q
        exact q
    obtain ⟨rfl, hpt⟩ := hts
    have e1 : (ts.map D.str).mergeSort (dataLe false D.py) = (sortT L).map D.str := by
      show sortD (ts.map D.str) = _
      rw [sortD_strs, sortT_same hpt]
    rw [e1] at eo
    obtain ⟨hnew, hs⟩ := S.newer k1
    have hlen : out.length = L.length := by rw [eo.length, List.length_map]; exact (List.mergeSort_perm L _).length_eq
    exact PostE.new (s' := { s1 with heap := h' }) S k ht hnew e (.lst (by rw [List.size_toArray, hlen, ← hn, sizeLine_eq]; omega) (each_repL (eo.mono fun _ _ z => z.1.mono (Sub.refl _) ht))) hs rfl ho' hg
end
end GB
namespace GB
open PySem PySem.Spec PyProof.Rows PySem.W
open L2 (Key keyH keyIs mixKind Mod Look Vis Loc frs thn Ris SetAt)
section
variable {X : Cx} {c c0 c1 c2 : Cf} {e : Expr} {pos p2 pos' q : Pos} {x : Str} {p : Pos}
theorem gives_of (htz : 0 < X.tz) (S : SR X c) {v : Value} {d : D} {xs : List (List Nat)} (rv : ViewG X.w c v d) (h : textsD d = some xs) : Gives X.prog X.w c.F c.s v xs := by
  intro A' Sa s' Q' E' hh k ht hq
  cases d with
  | lst ds =>
    have e := mapM_strs h
    subst e
    obtain ⟨a, vs, rfl, il, z, l⟩ := lst_list S rv.view
    have il' : s'.heap.IsList a vs.toArray := by
      obtain ⟨o, e, r⟩ := il
      exact ⟨o, k _ _ e, r⟩
    have ne : a ≠ s'.heap.objs.size := by
      obtain ⟨o, e, r⟩ := il'
      exact Nat.ne_of_lt (Heap.lt_size e)
    refine upd_list il' (wpAny_pyIter_list il' ?_)
    refine hq { cls := .type "list_iterator", data := .fields #[.ref a, .int 0 0] } [s'.heap.objs.size, a] (fun i h => h.IsListIter s'.heap.objs.size a i ∧ h.IsList a vs.toArray) ?_ ⟨⟨_, Heap.get?_push_size _ rfl, rfl, rfl⟩, il'.push _⟩ (fun b hb => ?_)
    · have e : xs.length = vs.toArray.size := by rw [List.size_toArray, l.length, List.length_map]
      rw [e]
      refine Itr.of hh (fun A hh => Goes.list hh _ a ne vs.toArray) (fun i h st b hb => ?_) (fun i v s hi ht' y => ?_)
      · have : b = s'.heap.objs.size ∨ b = a := by simpa using hb
        rcases this with e | e
        · subst e; obtain ⟨o, e, _⟩ := st.1; exact ⟨o, e⟩
        · subst e; obtain ⟨o, e, _⟩ := st.2; exact ⟨o, e⟩
      · obtain ⟨d, e1, e2⟩ := l.get' (i := i) (v := v) (by simpa using y)
        exact ⟨d, e1, e2.mono (Sub.refl _) (Nat.le_trans ht ht')⟩
    · have : b = s'.heap.objs.size ∨ b = a := by simpa using hb
      rcases this with e | e
      · exact .inl e
      · subst e; obtain ⟨o, e, _⟩ := il; exact .inr ⟨o, e⟩
  | tup ds =>
    have e := mapM_strs h
    subst e
    obtain ⟨a, o, vs, n, rfl, q, h1, h2, z, l⟩ := rv.view.tup_inv S.sub
    have il : c.s.heap.IsTuple a vs := ⟨_, q, h1, n, h2⟩
    have il' : s'.heap.IsTuple a vs := by
      obtain ⟨o, e, r⟩ := il
      exact ⟨o, k _ _ e, r⟩
    have ne : a ≠ s'.heap.objs.size := by
      obtain ⟨o, e, r⟩ := il'
      exact Nat.ne_of_lt (Heap.lt_size e)
    refine upd_tuple il' (wpAny_pyIter_tuple il' ?_)
    refine hq { cls := .type "tuple_iterator", data := .fields #[.ref a, .int 0 0] } [s'.heap.objs.size, a] (fun i h => h.IsTupleIter s'.heap.objs.size a i ∧ h.IsTuple a vs) ?_ ⟨⟨_, Heap.get?_push_size _ rfl, rfl, rfl⟩, il'.push _⟩ (fun b hb => ?_)
    · have e : xs.length = vs.size := by rw [← Array.length_toList, l.length, List.length_map]
      rw [e]
      refine Itr.of hh (fun A hh => Goes.tuple hh _ a ne vs) (fun i h st b hb => ?_) (fun i v s hi ht' y => ?_)
      · have : b = s'.heap.objs.size ∨ b = a := by simpa using hb
        rcases this with e | e
        · subst e; obtain ⟨o, e, _⟩ := st.1; exact ⟨o, e⟩
        · subst e; obtain ⟨o, e, _⟩ := st.2; exact ⟨o, e⟩
      · obtain ⟨d, e1, e2⟩ := l.get' (i := i) (v := v) (by simpa using y)
        exact ⟨d, e1, e2.mono (Sub.refl _) (Nat.le_trans ht ht')⟩
    · have : b = s'.heap.objs.size ∨ b = a := by simpa using hb
      rcases this with e | e
      · exact .inl e
      · subst e; exact .inr ⟨o, q⟩
  | str y =>
    have e : xs = y.map fun c => [c] := by
      have h : some (y.map fun c => [c]) = some xs := h
      exact (Option.some.inj h).symm
    subst e
    obtain ⟨t, rfl, _⟩ := rv.view.str_inv
    refine upd_str (wpAny_pyIter_strU ?_)
    refine hq { cls := .type (strIterType (tx y)), data := .fields #[.str (tx y) t, .int 0 0] } [s'.heap.objs.size] (fun i h => h.IsStrIter s'.heap.objs.size (strIterType (tx y)) (tx y) t i) ?_ ⟨_, Heap.get?_push_size _ rfl, rfl, rfl⟩ (fun b hb => .inl (by simpa using hb))
    have e2 : ((y.map fun c => [c]).map D.str) = y.map fun ch => D.str [ch] := by simp
    rw [e2, List.length_map]
    exact itr_text (Nat.lt_of_lt_of_le (S.tkp htz) ht) s'.heap.objs.size y t
  | _ => cases h
def dSet (g : List (List Nat) → Option Res) (a : DL) : DE := fun ρ => obind (a ρ) fun l ρ1 => match l.now ρ1 with
  | some d => (match textsD d with
    | some xs => if xs.length ≤ 4000 then (match g (xs.foldl addX []) with
      | some z => some (.ok z ρ1)
      | none => none) else none
    | none => none)
  | none => none
theorem addX_nodup : ∀ (xs L : List (List Nat)), L.Nodup → (xs.foldl addX L).Nodup
  | [], L, h => h
  | x :: xs, L, h => addX_nodup xs (addX L x) (by
    unfold addX
    split
    · exact h
    · rename_i q
      exact List.nodup_append.mpr ⟨h, by simp, fun y hy z hz => by
        rw [List.mem_singleton] at hz
        rw [hz]
        exact fun e => q (e ▸ hy)⟩)
theorem addX_mem : ∀ (xs L : List (List Nat)) (y : List Nat), y ∈ xs.foldl addX L ↔ y ∈ L ∨ y ∈ xs
  | [], L, y => by simp
  | x :: xs, L, y => by
    rw [List.foldl_cons, addX_mem xs, List.mem_cons]
    unfold addX
    split
    · rename_i q
      constructor
      · rintro (h | h)
        · exact .inl h
        · exact .inr (.inr h)
      · rintro (h | h | h)
        · exact .inl h
        · subst h; exact .inl q
        · exact .inr h
    · simp only [List.mem_append, List.mem_singleton, or_assoc]
/-- f(set(e)), f len or sorted -/
theorem pd_setB {i : String} {g : List (List Nat) → Option Res} {l : DL} (hc : CX X (.builtin i) g) (hm : X.mg x = none) (hm2 : X.mg "set" = none) (ha : PG X e l) (hg : Gl X x := by rfl) (hg2 : Gl X "set" := by rfl) (hv : bootBuiltins x = some (.builtin i) := by first | rfl | decide +kernel)
    (hn : x ≠ "__name__" := by decide) (hdb : (x == ("__debug__" : Str)) = false := by decide)
    (hs : starEach [e] X.env = [(false, eval e X.env)] := by rfl) (hs2 : starEach [.Call (.Name "set" p2) [e] [] q] X.env = [(false, eval (.Call (.Name "set" p2) [e] [] q) X.env)] := by rfl) (htz : 0 < X.tz := by exact Nat.zero_lt_one) :
    PD X (.Call (.Name x p) [.Call (.Name "set" p2) [e] [] q] [] pos) (dSet g l) := by
  refine ⟨fun c o S hd kx => ?_⟩
  refine wpAny_Call_Name_kw (S.bltn hg hm hv ?_ hn hdb)
  refine PyProof.Rows.callWith_builtin1 ?_ hs2 rfl
  rw [hs2]
  show wpAny _ _ (spliced [(false, eval (.Call (.Name "set" p2) [e] [] q) X.env)]) _ _ _
  refine Calls.spliced_cons ?_
  refine wpAny_Call_Name_kw (S.bltn hg2 hm2 boot_set ?_ (by decide) (by decide))
  refine PyProof.Rows.callWith_type1 ?_ hs rfl
  rw [hs]
  show wpAny _ _ (spliced [(false, eval e X.env)]) _ _ _
  refine Calls.spliced_cons (ha.go S hd kx fun y c1 v f1 S1 ro hd1 => Calls.spliced_nil ?_)
  cases hx : y.now c1.ρ with
  | none => rw [hx] at hd1; cases hd1
  | some d =>
    rw [hx] at hd1
    cases ht : textsD d with
    | none => simp only [ht] at hd1; cases hd1
    | some xs =>
      simp only [ht] at hd1
      by_cases z : xs.length ≤ 4000
      · rw [if_pos z] at hd1
        cases hz : g (xs.foldl addX []) with
        | none => simp only [hz] at hd1; cases hd1
        | some r =>
          simp only [hz] at hd1; cases hd1
          have G := gives_of htz S1 (ro.now Fr.refl S1 hx) ht
          refine call_setX S1.ok.hd G (by show xs.length + 1 < 4096; omega) fun h' tk hX k tt => Calls.spliced_nil ?_
          obtain ⟨S2, f2⟩ := S1.kept (s' := { c1.s with heap := h', toks := tk }) k tt
          exact thn (hc { c1 with s := { c1.s with heap := h', toks := tk } } c1.s.heap.objs.size _ r S2 hX hz) fun _ _ w => PostE.from (f1.trans f2) w
      · rw [if_neg z] at hd1; cases hd1
end
end GB
/-! A tuple or a text backwards. -/
namespace GB
open PySem PySem.Spec PyProof.Rows HT
open L2 (Key keyH keyIs mixKind Mod Look Vis Loc frs thn)
section
variable {prog : Program} {w : World} {A : Around} {E : Value → Shared → Prop} {s : Shared}
theorem sliceApplied_back {sl : Addr} {n : Nat} {u : Tok} {Q : Int × Int × Nat → Shared → Prop} (hs : s.heap.IsSliceOf sl .none .none (.int (-1) u))
    (h : Q ((n : Int) - 1, -1, n) s) : wpAny (model prog w) A (Builtin.Slice.sliceApplied (.ref sl) (pure (n : Int))) Q E s := by
  obtain ⟨os, hos, hcs, hds⟩ := id hs
  unfold Builtin.Slice.sliceApplied Builtin.Slice.sliceFields
  refine wpAny_bind (wpAny_bind (wpAny_field hos hds (x := .none) rfl (wpAny_bind (wpAny_field hos hds (x := .none) rfl (wpAny_bind (wpAny_field hos hds (x := .int (-1) u) rfl (wpAny_pure ?_)))))))
  refine wpAny_bind (slicePart_int ?_)
  show wpAny _ _ (if ((-1 : Int) == 0) = true then _ else _) _ _ s
  rw [if_neg (by decide)]
  refine wpAny_bind (slicePart_none (wpAny_bind (slicePart_none (wpAny_bind (wpAny_pure ?_)))))
  show wpAny _ _ (pure ((n : Int) - 1, (-1 : Int), Builtin.Slice.slicePlaces ((n : Int) - 1) (-1) (-1))) _ _ s
  have e : Builtin.Slice.slicePlaces ((n : Int) - 1) (-1) (-1) = n := by
    unfold Builtin.Slice.slicePlaces
    rw [if_neg (by decide)]
    have e1 : -(-1 : Int) = 1 := rfl
    rw [e1, Int.ediv_one]
    split <;> omega
  rw [e]
  exact wpAny_pure h
theorem pick_back (xs : Array Value) : ((List.range xs.size).filterMap fun (m : Nat) => xs[(((xs.size : Nat) : Int) - 1 + (m : Int) * (-1)).toNat]?) = xs.toList.reverse := by
  have e : (fun (m : Nat) => xs[(((xs.size : Nat) : Int) - 1 + (m : Int) * (-1)).toNat]?) = fun m => xs[xs.size - 1 - m]? := by
    funext m
    by_cases h : m < xs.size
    · have : (((xs.size : Nat) : Int) - 1 + (m : Int) * (-1)).toNat = xs.size - 1 - m := by omega
      rw [this]
    · have : (((xs.size : Nat) : Int) - 1 + (m : Int) * (-1)).toNat = xs.size - 1 - m := by omega
      rw [this]
  rw [e]
  have h2 : (List.range xs.size).filterMap (fun m => xs[xs.size - 1 - m]?) = ((List.range xs.size).map fun k => xs.size - 1 - k).filterMap (xs[·]?) := by
    rw [List.filterMap_map]
    rfl
  rw [h2, PySem.W.krv_range, List.filterMap_reverse]
  congr 1
  exact PySem.W.krv_all xs
theorem getItem_tuple_back {t sl : Addr} {items : Array Value} {u : Tok} {Q : Value → Shared → Prop} (ht : IsTup s.heap t items) (hs : s.heap.IsSliceOf sl .none .none (.int (-1) u))
    (h : Q (.ref s.heap.objs.size) { s with heap := s.heap.push { cls := .type "tuple", data := .seq items.toList.reverse.toArray } })
    (hsz : items.size ≤ sizeLine) : wpAny (model prog w) A (getItem (.ref t) (.ref sl)) Q E s := by
  have htake : sizeOk (.seq items.toList.reverse.toArray) := by
    show items.toList.reverse.toArray.size ≤ sizeLine
    rw [List.size_toArray, List.length_reverse, Array.length_toList]
    exact hsz
  obtain ⟨os, hos, hcs, hds⟩ := id hs
  have hTs : s.TypeIs (.ref sl) "slice" := ⟨os, hos, hcs⟩
  unfold getItem
  try with_reducible refine wpAny_holding ?_
  first | refine wpAny_bind (wpAny_pure ?_) | skip
  refine wpAny_bind (wpAny_sequenceKey ht.typeIs (by decide) ?_)
  refine wpAny_bind (wpAny_callSpecial?_slot (name := Str.ofString "__getitem__") ht.typeIs PyProof.Rows.slot_tuple_getitem
    (wpAny_call_entry PyProof.Rows.slot_tuple_getitem ht.typeIs entry_tuple_getitem ?_ (args_tuple_getitem _ _)))
  show wpAny _ _ (Builtin.Tuple.tupleItemsOf (.ref t) >>= _) _ _ s
  refine wpAny_bind (tupleItemsOf_ ht ?_)
  refine wpAny_bind (wpAny_typeOf hTs ?_)
  rw [if_pos (by decide)]
  refine wpAny_bind (sliceApplied_back hs ?_)
  show wpAny _ _ (if (((items.size : Nat) : Int) - 1 == 0 && (-1 : Int) == 1 && items.size == items.size) = true then _ else _) _ _ s
  rw [if_neg (by simp), pick_back]
  first
    | exact wpAny_bind (m := Builtin.Tuple.tupleExact _) (wpAny_newObj_type (wpAny_pure ⟨_, rfl, wpAny_pure h⟩) htake)
    | exact wpAny_bind (m := Builtin.Tuple.tupleExact _) (wpAny_newObj_type (wpAny_bind (wpAny_pure (wpAny_pure ⟨_, rfl, wpAny_pure h⟩))) htake)
    | exact wpAny_bind (wpAny_bind (m := Builtin.Tuple.tupleExact _) (wpAny_newObj_type (wpAny_pure (wpAny_pure ⟨_, rfl, wpAny_pure h⟩)) htake))
    | exact wpAny_bind (wpAny_bind (m := Builtin.Tuple.tupleExact _) (wpAny_newObj_type (wpAny_pure ⟨_, rfl, wpAny_pure h⟩) htake))
end
section
variable {X : Cx} {c : Cf} {e a b o : Expr} {da db : DE} {x : Str} {pos pos' p p2 apos cpos : Pos} {es : List Expr}
def dRevT (l : DL) : DE := fun ρ => obind (l ρ) fun x ρ1 => match x with
  | .val (.tup s) => some (.ok (.val (.tup s.reverse)) ρ1)
  | _ => none
theorem pd_revT {l : DL} {k : Nat} {p1 p3 : Pos} (ha : PG X e l) (htz : 0 < X.tz := by exact Nat.zero_lt_one) :
    PD X (.Subscript e (.Slice none none (some (.UnaryOp .USub (.Constant (.int 1) k p1) p2)) p3) pos) (dRevT l) := by
  refine ⟨fun c o S hd kx => ?_⟩
  refine Subscript_ (ha.go S hd kx fun x c1 v f1 S1 r1 hd1 => ?_)
  have hst : PO X (some (.UnaryOp .USub (.Constant (.int 1) k p1) p2)) (dSomeO (dSee (dNeg (dC (.int 1))))) := po_some (pv_of (pd_neg pd_int))
  refine wpAny_Slice ?_
  rw [evalPart_none]
  refine wpAny_pure (wpAny_pure ?_)
  refine thn (hst.run c1 (.ok (some (-1)) c1.ρ) S1 rfl (by trivial)) fun vs s2 ⟨i, c2, e2, eo, f2, S2, ip⟩ => ?_
  subst e2
  injection eo with e1 e3
  subst e1
  obtain ⟨S4, f4⟩ := S2.kept (s' := { c2.s with heap := c2.s.heap.push { cls := .type "slice", data := .fields #[.none, .none, vs] } }) (fun b o e => Heap.get?_push_of_some _ e) (Nat.le_refl _)
  cases x with
  | nm i => cases hd1
  | val d =>
    cases d with
    | tup s =>
      cases hd1
      have r1 : Rep X.w c1.F c1.s.toks v (.tup s) := r1
      have rs := r1.mono (f2.trans f4).fm (f2.trans f4).tk
      have rv : ViewG X.w { c2 with s := { c2.s with heap := c2.s.heap.push { cls := .type "slice", data := .fields #[.none, .none, vs] } } } v (.tup s) := .inl rs
      obtain ⟨t, o, vt, n, rfl, q, hc, hd, z, l⟩ := rv.view.tup_inv S4.sub
      obtain ⟨u, hu, eu⟩ := L2.IsPart.raw ip
      cases u with
      | none => cases eu
      | some u =>
        obtain ⟨u1, u2⟩ := u
        simp only [Option.map_some, Option.some.injEq] at eu
        subst eu
        have il : IsTup (c2.s.heap.push { cls := .type "slice", data := .fields #[.none, .none, vs] }) t vt := ⟨_, q, hc, n, hd⟩
        refine tail_any (ops := [.ref t, .ref c2.s.heap.objs.size]) il.typeIs PyProof.Rows.slot_tuple_getitem.lookup ?_ (by with_unfolding_all rfl)
        have hvs : vs = .int (-1) u2 := hu
        refine getItem_tuple_back (u := u2) il (by rw [hvs]; exact Heap.IsSliceOf.new ..) ?_ z
        rw [e3]
        exact PostE.from ((f1.trans f2).trans f4) (PostE.pushT S4 (Nat.le_refl _) (by rw [List.size_toArray, List.length_reverse]; simpa using z) (by rw [List.toList_toArray]; exact l.reverse))
    | _ => cases hd1
end
end GB
namespace GL
open GB PySem
/-! spread_over: what is met is just what hangs together with the place -/
structure MetK (w : Web) (p : Nat) (K : Nat → Prop) (met line : List Nat) (x : Option Nat) : Prop where
  nd : met.Nodup
  sub : ∀ z ∈ met, z ∈ plc (tts w) ∧ K z
  lin : ∀ z ∈ line, z ∈ met
  hd : ∃ r, met = p :: r
  cl : ∀ z ∈ met, z ∉ line → some z = x ∨ ∀ y ∈ nb w z, y ∈ met
theorem met_turnsK {w : Web} {p x n : Nat} {K : Nat → Prop} (hP : (plc (tts w)).length ≤ 500) : ∀ (ys : List Nat) (met line : List Nat) (s : GB.Slot), MetK w p K met line (some x) → (∀ y ∈ ys, y ∈ plc (tts w) ∧ K y) → (∀ y ∈ nb w x, y ∈ met ∨ y ∈ ys) → 2 * ((plc (tts w)).length - met.length) + line.length ≤ n → line.length ≤ met.length →
    ∃ met' line' s', dFor (gtName 4) sBody (signs ys) [.val (wD w), .val (.str [p]), .own (.lst (signs met)), .own (.lst (signs line)), s] = some (.nx [.val (wD w), .val (.str [p]), .own (.lst (signs met')), .own (.lst (signs line')), s']) ∧ MetK w p K met' line' none ∧ 2 * ((plc (tts w)).length - met'.length) + line'.length ≤ n ∧ line'.length ≤ met'.length := by
  intro ys
  induction ys with
  | nil =>
    intro met line s M _ hx hn hl
    refine ⟨met, line, s, rfl, ⟨M.nd, M.sub, M.lin, M.hd, fun z hz hzl => ?_⟩, hn, hl⟩
    rcases M.cl z hz hzl with e | e
    · cases e
      exact Or.inr fun y hy => by simpa using hx y hy
    · exact Or.inr e
  | cons y ys ih =>
    intro met line s M hys hx hn hl
    have e1 : signs (y :: ys) = .str [y] :: signs ys := rfl
    have ml : met.length ≤ (plc (tts w)).length := nodup_sub_len M.nd (fun z hz => (M.sub z hz).1)
    by_cases h : y ∈ met
    · obtain ⟨met', line', s', h1, h2⟩ := ih met line (.val (.str [y])) M (fun z hz => hys z (by simp [hz])) (fun z hz => by
        rcases hx z hz with q | q
        · exact Or.inl q
        · rcases List.mem_cons.mp q with rfl | q
          · exact Or.inl h
          · exact Or.inr q) hn hl
      refine ⟨met', line', s', ?_, h2⟩
      rw [e1, dFor]
      simp [sBody, in_lst, h]
      simpa [sBody] using h1
    · have M' : MetK w p K (met ++ [y]) (line ++ [y]) (some x) := by
        refine ⟨?_, ?_, ?_, ?_, ?_⟩
        · rw [List.nodup_append]
          refine ⟨M.nd, by simp, ?_⟩
          intro a ha b hb
          simp at hb
          subst hb
          intro z
          exact h (z ▸ ha)
        · intro z hz
          rcases List.mem_append.mp hz with q | q
          · exact M.sub z q
          · simp at q; subst q; exact hys z (by simp)
        · intro z hz
          rcases List.mem_append.mp hz with q | q
          · exact List.mem_append_left _ (M.lin z q)
          · exact List.mem_append_right _ q
        · obtain ⟨r, e⟩ := M.hd
          exact ⟨r ++ [y], by rw [e]; rfl⟩
        · intro z hz hzl
          have hzy : z ≠ y := fun e => hzl (by simp [e])
          have hzm : z ∈ met := by
            rcases List.mem_append.mp hz with q | q
            · exact q
            · simp at q; exact absurd q hzy
          rcases M.cl z hzm (fun q => hzl (List.mem_append_left _ q)) with e | e
          · exact Or.inl e
          · exact Or.inr fun u hu => List.mem_append_left _ (e u hu)
      have ml' : (met ++ [y]).length ≤ (plc (tts w)).length := nodup_sub_len M'.nd (fun z hz => (M'.sub z hz).1)
      obtain ⟨met', line', s', h1, h2⟩ := ih (met ++ [y]) (line ++ [y]) (.val (.str [y])) M' (fun z hz => hys z (by simp [hz])) (fun z hz => by
        rcases hx z hz with q | q
        · exact Or.inl (List.mem_append_left _ q)
        · rcases List.mem_cons.mp q with rfl | q
          · exact Or.inl (by simp)
          · exact Or.inr q) (by simp at ml' ⊢; omega) (by simp; omega)
      refine ⟨met', line', s', ?_, h2⟩
      have a1 := app_ok (ds := signs met) (d := .str [y]) (by rw [signs_len]; omega)
      have a2 := app_ok (ds := signs line) (d := .str [y]) (by rw [signs_len]; omega)
      rw [signs_app] at a1 a2
      rw [e1, dFor]
      simp [sBody, in_lst, h, tyOf, a1, a2]
      simpa [sBody] using h1
/-- spread_over: all that is met hangs together with the place -/
theorem spread_overK {w : Web} {p : Nat} {K : Nat → Prop} (hK : ∀ z, K z → ∀ y ∈ nb w z, K y) (hKp : K p) (hne : ∀ t ∈ w, t.1 ≠ t.2) (hl : w.length ≤ 1000) (hP : (plc (tts w)).length ≤ 500) (hp : p ∈ plc (tts w)) :
    ∃ r : List Nat, (p :: r).Nodup ∧ (∀ z ∈ p :: r, z ∈ plc (tts w) ∧ K z) ∧ (∀ z ∈ p :: r, ∀ y ∈ nb w z, y ∈ p :: r) ∧ sp_spread_over [wD w, .str [p]] = some (.fresh (.lst (signs r)), [wD w, .str [p]]) := by
  obtain ⟨ρ', h1, h2⟩ := sWhile_inv (t := dTruV (dLookAt 3)) (b := (sSeq (sFor (dItems (dCall sp_neighbours_in [false, false] (aVal (dVar 0) (aVal (dMethW "list" gPop 3 (dCons (dC (.int 0)) dNil)) aNil)))) (gtName 4) sBody) sNil))
    (fun n ρ => ∃ met line s, ρ = [.val (wD w), .val (.str [p]), .own (.lst (signs met)), .own (.lst (signs line)), s] ∧ MetK w p K met line none ∧ 2 * ((plc (tts w)).length - met.length) + line.length ≤ n ∧ line.length ≤ met.length)
    (fun ρ => ∃ met s, ρ = [.val (wD w), .val (.str [p]), .own (.lst (signs met)), .own (.lst (signs [])), s] ∧ MetK w p K met [] none)
    (by
      rintro n ρ ⟨met, line, s, rfl, M, hn, hlm⟩
      have ml : met.length ≤ (plc (tts w)).length := nodup_sub_len M.nd (fun z hz => (M.sub z hz).1)
      cases line with
      | nil => exact Or.inl ⟨_, by simp [D.truth, signs], met, s, rfl, M⟩
      | cons x line =>
        refine Or.inr ?_
        have M' : MetK w p K met line (some x) := ⟨M.nd, M.sub, fun z hz => M.lin z (by simp [hz]), M.hd, fun z hz hzl => by
          by_cases e : z = x
          · exact Or.inl (by rw [e])
          · rcases M.cl z hz (by simp [e, hzl]) with q | q
            · cases q
            · exact Or.inr q⟩
        obtain ⟨met', line', s', h1, h2, h3, h4⟩ := met_turnsK hP (p := p) (x := x) (n := n - 1) (nb w x) met line s M' (fun y hy => ⟨nb_plc hy, hK x (M.sub x (M.lin x (by simp))).2 y hy⟩) (fun y hy => Or.inr hy) (by simp at hn; omega) (by simp at hlm; omega)
        refine ⟨[.val (wD w), .val (.str [p]), .own (.lst (signs met)), .own (.lst (signs (x :: line))), s], [.val (wD w), .val (.str [p]), .own (.lst (signs met')), .own (.lst (signs line')), s'], n - 1, ?_, ?_, ?_, ?_⟩
        · simp [D.truth, signs]
        · have hp0 := pop0 x line (by rw [List.length_cons] at hlm; omega)
          have hnb := neighbours_in_ok (p := x) hne hl
          simp [tyOf, hp0, hnb, items_str, h1]
        · simp at hn; omega
        · exact ⟨met', line', s', rfl, h2, h3, h4⟩)
    (2 * ((plc (tts w)).length - 1) + 1) [.val (wD w), .val (.str [p]), .own (.lst (signs [p])), .own (.lst (signs [p])), .un]
    ⟨[p], [p], .un, rfl, ⟨by simp, by simpa using ⟨hp, hKp⟩, by simp, ⟨[], rfl⟩, by simp⟩, by simp, by simp⟩
  obtain ⟨met, s, rfl, M⟩ := h2
  obtain ⟨r, rfl⟩ := M.hd
  refine ⟨r, M.nd, M.sub, fun z hz => ?_, ?_⟩
  · rcases M.cl z hz (by simp) with q | q
    · cases q
    · exact q
  · have hsl : fSl (some 1) none (.lst (signs (p :: r))) = some (.fresh (.lst (signs r))) := by
      have e : cutL (signs (p :: r)) (some 1) none = signs r := by
        unfold cutL
        simp [HT.sIx, signs]
        exact List.take_of_length_le (by simp)
      show some (Res.fresh (.lst (cutL (signs (p :: r)) (some 1) none))) = _
      rw [e]
    have h1' := h1
    simp only [sBody] at h1'
    have ep : signs [p] = [D.str [p]] := rfl
    rw [ep] at h1'
    simp [sp_spread_over, d_spread_over, List.replicate, h1', hsl]
theorem signs_inj {a b : List Nat} (h : signs a = signs b) : a = b := by
  have := congrArg (List.map unS) h
  simpa [signs, unS, List.map_map, Function.comp_def] using this
theorem spread_over_all {w : Web} {p : Nat} (hne : ∀ t ∈ w, t.1 ≠ t.2) (hl : w.length ≤ 1000) (hP : (plc (tts w)).length ≤ 500) (hp : p ∈ plc (tts w)) :
    ∃ r : List Nat, (p :: r).Nodup ∧ (∀ z ∈ p :: r, z ∈ plc (tts w)) ∧ (∀ z ∈ p :: r, ∀ y ∈ nb w z, y ∈ p :: r) ∧ (∀ K : Nat → Prop, (∀ z, K z → ∀ y ∈ nb w z, K y) → K p → ∀ z ∈ p :: r, K z) ∧ sp_spread_over [wD w, .str [p]] = some (.fresh (.lst (signs r)), [wD w, .str [p]]) := by
  obtain ⟨r, h1, h2, h3, h4⟩ := spread_overK (K := fun _ => True) (fun _ _ _ _ => trivial) trivial hne hl hP hp
  refine ⟨r, h1, fun z hz => (h2 z hz).1, h3, fun K hK hKp z hz => ?_, h4⟩
  obtain ⟨r', _, k2, _, k4⟩ := spread_overK (K := K) hK hKp hne hl hP hp
  have e := h4.symm.trans k4
  simp only [Option.some.injEq, Prod.mk.injEq, Res.fresh.injEq, D.lst.injEq, and_true] at e
  have e := signs_inj e
  subst e
  exact (k2 z hz).2
/-- does_hang tells whether all hangs together -/
theorem does_hang_all {w : Web} (hne : ∀ t ∈ w, t.1 ≠ t.2) (hl : w.length ≤ 100) (h0 : w ≠ []) (hP : (plc (tts w)).length ≤ 500) : ∃ b : Bool, (b = true ↔ Hangs w) ∧ sp_does_hang [wD w] = some (.val (.bl b), [wD w]) := by
  have hpl := places_in_ok (ts := tts w) (by rw [flat_len]; omega)
  have hpl : sp_places_in [wD w] = some (.val (.str (plc (tts w))), [wD w]) := hpl
  have hne' : plc (tts w) ≠ [] := by
    obtain ⟨t, w', rfl⟩ := List.exists_cons_of_ne_nil h0
    intro e
    have : t.1 ∈ plc (tts (t :: w')) := by rw [plc_mem]; exact ⟨tt t, by simp [tts], by simp [tt]⟩
    rw [e] at this
    simp at this
  have hpos : 0 < (plc (tts w)).length := List.length_pos_iff.mpr hne'
  have hp : (plc (tts w))[0] ∈ plc (tts w) := List.getElem_mem _
  generalize hz0 : (plc (tts w))[0] = z0 at hp
  obtain ⟨r, h1, h2, h3, h5, h4⟩ := spread_over_all hne (by omega) hP hp
  have rl : (z0 :: r).length ≤ 500 := Nat.le_trans (nodup_sub_len h1 h2) hP
  obtain ⟨ρ', e1, e2⟩ := dFor_inv (g := gtName 3) (b := (sSeq (sAsg 2 (dBinG fAdd (dVar 2) (dVar 3))) sNil))
    (fun rem ρ => ∃ a b s, rem = signs b ∧ ρ = [.val (wD w), .val (.str [z0]), .val (.str a), s] ∧ a ++ b = z0 :: r)
    (by
      rintro d rem ρ ⟨a, b, s, hb, rfl, hab⟩
      cases b with
      | nil => cases hb
      | cons y b =>
        cases hb
        refine ⟨_, z_gName _ _, [.val (wD w), .val (.str [z0]), .val (.str (a ++ [y])), .val (.str [y])], ?_, a ++ [y], b, _, rfl, rfl, by rw [← hab]; simp⟩
        have hla : a.length + 1 ≤ 16777216 := by
          have := congrArg List.length hab
          simp at this rl
          omega
        have hadd : fAdd (.str a) (.str [y]) = some (.val (.str (a ++ [y]))) := if_pos hla
        simp [hadd])
    (signs r) [.val (wD w), .val (.str [z0]), .val (.str [z0]), .un] ⟨[z0], r, .un, rfl, rfl, rfl⟩
  obtain ⟨a, b, s, hb, rfl, hab⟩ := e2
  cases b with
  | cons y b => cases hb
  | nil =>
    rw [List.append_nil] at hab
    subst hab
    have hs := sorted_text_str (s := z0 :: r) (by omega)
    have hr : sp_reached_in [wD w, .str [z0]] = some (.val (.str (sortN (z0 :: r))), [wD w, .str [z0]]) := by
      simp [sp_reached_in, d_reached_in, List.replicate, h4, items_lst, e1, hs]
    have hix : fIx (.str (plc (tts w))) (.int 0) = some (.val (.str [z0])) := by
      rw [← hz0]
      exact ix_str (by decide) (by simpa using hpos)
    refine ⟨decide (sortN (z0 :: r) = plc (tts w)), ?_, ?_⟩
    · rw [decide_eq_true_iff]
      constructor
      · intro e S ⟨z, hz, hSz⟩ hS
        have all : ∀ y ∈ plc (tts w), y ∈ z0 :: r := fun y hy => by rw [← sortN_mem, e]; exact hy
        -- S or its other is closed
        have cl : ∀ (K : Nat → Prop), (∀ t ∈ w, K t.1 ↔ K t.2) → ∀ z, K z → ∀ y ∈ nb w z, K y := fun K hK z hz y hy => by
          obtain ⟨t, ht, hzt, e⟩ := nb_mem.mp hy
          have ho := oth_ne (w := w) (p := z) (hne t ht)
          have : z = t.1 ∨ z = t.2 := by simpa [tt] using hzt
          rcases this with q | q
          · rw [e, ho.1 q]; exact (hK t ht).mp (q ▸ hz)
          · rw [e, ho.2 q]; exact (hK t ht).mpr (q ▸ hz)
        by_cases q : S z0
        · intro y hy
          exact h5 S (cl S hS) q y (all y hy)
        · exact absurd hSz (h5 (fun z => ¬ S z) (cl _ fun t ht => by rw [hS t ht]) q z (all z hz))
      · intro hg
        have key : ∀ z ∈ plc (tts w), z ∈ z0 :: r := hg (fun z => z ∈ z0 :: r) ⟨_, hp, by simp⟩ fun t ht => by
          have hn := hne t ht
          constructor
          · intro h
            exact h3 _ h _ (nb_mem.mpr ⟨t, ht, by simp [tt], by rw [(oth_ne (w := w) hn).1 rfl]⟩)
          · intro h
            exact h3 _ h _ (nb_mem.mpr ⟨t, ht, by simp [tt], by rw [(oth_ne (w := w) hn).2 rfl]⟩)
        exact asc_eq (sortN_lt h1) (plc_asc _) fun c => by
          rw [sortN_mem]
          exact ⟨fun h => h2 c h, fun h => key c h⟩
    · simp [sp_does_hang, d_does_hang, List.replicate, hpl, hix, hr, eq_str]
end GL
/-! What can be shown (repr): bounds that are put together. -/
namespace GB
open GL PySem
structure Sh (d : D) (k W : Nat) : Prop where
  num : D.num d = true
  deep : D.deep d ≤ k
  weight : PyData.weight d.py ≤ W
structure Shs (ds : List D) (k W : Nat) : Prop where
  num : D.nums ds = true
  deep : D.deeps ds ≤ k
  weight : PyData.weightAll (D.pys ds) ≤ W
theorem Shs.nil {k W : Nat} : Shs [] k W := ⟨rfl, Nat.zero_le _, by simp [D.pys, PyData.weightAll]⟩
theorem Shs.cons {d : D} {ds : List D} {k W1 W2 W : Nat} (h : Sh d k W1) (hs : Shs ds k W2) (hW : W1 + 1 + W2 ≤ W) : Shs (d :: ds) k W := by
  refine ⟨?_, ?_, ?_⟩
  · simp only [D.nums, h.num, hs.num, Bool.and_self]
  · simp only [D.deeps]
    have := h.deep
    have := hs.deep
    omega
  · simp only [D.pys, PyData.weightAll]
    have := h.weight
    have := hs.weight
    omega
theorem Sh.tup {ds : List D} {k W : Nat} (h : Shs ds k W) : Sh (.tup ds) (k + 1) W := ⟨by simp only [D.num]; exact h.num, by simp only [D.deep]; have := h.deep; omega, by simp only [D.py, PyData.weight]; exact h.weight⟩
theorem Sh.lst {ds : List D} {k W : Nat} (h : Shs ds k W) : Sh (.lst ds) (k + 1) W := ⟨by simp only [D.num]; exact h.num, by simp only [D.deep]; have := h.deep; omega, by simp only [D.py, PyData.weight]; exact h.weight⟩
theorem Sh.more {d : D} {k W k' W' : Nat} (h : Sh d k W) (hk : k ≤ k') (hW : W ≤ W') : Sh d k' W' := ⟨h.num, Nat.le_trans h.deep hk, Nat.le_trans h.weight hW⟩
theorem Shs.more {ds : List D} {k W k' W' : Nat} (h : Shs ds k W) (hk : k ≤ k') (hW : W ≤ W') : Shs ds k' W' := ⟨h.num, Nat.le_trans h.deep hk, Nat.le_trans h.weight hW⟩
theorem Sh.ok {d : D} {k W : Nat} (h : Sh d k W) (hk : k ≤ 64) (hW : W ≤ 250000) : d.okShow = true := by
  unfold D.okShow
  simp only [Bool.and_eq_true, decide_eq_true_eq]
  exact ⟨⟨h.num, Nat.le_trans h.deep hk⟩, Nat.le_trans h.weight hW⟩
theorem Sh.int {i : Int} (h : small i) : Sh (.int i) 0 11 := ⟨small_n h, Nat.zero_le _, small_w h⟩
theorem Sh.bl (b : Bool) : Sh (.bl b) 0 0 := ⟨rfl, Nat.zero_le _, by simp [D.py, PyData.weight]⟩
theorem Sh.non : Sh .non 0 0 := ⟨rfl, Nat.zero_le _, by simp [D.py, PyData.weight]⟩
theorem strOk_low {s : List Nat} (h : ∀ c ∈ s, c < 55296) : PyData.strOk (tx s) = true := by
  unfold PyData.strOk
  rw [← Array.all_toList, tx_list]
  simp only [List.all_eq_true]
  intro c hc
  have := h c hc
  simp
  omega
theorem Sh.str {s : List Nat} {W : Nat} (h : ∀ c ∈ s, c < 55296) (hl : s.length ≤ W) : Sh (.str s) 0 W := ⟨strOk_low h, Nat.zero_le _, by
  show PyData.weight (.str (tx s)) ≤ W
  simp only [PyData.weight]
  have : (tx s).cps.size = s.length := by simp [tx]
  omega⟩
theorem Shs.map {α : Type} {f : α → D} {k W : Nat} : ∀ {l : List α}, (∀ x ∈ l, Sh (f x) k W) → Shs (l.map f) k (l.length * (W + 1))
  | [], _ => Shs.nil
  | x :: l, h => by
    have ih := Shs.map (f := f) (k := k) (W := W) (l := l) fun y hy => h y (by simp [hy])
    rw [List.map_cons]
    refine Shs.cons (h x (by simp)) ih ?_
    rw [List.length_cons, Nat.succ_mul]
    omega
theorem LT_low {c : Nat} (h : c ∈ GL.LT) : c < 55296 := by
  have key : ∀ c ∈ GL.LT, c < 55296 := by decide
  exact key c h
end GB

namespace G02
open GB GL PySem
noncomputable section
def d__law_draw : DS :=
(sSeq (sIf (dTst fGtD (dLate (dOp2 fIx (dLateAt 0) (dSee (dC (.int 0))))) (dSee (dC (.int 0)))) (sSeq (sAsgT (dCallA fDivmod (dCons (dOp2 fIx (dLateAt 0) (dSee (dC (.int 0)))) (dCons (dVar 1) dNil))) (gtTup 2 (gtCons (gtSub 0 (dGood (dC (.int 0)))) (gtCons (gtName 2) gtNil))))
  (sSeq (sRet (dVar 2))
  sNil)) sNil)
  (sSeq (sAsgT (dBinG fAdd (dOp2 fIx (dLateAt 0) (dSee (dC (.int 2)))) (dC (.int 1))) (gtSub 0 (dGood (dC (.int 2)))))
  (sSeq (sAsg 3 (dBin fMod (dCall1 fInt1 (dGood (dBinG fAdd (dBin fMul (dOp2 fIx (dLateAt 0) (dSee (dC (.int 1)))) (dC (.int 40009))) (dBin fMul (dC (.int 15013)) (dOp2 fIx (dLateAt 0) (dSee (dC (.int 2)))))))) (dC (.int 2147483629))))
  (sSeq (sAsgT (dBin fMod (dCall1 fInt1 (dGood (dBinG fAdd (dBin fMul (dVar 3) (dBinG fAdd (dBin fMod (dCall1 fInt1 (dLateAt 3)) (dC (.int 5003))) (dC (.int 20011)))) (dOp2 fIx (dLateAt 0) (dSee (dC (.int 2))))))) (dC (.int 2147483629))) (gtSub 0 (dGood (dC (.int 1)))))
  (sSeq (sRet (dBin fMod (dCall1 fInt1 (dGood (dBin fDiv (dOp2 fIx (dLateAt 0) (dSee (dC (.int 1)))) (dC (.int 1031))))) (dVar 1)))
  sNil)))))
def sp__law_draw : DF := fnD 4 [true, false] d__law_draw
def d__law_mixed : DS :=
(sSeq (sPar [2, 3] (rCons (dCall1 fList (dLateAt 1)) (rCons (dLst dNil) rNil)))
  (sSeq (sFor (dRng (dCons (dCall1 fLen (dLateAt 1)) dNil)) (gtName 4) (sSeq (sDrop (dMethW "list" gAppend 3 (dCons (dMethW "list" gPop 2 (dCons (dCall sp__law_draw [true, false] (aRef 0 (aVal (dCall1 fLen (dLateAt 2)) aNil))) dNil)) dNil)))
  sNil))
  (sSeq (sRet (dVar 3))
  sNil)))
def sp__law_mixed : DF := fnD 5 [true, false] d__law_mixed
def d__law_unlike : DS :=
(sSeq (sAsg 3 (dCall1 fList (dLateAt 1)))
  (sSeq (sFor (dRng (dCons (dBin fSub (dCall1 fLen (dLateAt 1)) (dVar 2)) dNil)) (gtName 4) (sSeq (sDrop (dMethW "list" gPop 3 (dCons (dCall sp__law_draw [true, false] (aRef 0 (aVal (dCall1 fLen (dLateAt 3)) aNil))) dNil)))
  sNil))
  (sSeq (sRet (dVar 3))
  sNil)))
def sp__law_unlike : DF := fnD 5 [true, false, false] d__law_unlike
def d__law_web : DS :=
(sSeq (sAsg 3 (dBinG fAdd (dC (.int 2)) (dCall sp__law_draw [true, false] (aRef 0 (aVal (dBin fSub (dVar 1) (dC (.int 1))) aNil)))))
  (sSeq (sAsg 4 (dCall1 fSorted (dGood (dCall sp__law_unlike [true, false, false] (aRef 0 (aVal (dCall1 fList (dGood (dC (.str [97, 98, 99, 100, 101, 102, 103, 104, 105, 106, 107, 108, 109, 110, 111, 112, 113, 114, 115, 116, 117, 118, 119, 120, 121, 122])))) (aVal (dVar 3) aNil)))))))
  (sSeq (sAsg 5 (dCall sp__law_mixed [true, false] (aRef 0 (aVal (dVar 4) aNil))))
  (sSeq (sAsg 6 (dLst dNil))
  (sSeq (sFor (dRng (dCons (dC (.int 1)) (dCons (dVar 3) dNil))) (gtName 7) (sSeq (sDrop (dMethW "list" gAppend 6 (dCons (dMeth "str" gJoin (dGood (dC (.str []))) (dCons (dCall1 fSorted (dGood (dLst (dCons (dOp2 fIx (dLateAt 5) (dLookAt 7)) (dCons (dOp2 fIx (dLateAt 5) (dSee (dCall sp__law_draw [true, false] (aRef 0 (aVal (dVar 7) aNil))))) dNil))))) dNil)) dNil)))
  sNil))
  (sSeq (sFor (dRng (dCons (dCall sp__law_draw [true, false] (aRef 0 (aVal (dVar 2) aNil))) dNil)) (gtName 8) (sSeq (sAsg 9 (dMeth "str" gJoin (dGood (dC (.str []))) (dCons (dCall1 fSorted (dGood (dCall sp__law_unlike [true, false, false] (aRef 0 (aVal (dVar 4) (aVal (dC (.int 2)) aNil)))))) dNil)))
  (sSeq (sIf (dAndT (dTst (fIn true) (dLateAt 9) (dLookAt 6)) (dTst fLtD (dLate (dCall1 fLen (dLateAt 6))) (dLookAt 2))) (sSeq (sDrop (dMethW "list" gAppend 6 (dCons (dVar 9) dNil)))
  sNil) sNil)
  sNil)))
  (sSeq (sRet (dCall1 fTuple (dGood (dCall1 fSorted (dLateAt 6)))))
  sNil)))))))
def sp__law_web : DF := fnD 10 [true, false, false] d__law_web
def d__law_of : DS :=
(sSeq (sRet (dOp2 fIx (dLateAt 1) (dSee (dCall sp__law_draw [true, false] (aRef 0 (aVal (dCall1 fLen (dLateAt 1)) aNil))))))
  sNil)
def sp__law_of : DF := fnD 2 [true, false] d__law_of
def d__law_edge : DS :=
(sSeq (sAsg 1 (dSl (dGood (dTup (dCons (dC (.str [97, 98])) (dCons (dC (.str [97, 99])) (dCons (dC (.str [97, 100])) (dCons (dC (.str [97, 101])) (dCons (dC (.str [97, 102])) (dCons (dC (.str [97, 103])) (dCons (dC (.str [98, 99])) (dCons (dC (.str [98, 100])) (dCons (dC (.str [98, 101])) (dCons (dC (.str [98, 102])) (dCons (dC (.str [98, 103])) dNil))))))))))))) dNoO (dSomeO (dSee (dCall sp__law_of [true, false] (aRef 0 (aVal (dTup (dCons (dC (.int 1)) (dCons (dC (.int 6)) (dCons (dC (.int 10)) (dCons (dC (.int 11)) dNil))))) aNil)))))))
  (sSeq (sAsg 2 (dLst (dCons (dVar 1) (dCons (dVar 1) (dCons (dTup (dCons (dC (.str [97, 98])) (dCons (dC (.str [98, 99])) (dCons (dC (.str [99, 100])) (dCons (dC (.str [100, 101])) (dCons (dC (.str [101, 102])) (dCons (dC (.str [102, 103])) (dCons (dC (.str [103, 104])) dNil)))))))) (dCons (dTup (dCons (dC (.str [97, 98])) (dCons (dC (.str [99, 100])) dNil))) (dCons (dTup (dCons (dC (.str [97, 98])) (dCons (dC (.str [98, 99])) (dCons (dC (.str [100, 101])) (dCons (dC (.str [101, 102])) dNil))))) (dCons (dSl (dLateAt 1) (dSomeO (dSee (dC (.int 1)))) dNoO) dNil))))))))
  (sSeq (sRet (dCall sp__law_of [true, false] (aRef 0 (aVal (dVar 2) aNil))))
  sNil)))
def sp__law_edge : DF := fnD 3 [true] d__law_edge
def d__law_bent : DS :=
(sSeq (sAsg 2 (dTup (dCons (dC .non) (dCons (dC (.bl true)) (dCons (dC (.int 0)) (dCons (dC (.str [])) (dCons (dC (.str [97])) (dCons (dC (.str [97, 98])) (dCons (dC (.str [98, 97])) (dCons (dC (.str [97, 97])) (dCons (dC (.str [121, 122])) (dCons (dC (.str [97, 122])) (dCons (dC (.str [97, 98, 99])) (dCons (dC (.str [97, 66])) (dCons (dC (.str [97, 49])) (dCons (dTup dNil) (dCons (dTup (dCons (dC (.str [97, 98])) dNil)) (dCons (dLst dNil) dNil))))))))))))))))))
  (sSeq (sIf (dOrT (dNotT (dTru (dIsi "tuple" (dLateAt 1)))) (dOrT (dTst (fEq false) (dLateAt 1) (dSee (dTup dNil))) (dTst (fEq false) (dLate (dCall sp__law_draw [true, false] (aRef 0 (aVal (dC (.int 6)) aNil)))) (dSee (dC (.int 0)))))) (sSeq (sRet (dCall sp__law_of [true, false] (aRef 0 (aVal (dVar 2) aNil))))
  sNil) sNil)
  (sSeq (sPar [3, 4] (rCons (dCall sp__law_draw [true, false] (aRef 0 (aVal (dCall1 fLen (dLateAt 1)) aNil))) (rCons (dCall sp__law_draw [true, false] (aRef 0 (aVal (dC (.int 9)) aNil))) rNil)))
  (sSeq (sIf (dTst fLtD (dLateAt 4) (dSee (dC (.int 6)))) (sSeq (sRet (dBinG fAdd (dBinG fAdd (dSl (dLateAt 1) dNoO (dSomeO (dLookAt 3))) (dTup (dCons (dCall sp__law_of [true, false] (aRef 0 (aVal (dVar 2) aNil))) dNil))) (dSl (dLateAt 1) (dSomeO (dSee (dBinG fAdd (dVar 3) (dC (.int 1))))) dNoO)))
  sNil) sNil)
  (sSeq (sLc 5 [] (dItems (dVar 1)) (gtName 6) (dTru (dIsi "str" (dLateAt 6))) (dVar 6))
  (sSeq (sAsg 7 (dCall1 fTuple (dGood (dSet xSorted (dGood (dBinG fAdd (dVar 5) (dLst (dCons (dMeth "str" gJoin (dGood (dC (.str []))) (dCons (dCall1 fSorted (dGood (dCall sp__law_unlike [true, false, false] (aRef 0 (aVal (dCall1 fList (dGood (dC (.str [97, 98, 99, 100, 119, 120, 121, 122])))) (aVal (dC (.int 2)) aNil)))))) dNil)) dNil))))))))
  (sSeq (sRet (dCall sp__law_of [true, false] (aRef 0 (aVal (dLst (dCons (dBinG fAdd (dSl (dLateAt 1) dNoO (dSomeO (dLookAt 3))) (dSl (dLateAt 1) (dSomeO (dSee (dBinG fAdd (dVar 3) (dC (.int 1))))) dNoO)) (dCons (dVar 7) (dCons (dVar 7) (dCons (dCall1 fList (dLateAt 1)) (dCons (dRevT (dLateAt 1)) (dCons (dTup (dCons (dVar 1) dNil)) dNil))))))) aNil))))
  sNil)))))))
def sp__law_bent : DF := fnD 8 [true, false] d__law_bent
def d__law_is_web : DS :=
(sSeq (sIf (dOrT (dNotT (dTru (dIsi "tuple" (dLateAt 0)))) (dNotT (dChain fLeD fLeD (dLate (dC (.int 1))) (dLate (dCall1 fLen (dLateAt 0))) (dSee (dC (.int 10)))))) (sSeq (sRet (dC (.bl false)))
  sNil) sNil)
  (sSeq (sFor (dItems (dVar 0)) (gtName 1) (sSeq (sIf (dOrT (dNotT (dTru (dIsi "str" (dLateAt 1)))) (dOrT (dTst (fEq true) (dLate (dCall1 fLen (dLateAt 1))) (dSee (dC (.int 2)))) (dNotT (dTst fLtD (dLate (dOp2 fIx (dLateAt 1) (dSee (dC (.int 0))))) (dSee (dOp2 fIx (dLateAt 1) (dSee (dC (.int 1))))))))) (sSeq (sRet (dC (.bl false)))
  sNil) sNil)
  (sSeq (sIf (dTst (fEq true) (dLate (dLc [] (dItems (dVar 1)) (gtName 2) (dTst (fIn true) (dLateAt 2) (dSee (dC (.str [97, 98, 99, 100, 101, 102, 103, 104, 105, 106, 107, 108, 109, 110, 111, 112, 113, 114, 115, 116, 117, 118, 119, 120, 121, 122])))) (dC (.int 1)))) (dSee (dLst dNil))) (sSeq (sRet (dC (.bl false)))
  sNil) sNil)
  sNil)))
  (sSeq (sIf (dOrT (dTst (fEq true) (dLate (dSet xSorted (dLateAt 0))) (dSee (dCall1 fList (dLateAt 0)))) (dTst fGtD (dLate (dSet xLen (dGood (dMeth "str" gJoin (dGood (dC (.str []))) (dCons (dVar 0) dNil))))) (dSee (dC (.int 7))))) (sSeq (sRet (dC (.bl false)))
  sNil) sNil)
  (sSeq (sAsg 3 (dLst (dCons (dOp2 fIx (dLate (dOp2 fIx (dLateAt 0) (dSee (dC (.int 0))))) (dSee (dC (.int 0)))) dNil)))
  (sSeq (sFor (dItems (dVar 0)) (gtName 4) (sSeq (sFor (dItems (dVar 0)) (gtName 1) (sSeq (sAsg 3 (dBinG fAdd (dVar 3) (dLc [1, 3] (dItems (dVar 1)) (gtName 2) (dAndT (dOrT (dTst (fIn false) (dLate (dOp2 fIx (dLateAt 1) (dSee (dC (.int 0))))) (dLookAt 3)) (dTst (fIn false) (dLate (dOp2 fIx (dLateAt 1) (dSee (dC (.int 1))))) (dLookAt 3))) (dTst (fIn true) (dLateAt 2) (dLookAt 3))) (dVar 2))))
  sNil))
  sNil))
  (sSeq (sRet (dOp2 (fEq false) (dLate (dSet xLen (dLateAt 3))) (dSee (dSet xLen (dGood (dMeth "str" gJoin (dGood (dC (.str []))) (dCons (dVar 0) dNil)))))))
  sNil))))))
def sp__law_is_web : DF := fnD 5 [false] d__law_is_web
def d__law_is : DS :=
(sSeq (sRet (dOp2 (fEq false) (dLate (dCall1 fRepr (dLateAt 0))) (dSee (dCall1 fRepr (dLateAt 1)))))
  sNil)
def sp__law_is : DF := fnD 2 [false, false] d__law_is
def d_is_web : DS :=
(sSeq (sRet (dCall sp_is_web_form [false] (aVal (dVar 0) aNil)))
  sNil)
def sp_is_web : DF := fnD 1 [false] d_is_web
def d__law_right : DS :=
(sSeq (sFor (dRng (dCons (dC (.int 6)) dNil)) (gtName 1) (sSeq (sAsg 2 (dCall sp__law_web [true, false, false] (aRef 0 (aVal (dC (.int 7)) (aVal (dC (.int 10)) aNil)))))
  (sSeq (sAsg 3 (dLst (dCons (dVar 2) (dCons (dCall sp__law_edge [true] (aRef 0 aNil)) (dCons (dCall sp__law_edge [true] (aRef 0 aNil)) (dCons (dCall sp__law_bent [true, false] (aRef 0 (aVal (dCall sp__law_bent [true, false] (aRef 0 (aVal (dVar 2) aNil))) aNil))) dNil))))))
  (sSeq (sFor (dItems (dBinG fAdd (dVar 3) (dLc [0, 2] (dRng (dCons (dC (.int 10)) dNil)) (gtName 6) tYes (dCall sp__law_bent [true, false] (aRef 0 (aVal (dVar 2) aNil)))))) (gtName 4) (sSeq (sAsg 5 (dCall sp__law_is_web [false] (aVal (dVar 4) aNil)))
  (sSeq (sIf (dNotT (dTru (dCall sp__law_is [false, false] (aVal (dLst (dCons (dCall sp_is_web [false] (aVal (dVar 4) aNil)) (dCons (dCallK sp_is_web [false] [0] 0 1 aNil (aVal (dVar 4) aNil)) dNil))) (aVal (dLst (dCons (dVar 5) (dCons (dVar 5) dNil))) aNil))))) (sSeq (sRet (dC (.bl false)))
  sNil) sNil)
  sNil)))
  sNil))))
  (sSeq (sRet (dC (.bl true)))
  sNil))
def sp__law_right : DF := fnD 7 [true] d__law_right
def d__law_well : DS :=
(sSeq (sAsg 2 (dBinG fAdd (dC (.int 3412246)) (dBin fMul (dC (.int 5231)) (dVar 1))))
  (sSeq (sFor (dItems (dSl (dLateAt 0) dNoO (dSomeO (dSee (dC (.int 9)))))) (gtName 3) (sSeq (sAsg 2 (dBin fMod (dCall1 fInt1 (dGood (dBinG fAdd (dBinG fAdd (dBin fMul (dVar 2) (dC (.int 47521))) (dBin fMod (dCall1 fInt1 (dLateAt 3)) (dC (.int 2147483549)))) (dC (.int 41))))) (dC (.int 2147483629))))
  sNil))
  (sSeq (sAsg 4 (dIf (dTst fLtD (dLateAt 1) (dSee (dCall1 fLen (dLateAt 0)))) (dCall1 fInt1 (dGood (dOp2 fIx (dLateAt 0) (dLookAt 1)))) (dC (.int 0))))
  (sSeq (sAsg 2 (dBin fMod (dCall1 fInt1 (dGood (dBinG fAdd (dBinG fAdd (dBin fMul (dVar 2) (dC (.int 61))) (dBin fMul (dBin fMod (dCall1 fInt1 (dLateAt 4)) (dC (.int 2147483549))) (dC (.int 16007)))) (dC (.int 17))))) (dC (.int 2147483629))))
  (sSeq (sRet (dLst (dCons (dIf (dOrT (dTst fLtD (dLateAt 4) (dSee (dC (.int 0)))) (dTst fGeD (dLateAt 4) (dSee (dBin fPow (dC (.int 10)) (dC (.int 15)))))) (dCall1 fAbs (dLateAt 4)) (dC (.int 0))) (dCons (dVar 2) (dCons (dC (.int 0)) dNil)))))
  sNil)))))
def sp__law_well : DF := fnD 5 [false, false] d__law_well
def d_law : DS :=
(sSeq (sRet (dCall1 fAll (dGood (dLc [0] (dRng1 (dCons (dCallA fMax2 (dCons (dC (.int 1)) (dCons (dCallA fMin2 (dCons (dCall1 fLen (dLateAt 0)) (dCons (dC (.int 3)) dNil))) dNil))) dNil)) (gtName 1) tYes (dCallF sp__law_right (dCall sp__law_well [false, false] (aVal (dVar 0) (aVal (dVar 1) aNil))))))))
  sNil)
def sp_law : DF := fnD 2 [false] d_law
end
end G02
namespace GL
open GB PySem
@[simp] theorem z_Set {ρ : Rho} (g : List (List Nat) → Option Res) (a : DL) : dSet g a ρ = obind (a ρ) fun l ρ1 => (match l.now ρ1 with | some d => (match textsD d with | some xs => if xs.length ≤ 4000 then (match g (xs.foldl addX []) with | some z => some (.ok z ρ1) | none => none) else none | none => none) | none => none) := nrfl _
@[simp] theorem z_RevT {ρ : Rho} (l : DL) : dRevT l ρ = obind (l ρ) fun x ρ1 => (match x with | .val (.tup s) => some (.ok (.val (.tup s.reverse)) ρ1) | _ => none) := nrfl _
theorem all_of {ds : List D} {p : D → Bool} : fAll (.lst (ds.map fun d => .bl (p d))) = some (.val (.bl (ds.all p))) := by
  have e : boolsD (ds.map fun d => .bl (p d)) = some (ds.map p) := by
    induction ds with
    | nil => rfl
    | cons d ds ih => show (boolsD (ds.map fun d => .bl (p d))).map (p d :: ·) = _; rw [ih]; rfl
  show (boolsD (ds.map fun d => .bl (p d))).map (fun ns => Res.val (.bl (ns.all id))) = _
  rw [e]
  simp [List.all_map, Function.comp_def]
/-- all of a comprehension, whatever its truth -/
theorem lc_allB {g : D → Rho → Option (O Unit)} {e : DE} {ds : List D} (Inv : Rho → Prop) (p : D → Bool)
    (step : ∀ ρ, Inv ρ → ∀ d ∈ ds, ∃ ρ1, g d ρ = some (.ok () ρ1) ∧ ∃ r ρ3, e ρ1 = some (.ok r ρ3) ∧ r.isWeak = false ∧ r.d = .bl (p d) ∧ Inv ρ3) (ρ : Rho) (h : Inv ρ) :
    ∃ xs ρ', dLcGo g tYes e ds ρ = some (xs, ρ') ∧ fAll (.lst xs) = some (.val (.bl (ds.all p))) ∧ Inv ρ' := by
  obtain ⟨ρ', h1, h2⟩ := lc_map (g := g) (t := tYes) (e := e) (ds := ds) Inv (fun _ => true) (fun d => .bl (p d)) (fun ρ hi d hd => by
    obtain ⟨ρ1, a1, r, ρ3, a2, a3, a4, a5⟩ := step ρ hi d hd
    exact ⟨ρ1, a1, ρ1, z_tYes, fun z => (nomatch z), fun _ => ⟨r, ρ3, a2, a3, a4, a5⟩⟩) ρ h
  refine ⟨_, ρ', h1, ?_, h2⟩
  rw [List.filter_eq_self.mpr (by simp)]
  exact all_of
def isLT (c : Nat) : Bool := decide (c ∈ LT)
theorem is_letters_any {s : List Nat} (hl : s.length ≤ 1000) : sp_is_letters [.str s] = some (.val (.bl (s.all isLT)), [.str s]) := by
  obtain ⟨xs, ρ', h1, h2, s1, rfl⟩ := lc_allB (g := gtName 1) (e := dOp2 (fIn false) (dLateAt 1) (dSee (dW LT))) (ds := signs s) (fun ρ => ∃ a, ρ = [.un, a]) (fun d => isLT (unS d)) (by
    rintro ρ ⟨a, rfl⟩ d hd
    obtain ⟨c, hc, rfl⟩ := List.mem_map.mp hd
    refine ⟨_, z_gName _ _, .val (.bl (isLT c)), [.un, .val (.str [c])], ?_, rfl, rfl, ⟨_, rfl⟩⟩
    simp [in_sign, isLT]) [.un, .un] ⟨_, rfl⟩
  have h3 := lcAll_of (vs := []) (ρ := [.val (.str s), .un]) (by rw [signs_len]; omega) h1
  have hty : isiB (D.str s).ty "str" = true := rfl
  have e : (signs s).all (fun d => isLT (unS d)) = s.all isLT := by
    unfold signs
    rw [List.all_map]
    rfl
  rw [e] at h2
  unfold LT at h3
  simp [sp_is_letters, d_is_letters, List.replicate, hty, items_str, h3, h2]
def tieB : D → Bool
  | .str [a, b] => isLT a && isLT b && decide (a < b)
  | _ => false
/-- what an item may be -/
def Small (d : D) : Prop := ∀ s, d = .str s → s.length ≤ 1000
theorem is_tie_any {d : D} (h : Small d) : sp_is_tie_form [d] = some (.val (.bl (tieB d)), [d]) := by
  have non : ∀ d : D, isiB d.ty "str" = false → sp_is_tie_form [d] = some (.val (.bl false), [d]) := fun d hd => by
    have hl : sp_is_letters [d] = some (.val (.bl false), [d]) := by
      simp [sp_is_letters, d_is_letters, List.replicate, hd]
    simp [sp_is_tie_form, d_is_tie_form, List.replicate, hl]
  cases d with
  | str s =>
    have hs := h s rfl
    have hl := is_letters_any hs
    match s, hl with
    | [], hl =>
      simp [sp_is_tie_form, d_is_tie_form, List.replicate, hl, len_str, eq_int, tieB]
    | [a], hl =>
      by_cases q : [a].all isLT = true
      · rw [q] at hl
        simp [sp_is_tie_form, d_is_tie_form, List.replicate, hl, len_str, eq_int, tieB]
      · rw [Bool.not_eq_true] at q
        rw [q] at hl
        simp [sp_is_tie_form, d_is_tie_form, List.replicate, hl, tieB]
    | [a, b], hl =>
      have a0 : fIx (.str [a, b]) (.int 0) = some (.val (.str [a])) := ix2_0 _ _
      have a1 : fIx (.str [a, b]) (.int 1) = some (.val (.str [b])) := ix2_1 _ _
      have hlt : decide (([a] : List Nat) < [b]) = decide (a < b) := decide_eq_decide.mpr (lt_one _ _)
      by_cases q : [a, b].all isLT = true
      · rw [q] at hl
        have q2 : isLT a = true ∧ isLT b = true := by simpa using q
        simp [sp_is_tie_form, d_is_tie_form, List.replicate, hl, len_str, eq_int, a0, a1, lt_str, hlt, tieB, q2.1, q2.2]
      · rw [Bool.not_eq_true] at q
        rw [q] at hl
        have q2 : (isLT a && isLT b) = false := by simpa using q
        simp [sp_is_tie_form, d_is_tie_form, List.replicate, hl, tieB, q2]
    | a :: b :: c :: s, hl =>
      have hn : ¬ ((s.length : Int) + 1 + 1 + 1 = 2) := by omega
      by_cases q : (a :: b :: c :: s).all isLT = true
      · rw [q] at hl
        simp [sp_is_tie_form, d_is_tie_form, List.replicate, hl, len_str, eq_int, tieB, hn]
      · rw [Bool.not_eq_true] at q
        rw [q] at hl
        simp [sp_is_tie_form, d_is_tie_form, List.replicate, hl, tieB]
  | _ => exact non _ rfl
theorem ties_of : ∀ {xs : List D}, xs.all tieB = true → ∃ w : Web, xs = (tts w).map D.str ∧ ∀ t ∈ w, t.1 ∈ LT ∧ t.2 ∈ LT ∧ t.1 < t.2
  | [], _ => ⟨[], rfl, by simp⟩
  | x :: xs, h => by
    rw [List.all_cons, Bool.and_eq_true] at h
    obtain ⟨w, h1, h2⟩ := ties_of h.2
    have hx := h.1
    unfold tieB at hx
    split at hx
    · rename_i a b
      rw [Bool.and_eq_true, Bool.and_eq_true] at hx
      refine ⟨(a, b) :: w, by rw [h1]; rfl, fun t ht => ?_⟩
      rcases List.mem_cons.mp ht with e | e
      · rw [e]
        exact ⟨of_decide_eq_true hx.1.1, of_decide_eq_true hx.1.2, of_decide_eq_true hx.2⟩
      · exact h2 t e
    · cases hx
theorem ties_all {w : Web} (h : ∀ t ∈ w, t.1 ∈ LT ∧ t.2 ∈ LT ∧ t.1 < t.2) : ((tts w).map D.str).all tieB = true := by
  rw [List.all_eq_true]
  intro x hx
  obtain ⟨s, hs, rfl⟩ := List.mem_map.mp hx
  obtain ⟨t, ht, rfl⟩ := List.mem_map.mp hs
  obtain ⟨a, b, c⟩ := h t ht
  show (isLT t.1 && isLT t.2 && decide (t.1 < t.2)) = true
  simp [isLT, a, b, c]
theorem wD_inj {v w : Web} (h : wD v = wD w) : v = w := by
  unfold wD at h
  injection h with h
  have h2 : tts v = tts w := by
    have := congrArg (List.map fun d => match d with | D.str s => s | _ => []) h
    simpa [List.map_map, Function.comp_def] using this
  have inj : Function.Injective tt := fun a b e => tt_inj e
  exact (List.map_inj_right (fun a b e => tt_inj e)).mp h2
/-- neighbours ascend, so all do -/
theorem rise_iff : ∀ l : List (List Nat), ((l.zip (l.drop 1)).all fun q => decide (q.1 < q.2)) = true ↔ l.Pairwise (· < ·)
  | [] => by simp
  | [x] => by simp
  | x :: y :: l => by
    have ih := rise_iff (y :: l)
    simp only [List.drop_succ_cons, List.drop_zero, List.zip_cons_cons, List.all_cons, Bool.and_eq_true, decide_eq_true_eq] at ih ⊢
    rw [List.pairwise_cons]
    constructor
    · rintro ⟨h1, h2⟩
      have h3 := ih.mp h2
      refine ⟨fun z hz => ?_, h3⟩
      rcases List.mem_cons.mp hz with rfl | hz
      · exact h1
      · exact List.lt_trans h1 ((List.pairwise_cons.mp h3).1 z hz)
    · rintro ⟨h1, h2⟩
      exact ⟨h1 y (by simp), ih.mpr h2⟩
def IsW (d : D) : Prop := ∃ w : Web, d = wD w ∧ WebOk w
theorem is_web_form_any {d : D} (h : ∀ xs, d = .tup xs → xs.length ≤ 1000 ∧ ∀ x ∈ xs, Small x) : ∃ b : Bool, (b = true ↔ IsW d) ∧ sp_is_web_form [d] = some (.val (.bl b), [d]) := by
  have non : isiB d.ty "tuple" = false → (∀ xs, d ≠ .tup xs) → ∃ b : Bool, (b = true ↔ IsW d) ∧ sp_is_web_form [d] = some (.val (.bl b), [d]) := fun hd hn => by
    refine ⟨false, ⟨fun z => (nomatch z), fun ⟨w, e, _⟩ => absurd e (hn _)⟩, ?_⟩
    simp [sp_is_web_form, d_is_web_form, List.replicate, hd, D.truth]
  cases d with
  | tup xs =>
    obtain ⟨hlen, hsm⟩ := h xs rfl
    have hty : isiB (D.tup xs).ty "tuple" = true := rfl
    have hln : fLen (.tup xs) = some (.val (.int xs.length)) := rfl
    by_cases q1 : (1 : Int) ≤ (xs.length : Int)
    · by_cases q2 : (xs.length : Int) ≤ 10
      · obtain ⟨ys, ρ', h1, h2, s1, s2, s3, rfl⟩ := lc_allB (g := gtName 1) (e := dCall sp_is_tie_form [false] (aVal (dVar 1) aNil)) (ds := xs) (fun ρ => ∃ a b c, ρ = [.un, a, b, c]) tieB (by
          rintro ρ ⟨a, b, c, rfl⟩ d hd
          have ht := is_tie_any (hsm d hd)
          refine ⟨_, z_gName _ _, .val (.bl (tieB d)), [.un, .val d, b, c], ?_, rfl, rfl, ⟨_, _, _, rfl⟩⟩
          simp [ht]) [.un, .un, .un, .un] ⟨_, _, _, rfl⟩
        have h3 := lcAll_of (vs := []) (ρ := [.val (.tup xs), .un, .un, .un]) (by omega) h1
        by_cases q3 : xs.all tieB = true
        · obtain ⟨w, rfl, hw⟩ := ties_of q3
          have hwl : ((tts w).map D.str).length = w.length := by simp [tts]
          rw [hwl] at q1 q2
          have hz : zipD [wD w, .tup (((tts w).map D.str).drop 1)] = some (((tts w).zip ((tts w).drop 1)).map fun q => .tup [.str q.1, .str q.2]) := by
            show some ((((tts w).map D.str).zip (((tts w).map D.str).drop 1)).map fun q => D.tup [q.1, q.2]) = _
            rw [← List.map_drop, List.zip_map, List.map_map]
            rfl
          obtain ⟨zs, ρ', k1, k2, a1, a2, a3, rfl⟩ := lc_allB (g := gtTup 2 (gtCons (gtName 2) (gtCons (gtName 3) gtNil))) (e := dOp2 fLtD (dLateAt 2) (dLookAt 3)) (ds := ((tts w).zip ((tts w).drop 1)).map fun q => D.tup [.str q.1, .str q.2]) (fun ρ => ∃ a b c, ρ = [.un, a, b, c])
            (fun d => match d with | .tup [.str a, .str b] => decide (a < b) | _ => false) (by
            rintro ρ ⟨a, b, c, rfl⟩ d hd
            obtain ⟨q, hq, rfl⟩ := List.mem_map.mp hd
            refine ⟨[.un, a, .val (.str q.1), .val (.str q.2)], by simp, .val (.bl (decide (q.1 < q.2))), [.un, a, .val (.str q.1), .val (.str q.2)], ?_, rfl, rfl, ⟨_, _, _, rfl⟩⟩
            simp [lt_str]) [.un, .un, .un, .un] ⟨_, _, _, rfl⟩
          have k3 := lcAll_of (vs := []) (ρ := [.val (wD w), .un, .un, .un]) (by rw [List.length_map, List.length_zip]; have : (tts w).length = w.length := by simp [tts]
                                                                                 omega) k1
          have ke : (((tts w).zip ((tts w).drop 1)).map fun q => D.tup [.str q.1, .str q.2]).all (fun d => match d with | .tup [.str a, .str b] => decide (a < b) | _ => false) = ((tts w).zip ((tts w).drop 1)).all fun q => decide (q.1 < q.2) := by
            rw [List.all_map]; rfl
          rw [ke] at k2
          have hsl : fSl (some 1) none (wD w) = some (.val (.tup (((tts w).map D.str).drop 1))) := by
            show some (Res.val (.tup (cutL ((tts w).map D.str) (some 1) none))) = _
            rw [cut1 (by rw [hwl]; omega)]
          have hit : itemsOf (wD w) = some ((tts w).map D.str) := rfl
          have hln' : fLen (wD w) = some (.val (.int w.length)) := by rw [← hwl]; rfl
          have hty' : isiB (wD w).ty "tuple" = true := rfl
          have e0 : D.tup ((tts w).map D.str) = wD w := rfl
          rw [e0] at h3 ⊢
          rw [q3] at h2
          have wne : ∀ t ∈ w, t.1 ≠ t.2 := fun t ht => by have := (hw t ht).2.2; omega
          have hpl : sp_places_in [wD w] = some (.val (.str (plc (tts w))), [wD w]) := places_in_ok (ts := tts w) (by rw [flat_len]; omega)
          have hPl : (plc (tts w)).length ≤ 20 := by
            have : ((plc (tts w))).length ≤ (tts w).flatten.length := nodup_sub_len ((plc_asc _).imp fun h => by omega) fun c hc => by
              obtain ⟨t, ht, hct⟩ := plc_mem.mp hc
              exact List.mem_flatten.mpr ⟨t, ht, hct⟩
            rw [flat_len] at this
            omega
          by_cases q4 : (((tts w).zip ((tts w).drop 1)).all fun q => decide (q.1 < q.2)) = true
          · have asc := (rise_iff _).mp q4
            rw [q4] at k2
            obtain ⟨b, hb, hh⟩ := does_hang_all (w := w) wne (by omega) (by intro e; subst e; simp at q1) (by omega)
            by_cases q5 : ((plc (tts w)).length : Int) ≤ 7
            · refine ⟨b, ?_, ?_⟩
              · rw [hb]
                constructor
                · intro hg
                  exact ⟨w, rfl, ⟨by omega, by omega, hw, asc, by omega, hg⟩⟩
                · rintro ⟨w', e, W⟩
                  rw [wD_inj e]
                  exact W.hang
              · simp [sp_is_web_form, d_is_web_form, List.replicate, hty', hln', le_int, q1, q2, D.truth, hit, h3, h2, hsl, hz, k3, k2, hpl, len_str, q5, hh, -List.drop_one]
            · refine ⟨false, ⟨fun z => (nomatch z), fun ⟨w', e, W⟩ => ?_⟩, ?_⟩
              · rw [← wD_inj e] at W
                exact absurd W.few (by omega)
              · simp [sp_is_web_form, d_is_web_form, List.replicate, hty', hln', le_int, q1, q2, D.truth, hit, h3, h2, hsl, hz, k3, k2, hpl, len_str, q5, -List.drop_one]
          · refine ⟨false, ⟨fun z => (nomatch z), fun ⟨w', e, W⟩ => ?_⟩, ?_⟩
            · rw [← wD_inj e] at W
              exact absurd ((rise_iff _).mpr W.asc) q4
            · rw [Bool.not_eq_true] at q4
              rw [q4] at k2
              simp [sp_is_web_form, d_is_web_form, List.replicate, hty', hln', le_int, q1, q2, D.truth, hit, h3, h2, hsl, hz, k3, k2, -List.drop_one]
        · refine ⟨false, ⟨fun z => (nomatch z), fun ⟨w', e, W⟩ => ?_⟩, ?_⟩
          · unfold wD at e
            injection e with e
            exact absurd (by rw [e]; exact ties_all W.lets) q3
          · rw [Bool.not_eq_true] at q3
            rw [q3] at h2
            simp [sp_is_web_form, d_is_web_form, List.replicate, hty, hln, le_int, q1, q2, D.truth, items_tup, h3, h2]
      · refine ⟨false, ⟨fun z => (nomatch z), fun ⟨w', e, W⟩ => ?_⟩, ?_⟩
        · unfold wD at e
          injection e with e
          have := W.len2
          rw [e] at q2
          simp [tts] at q2
          omega
        · simp [sp_is_web_form, d_is_web_form, List.replicate, hty, hln, le_int, q1, q2, D.truth]
    · refine ⟨false, ⟨fun z => (nomatch z), fun ⟨w', e, W⟩ => ?_⟩, ?_⟩
      · unfold wD at e
        injection e with e
        have := W.len1
        rw [e] at q1
        simp [tts] at q1
        omega
      · simp [sp_is_web_form, d_is_web_form, List.replicate, hty, hln, le_int, q1, D.truth]
  | _ => exact non rfl (fun xs e => by cases e)
end GL
namespace GL
open GB PySem
/-! ### gone round from one place, tie by tie -/
def newS (h : List Nat) (t : Nat × Nat) : List Nat := (tt t).filter fun c => (decide (t.1 ∈ h) || decide (t.2 ∈ h)) && !decide (c ∈ h)
def stH (h : List Nat) (t : Nat × Nat) : List Nat := h ++ newS h t
def lapH (w : Web) (h : List Nat) : List Nat := w.foldl stH h
def lapsH (w : Web) : Nat → List Nat → List Nat
  | 0, h => h
  | n + 1, h => lapsH w n (lapH w h)
theorem stH_mem {h : List Nat} {t : Nat × Nat} {c : Nat} : c ∈ stH h t ↔ c ∈ h ∨ ((c = t.1 ∨ c = t.2) ∧ (t.1 ∈ h ∨ t.2 ∈ h)) := by
  unfold stH newS
  rw [List.mem_append, List.mem_filter]
  simp only [tt, List.mem_cons, List.not_mem_nil, or_false, Bool.and_eq_true, Bool.or_eq_true, decide_eq_true_eq, Bool.not_eq_true', decide_eq_false_iff_not]
  constructor
  · rintro (q | ⟨q1, q2, q3⟩)
    · exact .inl q
    · exact .inr ⟨q1, q2⟩
  · rintro (q | ⟨q1, q2⟩)
    · exact .inl q
    · by_cases z : c ∈ h
      · exact .inl z
      · exact .inr ⟨q1, q2, z⟩
theorem stH_nodup {h : List Nat} {t : Nat × Nat} (hn : h.Nodup) (ht : t.1 ≠ t.2) : (stH h t).Nodup := by
  unfold stH
  refine List.nodup_append.mpr ⟨hn, ?_, fun a ha b hb => ?_⟩
  · exact List.filter_sublist.nodup (by simp [tt, ht])
  · have := (List.mem_filter.mp hb).2
    simp only [Bool.and_eq_true, Bool.not_eq_true', decide_eq_false_iff_not] at this
    exact fun e => this.2 (e ▸ ha)
theorem lapH_mono {w : Web} {h : List Nat} {c : Nat} (hc : c ∈ h) : c ∈ lapH w h := by
  unfold lapH
  induction w generalizing h with
  | nil => exact hc
  | cons t w ih => exact ih (stH_mem.mpr (.inl hc))
/-- the ties that are not wholly there -/
def opn (w : Web) (h : List Nat) : Nat := w.countP fun t => !(decide (t.1 ∈ h) && decide (t.2 ∈ h))
def Shut (w : Web) (h : List Nat) : Prop := ∀ t ∈ w, t.1 ∈ h ↔ t.2 ∈ h
theorem stH_shut {h : List Nat} {t : Nat × Nat} (q : t.1 ∈ h ↔ t.2 ∈ h) : stH h t = h := by
  unfold stH newS
  have : (tt t).filter (fun c => (decide (t.1 ∈ h) || decide (t.2 ∈ h)) && !decide (c ∈ h)) = [] := by
    rw [List.filter_eq_nil_iff]
    intro c hc
    simp only [tt, List.mem_cons, List.not_mem_nil, or_false] at hc
    by_cases z : t.1 ∈ h
    · have z2 := q.mp z
      rcases hc with rfl | rfl <;> simp [z, z2]
    · have z2 : t.2 ∉ h := fun y => z (q.mpr y)
      simp [z, z2]
  rw [this, List.append_nil]
theorem lapH_shut {w : Web} {h : List Nat} (q : Shut w h) : lapH w h = h := by
  unfold lapH
  induction w with
  | nil => rfl
  | cons t w ih =>
    rw [List.foldl_cons, stH_shut (q t (by simp))]
    exact ih fun u hu => q u (by simp [hu])
theorem lapsH_shut {w : Web} {h : List Nat} (q : Shut w h) : ∀ n, lapsH w n h = h
  | 0 => rfl
  | n + 1 => by rw [lapsH, lapH_shut q]; exact lapsH_shut q n
/-- a lap takes up each tie one end of which is there -/
theorem lapH_takes {w : Web} {h : List Nat} {t : Nat × Nat} (ht : t ∈ w) (q : t.1 ∈ h ∨ t.2 ∈ h) : t.1 ∈ lapH w h ∧ t.2 ∈ lapH w h := by
  unfold lapH
  induction w generalizing h with
  | nil => simp at ht
  | cons u w ih =>
    rw [List.foldl_cons]
    rcases List.mem_cons.mp ht with rfl | ht
    · exact ⟨lapH_mono (w := w) (stH_mem.mpr (.inr ⟨.inl rfl, q⟩)), lapH_mono (w := w) (stH_mem.mpr (.inr ⟨.inr rfl, q⟩))⟩
    · exact ih ht (q.imp (fun z => stH_mem.mpr (.inl z)) (fun z => stH_mem.mpr (.inl z)))
theorem opn_less {w : Web} {h : List Nat} (q : ¬ Shut w h) : opn w (lapH w h) < opn w h := by
  unfold Shut at q
  obtain ⟨t, ht, hq⟩ : ∃ t ∈ w, ¬ (t.1 ∈ h ↔ t.2 ∈ h) := by
    refine Classical.byContradiction fun z => q fun t ht => Classical.byContradiction fun y => z ⟨t, ht, y⟩
  have h1 : t.1 ∈ h ∨ t.2 ∈ h := by
    by_cases a : t.1 ∈ h
    · exact .inl a
    · by_cases b : t.2 ∈ h
      · exact .inr b
      · exact absurd ⟨fun z => absurd z a, fun z => absurd z b⟩ hq
  have h2 := lapH_takes ht h1
  have h3 : ¬ (t.1 ∈ h ∧ t.2 ∈ h) := fun ⟨a, b⟩ => hq ⟨fun _ => b, fun _ => a⟩
  unfold opn
  generalize hL : lapH w h = L at h2
  have mono : ∀ c, c ∈ h → c ∈ L := fun c hc => hL ▸ lapH_mono hc
  clear hL hq h1 q
  have le : ∀ u : Web, (u.countP fun t => !(decide (t.1 ∈ L) && decide (t.2 ∈ L))) ≤ u.countP fun t => !(decide (t.1 ∈ h) && decide (t.2 ∈ h)) := fun u => List.countP_mono_left fun x _ hx => by
    simp only [Bool.not_eq_true', Bool.and_eq_false_imp, decide_eq_true_eq, decide_eq_false_iff_not] at hx ⊢
    exact fun a b => hx (mono _ a) (mono _ b)
  induction w with
  | nil => simp at ht
  | cons u w ih =>
    rw [List.countP_cons, List.countP_cons]
    rcases List.mem_cons.mp ht with rfl | ht
    · have a : (!(decide (t.1 ∈ L) && decide (t.2 ∈ L))) = false := by simp [h2.1, h2.2]
      have b : (!(decide (t.1 ∈ h) && decide (t.2 ∈ h))) = true := by
        cases q1 : decide (t.1 ∈ h) with
        | false => rfl
        | true =>
          cases q2 : decide (t.2 ∈ h) with
          | false => rfl
          | true => exact absurd ⟨of_decide_eq_true q1, of_decide_eq_true q2⟩ h3
      rw [a, b]
      have := le w
      simp only [Bool.false_eq_true, if_false, if_true]
      omega
    · have i := ih ht
      have : (if (!(decide (u.1 ∈ L) && decide (u.2 ∈ L))) = true then 1 else 0) ≤ (if (!(decide (u.1 ∈ h) && decide (u.2 ∈ h))) = true then 1 else 0) := by
        have := le [u]
        simpa [List.countP_cons] using this
      omega
theorem lapsH_last {w : Web} : ∀ (n : Nat) (h : List Nat), opn w h ≤ n → Shut w (lapsH w n h)
  | 0, h, hn => by
    intro t ht
    unfold opn at hn
    have h0 : (w.countP fun t => !(decide (t.1 ∈ h) && decide (t.2 ∈ h))) = 0 := by omega
    rw [List.countP_eq_zero] at h0
    have := h0 t ht
    simp only [Bool.not_eq_true', Bool.not_eq_false, Bool.and_eq_true, decide_eq_true_eq] at this
    exact ⟨fun _ => this.2, fun _ => this.1⟩
  | n + 1, h, hn => by
    by_cases q : Shut w h
    · rw [lapsH_shut q]; exact q
    · rw [lapsH]
      have := opn_less q
      exact lapsH_last n _ (by omega)
theorem lapH_keep {w : Web} {K : Nat → Prop} (hK : ∀ t ∈ w, K t.1 ↔ K t.2) {h : List Nat} (hh : ∀ c ∈ h, K c) : ∀ c ∈ lapH w h, K c := by
  unfold lapH
  induction w generalizing h with
  | nil => exact hh
  | cons t w ih =>
    rw [List.foldl_cons]
    refine ih (fun u hu => hK u (by simp [hu])) fun c hc => ?_
    rcases stH_mem.mp hc with q | ⟨q1, q2⟩
    · exact hh c q
    · have k : K t.1 ∧ K t.2 := by
        rcases q2 with q | q
        · exact ⟨hh _ q, (hK t (by simp)).mp (hh _ q)⟩
        · exact ⟨(hK t (by simp)).mpr (hh _ q), hh _ q⟩
      rcases q1 with rfl | rfl
      · exact k.1
      · exact k.2
theorem lapsH_keep {w : Web} {K : Nat → Prop} (hK : ∀ t ∈ w, K t.1 ↔ K t.2) : ∀ (n : Nat) {h : List Nat}, (∀ c ∈ h, K c) → ∀ c ∈ lapsH w n h, K c
  | 0, _, hh => hh
  | n + 1, _, hh => lapsH_keep hK n (lapH_keep hK hh)
theorem lapH_nodup {w : Web} (hw : ∀ t ∈ w, t.1 ≠ t.2) {h : List Nat} (hh : h.Nodup) : (lapH w h).Nodup := by
  unfold lapH
  induction w generalizing h with
  | nil => exact hh
  | cons t w ih => exact ih (fun u hu => hw u (by simp [hu])) (stH_nodup hh (hw t (by simp)))
theorem lapsH_nodup {w : Web} (hw : ∀ t ∈ w, t.1 ≠ t.2) : ∀ (n : Nat) {h : List Nat}, h.Nodup → (lapsH w n h).Nodup
  | 0, _, hh => hh
  | n + 1, _, hh => lapsH_nodup hw n (lapH_nodup hw hh)
theorem lapsH_mono {w : Web} : ∀ (n : Nat) {h : List Nat} {c : Nat}, c ∈ h → c ∈ lapsH w n h
  | 0, _, _, hc => hc
  | n + 1, _, _, hc => lapsH_mono n (lapH_mono hc)
/-- gone round as often as there are ties: as many as all places exactly if all hangs together -/
theorem laps_hang {w : Web} {z : Nat} (hw : ∀ t ∈ w, t.1 ≠ t.2) (hz : z ∈ plc (tts w)) : (lapsH w w.length [z]).length = (plc (tts w)).length ↔ Hangs w := by
  have nd := lapsH_nodup hw w.length (h := [z]) (by simp)
  have sh : Shut w (lapsH w w.length [z]) := lapsH_last _ _ (List.countP_le_length)
  have hsub : ∀ c ∈ lapsH w w.length [z], c ∈ plc (tts w) := lapsH_keep (K := fun c => c ∈ plc (tts w)) (fun t ht => by
    have := plc_ends t ht
    exact ⟨fun _ => this.2, fun _ => this.1⟩) w.length (by simpa using hz)
  have pn : (plc (tts w)).Nodup := (plc_asc _).imp fun h => by omega
  constructor
  · intro hlen S ⟨y, hy, hSy⟩ hS
    have all : ∀ c ∈ plc (tts w), c ∈ lapsH w w.length [z] := by
      intro c hc
      refine Classical.byContradiction fun q => ?_
      have h1 : ((c :: lapsH w w.length [z])).length ≤ (plc (tts w)).length := nodup_sub_len (List.nodup_cons.mpr ⟨q, nd⟩) fun x hx => by
        rcases List.mem_cons.mp hx with rfl | hx
        · exact hc
        · exact hsub x hx
      rw [List.length_cons] at h1
      omega
    by_cases q : S z
    · intro c hc
      exact lapsH_keep hS w.length (h := [z]) (by simpa using q) c (all c hc)
    · exact absurd hSy (lapsH_keep (K := fun c => ¬ S c) (fun t ht => by rw [hS t ht]) w.length (h := [z]) (by simpa using q) y (all y hy))
  · intro hg
    have all := hg (fun c => c ∈ lapsH w w.length [z]) ⟨z, hz, lapsH_mono _ (by simp)⟩ sh
    have a := nodup_sub_len nd hsub
    have b := nodup_sub_len pn all
    omega
end GL
namespace GL
open GB PySem
/-! ### sets and joins, plainly -/
theorem okEq_strs (l : List (List Nat)) : (D.lst (l.map D.str)).okEq = true ∧ (D.tup (l.map D.str)).okEq = true := by
  have h1 : ∀ l : List (List Nat), D.flats (l.map D.str) = true ∧ D.deeps (l.map D.str) ≤ 1 := by
    intro l
    induction l with
    | nil => exact ⟨rfl, Nat.zero_le _⟩
    | cons c l ih =>
      obtain ⟨a, b⟩ := ih
      rw [List.map_cons]
      refine ⟨by simp only [D.flats, D.flat, a, Bool.and_self], ?_⟩
      simp only [D.deeps, D.deep]
      omega
  obtain ⟨a, b⟩ := h1 l
  refine ⟨?_, ?_⟩ <;> rw [D.okEq_iff]
  · refine ⟨by simp only [D.flat]; exact a, ?_⟩
    simp only [D.deep]
    omega
  · refine ⟨by simp only [D.flat]; exact a, ?_⟩
    simp only [D.deep]
    omega
theorem eqv_strs : ∀ a b : List (List Nat), PyData.eqvAll (D.pys (a.map D.str)) (D.pys (b.map D.str)) = decide (a = b)
  | [], [] => by simp [D.pys, PyData.eqvAll]
  | [], y :: b => by simp [D.pys, PyData.eqvAll]
  | x :: a, [] => by simp [D.pys, PyData.eqvAll]
  | x :: a, y :: b => by
    rw [List.map_cons, List.map_cons, D.pys, D.pys, PyData.eqvAll, eqv_str, eqv_strs a b]
    by_cases h1 : x = y
    · by_cases h2 : a = b
      · simp [h1, h2]
      · simp [h1, h2]
    · simp [h1]
theorem eq_strs (neg : Bool) (a b : List (List Nat)) : fEq neg (.lst (a.map D.str)) (.lst (b.map D.str)) = some (.val (.bl (xor neg (decide (a = b))))) := by
  show (if (D.lst (a.map D.str)).okEq && (D.lst (b.map D.str)).okEq then some (Res.val (.bl (xor neg (PyData.eqv (D.lst (a.map D.str)).py (D.lst (b.map D.str)).py)))) else none) = _
  rw [(okEq_strs a).1, (okEq_strs b).1]
  have : PyData.eqv (D.lst (a.map D.str)).py (D.lst (b.map D.str)).py = decide (a = b) := by
    simp only [D.py, PyData.eqv]
    exact eqv_strs a b
  rw [this]
  rfl
theorem mapM_str (l : List (List Nat)) : ((l.map D.str).mapM fun d => match d with | D.str s => some s | _ => none) = some l := by
  induction l with
  | nil => rfl
  | cons x l ih =>
    rw [List.map_cons, List.mapM_cons]
    simp only [Option.pure_def, Option.bind_eq_bind, Option.bind_some]
    rw [ih]
    rfl
theorem texts_tup (l : List (List Nat)) : textsD (.tup (l.map D.str)) = some l := mapM_str l
theorem texts_lst (l : List (List Nat)) : textsD (.lst (l.map D.str)) = some l := mapM_str l
/-- signs, each a text -/
def sing (s : List Nat) : List (List Nat) := s.map fun c => [c]
theorem sing_len (s : List Nat) : (sing s).length = s.length := List.length_map _
theorem texts_str (s : List Nat) : textsD (.str s) = some (sing s) := rfl
theorem texts_signs (l : List Nat) : textsD (.lst (signs l)) = some (sing l) := by rw [signs_eq]; exact texts_lst _
/-- sorted(set(v)) is v where its texts ascend, and only there -/
theorem sort_set (l : List (List Nat)) : sortT (l.foldl addX []) = l ↔ l.Pairwise (· < ·) := by
  have nd := addX_nodup l [] List.nodup_nil
  have mem : ∀ y, y ∈ l.foldl addX [] ↔ y ∈ l := fun y => by rw [addX_mem]; simp
  constructor
  · intro h
    have := sortT_asc nd
    rw [h] at this
    exact this
  · intro h
    have nl : l.Nodup := h.imp fun {a b} h e => by subst e; exact List.lt_irrefl _ h
    have p : (l.foldl addX []).Perm l := (List.perm_ext_iff_of_nodup nd nl).mpr mem
    rw [sortT_same p]
    exact List.mergeSort_of_pairwise (h.imp fun {a b} h => by simpa using List.lt_asymm h)
theorem set_len {l : List Nat} {P : List Nat} (hP : P.Nodup) (h : ∀ c, c ∈ l ↔ c ∈ P) : ((sing l).foldl addX []).length = P.length := by
  show ((l.map fun c => [c]).foldl addX []).length = P.length
  have nd := addX_nodup (l.map fun c => [c]) [] List.nodup_nil
  have mem : ∀ y, y ∈ (l.map fun c => [c]).foldl addX [] ↔ y ∈ P.map fun c => [c] := fun y => by
    rw [addX_mem, List.mem_map, List.mem_map]
    constructor
    · rintro (q | ⟨c, hc, e⟩)
      · simp at q
      · exact ⟨c, (h c).mp hc, e⟩
    · rintro ⟨c, hc, e⟩
      exact .inr ⟨c, (h c).mpr hc, e⟩
  have nP : (P.map fun c => [c]).Nodup := hP.map (f := fun c => [c]) (fun a b hne e => hne (by injection e))
  have p := (List.perm_ext_iff_of_nodup nd nP).mpr mem
  rw [p.length_eq, List.length_map]
theorem joinT_nil (ts : List (List Nat)) : joinT [] ts = ts.flatten := by
  cases ts with
  | nil => rfl
  | cons t ts =>
    simp only [joinT, List.flatten_cons]
    congr 1
    have : ts.map (([] : List Nat) ++ ·) = ts := List.map_id' ts
    rw [this]
theorem sum_lens (ts : List (List Nat)) : (ts.map fun t : List Nat => t.length + ([] : List Nat).length).sum = ts.flatten.length := by
  induction ts with
  | nil => rfl
  | cons t ts ih => rw [List.map_cons, List.sum_cons, ih, List.flatten_cons, List.length_append]; rfl
theorem join_strs {ts : List (List Nat)} (h : ts.flatten.length ≤ 1000000) : gJoin (.str []) [.tup (ts.map D.str)] = some (.val (.str ts.flatten)) ∧ gJoin (.str []) [.lst (ts.map D.str)] = some (.val (.str ts.flatten)) := by
  have e := strsD_strs ts
  constructor
  · show (match strsD (ts.map D.str) with | some ts => if (ts.map fun t : List Nat => t.length + ([] : List Nat).length).sum ≤ 16777216 then some (Res.val (.str (joinT [] ts))) else none | none => none) = _
    rw [e]
    simp only
    rw [sum_lens, if_pos (by omega), joinT_nil]
  · show (match strsD (ts.map D.str) with | some ts => if (ts.map fun t : List Nat => t.length + ([] : List Nat).length).sum ≤ 16777216 then some (Res.val (.str (joinT [] ts))) else none | none => none) = _
    rw [e]
    simp only
    rw [sum_lens, if_pos (by omega), joinT_nil]
theorem ne_ones (l : List Nat) : fEq true (.lst (l.map fun _ => D.int 1)) (.lst []) = some (.val (.bl (!decide (l = [])))) := by
  have h1 : ∀ l : List Nat, D.flats (l.map fun _ => D.int 1) = true ∧ D.deeps (l.map fun _ => D.int 1) ≤ 1 := by
    intro l
    induction l with
    | nil => exact ⟨rfl, Nat.zero_le _⟩
    | cons c l ih =>
      obtain ⟨a, b⟩ := ih
      rw [List.map_cons]
      refine ⟨by simp only [D.flats, D.flat, a, Bool.and_self], ?_⟩
      simp only [D.deeps, D.deep]
      omega
  obtain ⟨a, b⟩ := h1 l
  have o1 : (D.lst (l.map fun _ => D.int 1)).okEq = true := by
    rw [D.okEq_iff]
    refine ⟨by simp only [D.flat]; exact a, ?_⟩
    simp only [D.deep]
    omega
  have o2 : (D.lst []).okEq = true := okEq_signs []
  show (if (D.lst (l.map fun _ => D.int 1)).okEq && (D.lst []).okEq then some (Res.val (.bl (xor true (PyData.eqv (D.lst (l.map fun _ => D.int 1)).py (D.lst []).py)))) else none) = _
  rw [o1, o2]
  have e : PyData.eqv (D.lst (l.map fun _ => D.int 1)).py (D.lst []).py = decide (l = []) := by
    cases l with
    | nil => simp [D.py, D.pys, PyData.eqv, PyData.eqvAll]
    | cons x l => simp [D.py, D.pys, PyData.eqv, PyData.eqvAll]
  rw [e, Bool.true_xor]
  rfl
theorem signs_fil (l : List Nat) (p : Nat → Bool) : ((signs l).filter fun d => p (unS d)) = signs (l.filter p) := by
  unfold signs
  rw [List.filter_map]
  rfl
end GL
namespace G02
open GB GL PySem
noncomputable def body1 : DS := (sSeq (sIf (dOrT (dNotT (dTru (dIsi "str" (dLateAt 1)))) (dOrT (dTst (fEq true) (dLate (dCall1 fLen (dLateAt 1))) (dSee (dC (.int 2)))) (dNotT (dTst fLtD (dLate (dOp2 fIx (dLateAt 1) (dSee (dC (.int 0))))) (dSee (dOp2 fIx (dLateAt 1) (dSee (dC (.int 1))))))))) (sSeq (sRet (dC (.bl false)))
  sNil) sNil)
  (sSeq (sIf (dTst (fEq true) (dLate (dLc [] (dItems (dVar 1)) (gtName 2) (dTst (fIn true) (dLateAt 2) (dSee (dC (.str [97, 98, 99, 100, 101, 102, 103, 104, 105, 106, 107, 108, 109, 110, 111, 112, 113, 114, 115, 116, 117, 118, 119, 120, 121, 122])))) (dC (.int 1)))) (dSee (dLst dNil))) (sSeq (sRet (dC (.bl false)))
  sNil) sNil)
  sNil))
theorem ne_int (s t : Int) : fEq true (.int s) (.int t) = some (.val (.bl (!decide (s = t)))) := by
  show some (Res.val (.bl (xor true (decide (s = t))))) = _
  rw [Bool.true_xor]
theorem notin_LT (c : Nat) : fIn true (.str [c]) (.str GL.LT) = some (.val (.bl (!isLT c))) := by
  show some (Res.val (.bl (xor true (decide (c ∈ GL.LT))))) = _
  rw [Bool.true_xor]; rfl
theorem body1_ok {d : D} {s0 s2 s3 s4 : GB.Slot} (h : Small d) : body1 [s0, .val d, s2, s3, s4] = if tieB d = true then some (.nx [s0, .val d, s2, s3, s4]) else some (.ret (.val (.bl false)) [s0, .val d, s2, s3, s4]) := by
  cases d with
  | str s =>
    have hs := h s rfl
    have hty : isiB (D.str s).ty "str" = true := rfl
    match s, hty with
    | [], hty => simp [body1, hty, D.truth, len_str, ne_int, tieB]
    | [a], hty => simp [body1, hty, D.truth, len_str, ne_int, tieB]
    | [a, b], hty =>
      have a0 : fIx (.str [a, b]) (.int 0) = some (.val (.str [a])) := ix2_0 _ _
      have a1 : fIx (.str [a, b]) (.int 1) = some (.val (.str [b])) := ix2_1 _ _
      have hlt : decide (([a] : List Nat) < [b]) = decide (a < b) := decide_eq_decide.mpr (lt_one _ _)
      by_cases q : a < b
      · obtain ⟨ρ', g1, u, rfl⟩ := lc_map (g := gtName 2) (t := dTst (fIn true) (dLateAt 2) (dSee (dC (.str [97, 98, 99, 100, 101, 102, 103, 104, 105, 106, 107, 108, 109, 110, 111, 112, 113, 114, 115, 116, 117, 118, 119, 120, 121, 122])))) (e := dC (.int 1)) (ds := signs [a, b])
          (fun ρ => ∃ u, ρ = [.un, .un, u, .un, .un]) (fun d => !isLT (unS d)) (fun _ => .int 1) (by
            rintro ρ ⟨u, rfl⟩ d hd
            obtain ⟨y, hy, rfl⟩ := List.mem_map.mp hd
            refine ⟨_, z_gName _ _, [.un, .un, .val (.str [y]), .un, .un], ?_, fun _ => ⟨_, rfl⟩, fun _ => ⟨.val (.int 1), [.un, .un, .val (.str [y]), .un, .un], ?_, rfl, rfl, ⟨_, rfl⟩⟩⟩
            · have := notin_LT y
              unfold GL.LT at this
              simp [this, unS]
            · simp) [.un, .un, .un, .un, .un] ⟨_, rfl⟩
        rw [signs_fil [a, b] (fun c => !isLT c)] at g1
        have e1 : (signs ([a, b].filter fun c => !isLT c)).map (fun _ => D.int 1) = ([a, b].filter fun c => !isLT c).map fun _ => D.int 1 := by simp [signs]
        rw [e1] at g1
        have g2 := lcAll_of (vs := []) (ρ := [s0, .val (.str [a, b]), s2, s3, s4]) (by simp [signs]) g1
        have hne := ne_ones ([a, b].filter fun c => !isLT c)
        have hq : (([a, b].filter fun c => !isLT c) = []) ↔ (isLT a = true ∧ isLT b = true) := by
          rw [List.filter_eq_nil_iff]
          simp
        generalize ([a, b].filter fun c => !isLT c) = L at *
        have ht : tieB (.str [a, b]) = (isLT a && isLT b) := by
          show (isLT a && isLT b && decide (a < b)) = _
          simp [q]
        by_cases q2 : L = []
        · have q3 := hq.mp q2
          have t1 : tieB (.str [a, b]) = true := by rw [ht, q3.1, q3.2]; rfl
          simp [q2] at hne g2
          simp [body1, hty, D.truth, len_str, ne_int, a0, a1, lt_str, hlt, q, items_str, g2, hne, t1]
        · have t1 : tieB (.str [a, b]) = false := by
            rw [ht]
            cases z : (isLT a && isLT b) with
            | false => rfl
            | true => rw [Bool.and_eq_true] at z; exact absurd (hq.mpr z) q2
          simp [q2] at hne
          simp [body1, hty, D.truth, len_str, ne_int, a0, a1, lt_str, hlt, q, items_str, g2, hne, t1]
      · have ht : tieB (.str [a, b]) = false := by
          show (isLT a && isLT b && decide (a < b)) = false
          simp [q]
        simp [body1, hty, D.truth, len_str, ne_int, a0, a1, lt_str, hlt, q, ht]
    | a :: b :: c :: s, hty =>
      have hn : ¬ ((s.length : Int) + 1 + 1 + 1 = 2) := by omega
      simp [body1, hty, D.truth, len_str, ne_int, tieB, hn]
  | _ => simp [body1, isiB, D.ty, D.truth, tieB]
theorem loop1 {s0 s3 s4 : GB.Slot} : ∀ (ds : List D) (s1 s2 : GB.Slot), (∀ d ∈ ds, Small d) → ∃ s1' s2', dFor (gtName 1) body1 ds [s0, s1, s2, s3, s4] = if ds.all tieB = true then some (.nx [s0, s1', s2', s3, s4]) else some (.ret (.val (.bl false)) [s0, s1', s2', s3, s4])
  | [], s1, s2, _ => ⟨s1, s2, by simp [dFor]⟩
  | d :: ds, s1, s2, h => by
    have hb := body1_ok (s0 := s0) (s2 := s2) (s3 := s3) (s4 := s4) (h d (by simp))
    by_cases q : tieB d = true
    · obtain ⟨s1', s2', e⟩ := loop1 (s0 := s0) (s3 := s3) (s4 := s4) ds (.val d) s2 (fun x hx => h x (by simp [hx]))
      refine ⟨s1', s2', ?_⟩
      rw [dFor]
      rw [if_pos q] at hb
      simp only [z_gName, List.set_cons_succ, List.set_cons_zero, hb, List.all_cons, q, Bool.true_and]
      exact e
    · refine ⟨.val d, s2, ?_⟩
      rw [dFor]
      rw [if_neg q] at hb
      rw [Bool.not_eq_true] at q
      simp [hb, q]
end G02
namespace G02
open GB GL PySem
noncomputable def bodyI : DS := (sSeq (sAsg 3 (dBinG fAdd (dVar 3) (dLc [1, 3] (dItems (dVar 1)) (gtName 2) (dAndT (dOrT (dTst (fIn false) (dLate (dOp2 fIx (dLateAt 1) (dSee (dC (.int 0))))) (dLookAt 3)) (dTst (fIn false) (dLate (dOp2 fIx (dLateAt 1) (dSee (dC (.int 1))))) (dLookAt 3))) (dTst (fIn true) (dLateAt 2) (dLookAt 3))) (dVar 2))))
  sNil)
theorem addL {a b : List Nat} (h : a.length + b.length ≤ 1000000) : fAdd (.lst (signs a)) (.lst (signs b)) = some (.fresh (.lst (signs (a ++ b)))) := by
  show (if (signs a).length + (signs b).length ≤ 16777216 then some (Res.fresh (.lst (signs a ++ signs b))) else none) = _
  rw [if_pos (by rw [signs_len, signs_len]; omega)]
  simp [signs]
theorem newS_len (h : List Nat) (t : Nat × Nat) : (newS h t).length ≤ 2 := by
  unfold newS
  exact Nat.le_trans (List.length_filter_le _ _) (by simp [tt])
theorem bodyI_ok {h : List Nat} {t : Nat × Nat} {s0 s2 s4 : GB.Slot} (hl : h.length ≤ 1000) : bodyI [s0, .val (.str (tt t)), s2, .own (.lst (signs h)), s4] = some (.nx [s0, .val (.str (tt t)), s2, .own (.lst (signs (stH h t))), s4]) := by
  obtain ⟨a, b⟩ := t
  have a0 : fIx (.str [a, b]) (.int 0) = some (.val (.str [a])) := ix2_0 _ _
  have a1 : fIx (.str [a, b]) (.int 1) = some (.val (.str [b])) := ix2_1 _ _
  obtain ⟨ρ', g1, u, rfl⟩ := lc_map (g := gtName 2) (t := dAndT (dOrT (dTst (fIn false) (dLate (dOp2 fIx (dLateAt 1) (dSee (dC (.int 0))))) (dLookAt 3)) (dTst (fIn false) (dLate (dOp2 fIx (dLateAt 1) (dSee (dC (.int 1))))) (dLookAt 3))) (dTst (fIn true) (dLateAt 2) (dLookAt 3))) (e := dVar 2) (ds := signs [a, b])
    (fun ρ => ∃ u, ρ = [.un, .val (.str [a, b]), u, .val (.lst (signs h)), .un]) (fun d => (decide (a ∈ h) || decide (b ∈ h)) && !decide (unS d ∈ h)) (fun d => d) (by
      rintro ρ ⟨u, rfl⟩ d hd
      obtain ⟨y, hy, rfl⟩ := List.mem_map.mp hd
      refine ⟨_, z_gName _ _, [.un, .val (.str [a, b]), .val (.str [y]), .val (.lst (signs h)), .un], ?_, fun _ => ⟨_, rfl⟩, fun _ => ⟨.val (.str [y]), [.un, .val (.str [a, b]), .val (.str [y]), .val (.lst (signs h)), .un], ?_, rfl, rfl, ⟨_, rfl⟩⟩⟩
      · by_cases q1 : a ∈ h
        · by_cases q3 : y ∈ h
          · simp [a0, in_lst, q1, unS, q3]
          · simp [a0, in_lst, q1, unS, q3]
        · by_cases q2 : b ∈ h
          · by_cases q3 : y ∈ h
            · simp [a0, a1, in_lst, q1, q2, unS, q3]
            · simp [a0, a1, in_lst, q1, q2, unS, q3]
          · simp [a0, a1, in_lst, q1, q2]
      · simp) [.un, .val (.str [a, b]), .un, .val (.lst (signs h)), .un] ⟨_, rfl⟩
  rw [List.map_id', signs_fil [a, b] (fun c => (decide (a ∈ h) || decide (b ∈ h)) && !decide (c ∈ h))] at g1
  have e : ([a, b].filter fun c => (decide (a ∈ h) || decide (b ∈ h)) && !decide (c ∈ h)) = newS h (a, b) := rfl
  rw [e] at g1
  have g2 := lcAll_of (vs := [1, 3]) (ρ := [s0, .val (.str [a, b]), s2, .val (.lst (signs h)), s4]) (by simp [signs]) g1
  have hn := newS_len h (a, b)
  have hadd := addL (a := h) (b := newS h (a, b)) (by omega)
  have et : tt (a, b) = [a, b] := rfl
  have es : stH h (a, b) = h ++ newS h (a, b) := rfl
  rw [et, es]
  simp [bodyI, items_str, g2, hadd]
theorem lap_ok {s0 s4 : GB.Slot} : ∀ (w : Web) (h : List Nat) (s1 s2 : GB.Slot), h.length + 2 * w.length ≤ 1000 → ∃ s1' s2', (lapH w h).length ≤ h.length + 2 * w.length ∧ dFor (gtName 1) bodyI ((tts w).map D.str) [s0, s1, s2, .own (.lst (signs h)), s4] = some (.nx [s0, s1', s2', .own (.lst (signs (lapH w h))), s4])
  | [], h, s1, s2, _ => ⟨s1, s2, by simp [lapH], rfl⟩
  | t :: w, h, s1, s2, hl => by
    simp only [List.length_cons] at hl
    have hn := newS_len h t
    have hsl : (stH h t).length ≤ h.length + 2 := by unfold stH; rw [List.length_append]; omega
    have hb := bodyI_ok (s0 := s0) (s2 := s2) (s4 := s4) (h := h) (t := t) (by omega)
    obtain ⟨s1', s2', hlen, e⟩ := lap_ok (s0 := s0) (s4 := s4) w (stH h t) (.val (.str (tt t))) s2 (by omega)
    have el : lapH (t :: w) h = lapH w (stH h t) := rfl
    refine ⟨s1', s2', by rw [el]; simp only [List.length_cons]; omega, ?_⟩
    have et : (tts (t :: w)).map D.str = .str (tt t) :: (tts w).map D.str := rfl
    rw [et, dFor]
    simp only [z_gName, List.set_cons_succ, List.set_cons_zero, hb, el]
    exact e
theorem laps_ok {w : Web} (hw : ∀ t ∈ w, t.1 ≠ t.2) : ∀ (ds : List D) (h : List Nat) (s1 s2 s4 : GB.Slot), h.Nodup → (∀ c ∈ h, c ∈ plc (tts w)) → w.length ≤ 10 →
    ∃ s1' s2' s4', dFor (gtName 4) (sSeq (sFor (dItems (dVar 0)) (gtName 1) bodyI) sNil) ds [.val (wD w), s1, s2, .own (.lst (signs h)), s4] = some (.nx [.val (wD w), s1', s2', .own (.lst (signs (lapsH w ds.length h))), s4'])
  | [], h, s1, s2, s4, _, _, _ => ⟨s1, s2, s4, rfl⟩
  | d :: ds, h, s1, s2, s4, nd, hs, hl => by
    have hhl : h.length ≤ 20 := by
      have a := nodup_sub_len nd hs
      have b : (plc (tts w)).length ≤ (tts w).flatten.length := nodup_sub_len ((plc_asc _).imp fun h => by omega) fun c hc => by
        obtain ⟨t, ht, hct⟩ := plc_mem.mp hc
        exact List.mem_flatten.mpr ⟨t, ht, hct⟩
      rw [flat_len] at b
      omega
    obtain ⟨u1, u2, _, e1⟩ := lap_ok (s0 := .val (wD w)) (s4 := .val d) w h s1 s2 (by omega)
    obtain ⟨s1', s2', s4', e2⟩ := laps_ok hw ds (lapH w h) u1 u2 (.val d) (lapH_nodup hw nd) (lapH_keep (K := fun c => c ∈ plc (tts w)) (fun t ht => by
      have := plc_ends t ht
      exact ⟨fun _ => this.2, fun _ => this.1⟩) hs) hl
    refine ⟨s1', s2', s4', ?_⟩
    have hit : itemsOf (wD w) = some ((tts w).map D.str) := rfl
    have el : lapsH w (d :: ds).length h = lapsH w ds.length (lapH w h) := rfl
    rw [dFor, el]
    simp [hit, e1]
    exact e2
theorem law_is_web_any {d : D} (h : ∀ xs, d = .tup xs → xs.length ≤ 1000 ∧ ∀ x ∈ xs, Small x) : ∃ b : Bool, (b = true ↔ IsW d) ∧ sp__law_is_web [d] = some (.val (.bl b), [d]) := by
  have non : isiB d.ty "tuple" = false → (∀ xs, d ≠ .tup xs) → ∃ b : Bool, (b = true ↔ IsW d) ∧ sp__law_is_web [d] = some (.val (.bl b), [d]) := fun hd hn => by
    refine ⟨false, ⟨fun z => (nomatch z), fun ⟨w, e, _⟩ => absurd e (hn _)⟩, ?_⟩
    simp [sp__law_is_web, d__law_is_web, List.replicate, hd, D.truth]
  cases d with
  | tup xs =>
    obtain ⟨hlen, hsm⟩ := h xs rfl
    have hty : isiB (D.tup xs).ty "tuple" = true := rfl
    have hln : fLen (.tup xs) = some (.val (.int xs.length)) := rfl
    by_cases q1 : (1 : Int) ≤ (xs.length : Int)
    · by_cases q2 : (xs.length : Int) ≤ 10
      · obtain ⟨u1, u2, h1⟩ := loop1 (s0 := .val (.tup xs)) (s3 := .un) (s4 := .un) xs .un .un hsm
        simp only [body1] at h1
        by_cases q3 : xs.all tieB = true
        · rw [if_pos q3] at h1
          obtain ⟨w, rfl, hw⟩ := ties_of q3
          have hwl : ((tts w).map D.str).length = w.length := by simp [tts]
          rw [hwl] at q1 q2
          have e0 : D.tup ((tts w).map D.str) = wD w := rfl
          have hln' : fLen (wD w) = some (.val (.int w.length)) := by rw [← hwl]; rfl
          have hty' : isiB (wD w).ty "tuple" = true := rfl
          have hit : itemsOf (wD w) = some ((tts w).map D.str) := rfl
          rw [e0] at h1 ⊢
          have wne : ∀ t ∈ w, t.1 ≠ t.2 := fun t ht => by have := (hw t ht).2.2; omega
          have ht : textsD (wD w) = some (tts w) := texts_tup _
          have htl : (tts w).length ≤ 4000 := by simp [tts]; omega
          have hfl : fList (wD w) = some (.fresh (.lst ((tts w).map D.str))) := rfl
          have heq := eq_strs true (sortT ((tts w).foldl addX [])) (tts w)
          have hj : gJoin (.str []) [wD w] = some (.val (.str (tts w).flatten)) := (join_strs (ts := tts w) (by rw [flat_len]; omega)).1
          have hxs : (sing (tts w).flatten).length ≤ 4000 := by rw [sing_len, flat_len]; omega
          have hfm : ∀ c, c ∈ (tts w).flatten ↔ c ∈ plc (tts w) := fun c => by
            rw [plc_mem, List.mem_flatten]
          have hsl := set_len (l := (tts w).flatten) (P := plc (tts w)) ((plc_asc _).imp fun h => by omega) hfm
          clear hfm
          generalize (tts w).flatten = fl at *
          by_cases q4 : (tts w).Pairwise (· < ·)
          · have s1 : sortT ((tts w).foldl addX []) = tts w := (sort_set _).mpr q4
            simp only [s1, decide_true, Bool.xor_true, Bool.not_true] at heq
            by_cases q5 : (7 : Int) < ((plc (tts w)).length : Int)
            · refine ⟨false, ⟨fun z => (nomatch z), fun ⟨w', e, W⟩ => ?_⟩, ?_⟩
              · rw [← wD_inj e] at W
                exact absurd W.few (by omega)
              · simp [sp__law_is_web, d__law_is_web, List.replicate, hty', hln', le_int, q1, q2, D.truth, hit, h1, ht, htl, xSorted, s1, hfl, heq, hj, texts_str, hxs, xLen, hsl, gt_int, q5, tyOf]
            · obtain ⟨t, w', hw0⟩ : ∃ t w', w = t :: w' := by
                cases w with
                | nil => simp at q1
                | cons t w' => exact ⟨t, w', rfl⟩
              have hix : fIx (wD w) (.int 0) = some (.val (.str (tt t))) := ix_tup (s := (tts w).map D.str) (k := 0) (by decide) (by rw [hwl]; omega) |>.trans (by simp [hw0, tts])
              have hix2 : fIx (.str (tt t)) (.int 0) = some (.val (.str [t.1])) := ix2_0 _ _
              have hz : t.1 ∈ plc (tts w) := (plc_ends t (by rw [hw0]; simp)).1
              obtain ⟨v1, v2, v4, h2⟩ := laps_ok wne ((tts w).map D.str) [t.1] u1 u2 .un (by simp) (by simpa using hz) (by omega)
              rw [hwl] at h2
              simp only [bodyI] at h2
              have eS : signs [t.1] = [D.str [t.1]] := rfl
              rw [eS] at h2
              have nd := lapsH_nodup wne w.length (h := [t.1]) (by simp)
              have hH := laps_hang wne hz
              have hsub : ∀ c ∈ lapsH w w.length [t.1], c ∈ plc (tts w) := lapsH_keep (K := fun c => c ∈ plc (tts w)) (fun u hu => by
                have := plc_ends u hu
                exact ⟨fun _ => this.2, fun _ => this.1⟩) _ (by simpa using hz)
              have hle := nodup_sub_len nd hsub
              generalize lapsH w w.length [t.1] = H at *
              have hPl : (plc (tts w)).length ≤ 7 := by omega
              have hHs : (sing H).length ≤ 4000 := by rw [sing_len]; omega
              have hsl2 := set_len (l := H) (P := H) nd fun c => Iff.rfl
              refine ⟨decide (H.length = (plc (tts w)).length), ?_, ?_⟩
              · rw [decide_eq_true_iff, hH]
                constructor
                · intro hg
                  exact ⟨w, rfl, ⟨by omega, by omega, hw, q4, by omega, hg⟩⟩
                · rintro ⟨w2, e, W⟩
                  rw [wD_inj e]
                  exact W.hang
              · have hd : decide (((H.length : Nat) : Int) = (((plc (tts w)).length : Nat) : Int)) = decide (H.length = (plc (tts w)).length) := decide_eq_decide.mpr (by omega)
                simp [sp__law_is_web, d__law_is_web, List.replicate, hty', hln', le_int, q1, q2, D.truth, hit, h1, ht, htl, xSorted, s1, hfl, heq, hj, texts_str, hxs, xLen, hsl, gt_int, q5, tyOf, hix, hix2, h2, texts_signs, hHs, hsl2, eq_int, hd]
          · have s1 : ¬ sortT ((tts w).foldl addX []) = tts w := fun e => q4 ((sort_set _).mp e)
            simp only [s1, decide_false, Bool.xor_false] at heq
            refine ⟨false, ⟨fun z => (nomatch z), fun ⟨w', e, W⟩ => ?_⟩, ?_⟩
            · rw [← wD_inj e] at W
              exact absurd W.asc q4
            · simp [sp__law_is_web, d__law_is_web, List.replicate, hty', hln', le_int, q1, q2, D.truth, hit, h1, ht, htl, xSorted, hfl, heq]
        · refine ⟨false, ⟨fun z => (nomatch z), fun ⟨w', e, W⟩ => ?_⟩, ?_⟩
          · unfold wD at e
            injection e with e
            exact absurd (by rw [e]; exact ties_all W.lets) q3
          · rw [if_neg q3] at h1
            simp [sp__law_is_web, d__law_is_web, List.replicate, hty, hln, le_int, q1, q2, D.truth, items_tup, h1]
      · refine ⟨false, ⟨fun z => (nomatch z), fun ⟨w', e, W⟩ => ?_⟩, ?_⟩
        · unfold wD at e
          injection e with e
          have := W.len2
          rw [e] at q2
          simp [tts] at q2
          omega
        · simp [sp__law_is_web, d__law_is_web, List.replicate, hty, hln, le_int, q1, q2, D.truth]
    · refine ⟨false, ⟨fun z => (nomatch z), fun ⟨w', e, W⟩ => ?_⟩, ?_⟩
      · unfold wD at e
        injection e with e
        have := W.len1
        rw [e] at q1
        simp [tts] at q1
        omega
      · simp [sp__law_is_web, d__law_is_web, List.replicate, hty, hln, le_int, q1, D.truth]
  | _ => exact non rfl (fun xs e => by cases e)
end G02
namespace G02
open GB GL PySem
theorem draw_ok {p : D} {top : Int} (hp : IsPail p) (h0 : 0 < top) (h1 : top < 1073741824) : ∃ (k : Int) (p' : D), 0 ≤ k ∧ k < top ∧ IsPail p' ∧ sp__law_draw [p, .int top] = some (.val (.int k), [p', .int top]) := by
  obtain ⟨a, b, c, rfl⟩ := hp
  have h1' : top.natAbs < 1073741824 := by omega
  by_cases ha : 0 < a
  · refine ⟨a % top, .lst [.int (a / top), .int b, .int c], Int.emod_nonneg _ (by omega), Int.emod_lt_of_pos _ h0, ⟨_, _, _, rfl⟩, ?_⟩
    simp [sp__law_draw, d__law_draw, fIx, L2.atI, fGtD, fLt, ha, fDivmod, h0, h1', setD, L2.ixN, List.replicate]
  · have m0 : 0 ≤ (b * 40009 + 15013 * (c + 1)) % 2147483629 := Int.emod_nonneg _ (by omega)
    have m1 : (b * 40009 + 15013 * (c + 1)) % 2147483629 < 2147483629 := Int.emod_lt_of_pos _ (by omega)
    refine ⟨(((b * 40009 + 15013 * (c + 1)) % 2147483629 * ((b * 40009 + 15013 * (c + 1)) % 2147483629 % 5003 + 20011) + (c + 1)) % 2147483629 / 1031) % top, .lst [.int a, .int (((b * 40009 + 15013 * (c + 1)) % 2147483629 * ((b * 40009 + 15013 * (c + 1)) % 2147483629 % 5003 + 20011) + (c + 1)) % 2147483629), .int (c + 1)], Int.emod_nonneg _ (by omega), Int.emod_lt_of_pos _ h0, ⟨_, _, _, rfl⟩, ?_⟩
    have cm : ∀ j, cMul ((b * 40009 + 15013 * (c + 1)) % 2147483629) j = true := cMulL (by omega)
    simp [sp__law_draw, d__law_draw, fIx, L2.atI, fGtD, fLt, ha, setD, L2.ixN, fAdd, fMul, fMod, fDiv, fInt, fInt1, cm, cPos, cDiv, h0, cMulR (j := 40009) (by decide), cMulL (i := 15013) (by decide)]
theorem mixed_ok {p : D} {ds : List D} (hp : IsPail p) (hn : ds.length ≤ 1000) : ∃ (es : List D) (p' : D), es.Perm ds ∧ IsPail p' ∧ sp__law_mixed [p, .lst ds] = some (.val (.lst es), [p', .lst ds]) := by
  obtain ⟨ρ', h1, h2⟩ := dFor_inv (g := gtName 4) (b := (sSeq (sDrop (dMethW "list" gAppend 3 (dCons (dMethW "list" gPop 2 (dCons (dCall sp__law_draw [true, false] (aRef 0 (aVal (dCall1 fLen (dLateAt 2)) aNil))) dNil)) dNil))) sNil))
    (fun rem ρ => ∃ p left found ts, IsPail p ∧ ρ = [.par p, .val (.lst ds), .own (.lst left), .own (.lst found), ts] ∧ left.length = rem.length ∧ (found ++ left).Perm ds)
    (by
      rintro d rem ρ ⟨p, left, found, ts, hp, rfl, hl, hperm⟩
      have hlen : left.length ≤ 1000 := by have := hperm.length_eq; simp at this; omega
      have hf : found.length ≤ 1000 := by have := hperm.length_eq; simp at this; omega
      have hpos : 0 < left.length := by rw [hl]; simp
      obtain ⟨k, p', k0, k1, hp', he⟩ := draw_ok (top := left.length) hp (by omega) (by omega)
      have hk : k.toNat < left.length := by omega
      refine ⟨_, rfl, [.par p', .val (.lst ds), .own (.lst (left.eraseIdx k.toNat)), .own (.lst (found ++ [left[k.toNat]])), .val d], ?_, p', _, _, _, hp', rfl, ?_, ?_⟩
      · simp [fLen, he, tyOf, pop_at k0 k1 (by omega), app_ok (ds := found) (by omega)]
      · rw [List.length_eraseIdx_of_lt hk, hl]; simp
      · refine List.Perm.trans ?_ hperm
        rw [List.append_assoc]
        refine List.Perm.append_left _ ?_
        exact perm_erase hk)
    (rngL 0 1 ds.length) [.par p, .val (.lst ds), .own (.lst ds), .own (.lst []), .un] ⟨p, ds, [], .un, hp, rfl, by rw [rngL_length], by simp⟩
  obtain ⟨p', left, found, ts, hp', rfl, hl, hperm⟩ := h2
  have e : left = [] := List.length_eq_zero_iff.mp (by simpa using hl)
  subst e
  rw [List.append_nil] at hperm
  refine ⟨found, p', hperm, hp', ?_⟩
  simp [sp__law_mixed, d__law_mixed, fList, fLen, rng_one (n := ds.length) (by omega), h1, List.replicate]
/-- so many of them, in their order -/
theorem unlike_ok {p : D} {ds : List D} {many : Nat} (hp : IsPail p) (hn : ds.length ≤ 1000) (hm : many ≤ ds.length) : ∃ (es : List D) (p' : D), es.Sublist ds ∧ es.length = many ∧ IsPail p' ∧ sp__law_unlike [p, .lst ds, .int many] = some (.val (.lst es), [p', .lst ds, .int many]) := by
  obtain ⟨ρ', h1, h2⟩ := dFor_inv (g := gtName 4) (b := (sSeq (sDrop (dMethW "list" gPop 3 (dCons (dCall sp__law_draw [true, false] (aRef 0 (aVal (dCall1 fLen (dLateAt 3)) aNil))) dNil))) sNil))
    (fun rem ρ => ∃ p left ts, IsPail p ∧ ρ = [.par p, .val (.lst ds), .val (.int many), .own (.lst left), ts] ∧ left.length = rem.length + many ∧ left.Sublist ds)
    (by
      rintro d rem ρ ⟨p, left, ts, hp, rfl, hl, hsub⟩
      have hlen : left.length ≤ 1000 := Nat.le_trans hsub.length_le hn
      have hpos : 0 < left.length := by rw [hl]; simp; omega
      obtain ⟨k, p', k0, k1, hp', he⟩ := draw_ok (top := left.length) hp (by omega) (by omega)
      have hk : k.toNat < left.length := by omega
      refine ⟨_, rfl, [.par p', .val (.lst ds), .val (.int many), .own (.lst (left.eraseIdx k.toNat)), .val d], ?_, p', _, _, hp', rfl, ?_, ?_⟩
      · simp [fLen, he, tyOf, pop_at k0 k1 (by omega)]
      · rw [List.length_eraseIdx_of_lt hk, hl]; simp +arith
      · exact (List.eraseIdx_sublist _ _).trans hsub)
    (rngL 0 1 (ds.length - many)) [.par p, .val (.lst ds), .val (.int many), .own (.lst ds), .un] ⟨p, ds, .un, hp, rfl, by rw [rngL_length]; omega, List.Sublist.refl _⟩
  obtain ⟨p', left, ts, hp', rfl, hl, hsub⟩ := h2
  refine ⟨left, p', hsub, by simpa using hl, hp', ?_⟩
  have hs : fSub (.int (ds.length : Int)) (.int many) = some (.val (.int ((ds.length : Int) - many))) := rfl
  have hr : rngD [.int ((ds.length : Int) - many)] = some (rngL 0 1 (ds.length - many)) := by
    have := rng_oneI (j := (ds.length : Int) - many) (by omega) (by omega)
    have e : ((ds.length : Int) - many).toNat = ds.length - many := by omega
    rw [e] at this
    exact this
  have hln : fLen (.lst ds) = some (.val (.int ds.length)) := rfl
  have hfl : fList (.lst ds) = some (.fresh (.lst ds)) := rfl
  generalize ((ds.length : Nat) : Int) = n at *
  generalize ((many : Nat) : Int) = m at *
  simp [sp__law_unlike, d__law_unlike, hfl, hln, hs, hr, h1, List.replicate]
theorem of_ok {p : D} {ds : List D} (hp : IsPail p) (h0 : ds ≠ []) (hn : ds.length ≤ 1000) : ∃ (d : D) (p' : D), d ∈ ds ∧ IsPail p' ∧ sp__law_of [p, .lst ds] = some (.val d, [p', .lst ds]) := by
  have hpos : 0 < ds.length := List.length_pos_iff.mpr h0
  obtain ⟨k, p', k0, k1, hp', he⟩ := draw_ok (top := ds.length) hp (by omega) (by omega)
  obtain ⟨d, hd, hx⟩ : ∃ d ∈ ds, fIx (.lst ds) (.int k) = some (.val d) := ⟨_, List.getElem_mem _, ix_lst k0 k1⟩
  refine ⟨d, p', hd, hp', ?_⟩
  have hln : fLen (.lst ds) = some (.val (.int ds.length)) := rfl
  clear k1
  generalize ((ds.length : Nat) : Int) = n at *
  simp [sp__law_of, d__law_of, List.replicate, hln, he, hx]
theorem ofT_ok {p : D} {ds : List D} (hp : IsPail p) (h0 : ds ≠ []) (hn : ds.length ≤ 1000) : ∃ (d : D) (p' : D), d ∈ ds ∧ IsPail p' ∧ sp__law_of [p, .tup ds] = some (.val d, [p', .tup ds]) := by
  have hpos : 0 < ds.length := List.length_pos_iff.mpr h0
  obtain ⟨k, p', k0, k1, hp', he⟩ := draw_ok (top := ds.length) hp (by omega) (by omega)
  obtain ⟨d, hd, hx⟩ : ∃ d ∈ ds, fIx (.tup ds) (.int k) = some (.val d) := ⟨_, List.getElem_mem _, ix_tup k0 k1⟩
  refine ⟨d, p', hd, hp', ?_⟩
  have hln : fLen (.tup ds) = some (.val (.int ds.length)) := rfl
  clear k1
  generalize ((ds.length : Nat) : Int) = n at *
  simp [sp__law_of, d__law_of, List.replicate, hln, he, hx]
def bodyM : DS := (sSeq (sAsg 2 (dBin fMod (dCall1 fInt1 (dGood (dBinG fAdd (dBinG fAdd (dBin fMul (dVar 2) (dC (.int 47521))) (dBin fMod (dCall1 fInt1 (dLateAt 3)) (dC (.int 2147483549)))) (dC (.int 41))))) (dC (.int 2147483629))))
  sNil)
theorem well_ok {ns : List Int} {turn : Int} (h0 : 0 ≤ turn) : ∃ q, IsPail q ∧ sp__law_well [.lst (ns.map D.int), .int turn] = some (.fresh q, [.lst (ns.map D.int), .int turn]) := by
  generalize hcs : cutL ns none (some 9) = cs
  obtain ⟨ρ', h1, m, s3, rfl, _⟩ := dFor_inv (g := gtName 3) (b := bodyM)
    (fun rem ρ => ∃ (m : Int), ∃ s3, ρ = [.val (.lst (ns.map D.int)), .val (.int turn), .val (.int m), s3, .un] ∧ ∃ cs : List Int, rem = cs.map D.int)
    (by
      rintro d rem ρ ⟨m, s3, rfl, cs, hcs⟩
      cases cs with
      | nil => cases hcs
      | cons c cs =>
        cases hcs
        refine ⟨_, z_gName _ _, [.val (.lst (ns.map D.int)), .val (.int turn), .val (.int ((m * 47521 + c % 2147483549 + 41) % 2147483629)), .val (.int c), .un], ?_, _, _, rfl, cs, rfl⟩
        simp [bodyM, mul_okR (j := 47521) (by decide), mod_ok (j := 2147483549) (by decide), mod_ok (j := 2147483629) (by decide), int_one, add_int])
    (cs.map D.int) [.val (.lst (ns.map D.int)), .val (.int turn), .val (.int (3412246 + 5231 * turn)), .un, .un] ⟨_, .un, rfl, cs, rfl⟩
  have hsl : fSl none (some 9) (.lst (ns.map D.int)) = some (.fresh (.lst (cs.map D.int))) := by
    show some (Res.fresh (.lst (cutL (ns.map D.int) none (some 9)))) = _
    rw [cutL_map, hcs]
  have hm : fMul (.int 5231) (.int turn) = some (.val (.int (5231 * turn))) := mul_okL (by decide)
  simp only [bodyM] at h1
  have hlen : fLen (.lst (ns.map D.int)) = some (.val (.int (ns.length : Int))) := by rw [len_lst, List.length_map]
  have own : ∃ o : Int, (dIf (dTst fLtD (dLateAt 1) (dSee (dCall1 fLen (dLateAt 0)))) (dCall1 fInt1 (dGood (dOp2 fIx (dLateAt 0) (dLookAt 1)))) (dC (.int 0))) [.val (.lst (ns.map D.int)), .val (.int turn), .val (.int m), s3, .un] = some (.ok (.val (.int o)) [.val (.lst (ns.map D.int)), .val (.int turn), .val (.int m), s3, .un]) := by
    by_cases q : turn < (ns.length : Int)
    · have hx := ix_lst (s := ns.map D.int) (k := turn) h0 (by simpa using q)
      have e : (ns.map D.int)[turn.toNat]'(by simp; omega) = .int (ns[turn.toNat]'(by omega)) := by simp
      rw [e] at hx
      exact ⟨_, by simp [hlen, lt_int, q, hx, int_one]; rfl⟩
    · exact ⟨0, by simp [hlen, lt_int, q]⟩
  obtain ⟨o, ho⟩ := own
  generalize hM : (m * 61 + o % 2147483549 * 16007 + 17) % 2147483629 = M
  by_cases q : o < 0 ∨ 1000000000000000 ≤ o
  · refine ⟨.lst [.int (if o < 0 then -o else o), .int M, .int 0], ⟨_, _, _, rfl⟩, ?_⟩
    have hab : fAbs (.int o) = some (.val (.int (if o < 0 then -o else o))) := rfl
    by_cases q1 : o < 0
    · have q1' : decide (o < 0) = true := decide_eq_true q1
      simp [sp__law_well, d__law_well, List.replicate, hm, add_int, hsl, items_lst, h1, -z_If]
      simp [ho, -z_If]
      simp [int_one, add_int, mul_okR (j := 61) (by decide), mul_okR (j := 16007) (by decide), mod_ok (j := 2147483549) (by decide), mod_ok (j := 2147483629) (by decide), hM, lt_int, ge_int, q1, hab]
    · have q2 : 1000000000000000 ≤ o := by omega
      simp [sp__law_well, d__law_well, List.replicate, hm, add_int, hsl, items_lst, h1, -z_If]
      simp [ho, -z_If]
      simp [int_one, add_int, mul_okR (j := 61) (by decide), mul_okR (j := 16007) (by decide), mod_ok (j := 2147483549) (by decide), mod_ok (j := 2147483629) (by decide), hM, lt_int, ge_int, q1, q2, hab, pow_ok]
  · refine ⟨.lst [.int 0, .int M, .int 0], ⟨_, _, _, rfl⟩, ?_⟩
    have q1 : ¬ o < 0 := fun z => q (Or.inl z)
    have q2 : ¬ 1000000000000000 ≤ o := fun z => q (Or.inr z)
    simp [sp__law_well, d__law_well, List.replicate, hm, add_int, hsl, items_lst, h1, -z_If]
    simp [ho, -z_If]
    simp [int_one, add_int, mul_okR (j := 61) (by decide), mul_okR (j := 16007) (by decide), mod_ok (j := 2147483549) (by decide), mod_ok (j := 2147483629) (by decide), hM, lt_int, ge_int, q1, q2, pow_ok]
end G02
namespace GL
open GB PySem
theorem hangs_same {w w' : Web} (hm : ∀ t, t ∈ w' ↔ t ∈ w) (h : Hangs w) : Hangs w' := by
  have hp : ∀ z, z ∈ plc (tts w') ↔ z ∈ plc (tts w) := fun z => by
    rw [plc_mem, plc_mem]
    constructor
    · rintro ⟨s, hs, hz⟩
      obtain ⟨t, ht, rfl⟩ := List.mem_map.mp hs
      exact ⟨tt t, List.mem_map_of_mem ((hm t).mp ht), hz⟩
    · rintro ⟨s, hs, hz⟩
      obtain ⟨t, ht, rfl⟩ := List.mem_map.mp hs
      exact ⟨tt t, List.mem_map_of_mem ((hm t).mpr ht), hz⟩
  intro S ⟨z, hz, hs⟩ hc y hy
  exact h S ⟨z, (hp z).mp hz, hs⟩ (fun t ht => hc t ((hm t).mpr ht)) y ((hp y).mp hy)
theorem web_sorted2 {L : List Nat} {w : Web} (hL : L.length ≤ 7) (hLT : ∀ c ∈ L, c ∈ LT) (h : Ties L w) (ht : Hangs w) (h1 : 1 ≤ w.length) (hw : w.length ≤ 10) : ∃ w', sortT (tts w) = tts w' ∧ WebOk w' := by
  have hp := sortT_perm (tts w)
  have he : ∃ w' : Web, sortT (tts w) = tts w' := by
    refine ⟨(sortT (tts w)).map fun s => (s.headD 0, s.tail.headD 0), ?_⟩
    unfold tts
    rw [List.map_map]
    conv => lhs; rw [← List.map_id (sortT _)]
    refine List.map_congr_left fun s hs => ?_
    obtain ⟨t, _, rfl⟩ := List.mem_map.mp (hp.mem_iff.mp hs)
    rfl
  obtain ⟨w', e⟩ := he
  have hm : ∀ t, t ∈ w' ↔ t ∈ w := fun t => by
    rw [← tts_mem, ← e, hp.mem_iff, tts_mem]
  have hlen : w'.length = w.length := by
    have h1 := hp.length_eq
    rw [e] at h1
    simpa [tts] using h1
  have hnd : (tts w).Nodup := by
    unfold tts
    exact List.Pairwise.map tt (fun a b hab z => hab (tt_inj z)) h.nd
  have hm' : ∀ t ∈ w', t.1 ∈ L ∧ t.2 ∈ L ∧ t.1 < t.2 := fun t ht => h.mem t ((hm t).mp ht)
  refine ⟨w', e, ⟨by omega, by omega, fun t ht => ?_, ?_, ?_, hangs_same hm ht⟩⟩
  · have := hm' t ht
    exact ⟨hLT _ this.1, hLT _ this.2.1, this.2.2⟩
  · rw [← e]; exact sortT_asc hnd
  · refine Nat.le_trans (nodup_sub_len (plc_nodup _) fun z hz => ?_) hL
    obtain ⟨s, hs, hzs⟩ := plc_mem.mp hz
    obtain ⟨t, ht, rfl⟩ := List.mem_map.mp hs
    have := hm' t ht
    simp [tt] at hzs
    rcases hzs with rfl | rfl
    · exact this.1
    · exact this.2.1
/-- each place of the order but the first is tied to an earlier one -/
def TreeO (O : List Nat) (n : Nat) (w : Web) : Prop := ∀ j (hj : j < O.length), 1 ≤ j → j < n → ∃ i, ∃ hi : i < O.length, i < j ∧ srt (O[j], O[i]) ∈ w
theorem srt_ends {S : Nat → Prop} {a b : Nat} (h : S (srt (a, b)).1 ↔ S (srt (a, b)).2) : S a ↔ S b := by
  unfold srt at h
  by_cases q : a ≤ b
  · rw [if_pos q] at h; exact h
  · rw [if_neg q] at h; exact h.symm
theorem TreeO.hangs {L O : List Nat} {w : Web} (h : TreeO O O.length w) (hm : ∀ t ∈ w, t.1 ∈ O ∧ t.2 ∈ O) : Hangs w := by
  intro S ⟨z0, hz0, hs0⟩ hc
  have inL : ∀ z ∈ plc (tts w), z ∈ O := fun z hz => by
    obtain ⟨s, hs, hzs⟩ := plc_mem.mp hz
    obtain ⟨t, ht, rfl⟩ := List.mem_map.mp hs
    have := hm t ht
    simp [tt] at hzs
    rcases hzs with rfl | rfl
    · exact this.1
    · exact this.2
  have hpos : 0 < O.length := List.length_pos_of_mem (inL z0 hz0)
  have key : ∀ j (hj : j < O.length), S O[j] ↔ S O[0] := by
    intro j
    induction j using Nat.strongRecOn with
    | ind j ih =>
      intro hj
      by_cases e : j = 0
      · subst e; exact Iff.rfl
      · obtain ⟨i, hi, hij, ht⟩ := h j hj (by omega) hj
        exact (srt_ends (hc _ ht)).trans (ih i hij hi)
  have all : ∀ z ∈ O, S z ↔ S O[0] := fun z hz => by
    obtain ⟨j, hj, rfl⟩ := List.getElem_of_mem hz
    exact key j hj
  intro z hz
  exact (all z (inL z hz)).mpr ((all z0 (inL z0 hz0)).mp hs0)
theorem sub_signs {es : List D} {cs : List Nat} (h : es.Sublist (signs cs)) : ∃ l : List Nat, es = signs l ∧ l.Sublist cs := by
  obtain ⟨l, hl, e⟩ := List.sublist_map_iff.mp h
  exact ⟨l, e, hl⟩
theorem in_ties (neg : Bool) (w : Web) (a b : Nat) : fIn neg (.str [a, b]) (.lst ((tts w).map D.str)) = some (.val (.bl (xor neg (decide ((a, b) ∈ w))))) := by
  have h1 := (okEq_strs (tts w)).1
  have h2 : ((tts w).map D.str).any (fun z => PyData.eqv z.py (D.str [a, b]).py) = decide ((a, b) ∈ w) := by
    have : ∀ l : List (List Nat), ((l.map D.str).any fun z => PyData.eqv z.py (D.str [a, b]).py) = decide ([a, b] ∈ l) := by
      intro l
      induction l with
      | nil => rfl
      | cons x l ih =>
        rw [List.map_cons, List.any_cons, ih, eqv_str]
        by_cases h : x = [a, b]
        · subst h; simp
        · have h' : ¬ [a, b] = x := fun z => h z.symm
          simp [h, h']
    rw [this]
    exact decide_eq_decide.mpr (tts_mem (t := (a, b)))
  show (if (D.str [a, b]).okEq && (D.lst ((tts w).map D.str)).okEq then some (Res.val (.bl (xor neg (((tts w).map D.str).any fun z => PyData.eqv z.py (D.str [a, b]).py)))) else none) = _
  rw [h1, h2]
  rfl
end GL
namespace G02
open GB GL PySem
noncomputable def bodyA : DS := (sSeq (sDrop (dMethW "list" gAppend 6 (dCons (dMeth "str" gJoin (dGood (dC (.str []))) (dCons (dCall1 fSorted (dGood (dLst (dCons (dOp2 fIx (dLateAt 5) (dLookAt 7)) (dCons (dOp2 fIx (dLateAt 5) (dSee (dCall sp__law_draw [true, false] (aRef 0 (aVal (dVar 7) aNil))))) dNil))))) dNil)) dNil)))
  sNil)
theorem tree_ok {O : List Nat} {s1 s2 s3 s4 s8 s9 : GB.Slot} (hO : O.Nodup) (hl : O.length ≤ 7) (h2 : 2 ≤ O.length) {p : D} (hp : IsPail p) :
    ∃ p' w s7, IsPail p' ∧ Ties O w ∧ TreeO O O.length w ∧ w.length = O.length - 1 ∧ dFor (gtName 7) bodyA (rngL 1 1 (O.length - 1)) [.par p, s1, s2, s3, s4, .val (.lst (signs O)), .own (.lst []), .un, s8, s9] = some (.nx [.par p', s1, s2, s3, s4, .val (.lst (signs O)), .own (.lst ((tts w).map D.str)), s7, s8, s9]) := by
  obtain ⟨ρ', h1, k, p', w, s7, hk, rfl, hp', hk1, hk2, ht, htr, hw, _⟩ := dFor_inv (g := gtName 7) (b := bodyA)
    (fun rem ρ => ∃ (k : Nat), ∃ p' w s7, rem = (List.range' k (O.length - k)).map (fun k : Nat => D.int k) ∧ ρ = [.par p', s1, s2, s3, s4, .val (.lst (signs O)), .own (.lst ((tts w).map D.str)), s7, s8, s9] ∧ IsPail p' ∧ 1 ≤ k ∧ k ≤ O.length ∧ Ties O w ∧ TreeO O k w ∧ w.length = k - 1 ∧ ∀ t ∈ w, t.1 ∈ O.take k ∧ t.2 ∈ O.take k)
    (by
      rintro d rem ρ ⟨k, p', w, s7, hr, rfl, hp', hk1, hk2, ht, htr, hw, htk⟩
      by_cases hkl : k = O.length
      · rw [hkl, Nat.sub_self] at hr
        cases hr
      · have hkl' : k < O.length := by omega
        have hsub : O.length - k = (O.length - (k + 1)) + 1 := by omega
        rw [hsub, List.range'_succ, List.map_cons] at hr
        cases hr
        obtain ⟨m, p2, m0, m1, hp2, hd⟩ := draw_ok (top := (k : Int)) hp' (by omega) (by omega)
        have hmk : m.toNat < k := by omega
        have hml : m.toNat < O.length := by omega
        have sl : (signs O).length = O.length := signs_len O
        have x1 : fIx (.lst (signs O)) (.int m) = some (.val (.str [O[m.toNat]])) := by
          have := ix_lst (s := signs O) (k := m) m0 (by omega)
          simpa [signs] using this
        have x2 : fIx (.lst (signs O)) (.int (k : Int)) = some (.val (.str [O[k]])) := by
          have := ix_lst (s := signs O) (k := (k : Int)) (by omega) (by omega)
          simpa [signs] using this
        have hne : O[k] ≠ O[m.toNat] := fun e => by
          have := (List.getElem_inj hO).mp e
          omega
        have hso : fSorted (.lst [.str [O[k]], .str [O[m.toNat]]]) = some (.fresh (.lst (signs (tt (srt (O[k], O[m.toNat])))))) := by
          have := sorted_lst (tt (O[k], O[m.toNat]))
          rw [sortN_two] at this
          exact this
        generalize hT : srt (O[k], O[m.toNat]) = T at *
        have hj : gJoin (.str []) [.lst (signs (tt T))] = some (.val (.str (tt T))) := join_signs (by simp [tt])
        have happ := app_ok (ds := (tts w).map D.str) (d := .str (tt T)) (by simp [tts]; omega)
        have e1 : (tts w).map D.str ++ [D.str (tt T)] = (tts (w ++ [T])).map D.str := by simp [tts]
        rw [e1] at happ
        have hTm : T.1 < T.2 ∧ ((T.1 = O[k] ∧ T.2 = O[m.toNat]) ∨ (T.1 = O[m.toNat] ∧ T.2 = O[k])) := by
          rw [← hT]
          unfold srt
          by_cases q : O[k] ≤ O[m.toNat]
          · rw [if_pos q]; exact ⟨by show O[k] < O[m.toNat]; omega, .inl ⟨rfl, rfl⟩⟩
          · rw [if_neg q]; exact ⟨by show O[m.toNat] < O[k]; omega, .inr ⟨rfl, rfl⟩⟩
        have hkt : O[k] ∉ O.take k := fun hm => by
          obtain ⟨i, hi, e⟩ := List.getElem_of_mem hm
          rw [List.getElem_take] at e
          have := (List.getElem_inj hO).mp e
          simp at hi
          omega
        have hTn : T ∉ w := fun hm => by
          have := htk T hm
          rcases hTm.2 with ⟨q, _⟩ | ⟨_, q⟩
          · rw [q] at this; exact hkt this.1
          · rw [q] at this; exact hkt this.2
        have inO : T.1 ∈ O ∧ T.2 ∈ O := by
          rcases hTm.2 with ⟨q1, q2⟩ | ⟨q1, q2⟩ <;> rw [q1, q2] <;> exact ⟨List.getElem_mem _, List.getElem_mem _⟩
        have mk1 : O[m.toNat] ∈ O.take (k + 1) := by
          rw [List.mem_take_iff_getElem]
          exact ⟨m.toNat, by omega, rfl⟩
        have mk2 : O[k] ∈ O.take (k + 1) := by
          rw [List.mem_take_iff_getElem]
          exact ⟨k, by omega, rfl⟩
        refine ⟨_, z_gName _ _, [.par p2, s1, s2, s3, s4, .val (.lst (signs O)), .own (.lst ((tts (w ++ [T])).map D.str)), .val (.int (k : Int)), s8, s9], ?_, k + 1, p2, w ++ [T], _, rfl, rfl, hp2, by omega, by omega, ⟨fun t hq => ?_, ?_⟩, fun j hj j1 j2 => ?_, ?_, fun t hq => ?_⟩
        · simp [bodyA, x2, hd, x1, hso, hj, tyOf, happ]
        · rcases List.mem_append.mp hq with q | q
          · exact ht.mem t q
          · rw [List.mem_singleton] at q
            rw [q]
            exact ⟨inO.1, inO.2, hTm.1⟩
        · rw [List.nodup_append]
          refine ⟨ht.nd, by simp, fun a ha b hb => ?_⟩
          rw [List.mem_singleton] at hb
          rw [hb]
          exact fun e => hTn (e ▸ ha)
        · by_cases e : j = k
          · subst e
            exact ⟨m.toNat, hml, hmk, by rw [hT]; simp⟩
          · obtain ⟨i, hi, hij, hq⟩ := htr j hj j1 (by omega)
            exact ⟨i, hi, hij, List.mem_append_left _ hq⟩
        · rw [List.length_append, List.length_singleton]; omega
        · rcases List.mem_append.mp hq with q | q
          · have := htk t q
            exact ⟨List.take_subset_take_left _ (Nat.le_succ k) this.1, List.take_subset_take_left _ (Nat.le_succ k) this.2⟩
          · rw [List.mem_singleton] at q
            rw [q]
            rcases hTm.2 with ⟨q1, q2⟩ | ⟨q1, q2⟩ <;> rw [q1, q2]
            · exact ⟨mk2, mk1⟩
            · exact ⟨mk1, mk2⟩)
    (rngL 1 1 (O.length - 1)) [.par p, s1, s2, s3, s4, .val (.lst (signs O)), .own (.lst []), .un, s8, s9]
    ⟨1, p, [], .un, rngL_one _, rfl, hp, Nat.le_refl _, by omega, ⟨by simp, by simp⟩, fun j hj j1 j2 => by omega, by simp, by simp⟩
  have hkl : k = O.length := by
    by_cases e : k = O.length
    · exact e
    · have hsub : O.length - k = (O.length - (k + 1)) + 1 := by omega
      rw [hsub, List.range'_succ, List.map_cons] at hk
      cases hk
  subst hkl
  exact ⟨p', w, s7, hp', ht, htr, hw, h1⟩
noncomputable def bodyB : DS := (sSeq (sAsg 9 (dMeth "str" gJoin (dGood (dC (.str []))) (dCons (dCall1 fSorted (dGood (dCall sp__law_unlike [true, false, false] (aRef 0 (aVal (dVar 4) (aVal (dC (.int 2)) aNil)))))) dNil)))
  (sSeq (sIf (dAndT (dTst (fIn true) (dLateAt 9) (dLookAt 6)) (dTst fLtD (dLate (dCall1 fLen (dLateAt 6))) (dLookAt 2))) (sSeq (sDrop (dMethW "list" gAppend 6 (dCons (dVar 9) dNil)))
  sNil) sNil)
  sNil))
theorem extras_ok {L : List Nat} {s1 s3 s5 s7 : GB.Slot} (hL : L.Pairwise (· < ·)) (hl : L.length ≤ 7) (h2 : 2 ≤ L.length) : ∀ (ds : List D) (p : D) (w : Web) (s8 s9 : GB.Slot), IsPail p → Ties L w → w.length ≤ 10 →
    ∃ p' w' s8' s9', IsPail p' ∧ Ties L w' ∧ (∀ t ∈ w, t ∈ w') ∧ w.length ≤ w'.length ∧ w'.length ≤ 10 ∧ dFor (gtName 8) bodyB ds [.par p, s1, .val (.int 10), s3, .val (.lst (signs L)), s5, .own (.lst ((tts w).map D.str)), s7, s8, s9] = some (.nx [.par p', s1, .val (.int 10), s3, .val (.lst (signs L)), s5, .own (.lst ((tts w').map D.str)), s7, s8', s9'])
  | [], p, w, s8, s9, hp, ht, hw => ⟨p, w, s8, s9, hp, ht, fun _ h => h, Nat.le_refl _, hw, rfl⟩
  | d :: ds, p, w, s8, s9, hp, ht, hw => by
    obtain ⟨es, p1, hsub, hlen, hp1, hu⟩ := unlike_ok (ds := signs L) (many := 2) hp (by rw [signs_len]; omega) (by rw [signs_len]; omega)
    obtain ⟨l, rfl, hsl⟩ := sub_signs hsub
    clear hsub
    rw [signs_len] at hlen
    obtain ⟨a, b, rfl⟩ : ∃ a b, l = [a, b] := by
      match l, hlen with
      | [a, b], _ => exact ⟨a, b, rfl⟩
    have hab : a < b := by
      have := hL.sublist hsl
      simpa using this
    have ha : a ∈ L := hsl.subset (by simp)
    have hb : b ∈ L := hsl.subset (by simp)
    have hso : fSorted (.lst (signs [a, b])) = some (.fresh (.lst (signs [a, b]))) := by
      rw [sorted_lst, sortN_asc (by simpa using hab)]
    have hj : gJoin (.str []) [.lst (signs [a, b])] = some (.val (.str [a, b])) := join_signs (by simp)
    have hin := in_ties true w a b
    have hln : fLen (.lst ((tts w).map D.str)) = some (.val (.int w.length)) := by rw [len_lst]; simp [tts]
    have hu : sp__law_unlike [p, .lst (signs L), .int 2] = some (.val (.lst (signs [a, b])), [p1, .lst (signs L), .int 2]) := hu
    have happ := app_ok (ds := (tts w).map D.str) (d := .str [a, b]) (by simp [tts]; omega)
    have e1 : (tts w).map D.str ++ [D.str [a, b]] = (tts (w ++ [(a, b)])).map D.str := by simp [tts, tt]
    rw [e1] at happ
    by_cases q1 : (a, b) ∈ w
    · obtain ⟨p', w', s8', s9', i1, i2, i3, i4, i5, i6⟩ := extras_ok (s1 := s1) (s3 := s3) (s5 := s5) (s7 := s7) hL hl h2 ds p1 w (.val d) (.val (.str [a, b])) hp1 ht hw
      refine ⟨p', w', s8', s9', i1, i2, i3, i4, i5, ?_⟩
      simp only [q1, decide_true, Bool.xor_true, Bool.not_true] at hin
      rw [dFor]
      simp [bodyB, hu, hso, hj, tyOf, hin]
      simpa [bodyB] using i6
    · simp only [q1, decide_false, Bool.xor_false] at hin
      by_cases q2 : (w.length : Int) < 10
      · obtain ⟨p', w', s8', s9', i1, i2, i3, i4, i5, i6⟩ := extras_ok (s1 := s1) (s3 := s3) (s5 := s5) (s7 := s7) hL hl h2 ds p1 (w ++ [(a, b)]) (.val d) (.val (.str [a, b])) hp1 ⟨fun t hq => by
            rcases List.mem_append.mp hq with q | q
            · exact ht.mem t q
            · rw [List.mem_singleton] at q
              rw [q]
              exact ⟨ha, hb, hab⟩, by
            rw [List.nodup_append]
            refine ⟨ht.nd, by simp, fun x hx y hy => ?_⟩
            rw [List.mem_singleton] at hy
            rw [hy]
            exact fun e => q1 (e ▸ hx)⟩ (by rw [List.length_append, List.length_singleton]; omega)
        refine ⟨p', w', s8', s9', i1, i2, fun t hq => i3 t (List.mem_append_left _ hq), by rw [List.length_append] at i4; omega, i5, ?_⟩
        rw [dFor]
        simp [bodyB, hu, hso, hj, tyOf, hin, hln, lt_int, q2, happ]
        simpa [bodyB] using i6
      · obtain ⟨p', w', s8', s9', i1, i2, i3, i4, i5, i6⟩ := extras_ok (s1 := s1) (s3 := s3) (s5 := s5) (s7 := s7) hL hl h2 ds p1 w (.val d) (.val (.str [a, b])) hp1 ht hw
        refine ⟨p', w', s8', s9', i1, i2, i3, i4, i5, ?_⟩
        rw [dFor]
        simp [bodyB, hu, hso, hj, tyOf, hin, hln, lt_int, q2]
        simpa [bodyB] using i6
theorem web_ok {p : D} (hp : IsPail p) : ∃ w p', IsPail p' ∧ WebOk w ∧ sp__law_web [p, .int 7, .int 10] = some (.val (wD w), [p', .int 7, .int 10]) := by
  obtain ⟨k, p1, k0, k1, hp1, hd⟩ := draw_ok (top := 6) hp (by decide) (by decide)
  obtain ⟨n, hn⟩ : ∃ n : Nat, k = (n : Int) := ⟨k.toNat, by omega⟩
  subst hn
  have hN : (2 + n : Nat) ≤ 7 := by omega
  obtain ⟨es, p2, hsub, hlen, hp2, hu⟩ := unlike_ok (ds := signs GL.LT) (many := 2 + n) hp1 (by rw [signs_len]; decide) (by rw [signs_len]; show 2 + n ≤ 26; omega)
  obtain ⟨L, rfl, hsl⟩ := sub_signs hsub
  clear hsub
  rw [signs_len] at hlen
  have hLa : L.Pairwise (· < ·) := List.Pairwise.sublist hsl (by decide)
  have hLT : ∀ c ∈ L, c ∈ GL.LT := fun c hc => hsl.subset hc
  have hso : fSorted (.lst (signs L)) = some (.fresh (.lst (signs L))) := by rw [sorted_lst, sortN_asc hLa]
  obtain ⟨es, p3, hperm, hp3, hmx⟩ := mixed_ok (ds := signs L) hp2 (by rw [signs_len]; omega)
  obtain ⟨ee, hperm⟩ := perm_signs hperm
  rw [ee] at hmx
  generalize es.map unS = O at *
  have hOl : O.length = L.length := hperm.length_eq
  have hOn : O.Nodup := hperm.nodup_iff.mpr (hLa.imp fun h => by omega)
  obtain ⟨p4, w, s7, hp4, ht, htr, hwl, h1⟩ := tree_ok (s1 := .val (.int 7)) (s2 := .val (.int 10)) (s3 := .val (.int ((2 + n : Nat) : Int))) (s4 := .val (.lst (signs L))) (s8 := .un) (s9 := .un) hOn (by omega) (by omega) hp3
  have htL : Ties L w := ⟨fun t hq => by
    have := ht.mem t hq
    exact ⟨hperm.mem_iff.mp this.1, hperm.mem_iff.mp this.2.1, this.2.2⟩, ht.nd⟩
  have hg : Hangs w := TreeO.hangs (L := L) htr fun t hq => ⟨(ht.mem t hq).1, (ht.mem t hq).2.1⟩
  obtain ⟨m, p5, m0, m1, hp5, hm⟩ := draw_ok (top := 10) hp4 (by decide) (by decide)
  obtain ⟨p6, w', s8, s9, hp6, ht', hsup, hle, hw', h2⟩ := extras_ok (s1 := .val (.int 7)) (s3 := .val (.int ((2 + n : Nat) : Int))) (s5 := .val (.lst (signs O))) (s7 := s7) hLa (by omega) (by omega) (rngL 0 1 m.toNat) p5 w .un .un hp5 htL (by omega)
  have hg' : Hangs w' := by
    intro S ⟨z, hz, hs⟩ hc y hy
    have pl : ∀ x, x ∈ plc (tts w') → x ∈ plc (tts w) := fun x hx => by
      have hxL : x ∈ L := by
        obtain ⟨s, hs, hxs⟩ := plc_mem.mp hx
        obtain ⟨t, ht, rfl⟩ := List.mem_map.mp hs
        have := ht'.mem t ht
        simp [tt] at hxs
        rcases hxs with rfl | rfl
        · exact this.1
        · exact this.2.1
      have hxO : x ∈ O := hperm.mem_iff.mpr hxL
      obtain ⟨j, hj, rfl⟩ := List.getElem_of_mem hxO
      have tie : ∀ (i k : Nat) (hi : i < O.length) (hk : k < O.length), srt (O[i], O[k]) ∈ w → O[i] ∈ plc (tts w) ∧ O[k] ∈ plc (tts w) := fun i k hi hk hq => by
        have := plc_ends _ hq
        unfold srt at this
        by_cases q : O[i] ≤ O[k]
        · rw [if_pos q] at this; exact this
        · rw [if_neg q] at this; exact ⟨this.2, this.1⟩
      by_cases e : j = 0
      · subst e
        obtain ⟨i, hi, hij, hq⟩ := htr 1 (by omega) (by omega) (by omega)
        have : i = 0 := by omega
        subst this
        exact (tie 1 0 (by omega) hi hq).2
      · obtain ⟨i, hi, hij, hq⟩ := htr j hj (by omega) hj
        exact (tie j i hj hi hq).1
    exact hg S ⟨z, pl z hz, hs⟩ (fun t ht => hc t (hsup t ht)) y (pl y hy)
  obtain ⟨w2, e2, W⟩ := web_sorted2 (by omega) hLT ht' hg' (by omega) hw'
  refine ⟨w2, p6, hp6, W, ?_⟩
  have hls : fList (.str [97, 98, 99, 100, 101, 102, 103, 104, 105, 106, 107, 108, 109, 110, 111, 112, 113, 114, 115, 116, 117, 118, 119, 120, 121, 122]) = some (.fresh (.lst (signs GL.LT))) := rfl
  have hadd : fAdd (.int 2) (.int (n : Int)) = some (.val (.int ((2 + n : Nat) : Int))) := by
    show some (Res.val (.int (2 + (n : Int)))) = _
    congr 3
  have hr1 : rngD [.int 1, .int ((2 + n : Nat) : Int)] = some (rngL 1 1 (O.length - 1)) := by
    rw [rng_two (by decide) (by decide) (by omega) (by omega)]
    congr 2
    omega
  have hr2 : rngD [.int m] = some (rngL 0 1 m.toNat) := rng_oneI m0 (by omega)
  have hsk : fSorted (.lst ((tts w').map .str)) = some (.fresh (.lst ((tts w2).map .str))) := by rw [sorted_strs, e2]
  have s61 : fSub (.int 7) (.int 1) = some (.val (.int 6)) := rfl
  have hft : fTuple (.lst ((tts w2).map .str)) = some (.val (wD w2)) := rfl
  simp only [bodyA] at h1
  simp only [bodyB] at h2
  generalize (((2 + n : Nat)) : Int) = N at *
  generalize ((n : Nat) : Int) = n' at *
  simp [sp__law_web, d__law_web, List.replicate, s61, hd, hadd, hls, hu, hso, hmx, hr1, h1, hm, hr2, h2, hsk, hft]
end G02
namespace G02
open GB GL PySem
/-! ### values that are bent -/
def bnd (n : Nat) : Nat := 12 * 4 ^ n
structure Fine (n : Nat) (d : D) : Prop where
  flat : D.flat d = true
  deep : D.deep d ≤ n + 1
  small : Small d
  items : ∀ xs, d = .tup xs ∨ d = .lst xs → xs.length ≤ bnd n ∧ ∀ x ∈ xs, D.flat x = true ∧ D.deep x ≤ n ∧ Small x
theorem flats_iff : ∀ {xs : List D}, D.flats xs = true ↔ ∀ x ∈ xs, D.flat x = true
  | [] => by simp [D.flats]
  | x :: xs => by
    rw [D.flats, Bool.and_eq_true, flats_iff]
    simp
theorem deeps_le {k : Nat} : ∀ {xs : List D}, D.deeps xs ≤ k ↔ ∀ x ∈ xs, D.deep x ≤ k
  | [] => by simp [D.deeps]
  | x :: xs => by
    have := deeps_le (k := k) (xs := xs)
    rw [D.deeps]
    simp only [List.mem_cons, forall_eq_or_imp, ← this]
    omega
theorem fine_tup {n : Nat} {xs : List D} (hl : xs.length ≤ bnd n) (h : ∀ x ∈ xs, D.flat x = true ∧ D.deep x ≤ n ∧ Small x) : Fine n (.tup xs) :=
  ⟨by simp only [D.flat]; exact flats_iff.mpr fun x hx => (h x hx).1, by simp only [D.deep]; have := deeps_le.mpr fun x hx => (h x hx).2.1; omega, fun s e => (by cases e), fun ys e => by
    rcases e with e | e
    · cases e; exact ⟨hl, h⟩
    · cases e⟩
theorem fine_lst {n : Nat} {xs : List D} (hl : xs.length ≤ bnd n) (h : ∀ x ∈ xs, D.flat x = true ∧ D.deep x ≤ n ∧ Small x) : Fine n (.lst xs) :=
  ⟨by simp only [D.flat]; exact flats_iff.mpr fun x hx => (h x hx).1, by simp only [D.deep]; have := deeps_le.mpr fun x hx => (h x hx).2.1; omega, fun s e => (by cases e), fun ys e => by
    rcases e with e | e
    · cases e
    · cases e; exact ⟨hl, h⟩⟩
theorem bnd_mono {n m : Nat} (h : n ≤ m) : bnd n ≤ bnd m := Nat.mul_le_mul_left _ (Nat.pow_le_pow_right (by decide) h)
theorem bnd_pos (n : Nat) : 1 ≤ bnd n := by
  have := bnd_mono (Nat.zero_le n)
  exact Nat.le_trans (by decide) this
theorem Fine.more {n m : Nat} {d : D} (h : Fine n d) (hm : n ≤ m) : Fine m d :=
  ⟨h.flat, by have := h.deep; omega, h.small, fun xs e => by
    obtain ⟨a, b⟩ := h.items xs e
    exact ⟨Nat.le_trans a (bnd_mono hm), fun x hx => by
      obtain ⟨c, d, f⟩ := b x hx
      exact ⟨c, by omega, f⟩⟩⟩
theorem fine_str {n : Nat} {s : List Nat} (h : s.length ≤ 1000) : Fine n (.str s) := ⟨rfl, Nat.zero_le _, fun t e => by cases e; exact h, fun xs e => by rcases e with e | e <;> cases e⟩
def consts : List D := [.non, .bl true, .int 0, .str [], .str [97], .str [97, 98], .str [98, 97], .str [97, 97], .str [121, 122], .str [97, 122], .str [97, 98, 99], .str [97, 66], .str [97, 49], .tup [], .tup [.str [97, 98]], .lst []]
theorem fine_const {d : D} (h : d ∈ consts) : Fine 0 d := by
  have oth : ∀ d : D, D.flat d = true → D.deep d = 0 → (∀ s, d ≠ .str s) → (∀ xs, d ≠ .tup xs ∧ d ≠ .lst xs) → Fine 0 d := fun d a b c e => ⟨a, by omega, fun s q => absurd q (c s), fun xs q => by
    rcases q with q | q
    · exact absurd q (e xs).1
    · exact absurd q (e xs).2⟩
  simp only [consts, List.mem_cons, List.not_mem_nil, or_false] at h
  rcases h with rfl | rfl | rfl | rfl | rfl | rfl | rfl | rfl | rfl | rfl | rfl | rfl | rfl | rfl | rfl | rfl
  · exact oth _ rfl rfl (fun s e => by cases e) (fun xs => ⟨(fun e => by cases e), (fun e => by cases e)⟩)
  · exact oth _ rfl rfl (fun s e => by cases e) (fun xs => ⟨(fun e => by cases e), (fun e => by cases e)⟩)
  · exact oth _ rfl rfl (fun s e => by cases e) (fun xs => ⟨(fun e => by cases e), (fun e => by cases e)⟩)
  · exact fine_str (by decide)
  · exact fine_str (by decide)
  · exact fine_str (by decide)
  · exact fine_str (by decide)
  · exact fine_str (by decide)
  · exact fine_str (by decide)
  · exact fine_str (by decide)
  · exact fine_str (by decide)
  · exact fine_str (by decide)
  · exact fine_str (by decide)
  · exact fine_tup (by decide) (by simp)
  · exact fine_tup (by decide) (fun x hx => by rw [List.mem_singleton] at hx; rw [hx]; exact ⟨rfl, Nat.le_refl _, fun s e => by cases e; decide⟩)
  · exact fine_lst (by decide) (by simp)
theorem cutL_mem {α : Type} {xs : List α} {lo hi : Option Int} {x : α} (h : x ∈ cutL xs lo hi) : x ∈ xs := by
  unfold cutL at h
  exact List.mem_of_mem_drop (List.mem_of_mem_take h)
def isStr : D → Bool
  | .str _ => true
  | _ => false
theorem strs_fil : ∀ xs : List D, ∃ l : List (List Nat), xs.filter isStr = l.map D.str ∧ l.length ≤ xs.length ∧ ∀ s ∈ l, D.str s ∈ xs
  | [] => ⟨[], rfl, Nat.le_refl _, by simp⟩
  | x :: xs => by
    obtain ⟨l, h1, h2, h3⟩ := strs_fil xs
    cases x with
    | str s => exact ⟨s :: l, by rw [List.filter_cons_of_pos (by rfl), h1]; rfl, by simp; omega, fun t ht => by
        rcases List.mem_cons.mp ht with rfl | ht
        · simp
        · exact List.mem_cons_of_mem _ (h3 t ht)⟩
    | _ => exact ⟨l, by rw [List.filter_cons_of_neg (by simp [isStr]), h1], by simp; omega, fun t ht => List.mem_cons_of_mem _ (h3 t ht)⟩
theorem eq_nilT {x : D} {xs : List D} (h : (D.tup (x :: xs)).okEq = true) : fEq false (.tup (x :: xs)) (.tup []) = some (.val (.bl false)) := by
  show (if (D.tup (x :: xs)).okEq && (D.tup []).okEq then some (Res.val (.bl (xor false (PyData.eqv (D.tup (x :: xs)).py (D.tup []).py)))) else none) = _
  have h2 : (D.tup []).okEq = true := rfl
  rw [h, h2]
  simp only [D.py, D.pys, PyData.eqv, Bool.and_self, if_true]
  try rfl
theorem eq_nilT0 : fEq false (.tup []) (.tup []) = some (.val (.bl true)) := by
  show (if (D.tup []).okEq && (D.tup []).okEq then some (Res.val (.bl (xor false (PyData.eqv (D.tup []).py (D.tup []).py)))) else none) = _
  have h2 : (D.tup []).okEq = true := rfl
  rw [h2]
  simp [D.py, D.pys, PyData.eqv, PyData.eqvAll]
theorem foldX_len : ∀ (xs L : List (List Nat)), (xs.foldl addX L).length ≤ L.length + xs.length
  | [], L => by simp
  | x :: xs, L => by
    have := foldX_len xs (addX L x)
    have := addX_len L x
    rw [List.foldl_cons, List.length_cons]
    omega
theorem bent_ok {p d : D} {n : Nat} (hp : IsPail p) (hd : Fine n d) (hn : n ≤ 2) : ∃ e p', Fine (n + 1) e ∧ IsPail p' ∧ sp__law_bent [p, d] = some (.val e, [p', d]) := by
  have hbn : bnd n ≤ 192 := by
    have := bnd_mono (n := n) (m := 2) hn
    exact Nat.le_trans this (by decide)
  have const : ∀ p : D, IsPail p → ∃ e p', Fine (n + 1) e ∧ IsPail p' ∧ sp__law_of [p, .tup consts] = some (.val e, [p', .tup consts]) := fun p hp => by
    obtain ⟨e, p', he, hp', h⟩ := ofT_ok (ds := consts) hp (by simp [consts]) (by decide)
    exact ⟨e, p', (fine_const he).more (Nat.zero_le _), hp', h⟩
  have hcl : consts.length ≤ 1000 := by decide
  by_cases ht : ∃ xs, d = .tup xs
  · obtain ⟨xs, rfl⟩ := ht
    have hty : isiB (D.tup xs).ty "tuple" = true := rfl
    obtain ⟨hlen, hit⟩ := hd.items xs (.inl rfl)
    cases xs with
    | nil =>
      obtain ⟨e, p', he, hp', h⟩ := const p hp
      refine ⟨e, p', he, hp', ?_⟩
      simp only [consts] at h
      simp [sp__law_bent, d__law_bent, List.replicate, hty, D.truth, eq_nilT0, h]
    | cons x xs =>
      have hok : (D.tup (x :: xs)).okEq = true := by
        rw [D.okEq_iff]
        exact ⟨hd.flat, by have := hd.deep; omega⟩
      have heq := eq_nilT hok
      obtain ⟨k, p1, k0, k1, hp1, hd1⟩ := draw_ok (top := 6) hp (by decide) (by decide)
      by_cases q : k = 0
      · obtain ⟨e, p', he, hp', h⟩ := const p1 hp1
        refine ⟨e, p', he, hp', ?_⟩
        simp only [consts] at h
        simp [sp__law_bent, d__law_bent, List.replicate, hty, D.truth, heq, hd1, eq_int, q, h]
      · generalize hX : x :: xs = X at *
        have hXl : 1 ≤ X.length := by rw [← hX]; simp
        obtain ⟨at', p2, a0, a1, hp2, hd2⟩ := draw_ok (top := (X.length : Int)) hp1 (by omega) (by omega)
        obtain ⟨way, p3, w0, w1, hp3, hd3⟩ := draw_ok (top := 9) hp2 (by decide) (by decide)
        have hln : fLen (.tup X) = some (.val (.int X.length)) := rfl
        have hs1 : fSl none (some at') (.tup X) = some (.val (.tup (cutL X none (some at')))) := rfl
        have hs2 : fSl (some (at' + 1)) none (.tup X) = some (.val (.tup (cutL X (some (at' + 1)) none))) := rfl
        have l1 := cutL_length X none (some at')
        have l2 := cutL_length X (some (at' + 1)) none
        have m1 : ∀ x ∈ cutL X none (some at'), x ∈ X := fun x hx => cutL_mem hx
        have m2 : ∀ x ∈ cutL X (some (at' + 1)) none, x ∈ X := fun x hx => cutL_mem hx
        generalize cutL X none (some at') = A at *
        generalize cutL X (some (at' + 1)) none = B at *
        have itemsF : ∀ x ∈ X, D.flat x = true ∧ D.deep x ≤ n + 1 ∧ Small x := fun x hx => by
          obtain ⟨a, b, c⟩ := hit x hx
          exact ⟨a, by omega, c⟩
        have hb1 : bnd (n + 1) = 4 * bnd n := by unfold bnd; rw [Nat.pow_succ]; omega
        clear a1 k1
        by_cases q2 : way < 6
        · obtain ⟨c, p4, hc, hp4, hof⟩ := ofT_ok (ds := consts) hp3 (by simp [consts]) (by decide)
          have hcf := fine_const hc
          have ad1 : fAdd (.tup A) (.tup [c]) = some (.val (.tup (A ++ [c]))) := if_pos (by simp; omega)
          have ad2 : fAdd (.tup (A ++ [c])) (.tup B) = some (.val (.tup (A ++ [c] ++ B))) := if_pos (by simp; omega)
          have ai : fAdd (.int at') (.int 1) = some (.val (.int (at' + 1))) := rfl
          refine ⟨.tup (A ++ [c] ++ B), p4, fine_tup (by simp; omega) (fun y hy => ?_), hp4, ?_⟩
          · rcases List.mem_append.mp hy with z | z
            · rcases List.mem_append.mp z with z | z
              · exact itemsF y (m1 y z)
              · rw [List.mem_singleton] at z
                rw [z]
                exact ⟨hcf.flat, by have := hcf.deep; omega, hcf.small⟩
            · exact itemsF y (m2 y z)
          · simp only [consts] at hof
            generalize (X.length : Int) = Xl at *
            simp [sp__law_bent, d__law_bent, List.replicate, hty, D.truth, heq, hd1, eq_int, q, hln, hd2, hd3, lt_int, q2, hs1, hof, ad1, ai, hs2, ad2, -List.append_assoc]
        · obtain ⟨l, hl1, hl2, hl3⟩ := strs_fil X
          obtain ⟨ρ', g1, u, rfl⟩ := lc_map (g := gtName 6) (t := dTru (dIsi "str" (dLateAt 6))) (e := dVar 6) (ds := X)
            (fun ρ => ∃ u, ρ = [.un, .un, .un, .un, .un, .un, u, .un]) isStr (fun d => d) (by
              rintro ρ ⟨u, rfl⟩ d hd
              refine ⟨_, z_gName _ _, [.un, .un, .un, .un, .un, .un, .val d, .un], ?_, fun _ => ⟨_, rfl⟩, fun _ => ⟨.val d, [.un, .un, .un, .un, .un, .un, .val d, .un], ?_, rfl, rfl, ⟨_, rfl⟩⟩⟩
              · cases d <;> simp [D.truth, isStr, isiB, D.ty]
              · simp) [.un, .un, .un, .un, .un, .un, .un, .un] ⟨_, rfl⟩
          rw [List.map_id', hl1] at g1
          have g2 := lcAll_of (vs := []) (ρ := [.par p3, .val (.tup X), .val (.tup consts), .val (.int at'), .val (.int way), .un, .un, .un]) (by omega) g1
          obtain ⟨es, p4, hsub, hel, hp4, hu⟩ := unlike_ok (ds := signs [97, 98, 99, 100, 119, 120, 121, 122]) (many := 2) hp3 (by decide) (by decide)
          obtain ⟨t, rfl, _⟩ := sub_signs hsub
          clear hsub
          rw [signs_len] at hel
          have hu : sp__law_unlike [p3, .lst (signs [97, 98, 99, 100, 119, 120, 121, 122]), .int 2] = some (.val (.lst (signs t)), [p4, .lst (signs [97, 98, 99, 100, 119, 120, 121, 122]), .int 2]) := hu
          have hls : fList (.str [97, 98, 99, 100, 119, 120, 121, 122]) = some (.fresh (.lst (signs [97, 98, 99, 100, 119, 120, 121, 122]))) := rfl
          have hso : fSorted (.lst (signs t)) = some (.fresh (.lst (signs (sortN t)))) := sorted_lst t
          have hsn := sortN_len t
          have hj := join_signs (xs := sortN t) (by omega)
          generalize sortN t = T at *
          have ad : fAdd (.lst (l.map D.str)) (.lst [.str T]) = some (.fresh (.lst ((l ++ [T]).map D.str))) := by
            show (if (l.map D.str).length + [D.str T].length ≤ 16777216 then some (Res.fresh (.lst (l.map D.str ++ [D.str T]))) else none) = _
            rw [if_pos (by simp; omega)]
            simp
          have htx := texts_lst (l ++ [T])
          have htl : (l ++ [T]).length ≤ 4000 := by simp; omega
          have hfx := foldX_len (l ++ [T]) []
          have hfm : ∀ s ∈ (l ++ [T]).foldl addX [], s.length ≤ 1000 := fun s hs => by
            rw [addX_mem] at hs
            rcases hs with hs | hs
            · simp at hs
            · rcases List.mem_append.mp hs with z | z
              · exact (hit _ (hl3 s z)).2.2 s rfl
              · rw [List.mem_singleton] at z
                rw [z]; omega
          have hl2l : (l ++ [T]).length = l.length + 1 := by simp
          generalize l ++ [T] = l2 at *
          generalize hF : l2.foldl addX [] = F at *
          have hSl : (sortT F).length = F.length := (sortT_perm F).length_eq
          have hSm : ∀ s ∈ sortT F, s.length ≤ 1000 := fun s hs => hfm s ((sortT_perm F).mem_iff.mp hs)
          generalize hSF : sortT F = SF at *
          have hft : fTuple (.lst (SF.map D.str)) = some (.val (.tup (SF.map D.str))) := rfl
          have ai : fAdd (.int at') (.int 1) = some (.val (.int (at' + 1))) := rfl
          have ad3 : fAdd (.tup A) (.tup B) = some (.val (.tup (A ++ B))) := if_pos (by omega)
          have hlt : fList (.tup X) = some (.fresh (.lst X)) := rfl
          obtain ⟨e, p5, he, hp5, hof⟩ := of_ok (ds := [.tup (A ++ B), .tup (SF.map D.str), .tup (SF.map D.str), .lst X, .tup X.reverse, .tup [.tup X]]) hp4 (by simp) (by simp)
          have hother : Fine (n + 1) (.tup (SF.map D.str)) := fine_tup (by simp at hfx ⊢; omega) (fun y hy => by
            obtain ⟨s, hs, rfl⟩ := List.mem_map.mp hy
            exact ⟨rfl, Nat.zero_le _, fun t e => by cases e; exact hSm s hs⟩)
          refine ⟨e, p5, ?_, hp5, ?_⟩
          · simp only [List.mem_cons, List.not_mem_nil, or_false] at he
            rcases he with rfl | rfl | rfl | rfl | rfl | rfl
            · exact fine_tup (by simp; omega) (fun y hy => by
                rcases List.mem_append.mp hy with z | z
                · exact itemsF y (m1 y z)
                · exact itemsF y (m2 y z))
            · exact hother
            · exact hother
            · exact fine_lst (by omega) itemsF
            · exact fine_tup (by simp; omega) (fun y hy => itemsF y (List.mem_reverse.mp hy))
            · exact fine_tup (bnd_pos (n + 1)) (fun y hy => by
                rw [List.mem_singleton] at hy
                rw [hy]
                exact ⟨hd.flat, hd.deep, hd.small⟩)
          · generalize (X.length : Int) = Xl at *
            have xs1 : xSorted F = some (.fresh (.lst (SF.map D.str))) := by unfold xSorted; rw [hSF]
            simp only [consts] at g2
            simp [sp__law_bent, d__law_bent, List.replicate, hty, D.truth, heq, hd1, eq_int, q, hln, hd2, hd3, lt_int, q2, items_tup, g2, hls, hu, hso, hj, tyOf, ad, htx, htl, hF, xs1, hft, hs1, hs2, ai, ad3, hlt, hof]
  · have hty : isiB d.ty "tuple" = false := by
      cases d with
      | tup xs => exact absurd ⟨xs, rfl⟩ ht
      | _ => rfl
    obtain ⟨e, p', he, hp', h⟩ := const p hp
    refine ⟨e, p', he, hp', ?_⟩
    simp only [consts] at h
    simp [sp__law_bent, d__law_bent, List.replicate, hty, D.truth, h]
end G02
namespace G02
open GB GL PySem
theorem edge_ok {p : D} (hp : IsPail p) : ∃ e p', Fine 0 e ∧ IsPail p' ∧ sp__law_edge [p] = some (.val e, [p']) := by
  obtain ⟨c, p1, hc, hp1, h1⟩ := ofT_ok (ds := [.int 1, .int 6, .int 10, .int 11]) hp (by simp) (by simp)
  obtain ⟨i, rfl⟩ : ∃ i : Int, c = .int i := by
    simp only [List.mem_cons, List.not_mem_nil, or_false] at hc
    rcases hc with rfl | rfl | rfl | rfl <;> exact ⟨_, rfl⟩
  generalize hT : ([D.str [97, 98], .str [97, 99], .str [97, 100], .str [97, 101], .str [97, 102], .str [97, 103], .str [98, 99], .str [98, 100], .str [98, 101], .str [98, 102], .str [98, 103]] : List D) = T
  have hTl : T.length = 11 := by rw [← hT]; rfl
  have hTm : ∀ x ∈ T, D.flat x = true ∧ D.deep x ≤ 0 ∧ Small x := by
    intro x hx
    rw [← hT] at hx
    have : ∃ a b, x = .str [a, b] := by
      simp only [List.mem_cons, List.not_mem_nil, or_false] at hx
      rcases hx with rfl | rfl | rfl | rfl | rfl | rfl | rfl | rfl | rfl | rfl | rfl <;> exact ⟨_, _, rfl⟩
    obtain ⟨a, b, rfl⟩ := this
    exact ⟨rfl, Nat.le_refl _, fun s e => by cases e; simp⟩
  have hs : fSl none (some i) (.tup T) = some (.val (.tup (cutL T none (some i)))) := rfl
  have hm : ∀ x ∈ cutL T none (some i), x ∈ T := fun x hx => cutL_mem hx
  have hl := cutL_length T none (some i)
  generalize cutL T none (some i) = U at *
  have hs2 : fSl (some 1) none (.tup U) = some (.val (.tup (cutL U (some 1) none))) := rfl
  have hm2 : ∀ x ∈ cutL U (some 1) none, x ∈ U := fun x hx => cutL_mem hx
  have hl2 := cutL_length U (some 1) none
  generalize cutL U (some 1) none = V at *
  obtain ⟨e, p2, he, hp2, h2⟩ := of_ok (ds := [.tup U, .tup U, .tup [.str [97, 98], .str [98, 99], .str [99, 100], .str [100, 101], .str [101, 102], .str [102, 103], .str [103, 104]], .tup [.str [97, 98], .str [99, 100]], .tup [.str [97, 98], .str [98, 99], .str [100, 101], .str [101, 102]], .tup V]) hp1 (by simp) (by simp)
  refine ⟨e, p2, ?_, hp2, ?_⟩
  · have two : ∀ x : D, (∃ a b, x = .str [a, b]) → D.flat x = true ∧ D.deep x ≤ 0 ∧ Small x := fun x h => by
      obtain ⟨a, b, rfl⟩ := h
      exact ⟨rfl, Nat.le_refl _, fun s e => by cases e; simp⟩
    simp only [List.mem_cons, List.not_mem_nil, or_false] at he
    have b0 : bnd 0 = 12 := by decide
    rcases he with rfl | rfl | rfl | rfl | rfl | rfl
    · exact fine_tup (by omega) fun x hx => hTm x (hm x hx)
    · exact fine_tup (by omega) fun x hx => hTm x (hm x hx)
    · exact fine_tup (by decide) fun x hx => two x (by
        simp only [List.mem_cons, List.not_mem_nil, or_false] at hx
        rcases hx with rfl | rfl | rfl | rfl | rfl | rfl | rfl <;> exact ⟨_, _, rfl⟩)
    · exact fine_tup (by decide) fun x hx => two x (by
        simp only [List.mem_cons, List.not_mem_nil, or_false] at hx
        rcases hx with rfl | rfl <;> exact ⟨_, _, rfl⟩)
    · exact fine_tup (by decide) fun x hx => two x (by
        simp only [List.mem_cons, List.not_mem_nil, or_false] at hx
        rcases hx with rfl | rfl | rfl | rfl <;> exact ⟨_, _, rfl⟩)
    · exact fine_tup (by omega) fun x hx => hTm x (hm x (hm2 x hx))
  · simp [sp__law_edge, d__law_edge, List.replicate, h1, hT, hTl, hs, hs2, h2]
theorem bents_ok {d : D} (hd : Fine 0 d) : ∀ (ds : List D) (p : D) (s6 : GB.Slot), IsPail p → ∃ es p' s6', (∀ e ∈ es, Fine 2 e) ∧ es.length = ds.length ∧ IsPail p' ∧
    dLcGo (gtName 6) tYes (dCall sp__law_bent [true, false] (aRef 0 (aVal (dVar 2) aNil))) ds [.par p, .un, .val d, .un, .un, .un, s6] = some (es, [.par p', .un, .val d, .un, .un, .un, s6'])
  | [], p, s6, hp => ⟨[], p, s6, by simp, rfl, hp, rfl⟩
  | x :: ds, p, s6, hp => by
    obtain ⟨e, p1, he, hp1, h1⟩ := bent_ok hp hd (by decide)
    obtain ⟨es, p2, s6', hes, hl, hp2, h2⟩ := bents_ok hd ds p1 (.val x) hp1
    refine ⟨e :: es, p2, s6', fun y hy => ?_, by simp [hl], hp2, ?_⟩
    · rcases List.mem_cons.mp hy with rfl | hy
      · exact he.more (by decide)
      · exact hes y hy
    · rw [dLcGo]
      simp [h1, h2]
theorem law_is_ok (b : Bool) : sp__law_is [.lst [.bl b, .bl b], .lst [.bl b, .bl b]] = some (.val (.bl true), [.lst [.bl b, .bl b], .lst [.bl b, .bl b]]) := by
  have hs : Sh (.lst [.bl b, .bl b]) 1 2 := Sh.lst (Shs.cons (Sh.bl b) (Shs.cons (W := 1) (Sh.bl b) (Shs.nil (W := 0)) (by omega)) (by omega))
  have ho := hs.ok (by decide) (by decide)
  have hr : fRepr (.lst [.bl b, .bl b]) = some (.weak (D.lst [.bl b, .bl b]).shown) := by
    show (if (D.lst [.bl b, .bl b]).okShow = true then some (Res.weak (D.lst [.bl b, .bl b]).shown) else none) = _
    rw [if_pos ho]
  simp [sp__law_is, d__law_is, List.replicate, hr, eq_str]
noncomputable def bodyV : DS := (sSeq (sAsg 5 (dCall sp__law_is_web [false] (aVal (dVar 4) aNil)))
  (sSeq (sIf (dNotT (dTru (dCall sp__law_is [false, false] (aVal (dLst (dCons (dCall sp_is_web [false] (aVal (dVar 4) aNil)) (dCons (dCallK sp_is_web [false] [0] 0 1 aNil (aVal (dVar 4) aNil)) dNil))) (aVal (dLst (dCons (dVar 5) (dCons (dVar 5) dNil))) aNil))))) (sSeq (sRet (dC (.bl false)))
  sNil) sNil)
  sNil))
theorem values_ok {s0 s1 s2 s3 s6 : GB.Slot} : ∀ (ds : List D) (s4 s5 : GB.Slot), (∀ d ∈ ds, Fine 2 d) → ∃ s4' s5', dFor (gtName 4) bodyV ds [s0, s1, s2, s3, s4, s5, s6] = some (.nx [s0, s1, s2, s3, s4', s5', s6])
  | [], s4, s5, _ => ⟨s4, s5, rfl⟩
  | d :: ds, s4, s5, h => by
    have hd := h d (by simp)
    have pre : ∀ xs, d = .tup xs → xs.length ≤ 1000 ∧ ∀ x ∈ xs, Small x := fun xs e => by
      obtain ⟨a, b⟩ := hd.items xs (.inl e)
      exact ⟨Nat.le_trans a (by decide), fun x hx => (b x hx).2.2⟩
    obtain ⟨b1, hb1, h1⟩ := is_web_form_any pre
    obtain ⟨b2, hb2, h2⟩ := law_is_web_any pre
    have e : b1 = b2 := by
      rw [Bool.eq_iff_iff, hb1, hb2]
    subst e
    have hw : sp_is_web [d] = some (.val (.bl b1), [d]) := by simp [sp_is_web, d_is_web, List.replicate, h1]
    have hi := law_is_ok b1
    obtain ⟨s4', s5', e⟩ := values_ok (s0 := s0) (s1 := s1) (s2 := s2) (s3 := s3) (s6 := s6) ds (.val d) (.val (.bl b1)) (fun x hx => h x (by simp [hx]))
    refine ⟨s4', s5', ?_⟩
    rw [dFor]
    simp [bodyV, h2, hw, hi, perm, D.truth]
    simpa [bodyV] using e
theorem right_ok {p : D} (hp : IsPail p) : ∃ p', sp__law_right [p] = some (.val (.bl true), [p']) := by
  obtain ⟨ρ', h1, p', t1, t2, t3, t4, t5, t6, hp', rfl⟩ := dFor_inv (g := gtName 1) (b := (sSeq (sAsg 2 (dCall sp__law_web [true, false, false] (aRef 0 (aVal (dC (.int 7)) (aVal (dC (.int 10)) aNil)))))
  (sSeq (sAsg 3 (dLst (dCons (dVar 2) (dCons (dCall sp__law_edge [true] (aRef 0 aNil)) (dCons (dCall sp__law_edge [true] (aRef 0 aNil)) (dCons (dCall sp__law_bent [true, false] (aRef 0 (aVal (dCall sp__law_bent [true, false] (aRef 0 (aVal (dVar 2) aNil))) aNil))) dNil))))))
  (sSeq (sFor (dItems (dBinG fAdd (dVar 3) (dLc [0, 2] (dRng (dCons (dC (.int 10)) dNil)) (gtName 6) tYes (dCall sp__law_bent [true, false] (aRef 0 (aVal (dVar 2) aNil)))))) (gtName 4) bodyV)
  sNil))))
    (fun rem ρ => ∃ p' t1 t2 t3 t4 t5 t6, IsPail p' ∧ ρ = [.par p', t1, t2, t3, t4, t5, t6])
    (by
      rintro d rem ρ ⟨p', t1, t2, t3, t4, t5, t6, hp', rfl⟩
      obtain ⟨w, p1, hp1, W, h1⟩ := web_ok hp'
      have hwl := W.len2
      have hw0 : Fine 0 (wD w) := fine_tup (by show ((tts w).map D.str).length ≤ 12; simp [tts]; omega) fun x hx => by
        obtain ⟨s, hs, rfl⟩ := List.mem_map.mp hx
        obtain ⟨t, ht, rfl⟩ := List.mem_map.mp hs
        exact ⟨rfl, Nat.le_refl _, fun s e => by cases e; simp [tt]⟩
      obtain ⟨e1, p2, he1, hp2, h2⟩ := edge_ok hp1
      obtain ⟨e2, p3, he2, hp3, h3⟩ := edge_ok hp2
      obtain ⟨b1, p4, hb1, hp4, h4⟩ := bent_ok hp3 hw0 (by decide)
      obtain ⟨b2, p5, hb2, hp5, h5⟩ := bent_ok hp4 hb1 (by decide)
      have hr : rngD [.int 10] = some (rngL 0 1 10) := rng_oneI (j := 10) (by decide) (by decide)
      obtain ⟨es, p6, u6, hes, hel, hp6, h6⟩ := bents_ok hw0 (rngL 0 1 10) p5 .un hp5
      rw [rngL_length] at hel
      have h7 := lcAll_of (vs := [0, 2]) (ρ := [.par p5, .val d, .val (wD w), .val (.lst [wD w, e1, e2, b2]), t4, t5, t6]) (by rw [rngL_length]; decide) h6
      have had : fAdd (.lst [wD w, e1, e2, b2]) (.lst es) = some (.fresh (.lst ([wD w, e1, e2, b2] ++ es))) := if_pos (by simp [hel])
      obtain ⟨u4, u5, h8⟩ := values_ok (s0 := .par p6) (s1 := .val d) (s2 := .val (wD w)) (s3 := .val (.lst [wD w, e1, e2, b2])) (s6 := t6) ([wD w, e1, e2, b2] ++ es) t4 t5 (fun x hx => by
        rcases List.mem_append.mp hx with z | z
        · simp only [List.mem_cons, List.not_mem_nil, or_false] at z
          rcases z with rfl | rfl | rfl | rfl
          · exact hw0.more (by decide)
          · exact he1.more (by decide)
          · exact he2.more (by decide)
          · exact hb2
        · exact hes x z)
      generalize hLL : [wD w, e1, e2, b2] ++ es = LL at *
      refine ⟨_, z_gName _ _, [.par p6, .val d, .val (wD w), .val (.lst [wD w, e1, e2, b2]), u4, u5, t6], ?_, _, _, _, _, _, _, _, hp6, rfl⟩
      simp [h1, h2, h3, h4, h5, hr, h7, had, items_lst, h8])
    (rngL 0 1 6) [.par p, .un, .un, .un, .un, .un, .un] ⟨p, _, _, _, _, _, _, hp, rfl⟩
  have hr : rngD [.int 6] = some (rngL 0 1 6) := rng_oneI (j := 6) (by decide) (by decide)
  refine ⟨p', ?_⟩
  simp only [bodyV] at h1
  simp [sp__law_right, d__law_right, List.replicate, hr, h1]
theorem law_math (ns : List Int) (hl : ns.length ≤ 63) (hb : ∀ m ∈ ns, Builtin.Int.intBits m ≤ 1048576) : sp_law [.lst (ns.map D.int)] = some (.val (.bl true), [.lst (ns.map D.int)]) := by
  have hlen : fLen (.lst (ns.map D.int)) = some (.val (.int (ns.length : Int))) := by rw [len_lst, List.length_map]
  have hmin : fMin2 [.int (ns.length : Int), .int 3] = some (.val (.int (min (ns.length : Int) 3))) := rfl
  have hmax : fMax2 [.int 1, .int (min (ns.length : Int) 3)] = some (.val (.int (max 1 (min (ns.length : Int) 3)))) := rfl
  generalize hn : max 1 (min (ns.length : Int) 3) = n at *
  have hn0 : 0 ≤ n ∧ n ≤ 3 := by omega
  have hr : rng1 [.int n] = some (rngL 0 1 n.toNat) := if_pos (by omega)
  obtain ⟨xs, ρ', h1, h2, s, rfl⟩ := lc_all (g := gtName 1) (e := dCallF sp__law_right (dCall sp__law_well [false, false] (aVal (dVar 0) (aVal (dVar 1) aNil)))) (ds := rngL 0 1 n.toNat) (fun ρ => ∃ s, ρ = [.val (.lst (ns.map D.int)), s]) (by
    rintro ρ ⟨s, rfl⟩ d hd
    obtain ⟨k, _, rfl⟩ := List.mem_map.mp hd
    obtain ⟨q, hq, hpl⟩ := well_ok (ns := ns) (turn := 0 + (k : Int) * 1) (by omega)
    obtain ⟨q', hr⟩ := right_ok hq
    refine ⟨_, z_gName _ _, .val (.bl true), [.val (.lst (ns.map D.int)), .val (.int (0 + (k : Int) * 1))], ?_, rfl, rfl, ⟨_, rfl⟩⟩
    generalize (0 + (k : Int) * 1) = kk at *
    simp [hpl, hr]) [.val (.lst (ns.map D.int)), .un] ⟨_, rfl⟩
  have h3 := lcAll_of (vs := [0]) (ρ := [.val (.lst (ns.map D.int)), .un]) (by rw [rngL_length]; omega) h1
  simp [sp_law, d_law, List.replicate, hlen, hmin, hmax, hr, h3, h2]
end G02

namespace G02
open PySem PySem.Spec PyProof.Rows GB GL
open L2 (FunD FnScope defArgs defBody defScope)
def top (i : Nat) : Stmt := PySem.Challenge.pw_giverounds_k02_whole_webs_judged.main.body.getD i (.Pass ⟨0, 0, 0, 0⟩)
structure Facts (K : PySem.W.Frag) (mg : Str → Option Value) where
  a__law_draw : Addr
  d__law_draw : FuncData
  F__law_draw : FunD K "_law_draw" "_law_draw" (defArgs (top 18)) (defBody (top 18)) (defScope (top 18)) [] [] a__law_draw d__law_draw
  m__law_draw : mg "_law_draw" = some (.ref a__law_draw)
  b__law_draw : L2.Binds K d__law_draw ["well", "limit"] []
  a__law_mixed : Addr
  d__law_mixed : FuncData
  F__law_mixed : FunD K "_law_mixed" "_law_mixed" (defArgs (top 21)) (defBody (top 21)) (defScope (top 21)) [] [] a__law_mixed d__law_mixed
  m__law_mixed : mg "_law_mixed" = some (.ref a__law_mixed)
  b__law_mixed : L2.Binds K d__law_mixed ["well", "some"] []
  a__law_unlike : Addr
  d__law_unlike : FuncData
  F__law_unlike : FunD K "_law_unlike" "_law_unlike" (defArgs (top 20)) (defBody (top 20)) (defScope (top 20)) [] [] a__law_unlike d__law_unlike
  m__law_unlike : mg "_law_unlike" = some (.ref a__law_unlike)
  b__law_unlike : L2.Binds K d__law_unlike ["well", "some", "many"] []
  a__law_web : Addr
  d__law_web : FuncData
  F__law_web : FunD K "_law_web" "_law_web" (defArgs (top 23)) (defBody (top 23)) (defScope (top 23)) [] [] a__law_web d__law_web
  m__law_web : mg "_law_web" = some (.ref a__law_web)
  b__law_web : L2.Binds K d__law_web ["well", "most", "ties"] []
  a__law_of : Addr
  d__law_of : FuncData
  F__law_of : FunD K "_law_of" "_law_of" (defArgs (top 19)) (defBody (top 19)) (defScope (top 19)) [] [] a__law_of d__law_of
  m__law_of : mg "_law_of" = some (.ref a__law_of)
  b__law_of : L2.Binds K d__law_of ["well", "some"] []
  a__law_edge : Addr
  d__law_edge : FuncData
  F__law_edge : FunD K "_law_edge" "_law_edge" (defArgs (top 26)) (defBody (top 26)) (defScope (top 26)) [] [] a__law_edge d__law_edge
  m__law_edge : mg "_law_edge" = some (.ref a__law_edge)
  b__law_edge : L2.Binds K d__law_edge ["well"] []
  a__law_bent : Addr
  d__law_bent : FuncData
  F__law_bent : FunD K "_law_bent" "_law_bent" (defArgs (top 25)) (defBody (top 25)) (defScope (top 25)) [] [] a__law_bent d__law_bent
  m__law_bent : mg "_law_bent" = some (.ref a__law_bent)
  b__law_bent : L2.Binds K d__law_bent ["well", "value"] []
  a__law_is_web : Addr
  d__law_is_web : FuncData
  F__law_is_web : FunD K "_law_is_web" "_law_is_web" (defArgs (top 24)) (defBody (top 24)) (defScope (top 24)) [] [] a__law_is_web d__law_is_web
  m__law_is_web : mg "_law_is_web" = some (.ref a__law_is_web)
  b__law_is_web : L2.Binds K d__law_is_web ["value"] []
  a__law_is : Addr
  d__law_is : FuncData
  F__law_is : FunD K "_law_is" "_law_is" (defArgs (top 22)) (defBody (top 22)) (defScope (top 22)) [] [] a__law_is d__law_is
  m__law_is : mg "_law_is" = some (.ref a__law_is)
  b__law_is : L2.Binds K d__law_is ["told", "due"] []
  a_places_in : Addr
  d_places_in : FuncData
  F_places_in : FunD K "places_in" "places_in" (defArgs (top 9)) (defBody (top 9)) (defScope (top 9)) [] [] a_places_in d_places_in
  m_places_in : mg "places_in" = some (.ref a_places_in)
  b_places_in : L2.Binds K d_places_in ["ties"] []
  a_sorted_text : Addr
  d_sorted_text : FuncData
  F_sorted_text : FunD K "sorted_text" "sorted_text" (defArgs (top 3)) (defBody (top 3)) (defScope (top 3)) [] [] a_sorted_text d_sorted_text
  m_sorted_text : mg "sorted_text" = some (.ref a_sorted_text)
  b_sorted_text : L2.Binds K d_sorted_text ["text"] []
  a_neighbours_in : Addr
  d_neighbours_in : FuncData
  F_neighbours_in : FunD K "neighbours_in" "neighbours_in" (defArgs (top 10)) (defBody (top 10)) (defScope (top 10)) [] [] a_neighbours_in d_neighbours_in
  m_neighbours_in : mg "neighbours_in" = some (.ref a_neighbours_in)
  b_neighbours_in : L2.Binds K d_neighbours_in ["web", "place"] []
  a_spread_over : Addr
  d_spread_over : FuncData
  F_spread_over : FunD K "spread_over" "spread_over" (defArgs (top 12)) (defBody (top 12)) (defScope (top 12)) [] [] a_spread_over d_spread_over
  m_spread_over : mg "spread_over" = some (.ref a_spread_over)
  b_spread_over : L2.Binds K d_spread_over ["ties", "place"] []
  a_reached_in : Addr
  d_reached_in : FuncData
  F_reached_in : FunD K "reached_in" "reached_in" (defArgs (top 11)) (defBody (top 11)) (defScope (top 11)) [] [] a_reached_in d_reached_in
  m_reached_in : mg "reached_in" = some (.ref a_reached_in)
  b_reached_in : L2.Binds K d_reached_in ["ties", "place"] []
  a_does_hang : Addr
  d_does_hang : FuncData
  F_does_hang : FunD K "does_hang" "does_hang" (defArgs (top 13)) (defBody (top 13)) (defScope (top 13)) [] [] a_does_hang d_does_hang
  m_does_hang : mg "does_hang" = some (.ref a_does_hang)
  b_does_hang : L2.Binds K d_does_hang ["ties"] []
  a_is_letters : Addr
  d_is_letters : FuncData
  F_is_letters : FunD K "is_letters" "is_letters" (defArgs (top 2)) (defBody (top 2)) (defScope (top 2)) [] [] a_is_letters d_is_letters
  m_is_letters : mg "is_letters" = some (.ref a_is_letters)
  b_is_letters : L2.Binds K d_is_letters ["value"] []
  a_is_tie_form : Addr
  d_is_tie_form : FuncData
  F_is_tie_form : FunD K "is_tie_form" "is_tie_form" (defArgs (top 7)) (defBody (top 7)) (defScope (top 7)) [] [] a_is_tie_form d_is_tie_form
  m_is_tie_form : mg "is_tie_form" = some (.ref a_is_tie_form)
  b_is_tie_form : L2.Binds K d_is_tie_form ["value"] []
  a_is_web_form : Addr
  d_is_web_form : FuncData
  F_is_web_form : FunD K "is_web_form" "is_web_form" (defArgs (top 8)) (defBody (top 8)) (defScope (top 8)) [] [] a_is_web_form d_is_web_form
  m_is_web_form : mg "is_web_form" = some (.ref a_is_web_form)
  b_is_web_form : L2.Binds K d_is_web_form ["value"] []
  a_is_web : Addr
  d_is_web : FuncData
  F_is_web : FunD K "is_web" "is_web" (defArgs (top 15)) (defBody (top 15)) (defScope (top 15)) [] [] a_is_web d_is_web
  m_is_web : mg "is_web" = some (.ref a_is_web)
  b_is_web : L2.Binds K d_is_web ["value"] []
  a__law_right : Addr
  d__law_right : FuncData
  F__law_right : FunD K "_law_right" "_law_right" (defArgs (top 27)) (defBody (top 27)) (defScope (top 27)) [] [] a__law_right d__law_right
  m__law_right : mg "_law_right" = some (.ref a__law_right)
  b__law_right : L2.Binds K d__law_right ["well"] []
  a__law_well : Addr
  d__law_well : FuncData
  F__law_well : FunD K "_law_well" "_law_well" (defArgs (top 17)) (defBody (top 17)) (defScope (top 17)) [] [] a__law_well d__law_well
  m__law_well : mg "_law_well" = some (.ref a__law_well)
  b__law_well : L2.Binds K d__law_well ["script", "lap"] []
  a_law : Addr
  d_law : FuncData
  F_law : FunD K "law" "law" (defArgs (top 28)) (defBody (top 28)) (defScope (top 28)) [] [] a_law d_law
  m_law : mg "law" = some (.ref a_law)
  b_law : L2.Binds K d_law ["script"] []
  kb_is_web_0_value : KBinds K d_is_web ["value"] ["value"] [0] 0
  n_int : mg "int" = none
  n_divmod : mg "divmod" = none
  n_len : mg "len" = none
  n_range : mg "range" = none
  n_list : mg "list" = none
  n_sorted : mg "sorted" = none
  n_tuple : mg "tuple" = none
  n_set : mg "set" = none
  n_isinstance : mg "isinstance" = none
  n_str : mg "str" = none
  n_repr : mg "repr" = none
  t_LETTERS : ∃ t, mg "LETTERS" = some (.str "abcdefghijklmnopqrstuvwxyz" t)
  n_all : mg "all" = none
  i_MOST_PLACES : ∃ t, mg "MOST_PLACES" = some (.int 7 t)
  n_zip : mg "zip" = none
  i_MOST_TIES : ∃ t, mg "MOST_TIES" = some (.int 10 t)
  n_abs : mg "abs" = none
  n_min : mg "min" = none
  n_max : mg "max" = none
section
variable {P : Program} {w : World} {K : PySem.W.Frag} {mg : Str → Option Value} {base : Heap}
theorem ok__law_draw (g : Facts K mg) : FnOk 1 P w K mg base 1 g.a__law_draw g.d__law_draw ["well", "limit"] [true, false] sp__law_draw := by
  refine ok_of (N := ["well", "limit", "figure", "mixed"]) (k := 0) g.F__law_draw ⟨rfl, rfl, rfl, by decide +kernel, rfl, by decide +kernel, by decide +kernel⟩ rfl (fun cdv A outer s hr => ?_)
  exact (pss_cons (ps_if (pdt_cmpV op_gt (pl_of (pd_ix (pl_var 0) (pv_of pd_int))) (pv_of pd_int) rfl) (pss_cons (ps_asgT (pd_callB ca_divmod g.n_divmod (pa_cons (pd_ix (pl_var 0) (pv_of pd_int)) (pa_cons (pd_var 1) pa_nil))) (pgt_tup (pgts_cons (pgt_sub 0 (pg_of pd_int)) (pgts_cons (pgt_name 2) pgts_nil))))
  (pss_cons (ps_ret (pd_var 2))
  pss_nil)) pss_nil)
  (pss_cons (ps_asgT (pd_binG op_add (pd_ix (pl_var 0) (pv_of pd_int)) pd_int) (pgt_sub 0 (pg_of pd_int)))
  (pss_cons (ps_asg 3 (pd_bin op_mod (pd_call1T c1_int g.n_int (pg_of (pd_binG op_add (pd_bin op_mul (pd_ix (pl_var 0) (pv_of pd_int)) pd_int) (pd_bin op_mul pd_int (pd_ix (pl_var 0) (pv_of pd_int)))))) pd_int))
  (pss_cons (ps_asgT (pd_bin op_mod (pd_call1T c1_int g.n_int (pg_of (pd_binG op_add (pd_bin op_mul (pd_var 3) (pd_binG op_add (pd_bin op_mod (pd_call1T c1_int g.n_int (pg_var 3)) pd_int) pd_int)) (pd_ix (pl_var 0) (pv_of pd_int))))) pd_int) (pgt_sub 0 (pg_of pd_int)))
  (pss_cons (ps_ret (pd_bin op_mod (pd_call1T c1_int g.n_int (pg_of (pd_bin op_div (pd_ix (pl_var 0) (pv_of pd_int)) pd_int))) (pd_var 1)))
  pss_nil)))))
theorem ok__law_mixed (g : Facts K mg) : FnOk 1 P w K mg base 2 g.a__law_mixed g.d__law_mixed ["well", "some"] [true, false] sp__law_mixed := by
  refine ok_of (N := ["well", "some", "left", "found", "turn"]) (k := 1) g.F__law_mixed ⟨rfl, rfl, rfl, by decide +kernel, rfl, by decide +kernel, by decide +kernel⟩ rfl (fun cdv A outer s hr => ?_)
  exact (pss_cons (ps_par [2, 3] (pr_cons (pd_call1T c1_list g.n_list (pg_var 1)) (pr_cons (pd_lst pa_nil) pr_nil)) rfl (hN := par_ok (by kernel_rfl)))
  (pss_cons (ps_for (pi_range g.n_range (pa_cons (pd_call1B c1_len g.n_len (pg_var 1)) pa_nil)) (pgv_of (pgt_name 4)) (pss_cons (ps_expr (pd_methW 3 cw_append F.plainAttrs_list F.slot_list_append (by kernel_rfl) (pa_cons (pd_methW 2 cw_pop F.plainAttrs_list F.slot_list_pop (by kernel_rfl) (pa_cons (pd_call (ok__law_draw g) (hr.mono (by decide)) g.m__law_draw g.F__law_draw.kp g.b__law_draw (pas_ref 0 (pas_val (pd_call1B c1_len g.n_len (pg_var 2)) pas_nil))) pa_nil)) pa_nil)))
  pss_nil) .never)
  (pss_cons (ps_ret (pd_var 3))
  pss_nil)))
theorem ok__law_unlike (g : Facts K mg) : FnOk 1 P w K mg base 2 g.a__law_unlike g.d__law_unlike ["well", "some", "many"] [true, false, false] sp__law_unlike := by
  refine ok_of (N := ["well", "some", "many", "left", "turn"]) (k := 1) g.F__law_unlike ⟨rfl, rfl, rfl, by decide +kernel, rfl, by decide +kernel, by decide +kernel⟩ rfl (fun cdv A outer s hr => ?_)
  exact (pss_cons (ps_asg 3 (pd_call1T c1_list g.n_list (pg_var 1)))
  (pss_cons (ps_for (pi_range g.n_range (pa_cons (pd_bin op_sub (pd_call1B c1_len g.n_len (pg_var 1)) (pd_var 2)) pa_nil)) (pgv_of (pgt_name 4)) (pss_cons (ps_expr (pd_methW 3 cw_pop F.plainAttrs_list F.slot_list_pop (by kernel_rfl) (pa_cons (pd_call (ok__law_draw g) (hr.mono (by decide)) g.m__law_draw g.F__law_draw.kp g.b__law_draw (pas_ref 0 (pas_val (pd_call1B c1_len g.n_len (pg_var 3)) pas_nil))) pa_nil)))
  pss_nil) .never)
  (pss_cons (ps_ret (pd_var 3))
  pss_nil)))
theorem ok__law_web (g : Facts K mg) : FnOk 1 P w K mg base 3 g.a__law_web g.d__law_web ["well", "most", "ties"] [true, false, false] sp__law_web := by
  refine ok_of (N := ["well", "most", "ties", "many", "letters", "order", "found", "at", "lap", "tie"]) (k := 2) g.F__law_web ⟨rfl, rfl, rfl, by decide +kernel, rfl, by decide +kernel, by decide +kernel⟩ rfl (fun cdv A outer s hr => ?_)
  exact (pss_cons (ps_asg 3 (pd_binG op_add pd_int (pd_call (ok__law_draw g) (hr.mono (by decide)) g.m__law_draw g.F__law_draw.kp g.b__law_draw (pas_ref 0 (pas_val (pd_bin op_sub (pd_var 1) pd_int) pas_nil)))))
  (pss_cons (ps_asg 4 (pd_call1B c1_sorted g.n_sorted (pg_of (pd_call (ok__law_unlike g) (hr.mono (by decide)) g.m__law_unlike g.F__law_unlike.kp g.b__law_unlike (pas_ref 0 (pas_val (pd_call1T c1_list g.n_list (pg_of (pd_str [97, 98, 99, 100, 101, 102, 103, 104, 105, 106, 107, 108, 109, 110, 111, 112, 113, 114, 115, 116, 117, 118, 119, 120, 121, 122]))) (pas_val (pd_var 3) pas_nil)))))))
  (pss_cons (ps_asg 5 (pd_call (ok__law_mixed g) (hr.mono (by decide)) g.m__law_mixed g.F__law_mixed.kp g.b__law_mixed (pas_ref 0 (pas_val (pd_var 4) pas_nil))))
  (pss_cons (ps_asg 6 (pd_lst pa_nil))
  (pss_cons (ps_for (pi_range g.n_range (pa_cons pd_int (pa_cons (pd_var 3) pa_nil))) (pgv_of (pgt_name 7)) (pss_cons (ps_expr (pd_methW 6 cw_append F.plainAttrs_list F.slot_list_append (by kernel_rfl) (pa_cons (pd_meth cm_join F.plainAttrs_str F.slot_str_join (by kernel_rfl) (pg_of (pd_str [])) (pa_cons (pd_call1B c1_sorted g.n_sorted (pg_of (pd_lst (pa_cons (pd_ix (pl_var 5) (pv_var 7)) (pa_cons (pd_ix (pl_var 5) (pv_of (pd_call (ok__law_draw g) (hr.mono (by decide)) g.m__law_draw g.F__law_draw.kp g.b__law_draw (pas_ref 0 (pas_val (pd_var 7) pas_nil))))) pa_nil))))) pa_nil)) pa_nil)))
  pss_nil) .never)
  (pss_cons (ps_for (pi_range g.n_range (pa_cons (pd_call (ok__law_draw g) (hr.mono (by decide)) g.m__law_draw g.F__law_draw.kp g.b__law_draw (pas_ref 0 (pas_val (pd_var 2) pas_nil))) pa_nil)) (pgv_of (pgt_name 8)) (pss_cons (ps_asg 9 (pd_meth cm_join F.plainAttrs_str F.slot_str_join (by kernel_rfl) (pg_of (pd_str [])) (pa_cons (pd_call1B c1_sorted g.n_sorted (pg_of (pd_call (ok__law_unlike g) (hr.mono (by decide)) g.m__law_unlike g.F__law_unlike.kp g.b__law_unlike (pas_ref 0 (pas_val (pd_var 4) (pas_val pd_int pas_nil)))))) pa_nil)))
  (pss_cons (ps_if (PDW.pt (pdw_and (pdt_cmpV op_notIn (pl_var 9) (pv_var 6) rfl) (pdw_and1 (pdt_cmpV op_lt (pl_of (pd_call1B c1_len g.n_len (pg_var 6))) (pv_var 2) rfl)))) (pss_cons (ps_expr (pd_methW 6 cw_append F.plainAttrs_list F.slot_list_append (by kernel_rfl) (pa_cons (pd_var 9) pa_nil)))
  pss_nil) pss_nil)
  pss_nil)) .never)
  (pss_cons (ps_ret (pd_call1T c1_tuple g.n_tuple (pg_of (pd_call1B c1_sorted g.n_sorted (pg_var 6)))))
  pss_nil)))))))
theorem ok__law_of (g : Facts K mg) : FnOk 1 P w K mg base 2 g.a__law_of g.d__law_of ["well", "some"] [true, false] sp__law_of := by
  refine ok_of (N := ["well", "some"]) (k := 1) g.F__law_of ⟨rfl, rfl, rfl, by decide +kernel, rfl, by decide +kernel, by decide +kernel⟩ rfl (fun cdv A outer s hr => ?_)
  exact (pss_cons (ps_ret (pd_ix (pl_var 1) (pv_of (pd_call (ok__law_draw g) (hr.mono (by decide)) g.m__law_draw g.F__law_draw.kp g.b__law_draw (pas_ref 0 (pas_val (pd_call1B c1_len g.n_len (pg_var 1)) pas_nil))))))
  pss_nil)
theorem ok__law_edge (g : Facts K mg) : FnOk 1 P w K mg base 3 g.a__law_edge g.d__law_edge ["well"] [true] sp__law_edge := by
  refine ok_of (N := ["well", "ties", "some"]) (k := 2) g.F__law_edge ⟨rfl, rfl, rfl, by decide +kernel, rfl, by decide +kernel, by decide +kernel⟩ rfl (fun cdv A outer s hr => ?_)
  exact (pss_cons (ps_asg 1 (pd_slice (pg_of (pd_tup (pa_cons (pd_str [97, 98]) (pa_cons (pd_str [97, 99]) (pa_cons (pd_str [97, 100]) (pa_cons (pd_str [97, 101]) (pa_cons (pd_str [97, 102]) (pa_cons (pd_str [97, 103]) (pa_cons (pd_str [98, 99]) (pa_cons (pd_str [98, 100]) (pa_cons (pd_str [98, 101]) (pa_cons (pd_str [98, 102]) (pa_cons (pd_str [98, 103]) pa_nil))))))))))))) po_none (po_some (pv_of (pd_call (ok__law_of g) (hr.mono (by decide)) g.m__law_of g.F__law_of.kp g.b__law_of (pas_ref 0 (pas_val (pd_tup (pa_cons pd_int (pa_cons pd_int (pa_cons pd_int (pa_cons pd_int pa_nil))))) pas_nil)))))))
  (pss_cons (ps_asg 2 (pd_lst (pa_cons (pd_var 1) (pa_cons (pd_var 1) (pa_cons (pd_tup (pa_cons (pd_str [97, 98]) (pa_cons (pd_str [98, 99]) (pa_cons (pd_str [99, 100]) (pa_cons (pd_str [100, 101]) (pa_cons (pd_str [101, 102]) (pa_cons (pd_str [102, 103]) (pa_cons (pd_str [103, 104]) pa_nil)))))))) (pa_cons (pd_tup (pa_cons (pd_str [97, 98]) (pa_cons (pd_str [99, 100]) pa_nil))) (pa_cons (pd_tup (pa_cons (pd_str [97, 98]) (pa_cons (pd_str [98, 99]) (pa_cons (pd_str [100, 101]) (pa_cons (pd_str [101, 102]) pa_nil))))) (pa_cons (pd_slice (pg_var 1) (po_some (pv_of pd_int)) po_none) pa_nil))))))))
  (pss_cons (ps_ret (pd_call (ok__law_of g) (hr.mono (by decide)) g.m__law_of g.F__law_of.kp g.b__law_of (pas_ref 0 (pas_val (pd_var 2) pas_nil))))
  pss_nil)))
theorem ok__law_bent (g : Facts K mg) : FnOk 1 P w K mg base 3 g.a__law_bent g.d__law_bent ["well", "value"] [true, false] sp__law_bent := by
  refine ok_of (N := ["well", "value", "some", "at", "way", "strings", "own", "other"]) (k := 2) g.F__law_bent ⟨rfl, rfl, rfl, by decide +kernel, rfl, by decide +kernel, by decide +kernel⟩ rfl (fun cdv A outer s hr => ?_)
  exact (pss_cons (ps_asg 2 (pd_tup (pa_cons pd_non (pa_cons pd_bl (pa_cons pd_int (pa_cons (pd_str []) (pa_cons (pd_str [97]) (pa_cons (pd_str [97, 98]) (pa_cons (pd_str [98, 97]) (pa_cons (pd_str [97, 97]) (pa_cons (pd_str [121, 122]) (pa_cons (pd_str [97, 122]) (pa_cons (pd_str [97, 98, 99]) (pa_cons (pd_str [97, 66]) (pa_cons (pd_str [97, 49]) (pa_cons (pd_tup pa_nil) (pa_cons (pd_tup (pa_cons (pd_str [97, 98]) pa_nil)) (pa_cons (pd_lst pa_nil) pa_nil))))))))))))))))))
  (pss_cons (ps_if (PDW.pt (pdw_or (pdt_not (pdt_tru (pd_isi (T := "tuple") (hm := g.n_isinstance) (hmT := g.n_tuple) (ha := (pl_var 1))))) (pdw_or (pdt_cmpV op_eq (pl_var 1) (pv_of (pd_tup pa_nil)) rfl) (pdw_or1 (pdt_cmpV op_eq (pl_of (pd_call (ok__law_draw g) (hr.mono (by decide)) g.m__law_draw g.F__law_draw.kp g.b__law_draw (pas_ref 0 (pas_val pd_int pas_nil)))) (pv_of pd_int) rfl))))) (pss_cons (ps_ret (pd_call (ok__law_of g) (hr.mono (by decide)) g.m__law_of g.F__law_of.kp g.b__law_of (pas_ref 0 (pas_val (pd_var 2) pas_nil))))
  pss_nil) pss_nil)
  (pss_cons (ps_par [3, 4] (pr_cons (pd_call (ok__law_draw g) (hr.mono (by decide)) g.m__law_draw g.F__law_draw.kp g.b__law_draw (pas_ref 0 (pas_val (pd_call1B c1_len g.n_len (pg_var 1)) pas_nil))) (pr_cons (pd_call (ok__law_draw g) (hr.mono (by decide)) g.m__law_draw g.F__law_draw.kp g.b__law_draw (pas_ref 0 (pas_val pd_int pas_nil))) pr_nil)) rfl (hN := par_ok (by kernel_rfl)))
  (pss_cons (ps_if (pdt_cmpV op_lt (pl_var 4) (pv_of pd_int) rfl) (pss_cons (ps_ret (pd_binG op_add (pd_binG op_add (pd_slice (pg_var 1) po_none (po_some (pv_var 3))) (pd_tup (pa_cons (pd_call (ok__law_of g) (hr.mono (by decide)) g.m__law_of g.F__law_of.kp g.b__law_of (pas_ref 0 (pas_val (pd_var 2) pas_nil))) pa_nil))) (pd_slice (pg_var 1) (po_some (pv_of (pd_binG op_add (pd_var 3) pd_int))) po_none)))
  pss_nil) pss_nil)
  (pss_cons (ps_lc 5 [] [6] (pi_of (pd_var 1)) (Blk.of (by kernel_rfl)) (fun h => (pgv_of (pgt_name 6))) (fun h => (pts_one (pdt_tru (pd_isi (T := "str") (hm := g.n_isinstance) (hmT := g.n_str) (ha := (pl_var 6)))))) (fun h => (pd_var 6)) rfl)
  (pss_cons (ps_asg 7 (pd_call1T c1_tuple g.n_tuple (pg_of (pd_setB cx_sorted g.n_sorted g.n_set (pg_of (pd_binG op_add (pd_var 5) (pd_lst (pa_cons (pd_meth cm_join F.plainAttrs_str F.slot_str_join (by kernel_rfl) (pg_of (pd_str [])) (pa_cons (pd_call1B c1_sorted g.n_sorted (pg_of (pd_call (ok__law_unlike g) (hr.mono (by decide)) g.m__law_unlike g.F__law_unlike.kp g.b__law_unlike (pas_ref 0 (pas_val (pd_call1T c1_list g.n_list (pg_of (pd_str [97, 98, 99, 100, 119, 120, 121, 122]))) (pas_val pd_int pas_nil)))))) pa_nil)) pa_nil))))))))
  (pss_cons (ps_ret (pd_call (ok__law_of g) (hr.mono (by decide)) g.m__law_of g.F__law_of.kp g.b__law_of (pas_ref 0 (pas_val (pd_lst (pa_cons (pd_binG op_add (pd_slice (pg_var 1) po_none (po_some (pv_var 3))) (pd_slice (pg_var 1) (po_some (pv_of (pd_binG op_add (pd_var 3) pd_int))) po_none)) (pa_cons (pd_var 7) (pa_cons (pd_var 7) (pa_cons (pd_call1T c1_list g.n_list (pg_var 1)) (pa_cons (pd_revT (pg_var 1)) (pa_cons (pd_tup (pa_cons (pd_var 1) pa_nil)) pa_nil))))))) pas_nil))))
  pss_nil)))))))
theorem ok__law_is_web (g : Facts K mg) : FnOk 1 P w K mg base 1 g.a__law_is_web g.d__law_is_web ["value"] [false] sp__law_is_web := by
  refine ok_of (N := ["value", "tie", "sign", "here", "lap"]) (k := 0) g.F__law_is_web ⟨rfl, rfl, rfl, by decide +kernel, rfl, by decide +kernel, by decide +kernel⟩ rfl (fun cdv A outer s hr => ?_)
  exact (pss_cons (ps_if (PDW.pt (pdw_or (pdt_not (pdt_tru (pd_isi (T := "tuple") (hm := g.n_isinstance) (hmT := g.n_tuple) (ha := (pl_var 0))))) (pdw_or1 (pdt_not (pdt_chain op_le op_le (pl_of pd_int) (pl_of (pd_call1B c1_len g.n_len (pg_var 0))) (pv_of pd_int)))))) (pss_cons (ps_ret pd_bl)
  pss_nil) pss_nil)
  (pss_cons (ps_for (pi_of (pd_var 0)) (pgv_of (pgt_name 1)) (pss_cons (ps_if (PDW.pt (pdw_or (pdt_not (pdt_tru (pd_isi (T := "str") (hm := g.n_isinstance) (hmT := g.n_str) (ha := (pl_var 1))))) (pdw_or (pdt_cmpV op_ne (pl_of (pd_call1B c1_len g.n_len (pg_var 1))) (pv_of pd_int) rfl) (pdw_or1 (pdt_not (pdt_cmpV op_lt (pl_of (pd_ix (pl_var 1) (pv_of pd_int))) (pv_of (pd_ix (pl_var 1) (pv_of pd_int))) rfl)))))) (pss_cons (ps_ret pd_bl)
  pss_nil) pss_nil)
  (pss_cons (ps_if (pdt_cmpV op_ne (pl_of (pd_lc [] [2] (pi_of (pd_var 1)) (Blk.of (by kernel_rfl)) (fun h => (pgv_of (pgt_name 2))) (fun h => (pts_one (pdt_cmpV op_notIn (pl_var 2) (pv_of (pd_str [97, 98, 99, 100, 101, 102, 103, 104, 105, 106, 107, 108, 109, 110, 111, 112, 113, 114, 115, 116, 117, 118, 119, 120, 121, 122])) rfl))) (fun h => pd_int))) (pv_of (pd_lst pa_nil)) rfl) (pss_cons (ps_ret pd_bl)
  pss_nil) pss_nil)
  pss_nil)) .never)
  (pss_cons (ps_if (PDW.pt (pdw_or (pdt_cmpV op_ne (pl_of (pd_setB cx_sorted g.n_sorted g.n_set (pg_var 0))) (pv_of (pd_call1T c1_list g.n_list (pg_var 0))) rfl) (pdw_or1 (pdt_cmpV op_gt (pl_of (pd_setB cx_len g.n_len g.n_set (pg_of (pd_meth cm_join F.plainAttrs_str F.slot_str_join (by kernel_rfl) (pg_of (pd_str [])) (pa_cons (pd_var 0) pa_nil))))) (pv_of pd_int) rfl)))) (pss_cons (ps_ret pd_bl)
  pss_nil) pss_nil)
  (pss_cons (ps_asg 3 (pd_lst (pa_cons (pd_ix (pl_of (pd_ix (pl_var 0) (pv_of pd_int))) (pv_of pd_int)) pa_nil)))
  (pss_cons (ps_for (pi_of (pd_var 0)) (pgv_of (pgt_name 4)) (pss_cons (ps_for (pi_of (pd_var 0)) (pgv_of (pgt_name 1)) (pss_cons (ps_asg 3 (pd_binG op_add (pd_var 3) (pd_lc [1, 3] [2] (pi_of (pd_var 1)) (Blk.of (by kernel_rfl)) (fun h => (pgv_of (pgt_name 2))) (fun h => (pts_one (PDW.pt (pdw_and (PDW.pt (pdw_or (pdt_cmpV op_in (pl_of (pd_ix (pl_var 1) (pv_of pd_int))) (pv_var 3) rfl) (pdw_or1 (pdt_cmpV op_in (pl_of (pd_ix (pl_var 1) (pv_of pd_int))) (pv_var 3) rfl)))) (pdw_and1 (pdt_cmpV op_notIn (pl_var 2) (pv_var 3) rfl)))))) (fun h => (pd_var 2)))))
  pss_nil) .never)
  pss_nil) .never)
  (pss_cons (ps_ret (pd_cmpV op_eq (pl_of (pd_setB cx_len g.n_len g.n_set (pg_var 3))) (pv_of (pd_setB cx_len g.n_len g.n_set (pg_of (pd_meth cm_join F.plainAttrs_str F.slot_str_join (by kernel_rfl) (pg_of (pd_str [])) (pa_cons (pd_var 0) pa_nil))))) rfl))
  pss_nil))))))
theorem ok__law_is (g : Facts K mg) : FnOk 1 P w K mg base 1 g.a__law_is g.d__law_is ["told", "due"] [false, false] sp__law_is := by
  refine ok_of (N := ["told", "due"]) (k := 0) g.F__law_is ⟨rfl, rfl, rfl, by decide +kernel, rfl, by decide +kernel, by decide +kernel⟩ rfl (fun cdv A outer s hr => ?_)
  exact (pss_cons (ps_ret (pd_cmpV op_eq (pl_of (pd_call1B c1_repr g.n_repr (pg_var 0))) (pv_of (pd_call1B c1_repr g.n_repr (pg_var 1))) rfl))
  pss_nil)
theorem ok_places_in (g : Facts K mg) : FnOk 1 P w K mg base 1 g.a_places_in g.d_places_in ["ties"] [false] sp_places_in := by
  refine ok_of (N := ["ties", "tie", "place"]) (k := 0) g.F_places_in ⟨rfl, rfl, rfl, by decide +kernel, rfl, by decide +kernel, by decide +kernel⟩ rfl (fun cdv A outer s hr => ?_)
  exact (pss_cons (ps_ret (pd_meth cm_join F.plainAttrs_str F.slot_str_join (by kernel_rfl) (pg_of (pd_str [])) (pa_cons (pd_call1B c1_sorted g.n_sorted (pg_of (pd_dc2 [] [1, 2] (pi_of (pd_var 0)) (Blk.of (by kernel_rfl)) (fun h => (pgv_of (pgt_name 1))) (fun h => pts_nil) (fun h => (pi_of (pd_var 1))) (fun h => (pgv_of (pgt_name 2))) (fun h => pts_nil) (fun h => (pd_var 2)) (fun h => pd_bl)))) pa_nil)))
  pss_nil)
theorem ok_sorted_text (g : Facts K mg) : FnOk 1 P w K mg base 1 g.a_sorted_text g.d_sorted_text ["text"] [false] sp_sorted_text := by
  refine ok_of (N := ["text"]) (k := 0) g.F_sorted_text ⟨rfl, rfl, rfl, by decide +kernel, rfl, by decide +kernel, by decide +kernel⟩ rfl (fun cdv A outer s hr => ?_)
  exact (pss_cons (ps_ret (pd_meth cm_join F.plainAttrs_str F.slot_str_join (by kernel_rfl) (pg_of (pd_str [])) (pa_cons (pd_call1B c1_sorted g.n_sorted (pg_var 0)) pa_nil)))
  pss_nil)
theorem ok_neighbours_in (g : Facts K mg) : FnOk 1 P w K mg base 2 g.a_neighbours_in g.d_neighbours_in ["web", "place"] [false, false] sp_neighbours_in := by
  refine ok_of (N := ["web", "place", "tie"]) (k := 1) g.F_neighbours_in ⟨rfl, rfl, rfl, by decide +kernel, rfl, by decide +kernel, by decide +kernel⟩ rfl (fun cdv A outer s hr => ?_)
  exact (pss_cons (ps_ret (pd_call (ok_sorted_text g) (hr.mono (by decide)) g.m_sorted_text g.F_sorted_text.kp g.b_sorted_text (pas_val (pd_lc [1] [2] (pi_of (pd_var 0)) (Blk.of (by kernel_rfl)) (fun h => (pgv_of (pgt_name 2))) (fun h => (pts_one (pdt_cmpV op_in (pl_var 1) (pv_var 2) rfl))) (fun h => (pd_repl [] (pg_var 2) (pd_var 1)))) pas_nil)))
  pss_nil)
theorem ok_spread_over (g : Facts K mg) : FnOk 1 P w K mg base 3 g.a_spread_over g.d_spread_over ["ties", "place"] [false, false] sp_spread_over := by
  refine ok_of (N := ["ties", "place", "met", "line", "near"]) (k := 2) g.F_spread_over ⟨rfl, rfl, rfl, by decide +kernel, rfl, by decide +kernel, by decide +kernel⟩ rfl (fun cdv A outer s hr => ?_)
  exact (pss_cons (ps_par [2, 3] (pr_cons (pd_lst (pa_cons (pd_var 1) pa_nil)) (pr_cons (pd_lst (pa_cons (pd_var 1) pa_nil)) pr_nil)) rfl (hN := par_ok (by kernel_rfl)))
  (pss_cons (ps_while (pdt_truV (pv_var 3)) (pss_cons (ps_for (pi_of (pd_call (ok_neighbours_in g) (hr.mono (by decide)) g.m_neighbours_in g.F_neighbours_in.kp g.b_neighbours_in (pas_val (pd_var 0) (pas_val (pd_methW 3 cw_pop F.plainAttrs_list F.slot_list_pop (by kernel_rfl) (pa_cons pd_int pa_nil)) pas_nil)))) (pgv_of (pgt_name 4)) (pss_cons (ps_if (pdt_cmpV op_notIn (pl_var 4) (pv_var 2) rfl) (pss_cons (ps_expr (pd_methW 2 cw_append F.plainAttrs_list F.slot_list_append (by kernel_rfl) (pa_cons (pd_var 4) pa_nil)))
  (pss_cons (ps_expr (pd_methW 3 cw_append F.plainAttrs_list F.slot_list_append (by kernel_rfl) (pa_cons (pd_var 4) pa_nil)))
  pss_nil)) pss_nil)
  pss_nil) .never)
  pss_nil) .never)
  (pss_cons (ps_ret (pd_slice (pg_var 2) (po_some (pv_of pd_int)) po_none))
  pss_nil)))
theorem ok_reached_in (g : Facts K mg) : FnOk 1 P w K mg base 4 g.a_reached_in g.d_reached_in ["ties", "place"] [false, false] sp_reached_in := by
  refine ok_of (N := ["ties", "place", "found", "near"]) (k := 3) g.F_reached_in ⟨rfl, rfl, rfl, by decide +kernel, rfl, by decide +kernel, by decide +kernel⟩ rfl (fun cdv A outer s hr => ?_)
  exact (pss_cons (ps_asg 2 (pd_var 1))
  (pss_cons (ps_for (pi_of (pd_call (ok_spread_over g) (hr.mono (by decide)) g.m_spread_over g.F_spread_over.kp g.b_spread_over (pas_val (pd_var 0) (pas_val (pd_var 1) pas_nil)))) (pgv_of (pgt_name 3)) (pss_cons (ps_asg 2 (pd_binG op_add (pd_var 2) (pd_var 3)))
  pss_nil) .never)
  (pss_cons (ps_ret (pd_call (ok_sorted_text g) (hr.mono (by decide)) g.m_sorted_text g.F_sorted_text.kp g.b_sorted_text (pas_val (pd_var 2) pas_nil)))
  pss_nil)))
theorem ok_does_hang (g : Facts K mg) : FnOk 1 P w K mg base 5 g.a_does_hang g.d_does_hang ["ties"] [false] sp_does_hang := by
  refine ok_of (N := ["ties", "places"]) (k := 4) g.F_does_hang ⟨rfl, rfl, rfl, by decide +kernel, rfl, by decide +kernel, by decide +kernel⟩ rfl (fun cdv A outer s hr => ?_)
  exact (pss_cons (ps_asg 1 (pd_call (ok_places_in g) (hr.mono (by decide)) g.m_places_in g.F_places_in.kp g.b_places_in (pas_val (pd_var 0) pas_nil)))
  (pss_cons (ps_ret (pd_cmpV op_eq (pl_of (pd_call (ok_reached_in g) (hr.mono (by decide)) g.m_reached_in g.F_reached_in.kp g.b_reached_in (pas_val (pd_var 0) (pas_val (pd_ix (pl_var 1) (pv_of pd_int)) pas_nil)))) (pv_var 1) rfl))
  pss_nil))
theorem ok_is_letters (g : Facts K mg) : FnOk 1 P w K mg base 1 g.a_is_letters g.d_is_letters ["value"] [false] sp_is_letters := by
  refine ok_of (N := ["value", "sign"]) (k := 0) g.F_is_letters ⟨rfl, rfl, rfl, by decide +kernel, rfl, by decide +kernel, by decide +kernel⟩ rfl (fun cdv A outer s hr => ?_)
  exact (pss_cons (ps_ret (pd_and (pd_isi (T := "str") (hm := g.n_isinstance) (hmT := g.n_str) (ha := (pl_var 0))) (pd_one (pd_call1B c1_all g.n_all (pg_of (pd_lc [] [1] (pi_of (pd_var 0)) (Blk.of (by kernel_rfl)) (fun h => (pgv_of (pgt_name 1))) (fun h => pts_nil) (fun h => (pd_cmpV op_in (pl_var 1) (pv_of (pd_gstr [97, 98, 99, 100, 101, 102, 103, 104, 105, 106, 107, 108, 109, 110, 111, 112, 113, 114, 115, 116, 117, 118, 119, 120, 121, 122] g.t_LETTERS)) rfl))))))))
  pss_nil)
theorem ok_is_tie_form (g : Facts K mg) : FnOk 1 P w K mg base 2 g.a_is_tie_form g.d_is_tie_form ["value"] [false] sp_is_tie_form := by
  refine ok_of (N := ["value"]) (k := 1) g.F_is_tie_form ⟨rfl, rfl, rfl, by decide +kernel, rfl, by decide +kernel, by decide +kernel⟩ rfl (fun cdv A outer s hr => ?_)
  exact (pss_cons (ps_ret (pd_and (pd_call (ok_is_letters g) (hr.mono (by decide)) g.m_is_letters g.F_is_letters.kp g.b_is_letters (pas_val (pd_var 0) pas_nil)) (pd_and (pd_cmpV op_eq (pl_of (pd_call1B c1_len g.n_len (pg_var 0))) (pv_of pd_int) rfl) (pd_one (pd_cmpV op_lt (pl_of (pd_ix (pl_var 0) (pv_of pd_int))) (pv_of (pd_ix (pl_var 0) (pv_of pd_int))) rfl)))))
  pss_nil)
theorem ok_is_web_form (g : Facts K mg) : FnOk 1 P w K mg base 6 g.a_is_web_form g.d_is_web_form ["value"] [false] sp_is_web_form := by
  refine ok_of (N := ["value", "tie", "one", "two"]) (k := 5) g.F_is_web_form ⟨rfl, rfl, rfl, by decide +kernel, rfl, by decide +kernel, by decide +kernel⟩ rfl (fun cdv A outer s hr => ?_)
  exact (pss_cons (ps_if (PDW.pt (pdw_or (pdt_not (pdt_tru (pd_isi (T := "tuple") (hm := g.n_isinstance) (hmT := g.n_tuple) (ha := (pl_var 0))))) (pdw_or1 (pdt_not (pdt_chain op_le op_le (pl_of pd_int) (pl_of (pd_call1B c1_len g.n_len (pg_var 0))) (pv_of (pd_gint g.i_MOST_TIES))))))) (pss_cons (ps_ret pd_bl)
  pss_nil) pss_nil)
  (pss_cons (ps_if (PDW.pt (pdw_or (pdt_not (pdt_tru (pd_call1B c1_all g.n_all (pg_of (pd_lc [] [1] (pi_of (pd_var 0)) (Blk.of (by kernel_rfl)) (fun h => (pgv_of (pgt_name 1))) (fun h => pts_nil) (fun h => (pd_call (ok_is_tie_form g) (hr.mono (by decide)) g.m_is_tie_form g.F_is_tie_form.kp g.b_is_tie_form (pas_val (pd_var 1) pas_nil)))))))) (pdw_or1 (pdt_not (pdt_tru (pd_call1B c1_all g.n_all (pg_of (pd_lc [] [2, 3] (pi_zip g.n_zip (pa_cons (pd_var 0) (pa_cons (pd_slice (pg_var 0) (po_some (pv_of pd_int)) po_none) pa_nil))) (Blk.of (by kernel_rfl)) (fun h => (pgv_tup (pgts_cons (pgt_name 2) (pgts_cons (pgt_name 3) pgts_nil)))) (fun h => pts_nil) (fun h => (pd_cmpV op_lt (pl_var 2) (pv_var 3) rfl)))))))))) (pss_cons (ps_ret pd_bl)
  pss_nil) pss_nil)
  (pss_cons (ps_ret (pd_and (pd_cmpV op_le (pl_of (pd_call1B c1_len g.n_len (pg_of (pd_call (ok_places_in g) (hr.mono (by decide)) g.m_places_in g.F_places_in.kp g.b_places_in (pas_val (pd_var 0) pas_nil))))) (pv_of (pd_gint g.i_MOST_PLACES)) rfl) (pd_one (pd_call (ok_does_hang g) (hr.mono (by decide)) g.m_does_hang g.F_does_hang.kp g.b_does_hang (pas_val (pd_var 0) pas_nil)))))
  pss_nil)))
theorem ok_is_web (g : Facts K mg) : FnOk 1 P w K mg base 7 g.a_is_web g.d_is_web ["value"] [false] sp_is_web := by
  refine ok_of (N := ["value"]) (k := 6) g.F_is_web ⟨rfl, rfl, rfl, by decide +kernel, rfl, by decide +kernel, by decide +kernel⟩ rfl (fun cdv A outer s hr => ?_)
  exact (pss_cons (ps_ret (pd_call (ok_is_web_form g) (hr.mono (by decide)) g.m_is_web_form g.F_is_web_form.kp g.b_is_web_form (pas_val (pd_var 0) pas_nil)))
  pss_nil)
theorem ok__law_right (g : Facts K mg) : FnOk 1 P w K mg base 8 g.a__law_right g.d__law_right ["well"] [true] sp__law_right := by
  refine ok_of (N := ["well", "turn", "web", "values", "value", "due", "lap"]) (k := 7) g.F__law_right ⟨rfl, rfl, rfl, by decide +kernel, rfl, by decide +kernel, by decide +kernel⟩ rfl (fun cdv A outer s hr => ?_)
  exact (pss_cons (ps_for (pi_range g.n_range (pa_cons pd_int pa_nil)) (pgv_of (pgt_name 1)) (pss_cons (ps_asg 2 (pd_call (ok__law_web g) (hr.mono (by decide)) g.m__law_web g.F__law_web.kp g.b__law_web (pas_ref 0 (pas_val pd_int (pas_val pd_int pas_nil)))))
  (pss_cons (ps_asg 3 (pd_lst (pa_cons (pd_var 2) (pa_cons (pd_call (ok__law_edge g) (hr.mono (by decide)) g.m__law_edge g.F__law_edge.kp g.b__law_edge (pas_ref 0 pas_nil)) (pa_cons (pd_call (ok__law_edge g) (hr.mono (by decide)) g.m__law_edge g.F__law_edge.kp g.b__law_edge (pas_ref 0 pas_nil)) (pa_cons (pd_call (ok__law_bent g) (hr.mono (by decide)) g.m__law_bent g.F__law_bent.kp g.b__law_bent (pas_ref 0 (pas_val (pd_call (ok__law_bent g) (hr.mono (by decide)) g.m__law_bent g.F__law_bent.kp g.b__law_bent (pas_ref 0 (pas_val (pd_var 2) pas_nil))) pas_nil))) pa_nil))))))
  (pss_cons (ps_for (pi_of (pd_binG op_add (pd_var 3) (pd_lc [0, 2] [6] (pi_range g.n_range (pa_cons pd_int pa_nil)) (Blk.of (by kernel_rfl)) (fun h => (pgv_of (pgt_name 6))) (fun h => pts_nil) (fun h => (pd_call (ok__law_bent g) (hr.mono (by decide)) g.m__law_bent g.F__law_bent.kp g.b__law_bent (pas_ref 0 (pas_val (pd_var 2) pas_nil))))))) (pgv_of (pgt_name 4)) (pss_cons (ps_asg 5 (pd_call (ok__law_is_web g) (hr.mono (by decide)) g.m__law_is_web g.F__law_is_web.kp g.b__law_is_web (pas_val (pd_var 4) pas_nil)))
  (pss_cons (ps_if (pdt_not (pdt_tru (pd_call (ok__law_is g) (hr.mono (by decide)) g.m__law_is g.F__law_is.kp g.b__law_is (pas_val (pd_lst (pa_cons (pd_call (ok_is_web g) (hr.mono (by decide)) g.m_is_web g.F_is_web.kp g.b_is_web (pas_val (pd_var 4) pas_nil)) (pa_cons (pd_callK0 [0] (ok_is_web g) (hr.mono (by decide)) g.m_is_web g.F_is_web.kp g.kb_is_web_0_value (pks_val (pd_var 4) pks_nil)) pa_nil))) (pas_val (pd_lst (pa_cons (pd_var 5) (pa_cons (pd_var 5) pa_nil))) pas_nil))))) (pss_cons (ps_ret pd_bl)
  pss_nil) pss_nil)
  pss_nil)) .never)
  pss_nil))) .never)
  (pss_cons (ps_ret pd_bl)
  pss_nil))
theorem ok__law_well (g : Facts K mg) : FnOk 1 P w K mg base 1 g.a__law_well g.d__law_well ["script", "lap"] [false, false] sp__law_well := by
  refine ok_of (N := ["script", "lap", "stirred", "cell", "own"]) (k := 0) g.F__law_well ⟨rfl, rfl, rfl, by decide +kernel, rfl, by decide +kernel, by decide +kernel⟩ rfl (fun cdv A outer s hr => ?_)
  exact (pss_cons (ps_asg 2 (pd_binG op_add pd_int (pd_bin op_mul pd_int (pd_var 1))))
  (pss_cons (ps_for (pi_of (pd_slice (pg_var 0) po_none (po_some (pv_of pd_int)))) (pgv_of (pgt_name 3)) (pss_cons (ps_asg 2 (pd_bin op_mod (pd_call1T c1_int g.n_int (pg_of (pd_binG op_add (pd_binG op_add (pd_bin op_mul (pd_var 2) pd_int) (pd_bin op_mod (pd_call1T c1_int g.n_int (pg_var 3)) pd_int)) pd_int))) pd_int))
  pss_nil) .never)
  (pss_cons (ps_asg 4 (pd_ifExp (pdt_cmpV op_lt (pl_var 1) (pv_of (pd_call1B c1_len g.n_len (pg_var 0))) rfl) (pd_call1T c1_int g.n_int (pg_of (pd_ix (pl_var 0) (pv_var 1)))) pd_int))
  (pss_cons (ps_asg 2 (pd_bin op_mod (pd_call1T c1_int g.n_int (pg_of (pd_binG op_add (pd_binG op_add (pd_bin op_mul (pd_var 2) pd_int) (pd_bin op_mul (pd_bin op_mod (pd_call1T c1_int g.n_int (pg_var 4)) pd_int) pd_int)) pd_int))) pd_int))
  (pss_cons (ps_ret (pd_lst (pa_cons (pd_ifExp (PDW.pt (pdw_or (pdt_cmpV op_lt (pl_var 4) (pv_of pd_int) rfl) (pdw_or1 (pdt_cmpV op_ge (pl_var 4) (pv_of (pd_bin op_pow pd_int pd_int)) rfl)))) (pd_call1B c1_abs g.n_abs (pg_var 4)) pd_int) (pa_cons (pd_var 2) (pa_cons pd_int pa_nil)))))
  pss_nil)))))
theorem ok_law (g : Facts K mg) : FnOk 0 P w K mg base 9 g.a_law g.d_law ["script"] [false] sp_law := by
  refine ok_of (N := ["script", "lap"]) (k := 8) g.F_law ⟨rfl, rfl, rfl, by decide +kernel, rfl, by decide +kernel, by decide +kernel⟩ rfl (fun cdv A outer s hr => ?_)
  exact (pss_cons (ps_ret (pd_call1B c1_all g.n_all (pg_of (pd_lc [0] [1] (pi_range1 g.n_range (pa_cons (pd_callB ca_max2 g.n_max (pa_cons pd_int (pa_cons (pd_callB ca_min2 g.n_min (pa_cons (pd_call1B c1_len g.n_len (pg_var 0)) (pa_cons pd_int pa_nil))) pa_nil))) pa_nil)) (Blk.of (by kernel_rfl)) (fun h => (pgv_of (pgt_name 1))) (fun h => pts_nil) (fun h => (pd_callF (ok__law_right g) (hr.mono (by decide)) g.m__law_right g.F__law_right.kp g.b__law_right (pd_call (ok__law_well g) (hr.mono (by decide)) g.m__law_well g.F__law_well.kp g.b__law_well (pas_val (pd_var 0) (pas_val (pd_var 1) pas_nil)))))))))
  pss_nil)
end
end G02

namespace G02
open PySem PySem.Spec PyProof.Rows GB
open L2 (FunD FnScope defArgs defBody defScope)
/-! ### the head -/
def df__law_draw : He.DefD := ⟨("_law_draw", none), "_law_draw", "_law_draw", defArgs (top 18), defBody (top 18), defScope (top 18), [], []⟩
def df__law_mixed : He.DefD := ⟨("_law_mixed", none), "_law_mixed", "_law_mixed", defArgs (top 21), defBody (top 21), defScope (top 21), [], []⟩
def df__law_unlike : He.DefD := ⟨("_law_unlike", none), "_law_unlike", "_law_unlike", defArgs (top 20), defBody (top 20), defScope (top 20), [], []⟩
def df__law_web : He.DefD := ⟨("_law_web", none), "_law_web", "_law_web", defArgs (top 23), defBody (top 23), defScope (top 23), [], []⟩
def df__law_of : He.DefD := ⟨("_law_of", none), "_law_of", "_law_of", defArgs (top 19), defBody (top 19), defScope (top 19), [], []⟩
def df__law_edge : He.DefD := ⟨("_law_edge", none), "_law_edge", "_law_edge", defArgs (top 26), defBody (top 26), defScope (top 26), [], []⟩
def df__law_bent : He.DefD := ⟨("_law_bent", none), "_law_bent", "_law_bent", defArgs (top 25), defBody (top 25), defScope (top 25), [], []⟩
def df__law_is_web : He.DefD := ⟨("_law_is_web", none), "_law_is_web", "_law_is_web", defArgs (top 24), defBody (top 24), defScope (top 24), [], []⟩
def df__law_is : He.DefD := ⟨("_law_is", none), "_law_is", "_law_is", defArgs (top 22), defBody (top 22), defScope (top 22), [], []⟩
def df_places_in : He.DefD := ⟨("places_in", none), "places_in", "places_in", defArgs (top 9), defBody (top 9), defScope (top 9), [], []⟩
def df_sorted_text : He.DefD := ⟨("sorted_text", none), "sorted_text", "sorted_text", defArgs (top 3), defBody (top 3), defScope (top 3), [], []⟩
def df_neighbours_in : He.DefD := ⟨("neighbours_in", none), "neighbours_in", "neighbours_in", defArgs (top 10), defBody (top 10), defScope (top 10), [], []⟩
def df_spread_over : He.DefD := ⟨("spread_over", none), "spread_over", "spread_over", defArgs (top 12), defBody (top 12), defScope (top 12), [], []⟩
def df_reached_in : He.DefD := ⟨("reached_in", none), "reached_in", "reached_in", defArgs (top 11), defBody (top 11), defScope (top 11), [], []⟩
def df_does_hang : He.DefD := ⟨("does_hang", none), "does_hang", "does_hang", defArgs (top 13), defBody (top 13), defScope (top 13), [], []⟩
def df_is_letters : He.DefD := ⟨("is_letters", none), "is_letters", "is_letters", defArgs (top 2), defBody (top 2), defScope (top 2), [], []⟩
def df_is_tie_form : He.DefD := ⟨("is_tie_form", none), "is_tie_form", "is_tie_form", defArgs (top 7), defBody (top 7), defScope (top 7), [], []⟩
def df_is_web_form : He.DefD := ⟨("is_web_form", none), "is_web_form", "is_web_form", defArgs (top 8), defBody (top 8), defScope (top 8), [], []⟩
def df_is_web : He.DefD := ⟨("is_web", none), "is_web", "is_web", defArgs (top 15), defBody (top 15), defScope (top 15), [], []⟩
def df__law_right : He.DefD := ⟨("_law_right", none), "_law_right", "_law_right", defArgs (top 27), defBody (top 27), defScope (top 27), [], []⟩
def df__law_well : He.DefD := ⟨("_law_well", none), "_law_well", "_law_well", defArgs (top 17), defBody (top 17), defScope (top 17), [], []⟩
def df_law : He.DefD := ⟨("law", none), "law", "law", defArgs (top 28), defBody (top 28), defScope (top 28), [], []⟩
def fn0 : List He.DefD := [df__law_draw, df__law_mixed, df__law_unlike, df__law_web, df__law_of, df__law_edge, df__law_bent, df__law_is_web, df__law_is, df_places_in, df_sorted_text, df_neighbours_in]
def fn1 : List He.DefD := [df_spread_over, df_reached_in, df_does_hang, df_is_letters, df_is_tie_form, df_is_web_form, df_is_web, df__law_right, df__law_well, df_law]
def fn : List He.DefD := fn0 ++ fn1
def fa0 : List He.Fa := [.glo "_law_draw", .glo "_law_mixed", .glo "_law_unlike", .glo "_law_web", .glo "_law_of", .glo "_law_edge", .glo "_law_bent", .glo "_law_is_web", .glo "_law_is", .glo "places_in", .glo "sorted_text", .glo "neighbours_in"]
def fa1 : List He.Fa := [.glo "spread_over", .glo "reached_in", .glo "does_hang", .glo "is_letters", .glo "is_tie_form", .glo "is_web_form", .glo "is_web", .glo "_law_right", .glo "_law_well", .glo "law", .free "int", .free "divmod"]
def fa2 : List He.Fa := [.free "len", .free "range", .free "list", .free "sorted", .free "tuple", .free "set", .free "isinstance", .free "str", .free "repr", .str "LETTERS" "abcdefghijklmnopqrstuvwxyz", .free "all", .int "MOST_PLACES" 7]
def fa3 : List He.Fa := [.free "zip", .int "MOST_TIES" 10, .free "abs", .free "min", .free "max"]
def fa : List He.Fa := fa0 ++ fa1 ++ fa2 ++ fa3
def loose0 : List PySem.Str := ["LETTERS", "is_letters", "sorted_text", "MOST_TIES", "MOST_PLACES", "is_tie_form", "is_web_form", "places_in", "neighbours_in", "reached_in", "spread_over", "does_hang"]
def loose1 : List PySem.Str := ["is_web", "_law_well", "_law_draw", "_law_of", "_law_unlike", "_law_mixed", "_law_is", "_law_web", "_law_is_web", "_law_bent", "_law_edge", "_law_right"]
def loose : List PySem.Str := loose0 ++ loose1
abbrev R : PySem.W.OpenRow := PySem.W.OpenLaw.row PySem.Challenge.rw_giverounds_k02_whole_webs_judged
abbrev hk : PySem.W.Hook := He.hookD 4 fa fn
def ob (s : PySem.W.SharedT) : He.AlD := He.obsDG 4 fa fn (HandSHeadRun.getT s)
theorem ob_eq (s : PySem.W.SharedT) : ob s = hk.obs s.abs := He.obsDG_eq (HandSHeadRun.getT_eq s)
theorem facts {K : PySem.W.Frag} {h : Heap} {mg : Str → Option Value} (X : K.In h) (G : h.Ns mainGlobals mg) (c : He.SaysD fa fn K) : Nonempty (Facts K mg) := by
  obtain ⟨e__law_draw, E__law_draw⟩ := c.def_ 0 (d := df__law_draw) rfl
  obtain ⟨e__law_mixed, E__law_mixed⟩ := c.def_ 1 (d := df__law_mixed) rfl
  obtain ⟨e__law_unlike, E__law_unlike⟩ := c.def_ 2 (d := df__law_unlike) rfl
  obtain ⟨e__law_web, E__law_web⟩ := c.def_ 3 (d := df__law_web) rfl
  obtain ⟨e__law_of, E__law_of⟩ := c.def_ 4 (d := df__law_of) rfl
  obtain ⟨e__law_edge, E__law_edge⟩ := c.def_ 5 (d := df__law_edge) rfl
  obtain ⟨e__law_bent, E__law_bent⟩ := c.def_ 6 (d := df__law_bent) rfl
  obtain ⟨e__law_is_web, E__law_is_web⟩ := c.def_ 7 (d := df__law_is_web) rfl
  obtain ⟨e__law_is, E__law_is⟩ := c.def_ 8 (d := df__law_is) rfl
  obtain ⟨e_places_in, E_places_in⟩ := c.def_ 9 (d := df_places_in) rfl
  obtain ⟨e_sorted_text, E_sorted_text⟩ := c.def_ 10 (d := df_sorted_text) rfl
  obtain ⟨e_neighbours_in, E_neighbours_in⟩ := c.def_ 11 (d := df_neighbours_in) rfl
  obtain ⟨e_spread_over, E_spread_over⟩ := c.def_ 12 (d := df_spread_over) rfl
  obtain ⟨e_reached_in, E_reached_in⟩ := c.def_ 13 (d := df_reached_in) rfl
  obtain ⟨e_does_hang, E_does_hang⟩ := c.def_ 14 (d := df_does_hang) rfl
  obtain ⟨e_is_letters, E_is_letters⟩ := c.def_ 15 (d := df_is_letters) rfl
  obtain ⟨e_is_tie_form, E_is_tie_form⟩ := c.def_ 16 (d := df_is_tie_form) rfl
  obtain ⟨e_is_web_form, E_is_web_form⟩ := c.def_ 17 (d := df_is_web_form) rfl
  obtain ⟨e_is_web, E_is_web⟩ := c.def_ 18 (d := df_is_web) rfl
  obtain ⟨e__law_right, E__law_right⟩ := c.def_ 19 (d := df__law_right) rfl
  obtain ⟨e__law_well, E__law_well⟩ := c.def_ 20 (d := df__law_well) rfl
  obtain ⟨e_law, E_law⟩ := c.def_ 21 (d := df_law) rfl
  exact ⟨{
    a__law_draw := _,
    d__law_draw := e__law_draw,
    F__law_draw := E__law_draw,
    m__law_draw := He.glo_ok X G (c.fact 0 (f := .glo "_law_draw") rfl),
    b__law_draw := FunD.bindsN (ps := ["well", "limit"]) E__law_draw (fun _ _ _ _ _ _ us hl => match us, hl with | [_, _], _ => rfl),
    a__law_mixed := _,
    d__law_mixed := e__law_mixed,
    F__law_mixed := E__law_mixed,
    m__law_mixed := He.glo_ok X G (c.fact 1 (f := .glo "_law_mixed") rfl),
    b__law_mixed := FunD.bindsN (ps := ["well", "some"]) E__law_mixed (fun _ _ _ _ _ _ us hl => match us, hl with | [_, _], _ => rfl),
    a__law_unlike := _,
    d__law_unlike := e__law_unlike,
    F__law_unlike := E__law_unlike,
    m__law_unlike := He.glo_ok X G (c.fact 2 (f := .glo "_law_unlike") rfl),
    b__law_unlike := FunD.bindsN (ps := ["well", "some", "many"]) E__law_unlike (fun _ _ _ _ _ _ us hl => match us, hl with | [_, _, _], _ => rfl),
    a__law_web := _,
    d__law_web := e__law_web,
    F__law_web := E__law_web,
    m__law_web := He.glo_ok X G (c.fact 3 (f := .glo "_law_web") rfl),
    b__law_web := FunD.bindsN (ps := ["well", "most", "ties"]) E__law_web (fun _ _ _ _ _ _ us hl => match us, hl with | [_, _, _], _ => rfl),
    a__law_of := _,
    d__law_of := e__law_of,
    F__law_of := E__law_of,
    m__law_of := He.glo_ok X G (c.fact 4 (f := .glo "_law_of") rfl),
    b__law_of := FunD.bindsN (ps := ["well", "some"]) E__law_of (fun _ _ _ _ _ _ us hl => match us, hl with | [_, _], _ => rfl),
    a__law_edge := _,
    d__law_edge := e__law_edge,
    F__law_edge := E__law_edge,
    m__law_edge := He.glo_ok X G (c.fact 5 (f := .glo "_law_edge") rfl),
    b__law_edge := FunD.bindsN (ps := ["well"]) E__law_edge (fun _ _ _ _ _ _ us hl => match us, hl with | [_], _ => rfl),
    a__law_bent := _,
    d__law_bent := e__law_bent,
    F__law_bent := E__law_bent,
    m__law_bent := He.glo_ok X G (c.fact 6 (f := .glo "_law_bent") rfl),
    b__law_bent := FunD.bindsN (ps := ["well", "value"]) E__law_bent (fun _ _ _ _ _ _ us hl => match us, hl with | [_, _], _ => rfl),
    a__law_is_web := _,
    d__law_is_web := e__law_is_web,
    F__law_is_web := E__law_is_web,
    m__law_is_web := He.glo_ok X G (c.fact 7 (f := .glo "_law_is_web") rfl),
    b__law_is_web := FunD.bindsN (ps := ["value"]) E__law_is_web (fun _ _ _ _ _ _ us hl => match us, hl with | [_], _ => rfl),
    a__law_is := _,
    d__law_is := e__law_is,
    F__law_is := E__law_is,
    m__law_is := He.glo_ok X G (c.fact 8 (f := .glo "_law_is") rfl),
    b__law_is := FunD.bindsN (ps := ["told", "due"]) E__law_is (fun _ _ _ _ _ _ us hl => match us, hl with | [_, _], _ => rfl),
    a_places_in := _,
    d_places_in := e_places_in,
    F_places_in := E_places_in,
    m_places_in := He.glo_ok X G (c.fact 9 (f := .glo "places_in") rfl),
    b_places_in := FunD.bindsN (ps := ["ties"]) E_places_in (fun _ _ _ _ _ _ us hl => match us, hl with | [_], _ => rfl),
    a_sorted_text := _,
    d_sorted_text := e_sorted_text,
    F_sorted_text := E_sorted_text,
    m_sorted_text := He.glo_ok X G (c.fact 10 (f := .glo "sorted_text") rfl),
    b_sorted_text := FunD.bindsN (ps := ["text"]) E_sorted_text (fun _ _ _ _ _ _ us hl => match us, hl with | [_], _ => rfl),
    a_neighbours_in := _,
    d_neighbours_in := e_neighbours_in,
    F_neighbours_in := E_neighbours_in,
    m_neighbours_in := He.glo_ok X G (c.fact 11 (f := .glo "neighbours_in") rfl),
    b_neighbours_in := FunD.bindsN (ps := ["web", "place"]) E_neighbours_in (fun _ _ _ _ _ _ us hl => match us, hl with | [_, _], _ => rfl),
    a_spread_over := _,
    d_spread_over := e_spread_over,
    F_spread_over := E_spread_over,
    m_spread_over := He.glo_ok X G (c.fact 12 (f := .glo "spread_over") rfl),
    b_spread_over := FunD.bindsN (ps := ["ties", "place"]) E_spread_over (fun _ _ _ _ _ _ us hl => match us, hl with | [_, _], _ => rfl),
    a_reached_in := _,
    d_reached_in := e_reached_in,
    F_reached_in := E_reached_in,
    m_reached_in := He.glo_ok X G (c.fact 13 (f := .glo "reached_in") rfl),
    b_reached_in := FunD.bindsN (ps := ["ties", "place"]) E_reached_in (fun _ _ _ _ _ _ us hl => match us, hl with | [_, _], _ => rfl),
    a_does_hang := _,
    d_does_hang := e_does_hang,
    F_does_hang := E_does_hang,
    m_does_hang := He.glo_ok X G (c.fact 14 (f := .glo "does_hang") rfl),
    b_does_hang := FunD.bindsN (ps := ["ties"]) E_does_hang (fun _ _ _ _ _ _ us hl => match us, hl with | [_], _ => rfl),
    a_is_letters := _,
    d_is_letters := e_is_letters,
    F_is_letters := E_is_letters,
    m_is_letters := He.glo_ok X G (c.fact 15 (f := .glo "is_letters") rfl),
    b_is_letters := FunD.bindsN (ps := ["value"]) E_is_letters (fun _ _ _ _ _ _ us hl => match us, hl with | [_], _ => rfl),
    a_is_tie_form := _,
    d_is_tie_form := e_is_tie_form,
    F_is_tie_form := E_is_tie_form,
    m_is_tie_form := He.glo_ok X G (c.fact 16 (f := .glo "is_tie_form") rfl),
    b_is_tie_form := FunD.bindsN (ps := ["value"]) E_is_tie_form (fun _ _ _ _ _ _ us hl => match us, hl with | [_], _ => rfl),
    a_is_web_form := _,
    d_is_web_form := e_is_web_form,
    F_is_web_form := E_is_web_form,
    m_is_web_form := He.glo_ok X G (c.fact 17 (f := .glo "is_web_form") rfl),
    b_is_web_form := FunD.bindsN (ps := ["value"]) E_is_web_form (fun _ _ _ _ _ _ us hl => match us, hl with | [_], _ => rfl),
    a_is_web := _,
    d_is_web := e_is_web,
    F_is_web := E_is_web,
    m_is_web := He.glo_ok X G (c.fact 18 (f := .glo "is_web") rfl),
    b_is_web := FunD.bindsN (ps := ["value"]) E_is_web (fun _ _ _ _ _ _ us hl => match us, hl with | [_], _ => rfl),
    a__law_right := _,
    d__law_right := e__law_right,
    F__law_right := E__law_right,
    m__law_right := He.glo_ok X G (c.fact 19 (f := .glo "_law_right") rfl),
    b__law_right := FunD.bindsN (ps := ["well"]) E__law_right (fun _ _ _ _ _ _ us hl => match us, hl with | [_], _ => rfl),
    a__law_well := _,
    d__law_well := e__law_well,
    F__law_well := E__law_well,
    m__law_well := He.glo_ok X G (c.fact 20 (f := .glo "_law_well") rfl),
    b__law_well := FunD.bindsN (ps := ["script", "lap"]) E__law_well (fun _ _ _ _ _ _ us hl => match us, hl with | [_, _], _ => rfl),
    a_law := _,
    d_law := e_law,
    F_law := E_law,
    m_law := He.glo_ok X G (c.fact 21 (f := .glo "law") rfl),
    b_law := FunD.bindsN (ps := ["script"]) E_law (fun _ _ _ _ _ _ us hl => match us, hl with | [_], _ => rfl),
    kb_is_web_0_value := GB.FunD.bindsK (ps := ["value"]) (kn := ["value"]) (π := [0]) (n := 0) E_is_web (fun _ _ _ _ _ _ us ws hl hm => match us, ws, hl, hm with | [], [_], _, _ => rfl),
    n_int := He.free_ok X G (c.fact 22 (f := .free "int") rfl),
    n_divmod := He.free_ok X G (c.fact 23 (f := .free "divmod") rfl),
    n_len := He.free_ok X G (c.fact 24 (f := .free "len") rfl),
    n_range := He.free_ok X G (c.fact 25 (f := .free "range") rfl),
    n_list := He.free_ok X G (c.fact 26 (f := .free "list") rfl),
    n_sorted := He.free_ok X G (c.fact 27 (f := .free "sorted") rfl),
    n_tuple := He.free_ok X G (c.fact 28 (f := .free "tuple") rfl),
    n_set := He.free_ok X G (c.fact 29 (f := .free "set") rfl),
    n_isinstance := He.free_ok X G (c.fact 30 (f := .free "isinstance") rfl),
    n_str := He.free_ok X G (c.fact 31 (f := .free "str") rfl),
    n_repr := He.free_ok X G (c.fact 32 (f := .free "repr") rfl),
    t_LETTERS := He.str_ok X G (c.fact 33 (f := .str "LETTERS" "abcdefghijklmnopqrstuvwxyz") rfl),
    n_all := He.free_ok X G (c.fact 34 (f := .free "all") rfl),
    i_MOST_PLACES := He.int_ok X G (c.fact 35 (f := .int "MOST_PLACES" 7) rfl),
    n_zip := He.free_ok X G (c.fact 36 (f := .free "zip") rfl),
    i_MOST_TIES := He.int_ok X G (c.fact 37 (f := .int "MOST_TIES" 10) rfl),
    n_abs := He.free_ok X G (c.fact 38 (f := .free "abs") rfl),
    n_min := He.free_ok X G (c.fact 39 (f := .free "min") rfl),
    n_max := He.free_ok X G (c.fact 40 (f := .free "max") rfl) }⟩
end G02

namespace G02
open PySem PySem.Spec PyProof.Rows GB
theorem run (w : World) : HandSHeadRun.RunEq R (PySem.W.view R.prog [28]) hk ob 3000 loose w := by
  intro os
  kernel_rfl
end G02

open PySem PySem.W PySem.Calls PyProof.Rows
theorem PySem.Challenge.cw_giverounds_k02_whole_webs_judged_holds : PySem.Challenge.rw_giverounds_k02_whole_webs_judged.Holds := by
  w_on; o_law
  refine HandSHeadRun.head_any (r := OpenLaw.row PySem.Challenge.rw_giverounds_k02_whole_webs_judged) (q := view (OpenLaw.row PySem.Challenge.rw_giverounds_k02_whole_webs_judged).prog [28]) (H := G02.hk) (ob := G02.ob) (M := 3000) (loose := G02.loose) (d := HandSHeadRun.topDef (OpenLaw.row PySem.Challenge.rw_giverounds_k02_whole_webs_judged).prog 28) (kwd := []) G02.ob_eq
    (by kernel_rfl) (fun s => by kernel_rfl) G02.run (by kernel_rfl) (by kernel_rfl) (by kernel_rfl) (by rfl) (by first | assumption | decide +kernel) (by decide +kernel) ⟨rfl, rfl, rfl, rfl, rfl, by decide +kernel⟩ ?hw ?hc
  case hw => w_witness2
  case hc =>
    refine GB.walk_of2 (l := PySem.Challenge.rw_giverounds_k02_whole_webs_judged) (n := 63) (k := 9) (x := "script") rfl (by decide) (by kernel_rfl) ⟨rfl, by decide, by decide, rfl⟩ ?F
    intro w mg fa h Y G hmg0
    obtain ⟨K, KX, c⟩ := Y
    have hmg : mg ("law" : PySem.Str) = some (.ref fa) := by
      have e : (HandSHeadRun.topDef (OpenLaw.row PySem.Challenge.rw_giverounds_k02_whole_webs_judged).prog 28).name = ("law" : PySem.Str) := by kernel_rfl
      rw [← e]
      exact hmg0
    obtain ⟨g⟩ := G02.facts KX G c
    have e := hmg.symm.trans g.m_law
    cases e
    have b := L2.FunD.bindsA (ps := ["script"]) g.F_law fun _ _ _ _ _ _ us hl => match us, hl with | [_], _ => rfl
    exact ⟨K, g.d_law, G02.sp_law, KX, fun s v => b s [v] rfl, fun ns hl hb => G02.law_math ns hl hb, fun base _ _ => G02.ok_law g⟩
