import PyProof.Rows.All
import Wide.All
import OpenK.AllK
import Wide.FinOn
import PyProof.Walks
import PyProof.CompFree
import PyProof.Rows.Tup
import PyProof.ListIndex
import PyProof.SliceList
import PyProof.TupleIter
import PyProof.RaisesMany
import PyProof.DictStraight
import PyProof.Cells
import PyProof.Rules3
import PyProof.Rows.TupSub
import PyProof.Rows.StrTemp
import PyProof.LetGo
import PyProof.MakeMany
import PyProof.PureInt
import PyProof.Rows.StrOr
import PyProof.CallRoads
import PyProof.FactsAll.list_0
import PyProof.FactsAll.str_0
import PyProof.FactsAll.dict_0
import PyProof.DefCall
import PyProof.RangeIter
import PyProof.RangeFor
import PyProof.WalksMore
import PyProof.Rows.Range3
import PyProof.Rows.Top
import PyProof.Rows.BootFacts
import PyProof.Rows.TupIn
import PyProof.Ends
import PySem.Challenge.RW_uf040001_01
set_option Elab.async false
set_option linter.all false
set_option maxRecDepth 100000
set_option maxHeartbeats 4000000
set_option autoImplicit false
set_option linter.unusedVariables false
namespace Mine
open PySem PyProof.Rows

/-! ## abstract values -/
inductive Bi where
  | len | range | isinst | max | all | sorted | enum | zip | tint | tbool | tstr | ttuple | tlist | tvalerr
  deriving DecidableEq

def Bi.val : Bi → Value
  | .len => .builtin "len" | .isinst => .builtin "isinstance" | .max => .builtin "max" | .all => .builtin "all" | .sorted => .builtin "sorted"
  | .range => .type "range" | .enum => .type "enumerate" | .zip => .type "zip"
  | .tint => .type "int" | .tbool => .type "bool" | .tstr => .type "str" | .ttuple => .type "tuple" | .tlist => .type "list" | .tvalerr => .type "ValueError"

inductive V where
  | none | bool (b : Bool) | int (i : Int) | str (s : Str) | tup (vs : List V) | ref (a : Addr) | bi (b : Bi) | g (x : String) | scr

inductive O where
  | list (xs : List V)
  | dict (f : Int → Option V) (n : Nat)

abbrev HM := Addr → Option O
def HM.set (H : HM) (a : Addr) (o : O) : HM := fun b => if b = a then some o else H b
theorem HM.set_same (H : HM) (a : Addr) (o : O) : (H.set a o) a = some o := by simp [HM.set]
theorem HM.set_ne (H : HM) {a b : Addr} (o : O) (h : b ≠ a) : (H.set a o) b = H b := by simp [HM.set, h]
def HM.le (H' H : HM) : Prop := ∀ a o, H' a = some o → H a = some o
theorem HM.le.refl (H : HM) : H.le H := fun _ _ e => e
theorem HM.le.trans {H1 H2 H3 : HM} (a : H1.le H2) (b : H2.le H3) : H1.le H3 := fun x o e => b x o (a x o e)

abbrev M := List (String × V)
def M.get : M → String → Option V
  | [], _ => .none
  | (y, v) :: r, x => if x = y then some v else M.get r x
def M.set : M → String → V → M
  | [], x, v => [(x, v)]
  | (y, w) :: r, x, v => if x = y then (y, v) :: r else (y, w) :: M.set r x v
theorem M.get_set (m : M) (x y : String) (v : V) : (m.set x v).get y = if y = x then some v else m.get y := by
  induction m with
  | nil => simp [M.set, M.get]
  | cons p r ih =>
    obtain ⟨z, w⟩ := p
    simp only [M.set]
    split
    · rename_i h; subst h; simp only [M.get]; split <;> simp_all
    · rename_i h
      simp only [M.get, ih]
      split
      · rename_i h2; subst h2; rw [if_neg (fun e => h e.symm)]
      · rfl
def M.le (m' m : M) : Prop := ∀ x v, m'.get x = some v → m.get x = some v
theorem M.le.refl (m : M) : m.le m := fun _ _ e => e

/-! ## context -/
structure Cx where
  prog : Program
  w : World
  base : Heap
  gl : String → Option Value
  scr : Addr
  ns : List Int

/-- a plain tuple -/
def PTup (h : Heap) (a : Addr) (items : Array Value) : Prop := ∃ n, h.get? a = some { cls := .type "tuple", data := .seq items n }
theorem PTup.isTup {h : Heap} {a : Addr} {items : Array Value} (x : PTup h a items) : IsTup h a items := let ⟨n, e⟩ := x; ⟨_, e, rfl, n, rfl⟩
theorem PTup.at {h h' : Heap} {a : Addr} {items : Array Value} (x : PTup h a items) (k : ∀ o, h.get? a = some o → h'.get? a = some o) : PTup h' a items := let ⟨n, e⟩ := x; ⟨n, k _ e⟩
theorem PTup.new (h : Heap) (items : Array Value) : PTup (h.push { cls := .type "tuple", data := .seq items }) h.objs.size items := ⟨0, Heap.get?_push_size _ rfl⟩
/-- the same, or a frame whose slots have turned -/
def IsD (o : Obj) : Prop := ∃ es n, o.data = .dict es n
def Slt (o o' : Obj) : Prop := o' = o ∨ (IsD o ∧ ∃ sl, o' = { o with slots := sl })
theorem Slt.refl (o : Obj) : Slt o o := .inl rfl
theorem Slt.trans {a b c : Obj} (x : Slt a b) (y : Slt b c) : Slt a c := by
  rcases x with rfl | ⟨h, sl, rfl⟩
  · exact y
  · rcases y with rfl | ⟨_, sl', rfl⟩
    · exact .inr ⟨h, sl, rfl⟩
    · exact .inr ⟨h, sl', rfl⟩
theorem Slt.data {a b : Obj} (x : Slt a b) : b.data = a.data := by rcases x with rfl | ⟨h, sl, rfl⟩ <;> rfl
theorem Slt.cls {a b : Obj} (x : Slt a b) : b.cls = a.cls := by rcases x with rfl | ⟨h, sl, rfl⟩ <;> rfl
theorem Slt.eq {a b : Obj} (x : Slt a b) (h : ¬ IsD a) : b = a := by rcases x with rfl | ⟨h', _⟩; rfl; exact absurd h' h

mutual
inductive Rep (c : Cx) (h : Heap) : V → Value → Prop
  | none : Rep c h .none .none
  | bool (b : Bool) : Rep c h (.bool b) (.bool b)
  | int (i : Int) (t : Tok) : Rep c h (.int i) (.int i t)
  | str (s : Str) (t : Tok) : Rep c h (.str s) (.str s t)
  | tup {a : Addr} {vs : List V} {items : Array Value} : PTup h a items → Reps c h vs items.toList → Rep c h (.tup vs) (.ref a)
  | ref (a : Addr) : Rep c h (.ref a) (.ref a)
  | bi (b : Bi) : Rep c h (.bi b) b.val
  | g {x : String} {v : Value} : c.gl x = some v → Rep c h (.g x) v
  | scr : Rep c h .scr (.ref c.scr)
inductive Reps (c : Cx) (h : Heap) : List V → List Value → Prop
  | nil : Reps c h [] []
  | cons {v : V} {w : Value} {vs : List V} {ws : List Value} : Rep c h v w → Reps c h vs ws → Reps c h (v :: vs) (w :: ws)
end

/-- tuples stay -/
def TupKeep (h h' : Heap) : Prop := ∀ a items, PTup h a items → PTup h' a items
theorem TupKeep.refl (h : Heap) : TupKeep h h := fun _ _ e => e
theorem TupKeep.trans {h1 h2 h3 : Heap} (a : TupKeep h1 h2) (b : TupKeep h2 h3) : TupKeep h1 h3 := fun x i e => b x i (a x i e)

mutual
theorem Rep.keep {c : Cx} {h h' : Heap} (k : TupKeep h h') {v : V} {w : Value} : Rep c h v w → Rep c h' v w
  | .none => .none
  | .bool b => .bool b
  | .int i t => .int i t
  | .str s t => .str s t
  | .tup a b => .tup (k _ _ a) (Reps.keep k b)
  | .ref a => .ref a
  | .bi b => .bi b
  | .g e => .g e
  | .scr => .scr
theorem Reps.keep {c : Cx} {h h' : Heap} (k : TupKeep h h') {vs : List V} {ws : List Value} : Reps c h vs ws → Reps c h' vs ws
  | .nil => .nil
  | .cons a b => .cons (Rep.keep k a) (Reps.keep k b)
end

theorem Reps.length {c : Cx} {h : Heap} : ∀ {vs : List V} {ws : List Value}, Reps c h vs ws → ws.length = vs.length
  | _, _, .nil => rfl
  | _, _, .cons _ b => by simp [Reps.length b]
theorem Reps.get {c : Cx} {h : Heap} : ∀ {vs : List V} {ws : List Value}, Reps c h vs ws → ∀ (i : Nat) (v : V), vs[i]? = some v → ∃ w, ws[i]? = some w ∧ Rep c h v w
  | _, _, .cons a b, 0, v, e => by simp at e; subst e; exact ⟨_, rfl, a⟩
  | _, _, .cons a b, i + 1, v, e => by simp at e; obtain ⟨w, h1, h2⟩ := Reps.get b i v e; exact ⟨w, by simpa using h1, h2⟩
  | _, _, .nil, i, v, e => by simp at e
theorem Reps.append {c : Cx} {h : Heap} : ∀ {vs : List V} {ws : List Value} {vs' : List V} {ws' : List Value}, Reps c h vs ws → Reps c h vs' ws' → Reps c h (vs ++ vs') (ws ++ ws')
  | _, _, _, _, .nil, b => b
  | _, _, _, _, .cons a r, b => .cons a (Reps.append r b)
theorem Reps.one {c : Cx} {h : Heap} {v : V} {w : Value} (a : Rep c h v w) : Reps c h [v] [w] := .cons a .nil
theorem Reps.take {c : Cx} {h : Heap} : ∀ {vs : List V} {ws : List Value} (n : Nat), Reps c h vs ws → Reps c h (vs.take n) (ws.take n)
  | _, _, 0, _ => by simpa using Reps.nil
  | _, _, n + 1, .nil => by simpa using Reps.nil
  | _, _, n + 1, .cons a b => by simpa using Reps.cons a (Reps.take n b)
theorem Reps.drop {c : Cx} {h : Heap} : ∀ {vs : List V} {ws : List Value} (n : Nat), Reps c h vs ws → Reps c h (vs.drop n) (ws.drop n)
  | _, _, 0, r => by simpa using r
  | _, _, n + 1, .nil => by simpa using Reps.nil
  | _, _, n + 1, .cons a b => by simpa using Reps.drop n b
theorem Reps.set {c : Cx} {h : Heap} : ∀ {vs : List V} {ws : List Value} (n : Nat) {v : V} {w : Value}, Reps c h vs ws → Rep c h v w → Reps c h (vs.set n v) (ws.set n w)
  | _, _, _, _, _, .nil, _ => by simpa using Reps.nil
  | _, _, 0, _, _, .cons a b, r => by simpa using Reps.cons r b
  | _, _, n + 1, _, _, .cons a b, r => by simpa using Reps.cons a (Reps.set n b r)
theorem Reps.reverse {c : Cx} {h : Heap} : ∀ {vs : List V} {ws : List Value}, Reps c h vs ws → Reps c h vs.reverse ws.reverse
  | _, _, .nil => by simpa using Reps.nil
  | _, _, .cons a b => by simpa using Reps.append (Reps.reverse b) (Reps.one a)

def OptRep (c : Cx) (h : Heap) : Option V → Option Value → Prop
  | .none, .none => True
  | some v, some w => Rep c h v w
  | _, _ => False

def SatO (c : Cx) (h : Heap) (a : Addr) : O → Prop
  | .list xs => ∃ items, h.PlainList a items ∧ Reps c h xs items.toList
  | .dict f n => ∃ g, h.MapOf (intKind c.prog c.w) a g ∧ h.DictLe a n ∧ a ≠ sysModules ∧ ∀ k, OptRep c h (f k) (g k)

/-- one step of the run, as the tracked objects see it; W: what of the untracked may be written -/
structure Tr (c : Cx) (W : Addr → Prop) (H : HM) (s : Shared) (H' : HM) (s' : Shared) : Prop where
  same : ∃ h' tk, s' = { s with heap := h', toks := tk }
  base : c.base.StaysIn s'.heap
  grow : ∀ b o, s.heap.get? b = some o → ¬ W b → ∃ o', s'.heap.get? b = some o'
  keep : ∀ b o, s.heap.get? b = some o → H b = none → ¬ W b → ∃ o', s'.heap.get? b = some o' ∧ Slt o o'
  objs : ∀ a o, H' a = some o → SatO c s'.heap a o ∧ c.base.get? a = none ∧ (H a = none → W a ∨ s.heap.get? a = none)

def NoW : Addr → Prop := fun _ => False

theorem Tr.trans {c : Cx} {W : Addr → Prop} {H H1 H2 : HM} {s s1 s2 : Shared} (x : Tr c W H s H1 s1) (y : Tr c W H1 s1 H2 s2) : Tr c W H s H2 s2 where
  same := by obtain ⟨h1, t1, rfl⟩ := x.same; obtain ⟨h2, t2, rfl⟩ := y.same; exact ⟨h2, t2, rfl⟩
  base := y.base
  grow := fun b o e hw => by obtain ⟨o1, e1⟩ := x.grow b o e hw; exact y.grow b o1 e1 hw
  keep := fun b o e hH hW => by
    obtain ⟨o1, e1, z1⟩ := x.keep b o e hH hW
    have hH1 : H1 b = none := by
      cases q : H1 b with
      | none => rfl
      | some o1 =>
        rcases (x.objs b o1 q).2.2 hH with h | h
        · exact absurd h hW
        · rw [e] at h; cases h
    obtain ⟨o2, e2, z2⟩ := y.keep b _ e1 hH1 hW
    exact ⟨o2, e2, z1.trans z2⟩
  objs := fun a o e => by
    obtain ⟨a1, a2, a3⟩ := y.objs a o e
    refine ⟨a1, a2, fun hn => ?_⟩
    by_cases hw : W a
    · exact .inl hw
    refine .inr ?_
    cases q : s.heap.get? a with
    | none => rfl
    | some o0 =>
      have hH1 : H1 a = none := by
        cases q1 : H1 a with
        | none => rfl
        | some o1 =>
          rcases (x.objs a o1 q1).2.2 hn with h | h
          · exact absurd h hw
          · rw [q] at h; cases h
      obtain ⟨o1, e1⟩ := x.grow a o0 q hw
      rcases a3 hH1 with h | h
      · exact absurd h hw
      · rw [h] at e1; cases e1

theorem Tr.mono {c : Cx} {W W' : Addr → Prop} {H H1 : HM} {s s1 : Shared} (x : Tr c W H s H1 s1) (h : ∀ b, W b → W' b) : Tr c W' H s H1 s1 :=
  ⟨x.same, x.base, fun b o e hw => x.grow b o e fun q => hw (h b q), fun b o e hH hW => x.keep b o e hH fun q => hW (h b q), fun a o e => ⟨(x.objs a o e).1, (x.objs a o e).2.1, fun hn => ((x.objs a o e).2.2 hn).imp (h a) id⟩⟩
theorem Tr.weaken {c : Cx} {W : Addr → Prop} {H H1 H1' : HM} {s s1 : Shared} (x : Tr c W H s H1 s1) (h : H1'.le H1) : Tr c W H s H1' s1 :=
  ⟨x.same, x.base, x.grow, x.keep, fun a o e => x.objs a o (h a o e)⟩

/-- the objects hold -/
def Objs (c : Cx) (H : HM) (h : Heap) : Prop := ∀ a o, H a = some o → SatO c h a o ∧ c.base.get? a = none
theorem Objs.le {c : Cx} {H H' : HM} {h : Heap} (x : Objs c H h) (k : H'.le H) : Objs c H' h := fun a o e => x a o (k a o e)

theorem SatO.notTup {c : Cx} {h : Heap} {a : Addr} {o : O} (x : SatO c h a o) {items : Array Value} (y : PTup h a items) : False := by
  obtain ⟨ob, ho, hc, _⟩ := y.isTup
  cases o with
  | list xs =>
    obtain ⟨it, ⟨n, e⟩, _⟩ := x
    rw [e] at ho; cases ho; simp at hc
  | dict f n =>
    obtain ⟨g, ⟨o2, es, ep, e, hx, _⟩, _⟩ := x
    rw [e] at ho; cases ho; rw [hx.1] at hc; simp at hc
theorem Tr.shrink {c : Cx} {W W' : Addr → Prop} {H H1 : HM} {s s1 : Shared} (x : Tr c W H s H1 s1) (h : ∀ b, W b → W' b ∨ s.heap.get? b = none) : Tr c W' H s H1 s1 := by
  refine ⟨x.same, x.base, fun b o e hw => x.grow b o e fun q => ?_, fun b o e hH hw => x.keep b o e hH fun q => ?_, fun a o e => ?_⟩
  · rcases h b q with q | q
    · exact hw q
    · rw [q] at e; cases e
  · rcases h b q with q | q
    · exact hw q
    · rw [q] at e; cases e
  · obtain ⟨a1, a2, a3⟩ := x.objs a o e
    refine ⟨a1, a2, fun hn => ?_⟩
    rcases a3 hn with q | q
    · exact h a q
    · exact .inr q

theorem Tr.tup {c : Cx} {W : Addr → Prop} {H H1 : HM} {s s1 : Shared} (x : Tr c W H s H1 s1) (ob : Objs c H s.heap) (hW : ∀ a items, PTup s.heap a items → ¬ W a) : TupKeep s.heap s1.heap := by
  intro a items t
  have hH : H a = none := by
    cases q : H a with
    | none => rfl
    | some o1 => exact ((ob a o1 q).1.notTup t).elim
  obtain ⟨n, ho⟩ := id t
  obtain ⟨o', e, z⟩ := x.keep a _ ho hH (hW a items t)
  rw [z.eq (fun ⟨_, _, q⟩ => nomatch q)] at e
  exact ⟨n, e⟩
theorem Tr.tup0 {c : Cx} {H H1 : HM} {s s1 : Shared} (x : Tr c NoW H s H1 s1) (ob : Objs c H s.heap) : TupKeep s.heap s1.heap := x.tup ob fun _ _ _ f => f
theorem Tr.objs' {c : Cx} {W : Addr → Prop} {H H1 : HM} {s s1 : Shared} (x : Tr c W H s H1 s1) : Objs c H1 s1.heap := fun a o e => ⟨(x.objs a o e).1, (x.objs a o e).2.1⟩

theorem Tr.refl {c : Cx} {W : Addr → Prop} {H : HM} {s : Shared} (b : c.base.StaysIn s.heap) (o : Objs c H s.heap) : Tr c W H s H s :=
  ⟨⟨s.heap, s.toks, rfl⟩, b, fun _ o e _ => ⟨o, e⟩, fun b o e _ _ => ⟨o, e, .refl o⟩, fun a ob e => ⟨(o a ob e).1, (o a ob e).2, fun h => by rw [e] at h; cases h⟩⟩
theorem Tr.toks {c : Cx} {W : Addr → Prop} {H H1 : HM} {s s1 : Shared} {t : Nat} (x : Tr c W H s H1 s1) : Tr c W H s H1 { s1 with toks := t } := by
  obtain ⟨h', tk, rfl⟩ := x.same
  exact ⟨⟨h', t, rfl⟩, x.base, x.grow, x.keep, x.objs⟩

/-! ## the frame -/
theorem ofString_inj {a b : String} (h : Str.ofString a = Str.ofString b) : a = b := by
  rw [Str.ofString_eq_toList, Str.ofString_eq_toList] at h
  have h1 : (a.toList.map Char.toNat) = (b.toList.map Char.toNat) := by
    have := congrArg (fun x : Str => x.cps.toList) h
    simpa using this
  have inj : ∀ (l l' : List Char), l.map Char.toNat = l'.map Char.toNat → l = l' := by
    intro l
    induction l with
    | nil => intro l' h; cases l' <;> simp_all
    | cons x r ih =>
      intro l' h
      cases l' with
      | nil => simp at h
      | cons y r' =>
        simp only [List.map_cons, List.cons.injEq] at h
        rw [Char.toNat_inj.mp h.1, ih r' h.2]
  exact String.toList_injective (inj _ _ h1)

abbrev Names := List (Str × NameKind)
def Kinds (names : Names) (env : Env) : Prop :=
  ∀ x k, names.lookup x = some k → (k = .local → env.kindOf x = some .local) ∧ (k = .cell → env.kindOf x = some .cell) ∧ (k = .free → env.kindOf x = some .free ∨ env.kindOf x = some .cell) ∧ (k = .globalImplicit → env.kindOf x = some .globalImplicit)

structure Vars (c : Cx) (env : Env) (m : M) (h : Heap) : Prop where
  ns : ∃ mv, h.Ns env.locals mv ∧ ∀ x v, m.get x = some v → env.kindOf (Str.ofString x) = some .local → ∃ w, mv (Str.ofString x) = some w ∧ Rep c h v w
  cell : ∀ x v, m.get x = some v → (env.kindOf (Str.ofString x) = some .cell ∨ env.kindOf (Str.ofString x) = some .free) → ∃ a w, env.cells.lookup (Str.ofString x) = some a ∧ h.IsCell a (some w) ∧ Rep c h v w

structure EnvOK (c : Cx) (names : Names) (env : Env) (H : HM) (h : Heap) : Prop where
  kinds : Kinds names env
  fn : env.scope.kind = .function
  glob : env.globals = mainGlobals
  blt : env.builtins = builtinsNs
  localsNew : c.base.get? env.locals = none ∧ H env.locals = none
  cells : ∀ x a, env.cells.lookup x = some a → (∃ v, h.IsCell a v) ∧ c.base.get? a = none ∧ H a = none
  has : ∀ x, env.kindOf x = some .cell ∨ env.kindOf x = some .free → ∃ a, env.cells.lookup x = some a
  apart : ∀ x y a, env.cells.lookup x = some a → env.cells.lookup y = some a → x = y

def FrOK (c : Cx) (fr : List Env) (H : HM) (h : Heap) : Prop :=
  ∀ env ∈ fr, env.scope.kind ≠ .module ∧ ∃ L o, env.frame = some L ∧ c.base.get? L = none ∧ H L = none ∧ h.get? L = some o ∧ IsD o

structure AOK (d : Nat) (A : Around) (fr : List Env) : Prop where
  depth : A.depth + d < recursionLimit
  units : A.units + 20 * d + 20 < cLine
  handled : A.handled = none
  frames : A.frames = some fr

structure Ok0 (c : Cx) (d : Nat) (H : HM) (A : Around) (fr : List Env) (s : Shared) : Prop where
  a : AOK d A fr
  fr : FrOK c fr H s.heap
  base : c.base.StaysIn s.heap
  lim : c.base.NoLimit
  objs : Objs c H s.heap

structure Ok (c : Cx) (d : Nat) (names : Names) (env : Env) (m : M) (H : HM) (A : Around) (fr : List Env) (s : Shared) : Prop extends Ok0 c d H A fr s where
  eok : EnvOK c names env H s.heap
  vars : Vars c env m s.heap

def Wr (names : Names) (env : Env) : Addr → Prop := fun a => a = env.locals ∨ ∃ x, names.lookup x = some .cell ∧ env.cells.lookup x = some a

theorem isCell_slots {h h' : Heap} {a : Addr} {v : Option Value} (x : h.IsCell a v) (k : ∀ o, h.get? a = some o → ∃ o', h'.get? a = some o' ∧ Slt o o') : h'.IsCell a v := by
  obtain ⟨o, ho, hd⟩ := x
  obtain ⟨o', e, z⟩ := k o ho
  exact ⟨_, e, z.data.trans hd⟩
theorem ns_slots {h h' : Heap} {a : Addr} {mv : Str → Option Value} (x : h.Ns a mv) (k : ∀ o, h.get? a = some o → ∃ o', h'.get? a = some o' ∧ Slt o o') : h'.Ns a mv := by
  obtain ⟨o, es, ep, ho, hd, r⟩ := x
  obtain ⟨o', e, z⟩ := k o ho
  exact ⟨_, es, ep, e, z.data.trans hd, r⟩

theorem Tr.new {c : Cx} {W : Addr → Prop} {H H1 : HM} {s s1 : Shared} (x : Tr c W H s H1 s1) {a : Addr} {o : Obj} (e : s.heap.get? a = some o) (hn : H a = none) (hw : ¬ W a) : H1 a = none := by
  cases q : H1 a with
  | none => rfl
  | some o1 =>
    rcases (x.objs a o1 q).2.2 hn with h | h
    · exact absurd h hw
    · rw [e] at h; cases h

theorem FrOK.step {c : Cx} {W : Addr → Prop} {fr : List Env} {H H1 : HM} {s s1 : Shared} (f : FrOK c fr H s.heap) (x : Tr c W H s H1 s1) (hW : ∀ env ∈ fr, ∀ L, env.frame = some L → W L → H1 L = none ∧ ∃ o, s1.heap.get? L = some o ∧ IsD o) : FrOK c fr H1 s1.heap := by
  intro env he
  obtain ⟨k, L, o, hf, hb, hH, ho, hd⟩ := f env he
  refine ⟨k, L, ?_⟩
  by_cases hw : W L
  · obtain ⟨hn', o', ho', hd'⟩ := hW env he L hf hw
    exact ⟨o', hf, hb, hn', ho', hd'⟩
  · obtain ⟨o', e, z⟩ := x.keep L o ho hH hw
    exact ⟨_, hf, hb, x.new ho hH hw, e, by obtain ⟨es, n, q⟩ := hd; exact ⟨es, n, z.data.trans q⟩⟩

theorem Ok0.step {c : Cx} {d : Nat} {H H1 : HM} {A : Around} {fr : List Env} {s s1 : Shared} (k : Ok0 c d H A fr s) (x : Tr c NoW H s H1 s1) : Ok0 c d H1 A fr s1 :=
  ⟨k.a, k.fr.step x (fun _ _ _ _ f => f.elim), x.base, k.lim, x.objs'⟩

theorem Ok.step {c : Cx} {d : Nat} {names : Names} {env : Env} {m : M} {H H1 : HM} {A : Around} {fr : List Env} {s s1 : Shared} (k : Ok c d names env m H A fr s) (x : Tr c NoW H s H1 s1) :
    Ok c d names env m H1 A fr s1 := by
  have tk := x.tup0 k.objs
  obtain ⟨mv, hns, hmv⟩ := k.vars.ns
  have hLo : ∃ o, s.heap.get? env.locals = some o := by obtain ⟨o, _, _, ho, _⟩ := hns; exact ⟨o, ho⟩
  obtain ⟨oL, hoL⟩ := hLo
  have kc : ∀ y a, env.cells.lookup y = some a → ∀ o, s.heap.get? a = some o → ∃ o', s1.heap.get? a = some o' ∧ Slt o o' := fun y a hp o ho => x.keep _ _ ho (k.eok.cells y a hp).2.2 fun f => f
  refine ⟨⟨k.a, k.fr.step x (fun _ _ _ _ f => f.elim), x.base, k.lim, x.objs'⟩, ?_, ?_⟩
  · refine ⟨k.eok.kinds, k.eok.fn, k.eok.glob, k.eok.blt, ⟨k.eok.localsNew.1, x.new hoL k.eok.localsNew.2 fun f => f⟩, fun y a hp => ?_, k.eok.has, k.eok.apart⟩
    obtain ⟨⟨v, hc⟩, hb, hH⟩ := k.eok.cells y a hp
    have hc' := hc
    obtain ⟨oc, hoc, _⟩ := hc'
    exact ⟨⟨v, isCell_slots hc fun o ho => kc y a hp o ho⟩, hb, x.new hoc hH fun f => f⟩
  · refine ⟨⟨mv, ns_slots hns fun o ho => x.keep _ _ ho k.eok.localsNew.2 fun f => f, fun y v hy hk => ?_⟩, fun y v hy hk => ?_⟩
    · obtain ⟨w, hw, hr⟩ := hmv y v hy hk; exact ⟨w, hw, hr.keep tk⟩
    · obtain ⟨a, w, ha, hc, hr⟩ := k.vars.cell y v hy hk
      exact ⟨a, w, ha, isCell_slots hc fun o ho => kc _ _ ha o ho, hr.keep tk⟩

theorem Ok.weaken {c : Cx} {d : Nat} {names : Names} {env : Env} {m m' : M} {H H' : HM} {A : Around} {fr : List Env} {s : Shared} (k : Ok c d names env m H A fr s) (hm : m'.le m) (hH : H'.le H) :
    Ok c d names env m' H' A fr s := by
  have nn : ∀ a, H a = none → H' a = none := fun a e => by
    cases q : H' a with
    | none => rfl
    | some o => have := hH a o q; rw [e] at this; cases this
  refine ⟨⟨k.a, fun env he => ?_, k.base, k.lim, k.objs.le hH⟩, ⟨k.eok.kinds, k.eok.fn, k.eok.glob, k.eok.blt, ⟨k.eok.localsNew.1, nn _ k.eok.localsNew.2⟩, fun y a hp => ?_, k.eok.has, k.eok.apart⟩, ?_⟩
  · obtain ⟨a, L, o, b1, b2, b3, b4⟩ := k.fr env he
    exact ⟨a, L, o, b1, b2, nn _ b3, b4⟩
  · obtain ⟨a, b, e⟩ := k.eok.cells y a hp; exact ⟨a, b, nn _ e⟩
  · obtain ⟨mv, hns, hmv⟩ := k.vars.ns
    exact ⟨⟨mv, hns, fun x v hx => hmv x v (hm x v hx)⟩, fun x v hx => k.vars.cell x v (hm x v hx)⟩

/-! ## exceptions -/
def ExnAt (c : Cx) (W : Addr → Prop) (h0 : Heap) (a : Addr) (cl : String) (h : Heap) : Prop :=
  ∃ oe vs Cv, c.gl cl = some Cv ∧ h.get? a = some oe ∧ oe.cls = Cv ∧ oe.data = .fields vs ∧ 1 < vs.size ∧ c.base.get? a = none ∧
    (vs[1]? = some .none ∨ ∃ T oT ts, vs[1]? = some (.ref T) ∧ T ≠ a ∧ (W T ∨ h0.get? T = none) ∧ c.base.get? T = none ∧ h.get? T = some oT ∧ oT.data = .fields ts ∧ 3 < ts.size)
abbrev XPost := String → HM → Prop
def XP (c : Cx) (fr : List Env) (X : XPost) (W : Addr → Prop) (H : HM) (s : Shared) (e : Value) (s' : Shared) : Prop :=
  ∃ a cl H', e = .ref a ∧ X cl H' ∧ (W a ∨ s.heap.get? a = none) ∧ ExnAt c W s.heap a cl s'.heap ∧ Tr c W H s H' s' ∧ FrOK c fr H' s'.heap
theorem Tr.none {c : Cx} {W : Addr → Prop} {H H1 : HM} {s s1 : Shared} (x : Tr c W H s H1 s1) {a : Addr} (e : W a ∨ s1.heap.get? a = none) : W a ∨ s.heap.get? a = none := by
  by_cases hw : W a
  · exact .inl hw
  refine .inr ?_
  rcases e with e | e
  · exact absurd e hw
  cases q : s.heap.get? a with
  | none => rfl
  | some o => obtain ⟨o', e'⟩ := x.grow a o q hw; rw [e] at e'; cases e'
theorem XP.lift {c : Cx} {fr : List Env} {X : XPost} {W : Addr → Prop} {H H1 : HM} {s s1 s' : Shared} {e : Value} (x : Tr c W H s H1 s1) (y : XP c fr X W H1 s1 e s') : XP c fr X W H s e s' := by
  obtain ⟨a, cl, H', rfl, hX, hn, ⟨oe, vs, Cv, e1, e2, e3, e4, e5, e6, e7⟩, t, hfr⟩ := y
  refine ⟨a, cl, H', rfl, hX, x.none hn, ⟨oe, vs, Cv, e1, e2, e3, e4, e5, e6, ?_⟩, x.trans t, hfr⟩
  rcases e7 with e7 | ⟨T, oT, ts, f1, f2, f3, f4⟩
  · exact .inl e7
  · exact .inr ⟨T, oT, ts, f1, f2, x.none f3, f4⟩
theorem XP.mono {c : Cx} {fr : List Env} {X X' : XPost} {W W' : Addr → Prop} {H : HM} {s s' : Shared} {e : Value} (hW : ∀ b, W b → W' b) (hX : ∀ cl H', X cl H' → X' cl H') (y : XP c fr X W H s e s') : XP c fr X' W' H s e s' := by
  obtain ⟨a, cl, H', h1, h2, h3, h4, t, hfr⟩ := y
  obtain ⟨oe, vs, Cv, e1, e2, e3, e4, e5, e6, e7⟩ := h4
  refine ⟨a, cl, H', h1, hX _ _ h2, h3.imp (hW a) id, ⟨oe, vs, Cv, e1, e2, e3, e4, e5, e6, ?_⟩, t.mono hW, hfr⟩
  rcases e7 with e7 | ⟨T, oT, ts, f1, f2, f3, f4⟩
  · exact .inl e7
  · exact .inr ⟨T, oT, ts, f1, f2, f3.imp (hW T) id, f4⟩

end Mine

set_option autoImplicit false
set_option linter.unusedVariables false
namespace Mine
open PySem PyProof.Rows

abbrev Md (c : Cx) : Model := model c.prog c.w

def Pst (c : Cx) (H : HM) (s : Shared) (Q : V → HM → Prop) : Value → Shared → Prop := fun v s' => ∃ r H', Q r H' ∧ Rep c s'.heap r v ∧ Tr c NoW H s H' s'
def PstL (c : Cx) (H : HM) (s : Shared) (Q : List V → HM → Prop) : List Value → Shared → Prop := fun v s' => ∃ r H', Q r H' ∧ Reps c s'.heap r v ∧ Tr c NoW H s H' s'
def PstB (c : Cx) (H : HM) (s : Shared) (Q : Bool → HM → Prop) : Bool → Shared → Prop := fun b s' => ∃ H', Q b H' ∧ Tr c NoW H s H' s'

/-- an expression is evaluated -/
def EvOK (c : Cx) (d : Nat) (names : Names) (e : Expr) (m : M) (H : HM) (X : XPost) (Q : V → HM → Prop) : Prop :=
  ∀ (env : Env) (A : Around) (fr : List Env) (s : Shared) (E : Value → Shared → Prop), Ok c d names env m H A fr s → (∀ e' s', XP c fr X NoW H s e' s' → E e' s') →
    wpAny (Md c) A (eval e env) (Pst c H s Q) E s
/-- a test -/
def TsOK (c : Cx) (d : Nat) (names : Names) (e : Expr) (m : M) (H : HM) (X : XPost) (Q : Bool → HM → Prop) : Prop :=
  ∀ (env : Env) (A : Around) (fr : List Env) (s : Shared) (E : Value → Shared → Prop), Ok c d names env m H A fr s → (∀ e' s', XP c fr X NoW H s e' s' → E e' s') →
    wpAny (Md c) A (isTrue e env (eval e env)) (PstB c H s Q) E s
/-- the arguments, from left to right -/
def EsOK (c : Cx) (d : Nat) (names : Names) (es : List Expr) (m : M) (H : HM) (X : XPost) (Q : List V → HM → Prop) : Prop :=
  ∀ (env : Env) (A : Around) (fr : List Env) (s : Shared) (E : Value → Shared → Prop) (pos : Pos), Ok c d names env m H A fr s → (∀ e' s', XP c fr X NoW H s e' s' → E e' s') →
    wpAny (Md c) A (spliced (backTo pos (starEach es env))) (PstL c H s Q) E s
/-- an operation upon values -/
def OpOK (c : Cx) (d : Nat) (t : List Value → Sem Value) (as : List V) (H : HM) (X : XPost) (Q : V → HM → Prop) : Prop :=
  ∀ (A : Around) (fr : List Env) (s : Shared) (E : Value → Shared → Prop) (vs : List Value), Ok0 c d H A fr s → Reps c s.heap as vs → (∀ e' s', XP c fr X NoW H s e' s' → E e' s') →
    wpAny (Md c) A (t vs) (Pst c H s Q) E s
def OpBOK (c : Cx) (d : Nat) (t : Value → Sem Bool) (a : V) (H : HM) (X : XPost) (Q : Bool → HM → Prop) : Prop :=
  ∀ (A : Around) (fr : List Env) (s : Shared) (E : Value → Shared → Prop) (v : Value), Ok0 c d H A fr s → Rep c s.heap a v → (∀ e' s', XP c fr X NoW H s e' s' → E e' s') →
    wpAny (Md c) A (t v) (PstB c H s Q) E s

section
variable {c : Cx} {d : Nat} {names : Names} {m : M} {H : HM} {X : XPost}

theorem EvOK.mono {e : Expr} {Q Q' : V → HM → Prop} (h : EvOK c d names e m H X Q) (hq : ∀ r H', Q r H' → Q' r H') : EvOK c d names e m H X Q' :=
  fun env A fr s E k hE => wpAny_mono (h env A fr s E k hE) (fun v s' ⟨r, H', a, b⟩ => ⟨r, H', hq _ _ a, b⟩) fun _ _ x => x

theorem ev_int {i : Int} {k : Nat} {pos : Pos} {Q : V → HM → Prop} (h : Q (.int i) H) : EvOK c d names (.Constant (.int i) k pos) m H X Q :=
  fun env A fr s E ok hE => wpAny_Constant_int ⟨.int i, H, h, .int _ _, (Tr.refl ok.base ok.objs).toks⟩
theorem ev_str {x : Str} {k : Nat} {pos : Pos} {Q : V → HM → Prop} (h : Q (.str x) H) : EvOK c d names (.Constant (.str x) k pos) m H X Q :=
  fun env A fr s E ok hE => wpAny_Constant_str ⟨.str x, H, h, .str _ _, (Tr.refl ok.base ok.objs).toks⟩
theorem ev_none {k : Nat} {pos : Pos} {Q : V → HM → Prop} (h : Q .none H) : EvOK c d names (.Constant .none k pos) m H X Q :=
  fun env A fr s E ok hE => wpAny_Constant_none ⟨.none, H, h, .none, Tr.refl ok.base ok.objs⟩
theorem ev_bool {b : Bool} {k : Nat} {pos : Pos} {Q : V → HM → Prop} (h : Q (.bool b) H) : EvOK c d names (.Constant (.bool b) k pos) m H X Q :=
  fun env A fr s E ok hE => wpAny_Constant_bool ⟨.bool b, H, h, .bool _, Tr.refl ok.base ok.objs⟩

def isVar (names : Names) (x : String) : Bool :=
  (match names.lookup (Str.ofString x) with | some .local => true | some .cell => true | some .free => true | _ => false) && (Str.ofString x != ("__debug__" : Str)) && (Str.ofString x != ("__classdict__" : Str))

theorem ev_name {x : String} {pos : Pos} {v : V} {Q : V → HM → Prop} (hx : isVar names x = true) (hv : m.get x = some v) (h : Q v H) : EvOK c d names (.Name (Str.ofString x) pos) m H X Q := by
  intro env A fr s E ok hE
  simp only [isVar, Bool.and_eq_true, bne_iff_ne, ne_eq] at hx
  obtain ⟨⟨hx1, hx2⟩, hx3⟩ := hx
  have fin : ∀ w, Rep c s.heap v w → Pst c H s Q w s := fun w hw => ⟨v, H, h, hw, Tr.refl ok.base ok.objs⟩
  refine wpAny_Name ?_ (by simpa using hx2)
  cases hk : names.lookup (Str.ofString x) with
  | none => rw [hk] at hx1; simp at hx1
  | some k =>
    rw [hk] at hx1
    have K := ok.eok.kinds _ _ hk
    cases k <;> simp at hx1
    · have hl := K.1 rfl
      obtain ⟨mv, hns, hmv⟩ := ok.vars.ns
      obtain ⟨w, hw, hr⟩ := hmv x v hv hl
      exact wpAny_loadName_local ok.eok.fn hl hns hw (fin w hr)
    · have hl := K.2.1 rfl
      obtain ⟨a, w, ha, hc, hr⟩ := ok.vars.cell x v hv (.inl hl)
      exact wpAny_loadName_cell ok.eok.fn hl ha hc (fin w hr)
    · rcases K.2.2.1 rfl with hl | hl
      · obtain ⟨a, w, ha, hc, hr⟩ := ok.vars.cell x v hv (.inr hl)
        exact wpAny_loadName_free ok.eok.fn hl ha hc (fin w hr) (by simpa using hx3)
      · obtain ⟨a, w, ha, hc, hr⟩ := ok.vars.cell x v hv (.inl hl)
        exact wpAny_loadName_cell ok.eok.fn hl ha hc (fin w hr)

/-- a name of the module or a built-in -/
def GlobOK (c : Cx) (x : String) (v : V) : Prop :=
  ∀ (env : Env) (A : Around) (s : Shared) (E : Value → Shared → Prop) (Q : Value → Shared → Prop), env.kindOf (Str.ofString x) = some .globalImplicit → env.scope.kind = .function → env.globals = mainGlobals → env.builtins = builtinsNs →
    c.base.StaysIn s.heap → (∀ w t, Rep c s.heap v w → Q w { s with toks := t }) → wpAny (Md c) A (loadName env (Str.ofString x)) Q E s
def isGlob (names : Names) (x : String) : Bool :=
  (match names.lookup (Str.ofString x) with | some .globalImplicit => true | _ => false) && (Str.ofString x != ("__debug__" : Str))
theorem ev_glob {x : String} {pos : Pos} {v : V} {Q : V → HM → Prop} (hx : isGlob names x = true) (hg : GlobOK c x v) (h : Q v H) : EvOK c d names (.Name (Str.ofString x) pos) m H X Q := by
  intro env A fr s E ok hE
  simp only [isGlob, Bool.and_eq_true, bne_iff_ne, ne_eq] at hx
  obtain ⟨hx1, hx2⟩ := hx
  refine wpAny_Name ?_ (by simpa using hx2)
  cases hk : names.lookup (Str.ofString x) with
  | none => rw [hk] at hx1; simp at hx1
  | some k =>
    rw [hk] at hx1
    have K := ok.eok.kinds _ _ hk
    cases k <;> simp at hx1
    exact hg env A s E _ (K.2.2.2 rfl) ok.eok.fn ok.eok.glob ok.eok.blt ok.base fun w t hr => ⟨v, H, h, hr, (Tr.refl ok.base ok.objs).toks⟩

def bin2 (op : Operator) : List Value → Sem Value
  | [a, b] => binaryOp op a b
  | _ => unsupported "mine"
def cmp2 (op : CmpOp) : List Value → Sem Value
  | [a, b] => compareOp op a b
  | _ => unsupported "mine"


section
variable {env : Env} {A : Around} {fr : List Env} {s : Shared} {E : Value → Shared → Prop}
theorem EvOK.use {e : Expr} {Q1 : V → HM → Prop} {P : Value → Shared → Prop} (h : EvOK c d names e m H X Q1) (k : Ok c d names env m H A fr s) (hE : ∀ e' s', XP c fr X NoW H s e' s' → E e' s')
    (hk : ∀ v s1 a H1, Q1 a H1 → Rep c s1.heap a v → Tr c NoW H s H1 s1 → Ok c d names env m H1 A fr s1 → (∀ e' s', XP c fr X NoW H1 s1 e' s' → E e' s') → P v s1) :
    wpAny (Md c) A (eval e env) P E s :=
  wpAny_mono (h env A fr s E k hE) (fun v s1 ⟨a, H1, h1, ra, t1⟩ => hk v s1 a H1 h1 ra t1 (k.step t1) fun e' s' x => hE _ _ (x.lift t1)) fun _ _ x => x
theorem TsOK.use {e : Expr} {Q1 : Bool → HM → Prop} {P : Bool → Shared → Prop} (h : TsOK c d names e m H X Q1) (k : Ok c d names env m H A fr s) (hE : ∀ e' s', XP c fr X NoW H s e' s' → E e' s')
    (hk : ∀ b s1 H1, Q1 b H1 → Tr c NoW H s H1 s1 → Ok c d names env m H1 A fr s1 → (∀ e' s', XP c fr X NoW H1 s1 e' s' → E e' s') → P b s1) :
    wpAny (Md c) A (isTrue e env (eval e env)) P E s :=
  wpAny_mono (h env A fr s E k hE) (fun b s1 ⟨H1, h1, t1⟩ => hk b s1 H1 h1 t1 (k.step t1) fun e' s' x => hE _ _ (x.lift t1)) fun _ _ x => x
theorem EsOK.use {es : List Expr} {Q1 : List V → HM → Prop} {P : List Value → Shared → Prop} {pos : Pos} (h : EsOK c d names es m H X Q1) (k : Ok c d names env m H A fr s) (hE : ∀ e' s', XP c fr X NoW H s e' s' → E e' s')
    (hk : ∀ v s1 a H1, Q1 a H1 → Reps c s1.heap a v → Tr c NoW H s H1 s1 → Ok c d names env m H1 A fr s1 → (∀ e' s', XP c fr X NoW H1 s1 e' s' → E e' s') → P v s1) :
    wpAny (Md c) A (spliced (backTo pos (starEach es env))) P E s :=
  wpAny_mono (h env A fr s E pos k hE) (fun v s1 ⟨a, H1, h1, ra, t1⟩ => hk v s1 a H1 h1 ra t1 (k.step t1) fun e' s' x => hE _ _ (x.lift t1)) fun _ _ x => x
theorem OpOK.use {t : List Value → Sem Value} {as : List V} {vs : List Value} {Q1 : V → HM → Prop} {P : Value → Shared → Prop} (h : OpOK c d t as H X Q1) (k : Ok0 c d H A fr s) (hr : Reps c s.heap as vs) (hE : ∀ e' s', XP c fr X NoW H s e' s' → E e' s')
    (hk : ∀ v s1 a H1, Q1 a H1 → Rep c s1.heap a v → Tr c NoW H s H1 s1 → Ok0 c d H1 A fr s1 → (∀ e' s', XP c fr X NoW H1 s1 e' s' → E e' s') → P v s1) :
    wpAny (Md c) A (t vs) P E s :=
  wpAny_mono (h A fr s E vs k hr hE) (fun v s1 ⟨a, H1, h1, ra, t1⟩ => hk v s1 a H1 h1 ra t1 (k.step t1) fun e' s' x => hE _ _ (x.lift t1)) fun _ _ x => x
theorem OpBOK.use {t : Value → Sem Bool} {a : V} {v : Value} {Q1 : Bool → HM → Prop} {P : Bool → Shared → Prop} (h : OpBOK c d t a H X Q1) (k : Ok0 c d H A fr s) (hr : Rep c s.heap a v) (hE : ∀ e' s', XP c fr X NoW H s e' s' → E e' s')
    (hk : ∀ b s1 H1, Q1 b H1 → Tr c NoW H s H1 s1 → Ok0 c d H1 A fr s1 → (∀ e' s', XP c fr X NoW H1 s1 e' s' → E e' s') → P b s1) :
    wpAny (Md c) A (t v) P E s :=
  wpAny_mono (h A fr s E v k hr hE) (fun v s1 ⟨H1, h1, t1⟩ => hk v s1 H1 h1 t1 (k.step t1) fun e' s' x => hE _ _ (x.lift t1)) fun _ _ x => x
end

theorem ev_bin {l r : Expr} {op : Operator} {pos : Pos} {Q : V → HM → Prop}
    (h : EvOK c d names l m H X fun a H1 => EvOK c d names r m H1 X fun b H2 => OpOK c d (bin2 op) [a, b] H2 X Q) : EvOK c d names (.BinOp l op r pos) m H X Q := by
  intro env A fr s E k hE
  refine wpAny_BinOp (h.use k hE fun v s1 a H1 h1 ra t1 k1 hE1 => h1.use k1 hE1 fun w s2 b H2 h2 rb t2 k2 hE2 => ?_)
  exact h2.use (vs := [v, w]) k2.toOk0 (.cons (ra.keep (t2.tup0 k1.objs)) (.one rb)) hE2 fun u s3 r H3 hq hr t3 _ _ => ⟨r, H3, hq, hr, t1.trans (t2.trans t3)⟩

theorem ev_cmp {l r : Expr} {op : CmpOp} {pos : Pos} {Q : V → HM → Prop} (hm : behindInMarks op r = false)
    (h : EvOK c d names l m H X fun a H1 => EvOK c d names r m H1 X fun b H2 => OpOK c d (cmp2 op) [a, b] H2 X Q) : EvOK c d names (.Compare l [op] [r] pos) m H X Q := by
  intro env A fr s E k hE
  refine wpAny_Compare1 (h.use k hE fun v s1 a H1 h1 ra t1 k1 hE1 => h1.use k1 hE1 fun w s2 b H2 h2 rb t2 k2 hE2 => ?_) hm
  exact h2.use (vs := [v, w]) k2.toOk0 (.cons (ra.keep (t2.tup0 k1.objs)) (.one rb)) hE2 fun u s3 r H3 hq hr t3 _ _ => ⟨r, H3, hq, hr, t1.trans (t2.trans t3)⟩

theorem ts_cmp {l r : Expr} {op : CmpOp} {pos : Pos} {Q : Bool → HM → Prop} (hm : behindInMarks op r = false)
    (h : EvOK c d names l m H X fun a H1 => EvOK c d names r m H1 X fun b H2 => OpOK c d (cmp2 op) [a, b] H2 X fun v H3 => OpBOK c d truthy v H3 X Q) : TsOK c d names (.Compare l [op] [r] pos) m H X Q := by
  intro env A fr s E k hE
  refine wpAny_isTrue_Compare1 (h.use k hE fun v s1 a H1 h1 ra t1 k1 hE1 => h1.use k1 hE1 fun w s2 b H2 h2 rb t2 k2 hE2 => ?_) hm
  refine h2.use (vs := [v, w]) k2.toOk0 (.cons (ra.keep (t2.tup0 k1.objs)) (.one rb)) hE2 fun u s3 r H3 hq hr t3 k3 hE3 => ?_
  exact hq.use k3 hr hE3 fun b s4 H4 hq t4 _ _ => ⟨H4, hq, t1.trans (t2.trans (t3.trans t4))⟩

theorem operate_ {ops : List Value} {t : Sem Value} {Mo : Model} {A : Around} {E : Value → Shared → Prop} {s : Shared} {Q : Value → Shared → Prop} (h : wpAny Mo A t Q E s) : wpAny Mo A (operate ops t) Q E s :=
  fun Γ p hΓ => by rw [Sem.wp_operate]; exact h Γ p hΓ
theorem release_ {l k : List Value} {Mo : Model} {A : Around} {E : Value → Shared → Prop} {s : Shared} {Q : Unit → Shared → Prop} (h : Q () s) : wpAny Mo A (release l k) Q E s :=
  fun Γ p hΓ => by rw [Sem.wp_release]; exact h

/-- a < b < c -/
theorem ev_cmp3 {l r q : Expr} {op op' : CmpOp} {pos : Pos} {Q : V → HM → Prop} (hm : behindInMarks op' q = false)
    (h : EvOK c d names l m H X fun a H1 => EvOK c d names r m H1 X fun b H2 => OpOK c d (cmp2 op) [a, b] H2 X fun v H3 => OpBOK c d truthy v H3 X fun t H4 =>
      if t then EvOK c d names q m H4 X fun e H5 => OpOK c d (cmp2 op') [b, e] H5 X Q else Q v H4) : EvOK c d names (.Compare l [op, op'] [r, q] pos) m H X Q := by
  intro env A fr s E k hE
  show wpAny (Md c) A (eval l env >>= fun a => compareChain pos a [op, op'] (markedEach [op, op'] [r, q] [eval r env, eval q env])) _ _ _
  have hmk : markedEach [op, op'] [r, q] [eval r env, eval q env] = [eval r env, eval q env] := by
    show [eval r env, markedBehindIn op' q (eval q env)] = _
    rw [markedBehindIn_of_false hm]
  rw [hmk]
  refine wpAny_bind (h.use k hE fun v s1 a H1 h1 ra t1 k1 hE1 => ?_)
  show wpAny (Md c) A (holding [v] (eval r env) >>= fun rv => standAt pos >>= fun _ => holding [v, rv] (compareOp op v rv) >>= fun cv => release [v, rv] [cv] >>= fun _ => holding [cv, rv] (truthy cv) >>= fun t => if t then compareChain pos rv [op'] [eval q env] else pure cv) _ _ _
  refine wpAny_bind (wpAny_holding (h1.use k1 hE1 fun w s2 b H2 h2 rb t2 k2 hE2 => wpAny_bind (wpAny_standAt (wpAny_bind (wpAny_holding ?_)))))
  refine h2.use (vs := [v, w]) k2.toOk0 (.cons (ra.keep (t2.tup0 k1.objs)) (.one rb)) hE2 fun u s3 r3 H3 hq hr t3 k3 hE3 => wpAny_bind (release_ (wpAny_bind (wpAny_holding ?_)))
  refine hq.use k3 hr hE3 fun t s4 H4 hq t4 k4 hE4 => ?_
  have k4' := k2.step (t3.trans t4)
  cases t with
  | false =>
    simp only [Bool.false_eq_true, if_false] at hq ⊢
    exact wpAny_pure ⟨r3, H4, hq, hr.keep (t4.tup0 k3.objs), t1.trans (t2.trans (t3.trans t4))⟩
  | true =>
    simp only [if_true] at hq ⊢
    show wpAny (Md c) A (holding [w] (eval q env) >>= fun rv => standAt pos >>= fun _ => operate [w, rv] (compareOp op' w rv)) _ _ _
    refine wpAny_bind (wpAny_holding (hq.use k4' hE4 fun u5 s5 e H5 h5 re t5 k5 hE5 => wpAny_bind (wpAny_standAt (operate_ ?_))))
    have rb5 := rb.keep (((t3.trans t4).trans t5).tup0 k2.objs)
    exact h5.use (vs := [w, u5]) k5.toOk0 (.cons rb5 (.one re)) hE5 fun u s6 r H6 hq hr t6 _ _ => ⟨r, H6, hq, hr, t1.trans (t2.trans (t3.trans (t4.trans (t5.trans t6))))⟩

end
end Mine

set_option autoImplicit false
set_option linter.unusedVariables false
namespace Mine
open PySem PyProof.Rows

theorem OptRep.keep {c : Cx} {h h' : Heap} (k : TupKeep h h') {a : Option V} {b : Option Value} (x : OptRep c h a b) : OptRep c h' a b := by
  cases a <;> cases b <;> simp only [OptRep] at x ⊢
  exact x.keep k
theorem SatO.ext {c : Cx} {h h' : Heap} {a : Addr} {o : O} (x : SatO c h a o) (k : TupKeep h h') (e : ∀ ob, h.get? a = some ob → h'.get? a = some ob) : SatO c h' a o := by
  cases o with
  | list xs => obtain ⟨it, hl, hr⟩ := x; exact ⟨it, hl.at fun ob => e ob, hr.keep k⟩
  | dict f n =>
    obtain ⟨g, ⟨o, es, ep, ho, r⟩, hl, hs, hk⟩ := x
    refine ⟨g, ⟨o, es, ep, e _ ho, r⟩, fun o' es' ep' ho' hd' => ?_, hs, fun k' => (hk k').keep k⟩
    rw [e _ ho] at ho'; cases ho'
    exact hl _ _ _ ho hd'
theorem tupKeep_push (h : Heap) (o : Obj) : TupKeep h (h.push o) := fun a items t => t.at fun ob ho => Heap.get?_push_of_some o ho
theorem stays_push {b h : Heap} (x : b.StaysIn h) (o : Obj) : b.StaysIn (h.push o) := fun a ob e => Heap.get?_push_of_some o (x a ob e)
theorem get_size_none (h : Heap) : h.get? h.objs.size = none := by
  cases q : h.get? h.objs.size with
  | none => rfl
  | some o => exact absurd (Heap.lt_size q) (Nat.lt_irrefl _)
theorem SatO.some {c : Cx} {h : Heap} {a : Addr} {o : O} (x : SatO c h a o) : ∃ ob, h.get? a = some ob := by
  cases o with
  | list xs => obtain ⟨it, ⟨n, e⟩, _⟩ := x; exact ⟨_, e⟩
  | dict f n => obtain ⟨g, ⟨o, es, ep, ho, r⟩, _⟩ := x; exact ⟨_, ho⟩
theorem Objs.fresh {c : Cx} {H : HM} {h : Heap} (x : Objs c H h) : H h.objs.size = none := by
  cases q : H h.objs.size with
  | none => rfl
  | some o => obtain ⟨ob, e⟩ := (x _ o q).1.some; rw [get_size_none] at e; cases e

section
variable {c : Cx} {W : Addr → Prop} {H : HM} {s : Shared}
theorem Tr.push (b : c.base.StaysIn s.heap) (k : Objs c H s.heap) (o : Obj) {t : Nat} : Tr c W H s H { s with heap := s.heap.push o, toks := t } :=
  ⟨⟨_, _, rfl⟩, stays_push b o, fun a ob e _ => ⟨ob, Heap.get?_push_of_some o e⟩, fun a ob e _ _ => ⟨ob, Heap.get?_push_of_some o e, .refl _⟩,
    fun a ob e => ⟨(k a ob e).1.ext (tupKeep_push _ _) fun x hx => Heap.get?_push_of_some o hx, (k a ob e).2, fun h => by rw [e] at h; cases h⟩⟩
theorem base_fresh {b h : Heap} (x : b.StaysIn h) : b.get? h.objs.size = none := x.fresh
theorem Tr.alloc (b : c.base.StaysIn s.heap) (k : Objs c H s.heap) {vs : List Value} {xs : List V} (hr : Reps c s.heap xs vs) {t : Nat} :
    Tr c W H s (H.set s.heap.objs.size (.list xs)) { s with heap := s.heap.push { cls := .type "list", data := .seq vs.toArray }, toks := t } := by
  have P := Tr.push (W := W) (t := t) b k { cls := .type "list", data := .seq vs.toArray }
  refine ⟨P.same, P.base, P.grow, P.keep, fun a o e => ?_⟩
  by_cases q : a = s.heap.objs.size
  · subst q
    rw [HM.set_same] at e; cases e
    exact ⟨⟨vs.toArray, ⟨0, Heap.get?_push_size _ rfl⟩, by simpa using hr.keep (tupKeep_push _ _)⟩, base_fresh b, fun _ => .inr (get_size_none _)⟩
  · rw [HM.set_ne _ _ q] at e; exact P.objs a o e
/-- a tracked object is changed -/
theorem Tr.upd {a : Addr} {o o' : O} {h' : Heap} {t : Nat} (b : c.base.StaysIn s.heap) (k : Objs c H s.heap) (ha : H a = some o) (hs : Heap.SameBut a s.heap h') (ho : ∀ tk : TupKeep s.heap h', SatO c h' a o') :
    Tr c W H s (H.set a o') { s with heap := h', toks := t } := by
  have tk : TupKeep s.heap h' := fun x items ht => by
    have hx : x ≠ a := fun q => by subst q; exact (k _ _ ha).1.notTup ht
    exact ht.at fun ob e => (hs.2 x hx).trans e
  refine ⟨⟨_, _, rfl⟩, fun x ob e => ?_, fun x ob e _ => ?_, fun x ob e hH _ => ?_, fun x ob e => ?_⟩
  · have hx : x ≠ a := fun q => by subst q; rw [(k _ _ ha).2] at e; cases e
    exact (hs.2 x hx).trans (b x ob e)
  · by_cases q : x = a
    · subst q; exact (ho tk).some
    · exact ⟨ob, (hs.2 x q).trans e⟩
  · have hx : x ≠ a := fun q => by subst q; rw [ha] at hH; cases hH
    exact ⟨ob, (hs.2 x hx).trans e, .refl _⟩
  · by_cases q : x = a
    · subst q
      rw [HM.set_same] at e; cases e
      exact ⟨ho tk, (k _ _ ha).2, fun h => by rw [ha] at h; cases h⟩
    · rw [HM.set_ne _ _ q] at e
      exact ⟨(k x ob e).1.ext tk fun y hy => (hs.2 x q).trans hy, (k x ob e).2, fun h => by rw [e] at h; cases h⟩
end

section
variable {c : Cx} {d : Nat} {names : Names} {m : M} {H : HM} {X : XPost}

/-- no star -/
def notStar : Expr → Bool
  | .Starred .. => false
  | _ => true
theorem starEach_cons {e : Expr} {es : List Expr} {env : Env} (h : notStar e = true) : starEach (e :: es) env = (false, eval e env) :: starEach es env := by
  cases e <;> first | rfl | (simp [notStar] at h)

theorem es_nil {Q : List V → HM → Prop} (h : Q [] H) : EsOK c d names [] m H X Q :=
  fun env A fr s E pos k hE => Calls.spliced_nil ⟨[], H, h, .nil, Tr.refl k.base k.objs⟩
theorem es_cons {e : Expr} {es : List Expr} {Q : List V → HM → Prop} (hn : notStar e = true)
    (h : EvOK c d names e m H X fun v H1 => EsOK c d names es m H1 X fun vs H2 => Q (v :: vs) H2) : EsOK c d names (e :: es) m H X Q := by
  intro env A fr s E pos k hE
  rw [starEach_cons hn]
  show wpAny (Md c) A (spliced ((false, eval e env) :: backTo pos (starEach es env))) _ _ _
  refine Calls.spliced_cons (h.use k hE fun v s1 a H1 h1 ra t1 k1 hE1 => h1.use k1 hE1 fun vs s2 as H2 h2 rs t2 _ _ => ?_)
  exact ⟨a :: as, H2, h2, .cons (ra.keep (t2.tup0 k1.objs)) rs, t1.trans t2⟩

theorem ev_tuple {es : List Expr} {n : Nat} {pos : Pos} {Q : V → HM → Prop} (h : EsOK c d names es m H X fun vs H1 => vs.length ≤ sizeLine ∧ Q (.tup vs) H1) : EvOK c d names (.Tuple es n pos) m H X Q := by
  intro env A fr s E k hE
  refine wpAny_Tuple_spliced (h.use k hE fun vs s1 as H1 h1 rs t1 k1 hE1 => ⟨by rw [rs.length]; exact h1.1, ?_⟩)
  have P := Tr.push (W := NoW) (t := s1.toks) k1.base k1.objs { cls := .type "tuple", data := .seq vs.toArray }
  exact ⟨.tup as, H1, h1.2, .tup (PTup.new _ _) (by simpa using rs.keep (tupKeep_push _ _)), t1.trans P⟩
theorem ev_list {es : List Expr} {pos : Pos} {Q : V → HM → Prop} (h : EsOK c d names es m H X fun vs H1 => vs.length ≤ sizeLine ∧ ∀ a, H1 a = none → Q (.ref a) (H1.set a (.list vs))) : EvOK c d names (.List es pos) m H X Q := by
  intro env A fr s E k hE
  refine wpAny_List_spliced (h.use k hE fun vs s1 as H1 h1 rs t1 k1 hE1 => ⟨by rw [rs.length]; exact h1.1, ?_⟩)
  have P := Tr.alloc (W := NoW) (t := s1.toks) k1.base k1.objs rs
  exact ⟨.ref _, _, h1.2 _ k1.objs.fresh, .ref _, t1.trans P⟩

/-! tests -/
/-- no head of isTrue's own -/
def plainTest : Expr → Bool
  | .UnaryOp .. | .BoolOp .. | .IfExp .. | .Compare .. => false
  | _ => true
theorem isTrue_plainTest {e : Expr} {env : Env} {whole : Sem Value} (h : plainTest e = true) : isTrue e env whole = (do let v ← whole; standAt e.pos; holding [v] (truthy v)) := by
  cases e <;> first | rfl | (simp [plainTest] at h)
theorem ts_value {e : Expr} {Q : Bool → HM → Prop} (hp : plainTest e = true) (h : EvOK c d names e m H X fun v H1 => OpBOK c d truthy v H1 X Q) : TsOK c d names e m H X Q := by
  intro env A fr s E k hE
  refine wpAny_isTrue_value (h.use k hE fun v s1 a H1 h1 ra t1 k1 hE1 => h1.use k1.toOk0 ra hE1 fun b s2 H2 hq t2 _ _ => ⟨H2, hq, t1.trans t2⟩) (isTrue_plainTest hp)
theorem ts_not {e : Expr} {pos : Pos} {Q : Bool → HM → Prop} (h : TsOK c d names e m H X fun b H1 => Q (!b) H1) : TsOK c d names (.UnaryOp .Not e pos) m H X Q := by
  intro env A fr s E k hE
  show wpAny (Md c) A (isTrue e env (eval e env) >>= fun b => pure (!b)) _ _ _
  exact wpAny_bind (h.use k hE fun b s1 H1 h1 t1 _ _ => wpAny_pure ⟨H1, h1, t1⟩)
def AllOK (c : Cx) (d : Nat) (names : Names) (op : BoolOp) (es : List Expr) (m : M) (H : HM) (X : XPost) (Q : Bool → HM → Prop) : Prop :=
  ∀ (env : Env) (A : Around) (fr : List Env) (s : Shared) (E : Value → Shared → Prop), Ok c d names env m H A fr s → (∀ e' s', XP c fr X NoW H s e' s' → E e' s') → wpAny (Md c) A (allTrue op es env) (PstB c H s Q) E s
theorem all_nil {op : BoolOp} {Q : Bool → HM → Prop} (h : Q (op == .And) H) : AllOK c d names op [] m H X Q :=
  fun env A fr s E k hE => wpAny_pure ⟨H, h, Tr.refl k.base k.objs⟩
theorem all_and {e : Expr} {es : List Expr} {Q : Bool → HM → Prop} (h : TsOK c d names e m H X fun b H1 => if b then AllOK c d names .And es m H1 X Q else Q false H1) : AllOK c d names .And (e :: es) m H X Q := by
  intro env A fr s E k hE
  refine wpAny_allTrue_And_cons (h.use k hE fun b s1 H1 h1 t1 k1 hE1 => ?_)
  cases b with
  | false => simp only [Bool.false_eq_true, if_false] at h1 ⊢; exact ⟨H1, h1, t1⟩
  | true => simp only [if_true] at h1 ⊢; exact wpAny_mono (h1 env A fr s1 E k1 hE1) (fun b s2 ⟨H2, hq, t2⟩ => ⟨H2, hq, t1.trans t2⟩) fun _ _ x => x
theorem all_or {e : Expr} {es : List Expr} {Q : Bool → HM → Prop} (h : TsOK c d names e m H X fun b H1 => if b then Q true H1 else AllOK c d names .Or es m H1 X Q) : AllOK c d names .Or (e :: es) m H X Q := by
  intro env A fr s E k hE
  refine wpAny_allTrue_Or_cons (h.use k hE fun b s1 H1 h1 t1 k1 hE1 => ?_)
  cases b with
  | true => simp only [if_true] at h1 ⊢; exact ⟨H1, h1, t1⟩
  | false => simp only [Bool.false_eq_true, if_false] at h1 ⊢; exact wpAny_mono (h1 env A fr s1 E k1 hE1) (fun b s2 ⟨H2, hq, t2⟩ => ⟨H2, hq, t1.trans t2⟩) fun _ _ x => x
theorem ts_bool {op : BoolOp} {es : List Expr} {pos : Pos} {Q : Bool → HM → Prop} (h : AllOK c d names op es m H X Q) : TsOK c d names (.BoolOp op es pos) m H X Q :=
  fun env A fr s E k hE => wpAny_isTrue_BoolOp (h env A fr s E k hE)

/-! the same as values -/
def BoolOK (c : Cx) (d : Nat) (names : Names) (op : BoolOp) (es : List Expr) (m : M) (H : HM) (X : XPost) (Q : V → HM → Prop) : Prop :=
  ∀ (env : Env) (A : Around) (fr : List Env) (s : Shared) (E : Value → Shared → Prop) (pos : Pos), Ok c d names env m H A fr s → (∀ e' s', XP c fr X NoW H s e' s' → E e' s') → wpAny (Md c) A (boolOp pos op (evalEach es env)) (Pst c H s Q) E s
theorem bool_one {op : BoolOp} {e : Expr} {Q : V → HM → Prop} (h : EvOK c d names e m H X Q) : BoolOK c d names op [e] m H X Q :=
  fun env A fr s E pos k hE => h env A fr s E k hE
theorem bool_and {e e' : Expr} {es : List Expr} {Q : V → HM → Prop} (h : EvOK c d names e m H X fun v H1 => OpBOK c d truthy v H1 X fun b H2 => if b then BoolOK c d names .And (e' :: es) m H2 X Q else Q v H2) : BoolOK c d names .And (e :: e' :: es) m H X Q := by
  intro env A fr s E pos k hE
  show wpAny (Md c) A (eval e env >>= fun v => standAt pos >>= fun _ => holding [v] (truthy v) >>= fun t => match BoolOp.And, t with | .And, false | .Or, true => pure v | _, _ => boolOp pos .And (evalEach (e' :: es) env)) _ _ _
  refine wpAny_bind (h.use k hE fun v s1 a H1 h1 ra t1 k1 hE1 => wpAny_bind (wpAny_standAt (wpAny_bind (wpAny_holding ?_))))
  refine h1.use k1.toOk0 ra hE1 fun b s2 H2 hq t2 k2 hE2 => ?_
  cases b with
  | false => simp only [Bool.false_eq_true, if_false] at hq ⊢; exact wpAny_pure ⟨a, H2, hq, ra.keep (t2.tup0 k1.objs), t1.trans t2⟩
  | true => simp only [if_true] at hq ⊢; exact wpAny_mono (hq env A fr s2 E pos (k1.step t2) hE2) (fun b s3 ⟨r, H3, hq, hr, t3⟩ => ⟨r, H3, hq, hr, t1.trans (t2.trans t3)⟩) fun _ _ x => x
theorem bool_or {e e' : Expr} {es : List Expr} {Q : V → HM → Prop} (h : EvOK c d names e m H X fun v H1 => OpBOK c d truthy v H1 X fun b H2 => if b then Q v H2 else BoolOK c d names .Or (e' :: es) m H2 X Q) : BoolOK c d names .Or (e :: e' :: es) m H X Q := by
  intro env A fr s E pos k hE
  show wpAny (Md c) A (eval e env >>= fun v => standAt pos >>= fun _ => holding [v] (truthy v) >>= fun t => match BoolOp.Or, t with | .And, false | .Or, true => pure v | _, _ => boolOp pos .Or (evalEach (e' :: es) env)) _ _ _
  refine wpAny_bind (h.use k hE fun v s1 a H1 h1 ra t1 k1 hE1 => wpAny_bind (wpAny_standAt (wpAny_bind (wpAny_holding ?_))))
  refine h1.use k1.toOk0 ra hE1 fun b s2 H2 hq t2 k2 hE2 => ?_
  cases b with
  | true => simp only [if_true] at hq ⊢; exact wpAny_pure ⟨a, H2, hq, ra.keep (t2.tup0 k1.objs), t1.trans t2⟩
  | false => simp only [Bool.false_eq_true, if_false] at hq ⊢; exact wpAny_mono (hq env A fr s2 E pos (k1.step t2) hE2) (fun b s3 ⟨r, H3, hq, hr, t3⟩ => ⟨r, H3, hq, hr, t1.trans (t2.trans t3)⟩) fun _ _ x => x
theorem ev_boolop {op : BoolOp} {es : List Expr} {pos : Pos} {Q : V → HM → Prop} (h : BoolOK c d names op es m H X Q) : EvOK c d names (.BoolOp op es pos) m H X Q :=
  fun env A fr s E k hE => h env A fr s E pos k hE
theorem ev_not {e : Expr} {pos : Pos} {Q : V → HM → Prop} (h : EvOK c d names e m H X fun v H1 => OpBOK c d truthy v H1 X fun b H2 => Q (.bool (!b)) H2) : EvOK c d names (.UnaryOp .Not e pos) m H X Q := by
  intro env A fr s E k hE
  show wpAny (Md c) A (eval e env >>= fun v => standAt pos >>= fun _ => holding [v] (unaryOp .Not v)) _ _ _
  refine wpAny_bind (h.use k hE fun v s1 a H1 h1 ra t1 k1 hE1 => wpAny_bind (wpAny_standAt (wpAny_holding (not_value ?_))))
  exact h1.use k1.toOk0 ra hE1 fun b s2 H2 hq t2 _ _ => ⟨_, H2, hq, .bool _, t1.trans t2⟩
theorem ev_neg {e : Expr} {pos : Pos} {Q : V → HM → Prop} (h : EvOK c d names e m H X fun v H1 => match v with | .int i => Q (.int (-i)) H1 | _ => False) : EvOK c d names (.UnaryOp .USub e pos) m H X Q := by
  intro env A fr s E k hE
  show wpAny (Md c) A (eval e env >>= fun v => standAt pos >>= fun _ => holding [v] (unaryOp .USub v)) _ _ _
  refine wpAny_bind (h.use k hE fun v s1 a H1 h1 ra t1 k1 hE1 => wpAny_bind (wpAny_standAt (wpAny_holding ?_)))
  cases ra <;> simp only at h1
  exact P.neg_int ⟨_, H1, h1, .int _ _, t1.toks⟩

end
end Mine

set_option autoImplicit false
set_option linter.unusedVariables false
namespace Mine
open PySem PyProof.Rows

/-! ## calls -/
def KeepOK (c : Cx) (f : Value) : Prop := ∀ (A : Around) (s : Shared) (E : Value → Shared → Prop) (Q : Keeper → Shared → Prop), c.base.StaysIn s.heap → (∀ k, Q k s) → wpAny (Md c) A (keeperOf f) Q E s
structure CxOK (c : Cx) : Prop where
  keep : ∀ x v, c.gl x = some v → KeepOK c v
  scr : ∃ items, c.base.IsList c.scr items ∧ Reps c c.base (c.ns.map .int) items.toList
  small : c.ns.length ≤ 63
  dig : c.base.NoDigits

theorem callWith_any {Mo : Model} {A : Around} {E : Value → Shared → Prop} {s : Shared} {pos : Pos} {f : Value} {first : List Value} {args : List (Bool × Sem Value)} {kws : List (Option Str × Sem Value)} {Q : Value → Shared → Prop} {P : Shared → Prop}
    (hk : ∀ s₁ (Q : Keeper → Shared → Prop), P s₁ → (∀ k, Q k s₁) → wpAny Mo A (keeperOf f) Q E s₁)
    (h : wpAny Mo A (evalArgs f true args kws) (fun a s₁ => P s₁ ∧ wpAny Mo A (call f (first ++ a.pos) a.kw) Q E s₁) E s) : wpAny Mo A (callWith pos f first args kws) Q E s := by
  unfold callWith
  refine wpAny_bind (wpAny_holding (wpAny_mono h (fun a s₁ h₁ => wpAny_bind (wpAny_standAt ?_)) fun _ _ x => x))
  have tail : ∀ {t : Sem Value}, wpAny Mo A t Q E s₁ → wpAny Mo A (t >>= fun r => holding [r] point >>= fun _ => pure r) Q E s₁ :=
    fun ht => wpAny_bind (wpAny_mono ht (fun r s₂ hr => wpAny_bind (wpAny_holding (wpAny_point (wpAny_pure hr)))) fun _ _ x => x)
  have marked : ∀ (mk : Value), wpAny Mo A (callMarked mk f (first ++ a.pos) a.kw) Q E s₁ := fun mk => by unfold callMarked; exact Calls.wpAny_keep h₁.2
  refine wpAny_bind (hk _ _ h₁.1 fun k => ?_)
  cases hs : (args.any (·.1) || kws.any (·.1.isNone)) <;> cases k <;> dsimp only <;>
    first
    | exact tail (marked _)
    | exact tail h₁.2
    | exact tail (operate_ h₁.2)
    | (split <;> first | exact tail h₁.2 | exact tail (marked _))

def callL : List Value → Sem Value
  | f :: vs => call f vs
  | [] => unsupported "mine"
def methL (id : String) : List Value → Sem Value := fun vs => call (.builtin id) vs

def Callable : V → Prop
  | .bi _ => True
  | .g _ => True
  | _ => False

theorem evalArgs_any {Mo : Model} {A : Around} {E : Value → Shared → Prop} {s : Shared} {f : Value} {es : List Expr} {env : Env} {pos : Pos} {Q : Args → Shared → Prop} (hn : es.all notStar = true)
    (h : wpAny Mo A (spliced (backTo pos (starEach es env))) (fun vs s' => Q ⟨vs, []⟩ s') E s) : wpAny Mo A (evalArgs f true (backTo pos (starEach es env)) []) Q E s := by
  cases es with
  | nil =>
    unfold evalArgs
    show wpAny Mo A (spliced [] >>= _) Q E s
    refine wpAny_bind (wpAny_mono h (fun vs s' h' => ?_) fun _ _ x => x)
    refine wpAny_bind (wpAny_pure ?_)
    refine wpAny_holding ?_
    exact wpAny_bind (wpAny_pure (wpAny_bind (wpAny_pure (wpAny_pure h'))))
  | cons e r =>
    simp only [List.all_cons, Bool.and_eq_true] at hn
    rw [starEach_cons hn.1] at h ⊢
    exact Calls.evalArgs_plain h

section
variable {c : Cx} {d : Nat} {names : Names} {m : M} {H : HM} {X : XPost}

theorem Rep.keeper (hc : CxOK c) {h : Heap} {fv : V} {w : Value} (r : Rep c h fv w) (hcl : Callable fv) : KeepOK c w := by
  cases r <;> try exact hcl.elim
  · rename_i b; cases b <;> exact fun A s E Q _ hQ => wpAny_pure (hQ _)
  · rename_i e; exact hc.keep _ _ e

/-- no attribute in the callee's place -/
def notAttr : Expr → Bool
  | .Attribute .. => false
  | _ => true
theorem eval_Call_plain {f : Expr} {args : List Expr} {kws : List Keyword} {pos : Pos} {env : Env} (h : notAttr f = true) :
    eval (.Call f args kws pos) env = (eval f env >>= fun fv => callWith pos fv [] (backTo pos (starEach args env)) (backToKw pos (keywordEach kws env))) := by
  cases f <;> first | rfl | (simp [notAttr] at h)

theorem ev_call (hc : CxOK c) {f : Expr} {args : List Expr} {pos : Pos} {Q : V → HM → Prop} (hf : notAttr f = true) (hn : args.all notStar = true)
    (h : EvOK c d names f m H X fun fv H1 => Callable fv ∧ EsOK c d names args m H1 X fun vs H2 => OpOK c d callL (fv :: vs) H2 X Q) : EvOK c d names (.Call f args [] pos) m H X Q := by
  intro env A fr s E k hE
  rw [eval_Call_plain hf]
  refine wpAny_bind (h.use k hE fun v s1 a H1 h1 ra t1 k1 hE1 => ?_)
  refine callWith_any (P := fun s => c.base.StaysIn s.heap) (fun s₁ Q hb hQ => (ra.keeper hc h1.1) A s₁ E Q hb hQ) (evalArgs_any hn ?_)
  refine h1.2.use k1 hE1 fun vs s2 as H2 h2 rs t2 k2 hE2 => ⟨k2.base, ?_⟩
  exact h2.use (vs := v :: vs) k2.toOk0 (.cons (ra.keep (t2.tup0 k1.objs)) rs) hE2 fun u s3 r H3 hq hr t3 _ _ => ⟨r, H3, hq, hr, t1.trans (t2.trans t3)⟩

/-- a method's road -/
structure MethOK (c : Cx) (H : HM) (ov : V) (name : Str) (id : String) : Prop where
  road : ∃ T, PlainAttrs T ∧ Slot T name id ∧ typeOf (.builtin id) = pure (.type "method_descriptor") ∧
    ∀ (s : Shared) (w : Value), Objs c H s.heap → Rep c s.heap ov w → s.TypeIs w T ∧ ∀ a, w = .ref a → ∃ ob, s.heap.get? a = some ob ∧ ob.dict = none

/-- no super() -/
def notSuper : Expr → Bool
  | .Call (.Name _ _) [] [] _ => false
  | _ => true
theorem attributeBase_plain {o : Expr} {name : Str} {env : Env} {whole : Sem Value} (h : notSuper o = true) : attributeBase o name env whole = whole := by
  unfold attributeBase
  split
  · simp [notSuper] at h
  · rfl

theorem backTo_all {es : List Expr} {env : Env} {pos : Pos} (hn : es.all notStar = true) : (backTo pos (starEach es env)).all (fun x => !x.1) = true := by
  induction es with
  | nil => rfl
  | cons e r ih =>
    simp only [List.all_cons, Bool.and_eq_true] at hn
    rw [starEach_cons hn.1]
    show (!false && (backTo pos (starEach r env)).all (fun x => !x.1)) = true
    rw [ih hn.2]; rfl
theorem backTo_any {es : List Expr} {env : Env} {pos : Pos} (hn : es.all notStar = true) : (backTo pos (starEach es env)).any (·.1) = false := by
  induction es with
  | nil => rfl
  | cons e r ih =>
    simp only [List.all_cons, Bool.and_eq_true] at hn
    rw [starEach_cons hn.1]
    show (false || (backTo pos (starEach r env)).any (·.1)) = false
    rw [ih hn.2]; rfl

theorem ev_meth {o : Expr} {name : Str} {apos pos : Pos} {args : List Expr} {Q : V → HM → Prop} (ho : notSuper o = true) (hn : args.all notStar = true) (hl : args.length < 30) (hline : (apos.endLine == pos.line) = true)
    (h : EvOK c d names o m H X fun ov H1 => ∃ id, MethOK c H1 ov name id ∧ EsOK c d names args m H1 X fun vs H2 => OpOK c d (methL id) (ov :: vs) H2 X Q) :
    EvOK c d names (.Call (.Attribute o name apos) args [] pos) m H X Q := by
  intro env A fr s E k hE
  have hpre : wpAny (Md c) A (eval o env) (fun v s1 => ∃ T id, PlainAttrs T ∧ Slot T name id ∧ typeOf (.builtin id) = pure (.type "method_descriptor") ∧ s1.TypeIs v T ∧ (∀ a, v = .ref a → ∃ ob, s1.heap.get? a = some ob ∧ ob.dict = none) ∧
      wpAny (Md c) A (callWith pos (.builtin id) [v] (backTo pos (starEach args env)) []) (Pst c H s Q) E s1) E s := by
    refine h.use k hE fun v s1 a H1 h1 ra t1 k1 hE1 => ?_
    obtain ⟨id, ⟨T, pa, sl, ty, hT⟩, h1⟩ := h1
    obtain ⟨hT1, hT2⟩ := hT s1 v k1.objs ra
    refine ⟨T, id, pa, sl, ty, hT1, hT2, ?_⟩
    refine Calls.callWith_builtin (backTo_any hn) (evalArgs_any hn (h1.use k1 hE1 fun vs s2 as H2 h2 rs t2 k2 hE2 => ?_))
    exact h2.use (vs := v :: vs) k2.toOk0 (.cons (ra.keep (t2.tup0 k1.objs)) rs) hE2 fun u s3 r H3 hq hr t3 _ _ => ⟨r, H3, hq, hr, t1.trans (t2.trans t3)⟩
  rw [arm_eval_Call, attributeBase_plain ho]
  refine wpAny_bind (wpAny_mono hpre (fun ov s₁ h₁ => ?_) fun _ _ e => e)
  obtain ⟨T, id, pa, slot, hty, hT, hnd, hcall⟩ := h₁
  refine wpAny_bind (wpAny_standAt ?_)
  have hform : methodCallForm (args.length + ([] : List Keyword).length) (backTo pos (starEach args env)) (backToKw pos (keywordEach [] env)) = true := by
    unfold methodCallForm
    rw [backTo_all hn]
    show (true && true && decide (args.length + 0 + 0 < 30)) = true
    simpa using hl
  have hpos : methodCallPos true o env apos pos = pure pos := by unfold methodCallPos; simp [hline]
  unfold methodCall
  rw [hform]
  refine wpAny_bind (wpAny_holding (getMethod_builtin hT pa slot hty hnd ?_))
  exact wpAny_bind (wpAny_of_eq hpos hcall)

end
end Mine

set_option autoImplicit false
set_option linter.unusedVariables false
namespace Mine
open PySem PyProof.Rows

section
variable {c : Cx} {d : Nat} {names : Names} {m : M} {H : HM} {X : XPost}

/-! ## subscripts -/
def getL : List Value → Sem Value
  | [o, i] => getItem o i
  | _ => unsupported "mine"
def Subable (c : Cx) (H : HM) (o : V) : Prop :=
  ∀ (s : Shared) (w : Value), c.base.StaysIn s.heap → Objs c H s.heap → Rep c s.heap o w → ∃ T id, s.TypeIs w T ∧ typeLookup (.type T) "__getitem__" = pure (some (.builtin id))
def notSlice : Expr → Bool
  | .Slice .. => false
  | _ => true
theorem subscripted_plain {e : Expr} {o i : Value} (h : notSlice e = true) : subscripted e false o i = operate [o, i] (getItem o i) := by
  cases e <;> first | rfl | (simp [notSlice] at h)
theorem ev_sub {value idx : Expr} {pos : Pos} {Q : V → HM → Prop} (hs : notSlice idx = true)
    (h : EvOK c d names value m H X fun o H1 => EvOK c d names idx m H1 X fun i H2 => Subable c H2 o ∧ OpOK c d getL [o, i] H2 X Q) : EvOK c d names (.Subscript value idx pos) m H X Q := by
  intro env A fr s E k hE
  refine Subscript_ (h.use k hE fun v s1 a H1 h1 ra t1 k1 hE1 => h1.use k1 hE1 fun w s2 b H2 h2 rb t2 k2 hE2 => ?_)
  have ra2 := ra.keep (t2.tup0 k1.objs)
  obtain ⟨T, id, hT, hl⟩ := h2.1 s2 v k2.base k2.objs ra2
  refine tail_any hT hl ?_ (subscripted_plain hs)
  exact h2.2.use (vs := [v, w]) k2.toOk0 (.cons ra2 (.one rb)) hE2 fun u s3 r H3 hq hr t3 _ _ => ⟨r, H3, hq, hr, t1.trans (t2.trans t3)⟩

/-! ## stores -/
def isStore (names : Names) (x : String) : Bool :=
  (match names.lookup (Str.ofString x) with | some .local => true | some .cell => true | _ => false)

section
variable {env : Env} {A : Around} {fr : List Env} {s : Shared} {E : Value → Shared → Prop}

theorem tupKeep_but {h h' : Heap} {a : Addr} {o : Obj} (ho : h.get? a = some o) (hc : ∀ it n, o.data ≠ .seq it n) (hs : Heap.SameBut a h h') : TupKeep h h' := fun x items t => by
  have hx : x ≠ a := fun q => by
    subst q
    obtain ⟨n, e⟩ := t
    rw [ho] at e; cases e; exact hc _ _ rfl
  exact t.at fun ob e => (hs.2 x hx).trans e
theorem objs_but {h h' : Heap} {a : Addr} (k : Objs c H h) (tk : TupKeep h h') (ha : H a = none) (hs : Heap.SameBut a h h') : Objs c H h' := fun x o e => by
  have hx : x ≠ a := fun q => by subst q; rw [ha] at e; cases e
  exact ⟨(k x o e).1.ext tk fun y hy => (hs.2 x hx).trans hy, (k x o e).2⟩
theorem tr_but {h' : Heap} {t : Nat} {a : Addr} {W : Addr → Prop} {oa oa' : Obj} (b : c.base.StaysIn s.heap) (k : Objs c H s.heap) (tk : TupKeep s.heap h') (ha : H a = none) (hb : c.base.get? a = none) (hw : W a) (hs : Heap.SameBut a s.heap h') (he : h'.get? a = some oa') :
    Tr c W H s H { s with heap := h', toks := t } := by
  refine ⟨⟨_, _, rfl⟩, fun x ob e => ?_, fun x ob e _ => ?_, fun x ob e hH hW => ?_, fun x ob e => ⟨(objs_but k tk ha hs x ob e).1, (k x ob e).2, fun h => by rw [e] at h; cases h⟩⟩
  · have hx : x ≠ a := fun q => by subst q; rw [hb] at e; cases e
    exact (hs.2 x hx).trans (b x ob e)
  · by_cases q : x = a
    · subst q; exact ⟨_, he⟩
    · exact ⟨ob, (hs.2 x q).trans e⟩
  · have hx : x ≠ a := fun q => by subst q; exact hW hw
    exact ⟨ob, (hs.2 x hx).trans e, .refl _⟩

theorem frOK_but {h h' : Heap} {a : Addr} (f : FrOK c fr H h) (hs : Heap.SameBut a h h') (hf : ∀ o, h.get? a = some o → IsD o → ∃ o', h'.get? a = some o' ∧ IsD o') : FrOK c fr H h' := by
  intro env he'
  obtain ⟨k, L, o, hf1, hb, hH, ho, hd⟩ := f env he'
  by_cases q : L = a
  · subst q
    obtain ⟨o', q1, q2⟩ := hf o ho hd
    exact ⟨k, L, o', hf1, hb, hH, q1, q2⟩
  · exact ⟨k, L, o, hf1, hb, hH, (hs.2 L q).trans ho, hd⟩

theorem store_ok {x : String} {v : V} {w : Value} {Q : Unit → Shared → Prop} (hx : isStore names x = true) (k : Ok c d names env m H A fr s) (hr : Rep c s.heap v w)
    (hQ : ∀ s', Ok c d names env (m.set x v) H A fr s' → Tr c (Wr names env) H s H s' → Q () s') : wpAny (Md c) A (storeName env (Str.ofString x) w) Q E s := by
  obtain ⟨mv, hns, hmv⟩ := k.vars.ns
  unfold isStore at hx
  cases hk : names.lookup (Str.ofString x) with
  | none => rw [hk] at hx; simp at hx
  | some kd =>
    rw [hk] at hx
    have K := k.eok.kinds _ _ hk
    cases kd <;> simp at hx
    · have hl := K.1 rfl
      refine wpAny_storeName_local hl hns (fun h' hns' hs' => ?_) (by rw [k.eok.fn]; rfl)
      obtain ⟨oL, es, ep, hoL, hdL, _⟩ := id hns
      obtain ⟨oL', es', ep', hoL', hdL', _⟩ := id hns'
      have tk : TupKeep s.heap h' := tupKeep_but hoL (fun it n q => by rw [hdL] at q; cases q) hs'
      have T : Tr c (Wr names env) H s H { s with heap := h', toks := s.toks + 1 } := tr_but (oa := oL) k.base k.objs tk k.eok.localsNew.2 k.eok.localsNew.1 (.inl rfl) hs' hoL'
      have cellNe : ∀ y a, env.cells.lookup y = some a → a ≠ env.locals := fun y a hp q => by
        obtain ⟨⟨v0, oc, hoc, hdc⟩, _⟩ := k.eok.cells y a hp
        rw [q, hoL] at hoc; cases hoc; rw [hdL] at hdc; cases hdc
      refine hQ _ ⟨⟨k.a, frOK_but k.fr hs' fun o _ _ => ⟨oL', hoL', es', ep', hdL'⟩, T.base, k.lim, T.objs'⟩, ⟨k.eok.kinds, k.eok.fn, k.eok.glob, k.eok.blt, k.eok.localsNew, fun y a hp => ?_, k.eok.has, k.eok.apart⟩, ⟨_, hns', fun y u hy hyl => ?_⟩, fun y u hy hyc => ?_⟩ T
      · obtain ⟨⟨v0, hc⟩, hb, hH⟩ := k.eok.cells y a hp
        exact ⟨⟨v0, hc.sameBut hs' (cellNe y a hp)⟩, hb, hH⟩
      · rw [M.get_set] at hy
        by_cases q : y = x
        · subst q
          rw [if_pos rfl] at hy; cases hy
          exact ⟨w, by simp, hr.keep tk⟩
        · rw [if_neg q] at hy
          obtain ⟨w', h1, h2⟩ := hmv y u hy hyl
          refine ⟨w', ?_, h2.keep tk⟩
          rw [if_neg (fun e => q (ofString_inj e))]; exact h1
      · rw [M.get_set] at hy
        by_cases q : y = x
        · subst q
          rw [hl] at hyc; rcases hyc with e | e <;> cases e
        · rw [if_neg q] at hy
          obtain ⟨a, w', h1, h2, h3⟩ := k.vars.cell y u hy hyc
          exact ⟨a, w', h1, h2.sameBut hs' (cellNe _ _ h1), h3.keep tk⟩
    · have hl := K.2.1 rfl
      obtain ⟨ca, hca⟩ := k.eok.has _ (.inl hl)
      have hmem := mem_of_lookup hca
      obtain ⟨⟨v0, hc0⟩, hbc, hHc⟩ := k.eok.cells _ _ hca
      refine wpAny_storeName_cell k.eok.fn hl hca hc0 fun h' hc' hs' => ?_
      obtain ⟨oc, hoc, hdc⟩ := id hc0
      obtain ⟨oc', hoc', hdc'⟩ := id hc'
      have tk : TupKeep s.heap h' := tupKeep_but hoc (fun it n q => by rw [hdc] at q; cases q) hs'
      have T : Tr c (Wr names env) H s H { s with heap := h', toks := s.toks } := tr_but (oa := oc) k.base k.objs tk hHc hbc (.inr ⟨_, hk, hca⟩) hs' hoc'
      have hLne : env.locals ≠ ca := fun q => by
        obtain ⟨oL, es, ep, hoL, hdL, _⟩ := id hns
        rw [q, hoc] at hoL; cases hoL; rw [hdc] at hdL; cases hdL
      refine hQ _ ⟨⟨k.a, frOK_but k.fr hs' fun o ho ⟨es, n, q⟩ => ?_, T.base, k.lim, T.objs'⟩, ⟨k.eok.kinds, k.eok.fn, k.eok.glob, k.eok.blt, k.eok.localsNew, fun y a hp => ?_, k.eok.has, k.eok.apart⟩, ⟨mv, hns.sameBut hs' hLne, fun y u hy hyl => ?_⟩, fun y u hy hyc => ?_⟩ T
      · rw [hoc] at ho; cases ho; rw [hdc] at q; cases q
      · obtain ⟨⟨v1, hc⟩, hb, hH⟩ := k.eok.cells y a hp
        refine ⟨?_, hb, hH⟩
        by_cases q : a = ca
        · rw [q]; exact ⟨_, hc'⟩
        · exact ⟨v1, hc.sameBut hs' q⟩
      · rw [M.get_set] at hy
        by_cases q : y = x
        · subst q; rw [hl] at hyl; cases hyl
        · rw [if_neg q] at hy
          obtain ⟨w', h1, h2⟩ := hmv y u hy hyl
          exact ⟨w', h1, h2.keep tk⟩
      · rw [M.get_set] at hy
        by_cases q : y = x
        · subst q
          rw [if_pos rfl] at hy; cases hy
          exact ⟨ca, w, hca, hc', hr.keep tk⟩
        · rw [if_neg q] at hy
          obtain ⟨a, w', h1, h2, h3⟩ := k.vars.cell y u hy hyc
          refine ⟨a, w', h1, h2.sameBut hs' fun e => ?_, h3.keep tk⟩
          subst e
          exact q (ofString_inj (k.eok.apart _ _ _ h1 hca))
end

/-! ## statements -/
inductive Fl where
  | next
  | ret (v : V)
inductive RepF (c : Cx) (h : Heap) : Fl → Flow → Prop
  | next : RepF c h .next .next
  | ret {v : V} {w : Value} : Rep c h v w → RepF c h (.ret v) (.ret w)

def PstS (c : Cx) (d : Nat) (names : Names) (env : Env) (A : Around) (fr : List Env) (H : HM) (s : Shared) (Q : Fl → M → HM → Prop) : Flow → Shared → Prop :=
  fun f s' => ∃ fl m' H', Q fl m' H' ∧ RepF c s'.heap fl f ∧ Tr c (Wr names env) H s H' s' ∧ Ok c d names env m' H' A fr s'

def StOK (c : Cx) (d : Nat) (names : Names) (st : Stmt) (m : M) (H : HM) (X : XPost) (Q : Fl → M → HM → Prop) : Prop :=
  ∀ (env : Env) (A : Around) (fr : List Env) (s : Shared) (E : Value → Shared → Prop), Ok c d names env m H A fr s → (∀ e' s', XP c fr X (Wr names env) H s e' s' → E e' s') →
    wpAny (Md c) A (exec st env) (PstS c d names env A fr H s Q) E s
def SsOK (c : Cx) (d : Nat) (names : Names) (ss : List Stmt) (m : M) (H : HM) (X : XPost) (Q : Fl → M → HM → Prop) : Prop :=
  ∀ (env : Env) (A : Around) (fr : List Env) (s : Shared) (E : Value → Shared → Prop), Ok c d names env m H A fr s → (∀ e' s', XP c fr X (Wr names env) H s e' s' → E e' s') →
    wpAny (Md c) A (execs ss env) (PstS c d names env A fr H s Q) E s

theorem XP.noW {fr : List Env} {W : Addr → Prop} {s s' : Shared} {e : Value} (y : XP c fr X NoW H s e s') : XP c fr X W H s e s' := y.mono (fun _ f => f.elim) fun _ _ h => h
theorem Tr.noW {W : Addr → Prop} {H1 : HM} {s s' : Shared} (y : Tr c NoW H s H1 s') : Tr c W H s H1 s' := y.mono fun _ f => f.elim

theorem ss_nil {Q : Fl → M → HM → Prop} (h : Q .next m H) : SsOK c d names [] m H X Q :=
  fun env A fr s E k hE => wpAny_execs_nil ⟨.next, m, H, h, .next, Tr.refl k.base k.objs, k⟩
theorem ss_cons {st : Stmt} {ss : List Stmt} {Q : Fl → M → HM → Prop}
    (h : StOK c d names st m H X fun fl m1 H1 => match fl with | .next => SsOK c d names ss m1 H1 X Q | .ret v => Q (.ret v) m1 H1) : SsOK c d names (st :: ss) m H X Q := by
  intro env A fr s E k hE
  refine wpAny_execs_cons (wpAny_mono (h env A fr s E k hE) ?_ fun _ _ x => x)
  rintro f s1 ⟨fl, m1, H1, hq, rf, t1, k1⟩
  cases rf with
  | next =>
    refine wpAny_mono (hq env A fr s1 E k1 fun e' s' x => hE _ _ (x.lift t1)) ?_ fun _ _ x => x
    rintro f2 s2 ⟨fl2, m2, H2, hq2, rf2, t2, k2⟩
    exact ⟨fl2, m2, H2, hq2, rf2, t1.trans t2, k2⟩
  | ret r => exact ⟨_, m1, H1, hq, .ret r, t1, k1⟩

theorem swapsWith_of {e : Expr} {t : Option Expr} {l : Nat} {env : Env} (h : (match e with | .ListComp .. | .SetComp .. | .DictComp .. => false | _ => true) = true) : swapsWith e t l env = pure false := by
  unfold swapsWith
  cases e <;> first | rfl | (simp at h)
def notComp : Expr → Bool
  | .ListComp .. | .SetComp .. | .DictComp .. => false
  | _ => true

theorem st_assign {x : String} {px pos : Pos} {e : Expr} {Q : Fl → M → HM → Prop} (hx : isStore names x = true) (hc : notComp e = true)
    (h : EvOK c d names e m H X fun v H1 => Q .next (m.set x v) H1) : StOK c d names (.Assign [.Name (Str.ofString x) px] e pos) m H X Q := by
  intro env A fr s E k hE
  refine wpAny_Assign_Name (h.use k (fun e' s' x => hE _ _ x.noW) fun v s1 a H1 h1 ra t1 k1 hE1 => ?_) (swapsWith_of hc)
  exact store_ok hx k1 ra fun s2 k2 t2 => ⟨.next, _, H1, h1, .next, t1.noW.trans t2, k2⟩

theorem st_ret {e : Expr} {pos : Pos} {Q : Fl → M → HM → Prop} (h : EvOK c d names e m H X fun v H1 => Q (.ret v) m H1) : StOK c d names (.Return (some e) pos) m H X Q := by
  intro env A fr s E k hE
  exact wpAny_Return_some (h.use k (fun e' s' x => hE _ _ x.noW) fun v s1 a H1 h1 ra t1 k1 hE1 => ⟨_, m, H1, h1, .ret ra, t1.noW, k1⟩)

theorem st_if {t : Expr} {a b : List Stmt} {pos : Pos} {Q : Fl → M → HM → Prop} (h : TsOK c d names t m H X fun b' H1 => if b' then SsOK c d names a m H1 X Q else SsOK c d names b m H1 X Q) : StOK c d names (.If t a b pos) m H X Q := by
  intro env A fr s E k hE
  refine wpAny_If (h.use k (fun e' s' x => hE _ _ x.noW) fun b' s1 H1 h1 t1 k1 hE1 => ?_)
  have hE' : ∀ e' s', XP c fr X (Wr names env) H1 s1 e' s' → E e' s' := fun e' s' x => hE _ _ (x.lift t1.noW)
  have fin : ∀ {l : List Stmt}, SsOK c d names l m H1 X Q → wpAny (Md c) A (execs l env) (PstS c d names env A fr H s Q) E s1 := fun hl =>
    wpAny_mono (hl env A fr s1 E k1 hE') (fun f s2 ⟨fl, m2, H2, hq, rf, t2, k2⟩ => ⟨fl, m2, H2, hq, rf, t1.noW.trans t2, k2⟩) fun _ _ x => x
  cases b' with
  | true => simp only [if_true] at h1 ⊢; exact fin h1
  | false => simp only [Bool.false_eq_true, if_false] at h1 ⊢; exact fin h1

theorem st_pass {pos : Pos} {Q : Fl → M → HM → Prop} (h : Q .next m H) : StOK c d names (.Pass pos) m H X Q :=
  fun env A fr s E k hE => wpAny_Pass ⟨.next, m, H, h, .next, Tr.refl k.base k.objs, k⟩

theorem st_expr {e : Expr} {pos : Pos} {Q : Fl → M → HM → Prop} (hc : notComp e = true) (h : EvOK c d names e m H X fun v H1 => Q .next m H1) : StOK c d names (.Expr e pos) m H X Q := by
  intro env A fr s E k hE
  have hi : interactive env = false := by unfold interactive; rw [k.eok.fn]; rfl
  rw [exec_Expr env e pos hi (swapsWith_of hc)]
  refine wpAny_bind (wpAny_standAt (wpAny_bind (h.use k (fun e' s' x => hE _ _ x.noW) fun v s1 a H1 h1 ra t1 k1 hE1 => ?_)))
  have fin : PstS c d names env A fr H s Q .next s1 := ⟨.next, m, H1, h1, .next, t1.noW, k1⟩
  unfold dropValue
  split
  · exact wpAny_pure fin
  · exact wpAny_bind (wpAny_standAt (wpAny_bind (wpAny_runValue (codeAny_builtin entry_let_go (show wpAny _ _ (PySem.ret .none) _ _ s1 from wpAny_pure (wpAny_pure fin))))))
  · exact wpAny_pure fin

end
end Mine

set_option autoImplicit false
set_option linter.unusedVariables false
namespace Mine
open PySem PyProof.Rows

/-! ## the program's own functions -/
structure FnOK (c : Cx) (f : String) (ps : List String) (names : Names) (body : List Stmt) : Prop where
  fn : ∃ (a : Addr) (o : Obj) (fd : FuncData), c.gl f = some (.ref a) ∧ c.base.get? a = some o ∧ o.data = .func fd ∧ fd.body = .stmts body ∧ fd.scope.names = names ∧ c.base.CodeRec fd.code fd.qualname ∧
    fd.closure = [] ∧ fd.globals = mainGlobals ∧ fd.builtins = builtinsNs ∧ fd.scope.isCoroutine = false ∧ fd.scope.isGenerator = false ∧ fd.scope.kind = .function ∧
    (∀ vals : List Value, vals.length = ps.length → bindArgs fd ⟨vals, []⟩ = pure ((ps.map Str.ofString).zip vals))
  par : ∀ p ∈ ps, isStore names p = true
  free : ∀ x, names.lookup x ≠ some .free
  nodup : ps.Nodup

theorem cellsFrom_has : ∀ (names : Names) (n : Nat) (acc : List (Str × Addr)) (x : Str), (names.lookup x = some .cell ∨ (acc.lookup x).isSome = true) → ((cellsFrom n names acc).lookup x).isSome = true
  | [], n, acc, x, h => by
    rcases h with h | h
    · simp at h
    · exact h
  | (y, k) :: r, n, acc, x, h => by
    unfold cellsFrom
    split
    · rename_i hk
      refine cellsFrom_has r (n + 1) _ x ?_
      by_cases q : x = y
      · right; simp [q]
      · have q' : (x == y) = false := by simpa using q
        rcases h with h | h
        · left; rw [List.lookup_cons, q'] at h; exact h
        · right; rw [List.lookup_cons, q']; exact h
    · rename_i hk
      refine cellsFrom_has r n acc x ?_
      rcases h with h | h
      · rw [List.lookup_cons] at h
        by_cases q : x = y
        · simp [q] at h; subst h; simp at hk
        · have q' : (x == y) = false := by simpa using q
          rw [q'] at h; exact .inl h
      · exact .inr h

theorem bindL_get (kf : Str → Option NameKind) : ∀ (ps : List Str) (vals : List Value) (m : Str → Option Value) (x : Str), x ∉ ps → bindL kf (ps.zip vals) m x = m x
  | [], vals, m, x, h => by simp [bindL]
  | p :: ps, [], m, x, h => by simp [bindL]
  | p :: ps, v :: vals, m, x, h => by
    simp only [List.zip_cons_cons, bindL]
    rw [bindL_get kf ps vals _ x (fun q => h (List.mem_cons_of_mem _ q))]
    have : x ≠ p := fun q => h (q ▸ List.mem_cons_self)
    split <;> simp [this]
theorem bindC_get (kf : Str → Option NameKind) : ∀ (ps : List Str) (vals : List Value) (m : Str → Option Value) (x : Str), x ∉ ps → bindC kf (ps.zip vals) m x = m x
  | [], vals, m, x, h => by simp [bindC]
  | p :: ps, [], m, x, h => by simp [bindC]
  | p :: ps, v :: vals, m, x, h => by
    simp only [List.zip_cons_cons, bindC]
    rw [bindC_get kf ps vals _ x (fun q => h (List.mem_cons_of_mem _ q))]
    have : x ≠ p := fun q => h (q ▸ List.mem_cons_self)
    split <;> simp [this]

theorem zip_get {c : Cx} {h : Heap} (kf : Str → Option NameKind) : ∀ (ps : List String) (args : List V) (vals : List Value) (ml mc : Str → Option Value) (x : String) (v : V), ps.Nodup → Reps c h args vals → M.get (ps.zip args) x = some v →
    (kf (Str.ofString x) = some .local → ∃ w, bindL kf ((ps.map Str.ofString).zip vals) ml (Str.ofString x) = some w ∧ Rep c h v w) ∧
    (kf (Str.ofString x) ≠ some .local → ∃ w, bindC kf ((ps.map Str.ofString).zip vals) mc (Str.ofString x) = some w ∧ Rep c h v w)
  | [], args, vals, ml, mc, x, v, nd, r, e => by simp [M.get] at e
  | p :: ps, [], vals, ml, mc, x, v, nd, r, e => by simp [M.get] at e
  | p :: ps, a :: args, w :: vals, ml, mc, x, v, nd, .cons ra rs, e => by
    simp only [List.zip_cons_cons, M.get] at e
    have nd' := List.nodup_cons.mp nd
    simp only [List.map_cons, List.zip_cons_cons, bindL, bindC]
    by_cases q : x = p
    · subst q
      rw [if_pos rfl] at e; cases e
      have hn : Str.ofString x ∉ ps.map Str.ofString := fun hm => by
        obtain ⟨y, hy, e⟩ := List.mem_map.mp hm
        exact nd'.1 (ofString_inj e ▸ hy)
      rw [bindL_get _ _ _ _ _ hn, bindC_get _ _ _ _ _ hn]
      exact ⟨fun hk => ⟨w, by simp [hk], ra⟩, fun hk => ⟨w, by simp [hk], ra⟩⟩
    · rw [if_neg q] at e
      exact zip_get kf ps args vals _ _ x v nd'.2 rs e

theorem Tr.leave {c : Cx} {W : Addr → Prop} {H H' : HM} {s s₁ s' : Shared} (x : Tr c NoW H s H s₁) (y : Tr c W H s₁ H' s') (hW : ∀ b o, s.heap.get? b = some o → ¬ W b) : Tr c NoW H s H' s' where
  same := by obtain ⟨h1, t1, rfl⟩ := x.same; obtain ⟨h2, t2, rfl⟩ := y.same; exact ⟨h2, t2, rfl⟩
  base := y.base
  grow := fun b o e _ => by obtain ⟨o1, e1⟩ := x.grow b o e fun f => f; exact y.grow b o1 e1 (hW b o e)
  keep := fun b o e hH _ => by
    obtain ⟨o1, e1, z1⟩ := x.keep b o e hH fun f => f
    obtain ⟨o2, e2, z2⟩ := y.keep b _ e1 hH (hW b o e)
    exact ⟨o2, e2, z1.trans z2⟩
  objs := fun a o e => by
    obtain ⟨a1, a2, a3⟩ := y.objs a o e
    refine ⟨a1, a2, fun hn => .inr ?_⟩
    cases q : s.heap.get? a with
    | none => rfl
    | some o0 =>
      obtain ⟨o1, e1⟩ := x.grow a o0 q fun f => f
      rcases a3 hn with h | h
      · exact absurd h (hW a o0 q)
      · rw [h] at e1; cases e1

theorem AOK.deeper {d : Nat} {A : Around} {fr : List Env} (k : AOK (d + 1) A fr) (env : Env) : AOK d (A.deeper env) (env :: fr) := by
  obtain ⟨h1, h2, h3, h4⟩ := k
  refine ⟨?_, ?_, h3, ?_⟩
  · show A.depth + 1 + d < _; omega
  · show A.units + 3 + 20 * d + 20 < _; omega
  · show A.frames.map _ = _; rw [h4]; rfl

section
variable {c : Cx} {d : Nat} {H : HM} {X : XPost}
theorem Tr.keepAll {W : Addr → Prop} {s s' : Shared} (b : c.base.StaysIn s.heap) (k : Objs c H s.heap) (hk : ∀ b o, s.heap.get? b = some o → s'.heap.get? b = some o) (hs : ∃ h' tk, s' = { s with heap := h', toks := tk }) : Tr c W H s H s' :=
  ⟨hs, fun a o e => hk a o (b a o e), fun a o e _ => ⟨o, hk a o e⟩, fun a o e _ _ => ⟨o, hk a o e, .refl o⟩,
    fun a o e => ⟨(k a o e).1.ext (fun x it t => t.at fun ob q => hk _ _ q) fun ob q => hk _ _ q, (k a o e).2, fun h => by rw [e] at h; cases h⟩⟩

/-- a call of a def that raises nothing, as code -/
theorem call_code {A : Around} {fr : List Env} {s : Shared} {a : Addr} {vals : List Value} {f : String} {ps : List String} {names : Names} {body : List Stmt} {args : List V} {Q : V → HM → Prop} (F : FnOK c f ps names body) (hlen : args.length = ps.length)
    (hfa : c.gl f = some (.ref a)) (k : Ok0 c (d + 1) H A fr s) (rs : Reps c s.heap args vals)
    (h : SsOK c d names body (ps.zip args) H (fun _ _ => False) fun fl m' H' => match fl with | .ret v => Q v H' | .next => Q .none H') :
    codeAny (Md c) A (.call (.ref a) ⟨vals, []⟩) (fun r s' => ∃ v w H', r = .ok (.ret w) ∧ Q v H' ∧ Rep c s'.heap v w ∧ Tr c NoW H s H' s') s := by
  obtain ⟨⟨a', o, fd, hgl, ho, hdata, hbody, hnames, hcd, hclo, hglob, hblt, hco, hgen, hkind, hbind⟩, hpar, hfree, hnd⟩ := F
  rw [hgl] at hfa; cases hfa
  have hlv : vals.length = ps.length := rs.length.trans hlen
  refine codeAny_call_cells (binds := (ps.map Str.ofString).zip vals) (Nat.lt_of_le_of_lt (Nat.le_add_right _ _) k.a.depth) (k.base _ _ ho) hdata (k.lim.keeps fun b o e => k.base b o e) (hcd.keeps fun b o e => k.base b o e) hbody (hbind vals hlv) hclo ?_ (fun s₁ ic => ?_) hco hgen hkind
  · intro x hx
    obtain ⟨x1, x2⟩ := x
    obtain ⟨p, hp, e⟩ := List.mem_map.mp (List.of_mem_zip hx).1
    subst e
    have := hpar p hp
    unfold isStore at this
    rw [hnames]
    cases hl : names.lookup (Str.ofString p) with
    | none => rw [hl] at this; simp at this
    | some kd =>
      rw [hl] at this
      cases kd <;> simp at this
      · exact .inl rfl
      · exact .inr ⟨rfl, cellsFrom_has _ _ _ _ (.inl hl)⟩
  · have L0 : (callEnvC fd s.heap.objs.size a).locals = s.heap.objs.size := rfl
    generalize he : callEnvC fd s.heap.objs.size a = env at ic L0 ⊢
    have T0 : Tr c NoW H s H s₁ := Tr.keepAll k.base k.objs ic.toInCall.keep ic.toInCall.same
    have tk := T0.tup0 k.objs
    have hsc : env.scope = fd.scope := by rw [← he]; rfl
    have hkf : ∀ x, env.kindOf x = names.lookup x := fun x => by unfold Env.kindOf; rw [hsc, hnames]
    have hcells : env.cells = cellsFrom (s.heap.objs.size + 1) fd.scope.names [] := by rw [← he]; rfl
    obtain ⟨oL, es, ep, hoL, hdL, _⟩ := id ic.toInCall.ns
    have hLb : c.base.get? env.locals = none := by rw [L0]; exact base_fresh k.base
    have hLH : H env.locals = none := by rw [L0]; exact k.objs.fresh
    have big : ∀ a, s.heap.objs.size ≤ a → s.heap.get? a = none := fun a ha => by
      cases q : s.heap.get? a with
      | none => rfl
      | some ob => exact absurd (Heap.lt_size q) (Nat.not_lt.mpr ha)
    have cellBig : ∀ y a, env.cells.lookup y = some a → s.heap.get? a = none := fun y a hp => big _ (Nat.le_of_lt (L0 ▸ ic.above y a (mem_of_lookup hp)))
    have baseNone : ∀ a, s.heap.get? a = none → c.base.get? a = none := fun a ha => by
      cases q : c.base.get? a with
      | none => rfl
      | some ob => rw [k.base a ob q] at ha; cases ha
    have HNone : ∀ a, s.heap.get? a = none → H a = none := fun a ha => by
      cases q : H a with
      | none => rfl
      | some ob => obtain ⟨o, e⟩ := (k.objs a ob q).1.some; rw [ha] at e; cases e
    have k₁ : Ok c d names env (ps.zip args) H (A.deeper env) (env :: fr) s₁ := by
      refine ⟨⟨k.a.deeper env, ?_, T0.base, k.lim, T0.objs'⟩, ⟨fun x kd e => ?_, by rw [hsc]; exact hkind, ?_, ?_, ⟨hLb, hLH⟩, fun y a hp => ⟨⟨_, ic.cell y a hp⟩, baseNone _ (cellBig y a hp), HNone _ (cellBig y a hp)⟩, fun x hx => ?_, fun x y a h1 h2 => name_of_addr ic.apart (mem_of_lookup h1) (mem_of_lookup h2)⟩, ⟨_, ic.toInCall.ns, fun x v hv hl => ?_⟩, fun x v hv hl => ?_⟩
      · intro e' he'
        rcases List.mem_cons.mp he' with rfl | he'
        · refine ⟨by rw [hsc, hkind]; decide, e'.locals, oL, ?_, hLb, hLH, hoL, es, ep, hdL⟩
          rw [← he]; rfl
        · exact (k.fr.step T0 fun _ _ _ _ f => f.elim) e' he'
      · rw [hkf]
        refine ⟨fun q => q ▸ e, fun q => q ▸ e, fun q => .inl (q ▸ e), fun q => q ▸ e⟩
      · rw [← he]; exact hglob
      · rw [← he]; exact hblt
      · rw [hkf] at hx
        rcases hx with hx | hx
        · rw [← hnames] at hx
          have := cellsFrom_has fd.scope.names (s.heap.objs.size + 1) [] x (.inl hx)
          rw [hcells]
          exact Option.isSome_iff_exists.mp this
        · exact absurd hx (hfree x)
      · obtain ⟨w', h1, h2⟩ := (zip_get (c := c) (h := s₁.heap) env.kindOf ps args vals (fun _ => none) (fun _ => none) x v hnd (rs.keep tk) hv).1 hl
        exact ⟨w', h1, h2⟩
      · have hnl : env.kindOf (Str.ofString x) ≠ some .local := by rcases hl with e | e <;> rw [e] <;> decide
        obtain ⟨w', h1, h2⟩ := (zip_get (c := c) (h := s₁.heap) env.kindOf ps args vals (fun _ => none) (fun _ => none) x v hnd (rs.keep tk) hv).2 hnl
        have hpx : x ∈ ps := by
          have : ∀ (ps : List String) (args : List V), M.get (ps.zip args) x = some v → x ∈ ps := by
            intro ps
            induction ps with
            | nil => intro args e; simp [M.get] at e
            | cons p r ih =>
              intro args e
              cases args with
              | nil => simp [M.get] at e
              | cons a as =>
                simp only [List.zip_cons_cons, M.get] at e
                split at e
                · rename_i q; rw [q]; exact List.mem_cons_self
                · exact List.mem_cons_of_mem _ (ih _ e)
          exact this ps args hv
        have hs := hpar x hpx
        unfold isStore at hs
        rw [hkf] at hl
        have hcell : names.lookup (Str.ofString x) = some .cell := by
          rcases hl with e | e
          · exact e
          · rw [e] at hs; simp at hs
        have := cellsFrom_has fd.scope.names (s.heap.objs.size + 1) [] (Str.ofString x) (.inl (by rw [hnames]; exact hcell))
        rw [← hcells] at this
        obtain ⟨ca, hca⟩ := Option.isSome_iff_exists.mp this
        exact ⟨ca, w', hca, h1 ▸ ic.cell _ _ hca, h2⟩
    have hWr : ∀ b o, s.heap.get? b = some o → ¬ Wr names env b := fun b o e q => by
      rcases q with q | ⟨y, _, q⟩
      · rw [q, L0, get_size_none] at e; cases e
      · rw [cellBig y b q] at e; cases e
    refine wpAny_mono (h env (A.deeper env) (env :: fr) s₁ (fun _ _ => False) k₁ fun e' s' x => ?_) ?_ fun _ _ f => f.elim
    · obtain ⟨_, _, _, _, f, _⟩ := x; exact f
    · rintro fl s' ⟨fl', m', H', hq, rf, t, k'⟩
      have TT := T0.leave t hWr
      cases rf with
      | next => exact ⟨.none, _, H', rfl, hq, .none, TT⟩
      | ret r => exact ⟨_, _, H', rfl, hq, r, TT⟩

/-- a call of a def that raises nothing -/
theorem call_fn {f : String} {ps : List String} {names : Names} {body : List Stmt} {args : List V} {Q : V → HM → Prop} (F : FnOK c f ps names body) (hlen : args.length = ps.length)
    (h : SsOK c d names body (ps.zip args) H (fun _ _ => False) fun fl m' H' => match fl with | .ret v => Q v H' | .next => Q .none H') :
    OpOK c (d + 1) callL (.g f :: args) H X Q := by
  intro A fr s E vs k hr hE
  obtain ⟨a, o, fd, hgl, _⟩ := id F.fn
  cases hr with
  | cons r0 rs =>
    rename_i w vals
    cases r0 with
    | g e0 =>
      rw [hgl] at e0; cases e0
      show wpAny (Md c) A (call (.ref a) vals) _ _ _
      refine wpAny_call (codeAny_mono (call_code F hlen hgl k rs h) fun r s' hr => ?_)
      obtain ⟨v, w, H', rfl, q, r, t⟩ := hr
      exact ⟨v, H', q, r, t⟩
end
end Mine

set_option autoImplicit false
set_option linter.unusedVariables false
namespace Mine
open PySem PyProof.Rows

def FldAt (h : Heap) (b : Addr) : Prop := ∃ o vs, h.get? b = some o ∧ o.data = .fields vs

section
variable {c : Cx} {d : Nat} {names : Names} {m : M} {H : HM} {X : XPost}

theorem Ok.stepW {env : Env} {H1 : HM} {A : Around} {fr : List Env} {s s1 : Shared} {W : Addr → Prop} (k : Ok c d names env m H A fr s) (x : Tr c W H s H1 s1) (hW : ∀ b, W b → FldAt s.heap b) :
    Ok c d names env m H1 A fr s1 := by
  have notD : ∀ b o, s.heap.get? b = some o → (∀ vs, o.data ≠ .fields vs) → ¬ W b := fun b o e h q => by
    obtain ⟨o', vs, e', hd⟩ := hW b q
    rw [e] at e'; cases e'; exact h _ hd
  have tk : TupKeep s.heap s1.heap := x.tup k.objs fun a items ⟨n, e⟩ => notD a _ e (fun vs q => nomatch q)
  obtain ⟨mv, hns, hmv⟩ := k.vars.ns
  obtain ⟨oL, es, ep, hoL, hdL, _⟩ := id hns
  have wL : ¬ W env.locals := notD _ _ hoL (fun vs q => by rw [hdL] at q; cases q)
  have kc : ∀ y a, env.cells.lookup y = some a → ∀ o, s.heap.get? a = some o → ∃ o', s1.heap.get? a = some o' ∧ Slt o o' := fun y a hp o ho => by
    obtain ⟨⟨v, oc, hoc, hdc⟩, _, hH⟩ := k.eok.cells y a hp
    exact x.keep _ _ ho hH (notD _ _ hoc fun vs q => by rw [hdc] at q; cases q)
  refine ⟨⟨k.a, k.fr.step x (fun e he L hf hw => ?_), x.base, k.lim, x.objs'⟩, ?_, ?_⟩
  · obtain ⟨_, L', o, hf', _, _, ho, es, n, hd⟩ := k.fr e he
    rw [hf] at hf'; cases hf'
    exact absurd hw (notD _ _ ho fun vs q => by rw [hd] at q; cases q)
  · refine ⟨k.eok.kinds, k.eok.fn, k.eok.glob, k.eok.blt, ⟨k.eok.localsNew.1, x.new hoL k.eok.localsNew.2 wL⟩, fun y a hp => ?_, k.eok.has, k.eok.apart⟩
    obtain ⟨⟨v, hc⟩, hb, hH⟩ := k.eok.cells y a hp
    have hc' := hc
    obtain ⟨oc, hoc, hdc0⟩ := hc'
    exact ⟨⟨v, isCell_slots hc fun o ho => kc y a hp o ho⟩, hb, x.new hoc hH (notD _ _ hoc fun vs q => by rw [hdc0] at q; cases q)⟩
  · refine ⟨⟨mv, ns_slots hns fun o ho => x.keep _ _ ho k.eok.localsNew.2 wL, fun y v hy hk => ?_⟩, fun y v hy hk => ?_⟩
    · obtain ⟨w, hw, hr⟩ := hmv y v hy hk; exact ⟨w, hw, hr.keep tk⟩
    · obtain ⟨a, w, ha, hc, hr⟩ := k.vars.cell y v hy hk
      exact ⟨a, w, ha, isCell_slots hc fun o ho => kc _ _ ha o ho, hr.keep tk⟩

/-- an iterator over xs; fp: its own objects; G: what it asks of the tracked ones -/
structure It (c : Cx) (A : Around) (it : Value) (xs : List V) (G : HM → Prop) (fp : List Addr) (Inv : Nat → Heap → Prop) : Prop where
  fld : ∀ i h, Inv i h → ∀ b ∈ fp, FldAt h b
  frame : ∀ i h h', Inv i h → (∀ b ∈ fp, ∀ o, h.get? b = some o → h'.get? b = some o) → TupKeep h h' → Inv i h'
  item : ∀ i x (s : Shared) (H : HM) (Q : Option Value → Shared → Prop) (E : Value → Shared → Prop), xs[i]? = some x → Inv i s.heap → Objs c H s.heap → c.base.StaysIn s.heap → G H → (∀ b ∈ fp, H b = none ∧ c.base.get? b = none) →
    (∀ v s', Rep c s'.heap x v → Inv (i + 1) s'.heap → Tr c (· ∈ fp) H s H s' → Q (some v) s') → wpAny (Md c) A (pyNext it) Q E s
  done : ∀ (s : Shared) (H : HM) (Q : Option Value → Shared → Prop) (E : Value → Shared → Prop), Inv xs.length s.heap → Objs c H s.heap → c.base.StaysIn s.heap → G H → (∀ b ∈ fp, H b = none ∧ c.base.get? b = none) →
    (∀ s', Tr c (· ∈ fp) H s H s' → Q none s') → wpAny (Md c) A (pyNext it) Q E s
  own : ∀ i (s : Shared) (H : HM) (Q : Unit → Shared → Prop) (E : Value → Shared → Prop) (target : Expr) (v : Value), Inv i s.heap → Objs c H s.heap → c.base.StaysIn s.heap → (∀ b ∈ fp, H b = none ∧ c.base.get? b = none) →
    (∀ s', Inv i s'.heap → Tr c (· ∈ fp) H s H s' → Q () s') → wpAny (Md c) A (letOwnedTupleGo target it v) Q E s
  self : ∀ i (s : Shared) (Q : Value → Shared → Prop) (E : Value → Shared → Prop), Inv i s.heap → Q it s → wpAny (Md c) A (pyIter it) Q E s

theorem sameBut_tr {W : Addr → Prop} {s : Shared} {h' : Heap} {t : Nat} {a : Addr} (b : c.base.StaysIn s.heap) (k : Objs c H s.heap) (hf : FldAt s.heap a) (ha : H a = none) (hb : c.base.get? a = none) (hw : W a)
    (hs : Heap.ExtBut a s.heap h') : Tr c W H s H { s with heap := h', toks := t } := by
  obtain ⟨oa, vs, hoa, hda⟩ := hf
  have tk : TupKeep s.heap h' := fun x items t => by
    have hx : x ≠ a := fun q => by subst q; obtain ⟨n, e⟩ := t; rw [hoa] at e; cases e; cases hda
    exact t.at fun ob e => hs x ob hx e
  refine ⟨⟨_, _, rfl⟩, fun x ob e => ?_, fun x ob e hW => ?_, fun x ob e hH hW => ?_, fun x ob e => ?_⟩
  · have hx : x ≠ a := fun q => by subst q; rw [hb] at e; cases e
    exact hs x ob hx (b x ob e)
  · have hx : x ≠ a := fun q => by subst q; exact hW hw
    exact ⟨ob, hs x ob hx e⟩
  · have hx : x ≠ a := fun q => by subst q; exact hW hw
    exact ⟨ob, hs x ob hx e, .refl _⟩
  · have hx : x ≠ a := fun q => by subst q; rw [ha] at e; cases e
    exact ⟨(k x ob e).1.ext tk fun y hy => hs x _ hx hy, (k x ob e).2, fun h => by rw [e] at h; cases h⟩

def ownedNames : List String := ["enumerate", "zip", "dict_itemiterator", "dict_reverseitemiterator", "odict_iterator", "itertools.zip_longest", "itertools.pairwise"]
theorem letOwned_plain {Mo : Model} {A : Around} {E : Value → Shared → Prop} {s : Shared} {target : Expr} {r : Addr} {v : Value} {o : Obj} {T : String} {vs : Array Value} {Q : Unit → Shared → Prop}
    (ho : s.heap.get? r = some o) (hc : o.cls = .type T) (hd : o.data = .fields vs) (hn : ownedNames.contains T = false) (h : Q () s) : wpAny Mo A (letOwnedTupleGo target (.ref r) v) Q E s := by
  unfold letOwnedTupleGo
  have fin : wpAny Mo A (do
      let (.ref r, .ref a) := ((Value.ref r), v) | return
      let o ← load r
      match o.cls, o.data with
      | .type n, .fields vs =>
        if ["enumerate", "zip", "dict_itemiterator", "dict_reverseitemiterator", "odict_iterator", "itertools.zip_longest", "itertools.pairwise"].contains n && vs[0]? == some (rawInt a) then
          rule "for.unpacks-the-owned-tuple"
          updateField r 0 .none
      | _, _ => pure ()) Q E s := by
    cases v <;> try exact wpAny_pure h
    refine wpAny_bind (wpAny_load ho ?_)
    rw [hc, hd]
    dsimp only
    have hn' : ["enumerate", "zip", "dict_itemiterator", "dict_reverseitemiterator", "odict_iterator", "itertools.zip_longest", "itertools.pairwise"].contains T = false := hn
    rw [hn']
    simp only [Bool.false_and, Bool.false_eq_true, if_false]
    exact wpAny_pure h
  split
  · exact fin
  · exact fin
  · exact wpAny_pure h

theorem It.list {A : Around} (hh : A.handled = none) (I l : Addr) (xs : List V) :
    It c A (.ref I) xs (fun H => H l = some (.list xs)) [I] (fun i h => h.IsListIter I l i) where
  fld := fun i h ⟨o, ho, hc, hd⟩ b hb => by simp at hb; subst hb; exact ⟨o, _, ho, hd⟩
  frame := fun i h h' ⟨o, ho, r⟩ hk _ => ⟨o, hk I (by simp) o ho, r⟩
  item := fun i x s H Q E hx hi ob bs hG hf hQ => by
    obtain ⟨items, hl, hr⟩ := (ob _ _ hG).1
    obtain ⟨w, hw, rw'⟩ := hr.get i x hx
    have hne : l ≠ I := fun q => by rw [q, (hf I (by simp)).1] at hG; cases hG
    refine wpAny_pyNext_list_item hi hl.isList (x := w) (by simpa using hw) fun h' hit' hs' => ?_
    obtain ⟨o', ho', _⟩ := id hit'
    have T := sameBut_tr (W := (· ∈ [I])) (t := s.toks) bs ob (by obtain ⟨o, ho, hc, hd⟩ := hi; exact ⟨o, _, ho, hd⟩) (hf I (by simp)).1 (hf I (by simp)).2 (by simp) hs'.extBut
    refine hQ w _ (rw'.keep (T.tup ob fun a it ⟨n, e⟩ q => ?_)) hit' T
    simp at q; subst q
    obtain ⟨o, ho, _, hd⟩ := hi
    rw [e] at ho; cases ho; cases hd
  done := fun s H Q E hi ob bs hG hf hQ => by
    obtain ⟨items, hl, hr⟩ := (ob _ _ hG).1
    have hlen := hr.length
    refine wpAny_pyNext_list_end hh hi hl.isList (by simp [← hlen]) fun h' he' => hQ _ ?_
    exact sameBut_tr (t := s.toks) bs ob (by obtain ⟨o, ho, hc, hd⟩ := hi; exact ⟨o, _, ho, hd⟩) (hf I (by simp)).1 (hf I (by simp)).2 (by simp) he'
  own := fun i s H Q E target v hi ob bs hf hQ => by
    obtain ⟨o, ho, hc, hd⟩ := id hi
    exact letOwned_plain ho hc hd (by decide) (hQ s hi (Tr.refl bs ob))
  self := fun i s Q E hi h => wpAny_pyIter_listiter hi h

theorem PTup.isTuple {h : Heap} {a : Addr} {items : Array Value} (x : PTup h a items) : h.IsTuple a items := let ⟨n, e⟩ := x; ⟨_, e, rfl, n, rfl⟩

theorem It.tuple {A : Around} (hh : A.handled = none) (I t : Addr) (xs : List V) (items : Array Value) :
    It c A (.ref I) xs (fun _ => True) [I] (fun i h => h.IsTupleIter I t i ∧ PTup h t items ∧ Reps c h xs items.toList) where
  fld := fun i h ⟨⟨o, ho, hc, hd⟩, _⟩ b hb => by simp at hb; subst hb; exact ⟨o, _, ho, hd⟩
  frame := fun i h h' ⟨⟨o, ho, r⟩, hp, hr⟩ hk tk => ⟨⟨o, hk I (by simp) o ho, r⟩, tk _ _ hp, hr.keep tk⟩
  item := fun i x s H Q E hx ⟨hi, hp, hr⟩ ob bs hG hf hQ => by
    obtain ⟨w, hw, rw'⟩ := hr.get i x hx
    refine wpAny_pyNext_tuple_item hi hp.isTuple (x := w) (by simpa using hw) fun h' hit' hs' => ?_
    have T := sameBut_tr (W := (· ∈ [I])) (t := s.toks) bs ob (by obtain ⟨o, ho, hc, hd⟩ := hi; exact ⟨o, _, ho, hd⟩) (hf I (by simp)).1 (hf I (by simp)).2 (by simp) hs'.extBut
    have tk : TupKeep s.heap h' := T.tup ob fun a it ⟨n, e⟩ q => by
      simp at q; subst q
      obtain ⟨o, ho, _, hd⟩ := hi
      rw [e] at ho; cases ho; cases hd
    exact hQ w _ (rw'.keep tk) ⟨hit', tk _ _ hp, hr.keep tk⟩ T
  done := fun s H Q E ⟨hi, hp, hr⟩ ob bs hG hf hQ => by
    have hlen := hr.length
    refine wpAny_pyNext_tuple_end hh hi hp.isTuple (by simp [← hlen]) fun h' he' => hQ _ ?_
    exact sameBut_tr (t := s.toks) bs ob (by obtain ⟨o, ho, hc, hd⟩ := hi; exact ⟨o, _, ho, hd⟩) (hf I (by simp)).1 (hf I (by simp)).2 (by simp) he'
  own := fun i s H Q E target v hi ob bs hf hQ => by
    obtain ⟨o, ho, hc, hd⟩ := id hi.1
    exact letOwned_plain ho hc hd (by decide) (hQ s hi (Tr.refl bs ob))
  self := fun i s Q E hi h => wpAny_pyIter_tupleiter hi.1 h

def rangeL (a b c : Int) : List Int := (List.range (Builtin.Range.rangeSize a b c).toNat).map fun (i : Nat) => a + c * (i : Int)

theorem It.range {A : Around} (hh : A.handled = none) (I : Addr) (a b st : Int) :
    It c A (.ref I) ((rangeL a b st).map .int) (fun _ => True) [I] (fun i h => IsRangeIter h I (a + st * i) ((Builtin.Range.rangeSize a b st).toNat - i) st) where
  fld := fun i h hi b hb => by simp at hb; subst hb; exact ⟨_, _, hi, rfl⟩
  frame := fun i h h' hi hk tk => hk I (by simp) _ hi
  item := fun i x s H Q E hx hi ob bs hG hf hQ => by
    simp only [rangeL, List.map_map, List.getElem?_map, Option.map_eq_some_iff] at hx
    obtain ⟨j, hj, rfl⟩ := hx
    obtain ⟨hlt, rfl⟩ := List.getElem?_eq_some_iff.mp hj
    simp only [List.length_range] at hlt
    refine wpAny_pyNext_range_item hi (by omega) fun h' hit' hs' => ?_
    have T := sameBut_tr (W := (· ∈ [I])) (t := s.toks + 1) bs ob ⟨_, _, hi, rfl⟩ (hf I (by simp)).1 (hf I (by simp)).2 (by simp) hs'.extBut
    refine hQ _ _ (by simp only [Function.comp, List.getElem_range]; exact .int _ _) ?_ T
    have e1 : a + st * ((i + 1 : Nat) : Int) = a + st * (i : Int) + st := by rw [Int.natCast_add, Int.mul_add]; simp; omega
    have e2 : (((Builtin.Range.rangeSize a b st).toNat : Int) - ((i + 1 : Nat) : Int)) = ((Builtin.Range.rangeSize a b st).toNat : Int) - (i : Int) - 1 := by omega
    show IsRangeIter h' I (a + st * ((i + 1 : Nat) : Int)) (((Builtin.Range.rangeSize a b st).toNat : Int) - ((i + 1 : Nat) : Int)) st
    rw [e1, e2]; exact hit'
  done := fun s H Q E hi ob bs hG hf hQ => by
    refine wpAny_pyNext_range_end hh hi (by simp [rangeL]) fun h' he' => hQ _ ?_
    exact sameBut_tr (t := s.toks) bs ob ⟨_, _, hi, rfl⟩ (hf I (by simp)).1 (hf I (by simp)).2 (by simp) he'
  own := fun i s H Q E target v hi ob bs hf hQ => letOwned_plain hi rfl rfl (by decide) (hQ s hi (Tr.refl bs ob))
  self := fun i s Q E hi h => wpAny_pyIter_rangeiter hi h

/-- an iterable is asked for its iterator -/
def ItPst (c : Cx) (A : Around) (H : HM) (s : Shared) (Q : List V → (HM → Prop) → HM → Prop) : Value → Shared → Prop := fun it s₂ =>
  ∃ xs G H2 fp Inv, Q xs G H2 ∧ It c A it xs G fp Inv ∧ Inv 0 s₂.heap ∧ (∀ b ∈ fp, s.heap.get? b = none ∧ H2 b = none ∧ c.base.get? b = none) ∧ G H2 ∧ Tr c NoW H s H2 s₂
def ItOK (c : Cx) (d : Nat) (names : Names) (iter : Expr) (m : M) (H : HM) (X : XPost) (Q : List V → (HM → Prop) → HM → Prop) : Prop :=
  ∀ (env : Env) (A : Around) (fr : List Env) (s : Shared) (E : Value → Shared → Prop), Ok c d names env m H A fr s → (∀ e' s', XP c fr X NoW H s e' s' → E e' s') →
    wpAny (Md c) A (eval iter env) (fun x s₁ => wpAny (Md c) A (pyIter x) (ItPst c A H s Q) E s₁) E s

def iterW (v : V) (H : HM) (Q : List V → (HM → Prop) → HM → Prop) : Prop :=
  match v with
  | .tup xs => Q xs (fun _ => True) H
  | .ref a => match H a with | some (.list xs) => Q xs (fun H' => H' a = some (.list xs)) H | _ => False
  | _ => False

theorem it_ex {e : Expr} {Q : List V → (HM → Prop) → HM → Prop} (h : EvOK c d names e m H X fun v H1 => iterW v H1 Q) : ItOK c d names e m H X Q := by
  intro env A fr s E k hE
  refine h.use k hE fun v s1 a H1 h1 ra t1 k1 hE1 => ?_
  unfold iterW at h1
  have nb : c.base.get? s1.heap.objs.size = none := base_fresh k1.base
  have ns : s.heap.get? s1.heap.objs.size = none := by
    rcases t1.none (.inr (get_size_none s1.heap)) with q | q
    · exact q.elim
    · exact q
  cases ra with
  | tup ht hr =>
    rename_i ta vs items
    refine wpAny_pyIter_tuple ht.isTuple ⟨vs, fun _ => True, H1, [s1.heap.objs.size], fun i h => h.IsTupleIter s1.heap.objs.size ta i ∧ PTup h ta items ∧ Reps c h vs items.toList, h1, It.tuple k1.a.handled _ ta vs items, ?_, ?_, trivial, t1.trans (Tr.push (t := s1.toks) k1.base k1.objs _)⟩
    · exact ⟨⟨_, Heap.get?_push_size _ rfl, rfl, rfl⟩, tupKeep_push _ _ _ _ ht, hr.keep (tupKeep_push _ _)⟩
    · intro b hb; simp at hb; subst hb; exact ⟨ns, k1.objs.fresh, nb⟩
  | ref l =>
    simp only at h1
    split at h1
    · rename_i xs hl
      obtain ⟨items, hpl, hr⟩ := (k1.objs _ _ hl).1
      refine wpAny_pyIter_list hpl.isList ⟨xs, _, H1, [s1.heap.objs.size], _, h1, It.list k1.a.handled _ l xs, ⟨_, Heap.get?_push_size _ rfl, rfl, rfl⟩, ?_, hl, t1.trans (Tr.push (t := s1.toks) k1.base k1.objs _)⟩
      intro b hb; simp at hb; subst hb; exact ⟨ns, k1.objs.fresh, nb⟩
    · exact h1.elim
  | none => exact h1.elim
  | bool _ => exact h1.elim
  | int _ _ => exact h1.elim
  | str _ _ => exact h1.elim
  | bi _ => exact h1.elim
  | g _ => exact h1.elim
  | scr => exact h1.elim

def rngOK (a b st : Int) : Prop := (st = 1 ∨ st = -1 ∨ st = 2) ∧ -(2 ^ 40) < a ∧ a < 2 ^ 40 ∧ -(2 ^ 40) < b ∧ b < 2 ^ 40
theorem rngOK.small {a b st : Int} (h : rngOK a b st) : Builtin.Range.small a b st = true := by
  obtain ⟨h1, h2⟩ := h
  unfold Builtin.Range.small Builtin.Range.rangeSize Builtin.Range.rangeFitsLong
  rcases h1 with rfl | rfl | rfl <;> simp <;> (repeat' split) <;> omega

/-- range(..) -/
def rangeW (vs : List V) (H : HM) (Q : List V → (HM → Prop) → HM → Prop) : Prop :=
  match vs with
  | [.int b] => rngOK 0 b 1 ∧ Q ((rangeL 0 b 1).map .int) (fun _ => True) H
  | [.int a, .int b] => rngOK a b 1 ∧ Q ((rangeL a b 1).map .int) (fun _ => True) H
  | [.int a, .int b, .int st] => rngOK a b st ∧ Q ((rangeL a b st).map .int) (fun _ => True) H
  | _ => False

theorem it_range {x : String} {px pos : Pos} {args : List Expr} {Q : List V → (HM → Prop) → HM → Prop} (hx : isGlob names x = true) (hg : GlobOK c x (.bi .range)) (hn : args.all notStar = true)
    (h : EsOK c d names args m H X fun vs H1 => rangeW vs H1 Q) : ItOK c d names (.Call (.Name (Str.ofString x) px) args [] pos) m H X Q := by
  intro env A fr s E k hE
  rw [eval_Call_plain rfl]
  have hgl : EvOK c d names (.Name (Str.ofString x) px) m H X fun v H1 => v = .bi .range ∧ H1 = H := ev_glob hx hg ⟨rfl, rfl⟩
  refine wpAny_bind (hgl.use k hE fun v s1 a H1 h1 ra t1 k1 hE1 => ?_)
  obtain ⟨rfl, rfl⟩ := h1
  cases ra
  have body : wpAny (Md c) A (spliced (backTo pos (starEach args env))) (fun vs s₁ => c.base.StaysIn s₁.heap ∧ wpAny (Md c) A (call (.type "range") vs) (fun r s₂ => wpAny (Md c) A (pyIter r) (ItPst c A H1 s Q) E s₂) E s₁) E s1 := by
    refine h.use k1 hE1 fun vs s2 as H2 h2 rs t2 k2 hE2 => ⟨k2.base, ?_⟩
    have tt := t1.trans t2
    have fin : ∀ (a b st : Int) (t u v : Tok) (tk : Nat), rngOK a b st → Q ((rangeL a b st).map .int) (fun _ => True) H2 →
        wpAny (Md c) A (pyIter (.ref s2.heap.objs.size)) (ItPst c A H1 s Q) E { s2 with heap := s2.heap.push { cls := .type "range", data := .fields #[.int a t, .int b u, .int st v] }, toks := tk } := by
      intro a b st t u v tk hr hq
      have P1 := Tr.push (W := NoW) (t := tk) k2.base k2.objs { cls := .type "range", data := .fields #[.int a t, .int b u, .int st v] }
      have k3 := k2.step P1
      refine wpAny_pyIter_range (IsRange.new ..) hr.small ⟨_, _, H2, [(s2.heap.push { cls := .type "range", data := .fields #[.int a t, .int b u, .int st v] }).objs.size], _, hq, It.range k.a.handled _ a b st, ?_, ?_, trivial, tt.trans (P1.trans (Tr.push (t := tk) k3.base k3.objs _))⟩
      · have hsz : 0 ≤ Builtin.Range.rangeSize a b st := by
          obtain ⟨h1, _⟩ := hr
          unfold Builtin.Range.rangeSize
          rcases h1 with rfl | rfl | rfl <;> simp <;> (repeat' split) <;> omega
        have e1 : a + st * ((0 : Nat) : Int) = a := by simp
        have e2 : (((Builtin.Range.rangeSize a b st).toNat : Int) - ((0 : Nat) : Int)) = Builtin.Range.rangeSize a b st := by omega
        show IsRangeIter _ _ (a + st * ((0 : Nat) : Int)) (((Builtin.Range.rangeSize a b st).toNat : Int) - ((0 : Nat) : Int)) st
        rw [e1, e2]
        exact Heap.get?_push_size _ rfl
      · intro b' hb; simp only [List.mem_singleton] at hb; subst hb
        have tt3 := tt.trans P1
        refine ⟨?_, k3.objs.fresh, base_fresh k3.base⟩
        rcases tt3.none (.inr (get_size_none _)) with q | q
        · exact q.elim
        · exact q
    unfold rangeW at h2
    split at h2
    · cases rs with | cons r1 rs => cases rs with | nil => cases r1 with | int _ t => exact call_range_1 (fin _ _ _ _ _ _ _ h2.1 h2.2)
    · cases rs with | cons r1 rs => cases rs with | cons r2 rs => cases rs with | nil => cases r1 with | int _ t => cases r2 with | int _ u => exact call_range_2 (fin _ _ _ _ _ _ _ h2.1 h2.2)
    · cases rs with | cons r1 rs => cases rs with | cons r2 rs => cases rs with | cons r3 rs => cases rs with | nil => cases r1 with | int _ t => cases r2 with | int _ u => cases r3 with | int _ v =>
      refine call_range_3 (by rcases h2.1.1 with h | h | h <;> omega) (fin _ _ _ _ _ _ _ h2.1 h2.2) (Or.inl (PyProof.noPylong_small ?_))
      have := h2.1.2
      rcases h2.1.1 with h | h | h <;> omega
    · exact h2.elim
  refine callWith_any (P := fun s => c.base.StaysIn s.heap) (fun s₁ Q hb hQ => wpAny_pure (hQ _)) (evalArgs_any hn ?_)
  exact wpAny_mono body (fun vs s₁ h => ⟨h.1, h.2⟩) fun _ _ x => x

end
end Mine

set_option autoImplicit false
set_option linter.unusedVariables false
namespace Mine
open PySem PyProof.Rows

/-! ## targets -/
inductive Tg where
  | name (x : String)
  | two (x y : String)

def mTg (names : Names) : Tg → Expr → Bool
  | .name x, .Name y _ => y == Str.ofString x && isStore names x
  | .two x y, .Tuple [.Name a _, .Name b _] _ _ => a == Str.ofString x && b == Str.ofString y && isStore names x && isStore names y
  | _, _ => false

theorem mTg_name {names : Names} {x : String} {e : Expr} (h : mTg names (.name x) e = true) : ∃ p, e = .Name (Str.ofString x) p ∧ isStore names x = true := by
  cases e <;> simp [mTg] at h
  exact ⟨_, by rw [h.1], h.2⟩
theorem mTg_two {names : Names} {x y : String} {e : Expr} (h : mTg names (.two x y) e = true) : ∃ p q n r, e = .Tuple [.Name (Str.ofString x) p, .Name (Str.ofString y) q] n r ∧ isStore names x = true ∧ isStore names y = true := by
  unfold mTg at h
  split at h
  · rename_i h'; cases h'
  · rename_i a b p q pa pb n r h'
    cases h'
    simp only [Bool.and_eq_true, beq_iff_eq] at h
    obtain ⟨⟨⟨rfl, rfl⟩, h3⟩, h4⟩ := h
    exact ⟨_, _, _, _, rfl, h3, h4⟩
  · cases h

def asgW (t : Tg) (v : V) (m : M) (k : M → Prop) : Prop :=
  match t with
  | .name x => k (m.set x v)
  | .two x y => match v with | .tup [a, b] => k ((m.set x a).set y b) | _ => False

section
variable {c : Cx} {d : Nat} {names : Names} {m : M} {H : HM} {X : XPost}

theorem Ok.keepAll {env : Env} {A : Around} {fr : List Env} {s s' : Shared} (k : Ok c d names env m H A fr s) (hk : ∀ b o, s.heap.get? b = some o → s'.heap.get? b = some o) (hs : ∃ h' tk, s' = { s with heap := h', toks := tk }) :
    Ok c d names env m H A fr s' ∧ Tr c NoW H s H s' := by
  have T : Tr c NoW H s H s' := Tr.keepAll k.base k.objs hk hs
  exact ⟨k.step T, T⟩

theorem asg_ok {t : Tg} {e : Expr} {v : V} {w : Value} {env : Env} {A : Around} {fr : List Env} {s : Shared} {E : Value → Shared → Prop} {P : M → Prop} {Q : Unit → Shared → Prop} (ht : mTg names t e = true) (k : Ok c d names env m H A fr s) (hr : Rep c s.heap v w)
    (ha : asgW t v m P) (hQ : ∀ m' s', P m' → Ok c d names env m' H A fr s' → Tr c (Wr names env) H s H s' → Q () s') : wpAny (Md c) A (assign e env w) Q E s := by
  cases t with
  | name x =>
    obtain ⟨p, rfl, hx⟩ := mTg_name ht
    exact wpAny_assign_Name (store_ok hx k hr fun s' k' t' => hQ _ s' ha k' t')
  | two x y =>
    obtain ⟨pa, pb, n, p, rfl, hx, hy⟩ := mTg_two ht
    · skip
      unfold asgW at ha
      cases hr with
      | tup hp hrs =>
        rename_i ta vs items
        match vs, hrs, ha with
        | [u1, u2], hrs, ha =>
          have hlen : items.toList.length = 2 := hrs.length
          obtain ⟨l⟩ := items
          match l, hrs, hp, hlen with
          | [w1, w2], .cons r1 (.cons r2 .nil), hp, _ =>
            refine wpAny_assign_Tuple k.a.handled hp.isTuple rfl rfl fun h' hx' => ?_
            have keep : ∀ b o, s.heap.get? b = some o → h'.get? b = some o := fun b o e => hx' b o (Nat.ne_of_lt (Heap.lt_size e)) e
            obtain ⟨k1, T1⟩ := k.keepAll (s' := { s with heap := h' }) keep ⟨h', s.toks, rfl⟩
            have tk := T1.tup0 k.objs
            show wpAny (Md c) A (holding [w2] (assign (.Name (Str.ofString x) pa) env w1) >>= fun _ => holding [] (assign (.Name (Str.ofString y) pb) env w2) >>= fun _ => pure ()) _ _ _
            refine wpAny_bind (wpAny_holding (wpAny_assign_Name (store_ok hx k1 (r1.keep tk) fun s2 k2 t2 => ?_)))
            have tk2 : TupKeep h' s2.heap := t2.tup k1.objs fun a it ⟨n, e⟩ q => by
              rcases q with q | ⟨z, _, q⟩
              · obtain ⟨mv, hns, _⟩ := k1.vars.ns
                obtain ⟨oL, es, ep, hoL, hdL, _⟩ := hns
                rw [q, hoL] at e; cases e; cases hdL
              · obtain ⟨⟨v0, oc, hoc, hdc⟩, _⟩ := k1.eok.cells z a q
                rw [hoc] at e; cases e; cases hdc
            refine wpAny_bind (wpAny_holding (wpAny_assign_Name (store_ok hy k2 ((r2.keep tk).keep tk2) fun s3 k3 t3 => wpAny_pure ?_)))
            exact hQ _ s3 ha k3 (T1.noW.trans (t2.trans t3))
        | [], _, ha => exact ha.elim
        | [_], _, ha => exact ha.elim
        | _ :: _ :: _ :: _, _, ha => exact ha.elim
      | none => exact ha.elim
      | bool _ => exact ha.elim
      | int _ _ => exact ha.elim
      | str _ _ => exact ha.elim
      | ref _ => exact ha.elim
      | bi _ => exact ha.elim
      | g _ => exact ha.elim
      | scr => exact ha.elim

/-- a tuple is none of the frame's own places -/
theorem Ok.tupWr {env : Env} {A : Around} {fr : List Env} {s s' : Shared} {H1 : HM} (k : Ok c d names env m H A fr s) (t : Tr c (Wr names env) H s H1 s') : TupKeep s.heap s'.heap :=
  t.tup k.objs fun a it ⟨n, e⟩ q => by
    rcases q with q | ⟨z, _, q⟩
    · obtain ⟨mv, hns, _⟩ := k.vars.ns
      obtain ⟨oL, es, ep, hoL, hdL, _⟩ := hns
      rw [q, hoL] at e; cases e; cases hdL
    · obtain ⟨⟨v0, oc, hoc, hdc⟩, _⟩ := k.eok.cells z a q
      rw [hoc] at e; cases e; cases hdc

/-! ## for -/
def forW (body : M → HM → (Fl → M → HM → Prop) → Prop) (t : Tg) (G : HM → Prop) : List V → M → HM → (Fl → M → HM → Prop) → Prop
  | [], m, H, Q => Q .next m H
  | x :: xs, m, H, Q => ∃ m0 H0, M.le m0 m ∧ HM.le H0 H ∧ asgW t x m0 fun m1 => body m1 H0 fun fl m2 H2 =>
      match fl with | .next => G H2 ∧ forW body t G xs m2 H2 Q | .ret v => Q (.ret v) m2 H2

theorem forLoop_gen {Mo : Program} {w : World} {A : Around} {R : Result → Shared → Prop} {s : Shared} {target : Expr} {it : Value} {body : List Stmt} {env : Env} (I : Nat → Shared → Prop)
    (turn : ∀ n s, I n s → wpAny (model Mo w) A (pyNext it) (fun r s₁ => match r with
      | none => R (.ok .next) s₁
      | some v => wpAny (model Mo w) A (letOwnedTupleGo target it v) (fun _ s₁ => wpAny (model Mo w) A (assign target env v) (fun _ s₂ => wpAny (model Mo w) A (execs body env) (fun f s₃ => match f with
          | .next | .cont => ∃ m, m < n ∧ I m s₃
          | .brk => R (.ok .next) s₃
          | .ret v => R (.ok (.ret v)) s₃) (fun _ _ => False) s₂) (fun _ _ => False) s₁) (fun _ _ => False) s₁) (fun _ _ => False) s)
    (n : Nat) (h : I n s) : codeAny (model Mo w) A (.forLoop target it body [] env) R s := by
  refine codeAny_loop' rfl I (fun n s hI => ?_) n h
  show wpAny _ _ ((forTurn target it body [] env).onRaise (fun x => do noteFrame x env; theTreesLotGoes x)) _ _ s
  refine wpAny_noted ?_
  simp only [forTurn]
  refine wpAny_bind (wpAny_standAt (wpAny_bind (wpAny_onRaise (wpAny_mono (turn n s hI) (fun r s₁ h₁ => ?_) fun _ _ f => f.elim))))
  cases r with
  | none => exact wpAny_pure (.inr ⟨rfl, codeAny_block (wpAny_execs_nil h₁)⟩)
  | some v =>
    refine wpAny_bind (wpAny_mono h₁ (fun _ s₁ h₁ => ?_) fun _ _ f => f.elim)
    refine wpAny_bind (wpAny_mono h₁ (fun _ s₂ h₂ => wpAny_bind (wpAny_mono h₂ (fun f s₃ h₃ => ?_) fun _ _ f => f.elim)) fun _ _ f => f.elim)
    cases f with
    | next => exact wpAny_pure (.inl ⟨rfl, h₃⟩)
    | cont => exact wpAny_pure (.inl ⟨rfl, h₃⟩)
    | brk => exact wpAny_pure h₃
    | ret v => exact wpAny_pure h₃

def notSet : Expr → Bool
  | .Set .. => false
  | _ => true
theorem folded_plain {e : Expr} {env : Env} (h : notSet e = true) (x : Value) : foldedSetIterable e env x = pure x := by
  unfold foldedSetIterable
  cases e <;> first | rfl | (simp [notSet] at h)

theorem st_for {t : Tg} {te iter : Expr} {body : List Stmt} {pos : Pos} {Q : Fl → M → HM → Prop} (ht : mTg names t te = true) (hns : notSet iter = true)
    (B : M → HM → (Fl → M → HM → Prop) → Prop) (hB : ∀ m H Q, B m H Q → SsOK c d names body m H (fun _ _ => False) Q)
    (h : ItOK c d names iter m H X fun xs G H1 => forW B t G xs m H1 Q) : StOK c d names (.For te iter body [] pos) m H X Q := by
  intro env A fr s E k hE
  refine wpAny_For (wpAny_mono (h env A fr s E k fun e' s' x => hE _ _ x.noW) (fun x s₁ h₁ => wpAny_mono h₁ (fun it s₂ h₂ => ?_) fun _ _ x => x) fun _ _ x => x) (folded_plain hns)
  obtain ⟨xs, G, H2, fp, Inv, hq, hit, hinv, hfp, hG, t2⟩ := h₂
  have k2 := k.step t2
  refine forLoop_gen (fun n s' => ∃ i m' H', n = xs.length - i ∧ i ≤ xs.length ∧ Ok c d names env m' H' A fr s' ∧ Inv i s'.heap ∧ (∀ b ∈ fp, H' b = none ∧ c.base.get? b = none) ∧ G H' ∧ forW B t G (xs.drop i) m' H' Q ∧ Tr c (fun b => Wr names env b ∨ b ∈ fp) H2 s₂ H' s')
    (fun n s' hI => ?_) (xs.length - 0) ⟨0, m, H2, rfl, Nat.zero_le _, k2, hinv, fun b hb => (hfp b hb).2, hG, by simpa using hq, Tr.refl k2.base k2.objs⟩
  obtain ⟨i, m', H', rfl, hi, k', hinv', hfp', hG', hw, T'⟩ := hI
  have fpNot : ∀ b ∈ fp, s.heap.get? b = none := fun b hb => (hfp b hb).1
  have closeT : ∀ {H3 : HM} {s3 : Shared}, Tr c (fun b => Wr names env b ∨ b ∈ fp) H2 s₂ H3 s3 → Tr c (Wr names env) H s H3 s3 := fun {H3 s3} T => by
    exact ((t2.noW (W := fun b => Wr names env b ∨ b ∈ fp)).trans T).shrink fun b q => q.imp id (fpNot b)
  have fldW : ∀ b, b ∈ fp → FldAt s'.heap b := hit.fld i _ hinv'
  by_cases hlt : i < xs.length
  · obtain ⟨x, hx⟩ : ∃ x, xs[i]? = some x := ⟨xs[i], by simp [hlt]⟩
    have hdrop : xs.drop i = x :: xs.drop (i + 1) := by
      rw [List.drop_eq_getElem_cons hlt]
      have : xs[i] = x := by simpa [hlt] using hx
      rw [this]
    refine hit.item i x s' H' _ _ hx hinv' k'.objs k'.base hG' hfp' fun v s3 rv inv3 t3 => ?_
    have k3 := k'.stepW t3 fldW
    refine hit.own (i + 1) s3 H' _ _ te v inv3 k3.objs k3.base hfp' fun s4 inv4 t4 => ?_
    have k4 := k3.stepW t4 (hit.fld _ _ inv3)
    have tk34 : TupKeep s3.heap s4.heap := t4.tup k3.objs fun a it ⟨n, e⟩ q => by
      obtain ⟨o, vs, e', hd⟩ := hit.fld _ _ inv3 a q
      rw [e] at e'; cases e'; cases hd
    rw [hdrop] at hw
    obtain ⟨m0, H0, hm0, hH0, hw⟩ := hw
    have k4' := k4.weaken hm0 hH0
    refine asg_ok ht k4' (rv.keep tk34) hw fun m5 s5 hb5 k5 t5 => ?_
    refine wpAny_mono (hB m5 H0 _ hb5 env A fr s5 (fun _ _ => False) k5 fun e' s' x => by obtain ⟨_, _, _, _, f, _⟩ := x; exact f) ?_ fun _ _ f => f
    rintro f s6 ⟨fl, m6, H6, hq6, rf, t6, k6⟩
    have T6 : Tr c (fun b => Wr names env b ∨ b ∈ fp) H2 s₂ H6 s6 :=
      (((T'.trans (t3.mono fun _ q => .inr q)).trans (t4.mono fun _ q => .inr q)).weaken hH0).trans ((t5.mono fun _ q => .inl q).trans (t6.mono fun _ q => .inl q))
    cases rf with
    | next =>
      have keepFp : ∀ b ∈ fp, ∀ o, s4.heap.get? b = some o → s6.heap.get? b = some o := fun b hb o e => by
        obtain ⟨o', vs, e', hd⟩ := hit.fld _ _ inv4 b hb
        rw [e] at e'; cases e'
        have hn0 : H0 b = none := by
          cases q : H0 b with
          | none => rfl
          | some ob => have := hH0 b ob q; rw [(hfp' b hb).1] at this; cases this
        have nW : ¬ Wr names env b := by
          rintro (q | ⟨z, _, q⟩)
          · obtain ⟨mv, hns, _⟩ := k4.vars.ns
            obtain ⟨oL, es, ep, hoL, hdL, _⟩ := hns
            rw [← q, e] at hoL; cases hoL; rw [hd] at hdL; cases hdL
          · obtain ⟨⟨v0, oc, hoc, hdc⟩, _⟩ := k4.eok.cells z b q
            rw [e] at hoc; cases hoc; rw [hd] at hdc; cases hdc
        obtain ⟨o2, e2, z2⟩ := (t5.trans t6).keep b o e hn0 nW
        rw [z2.eq (fun ⟨es, n, q⟩ => by rw [hd] at q; cases q)] at e2
        exact e2
      have inv6 : Inv (i + 1) s6.heap := hit.frame _ _ _ inv4 keepFp (k4'.tupWr (t5.trans t6))
      refine ⟨xs.length - (i + 1), by omega, i + 1, m6, H6, rfl, hlt, k6, inv6, fun b hb => ⟨?_, (hfp' b hb).2⟩, hq6.1, hq6.2, T6⟩
      have hn0 : H0 b = none := by
        cases q : H0 b with
        | none => rfl
        | some ob => have := hH0 b ob q; rw [(hfp' b hb).1] at this; cases this
      obtain ⟨o', vs, e', hd⟩ := hit.fld _ _ inv4 b hb
      have nW : ¬ Wr names env b := by
        rintro (q | ⟨z, _, q⟩)
        · obtain ⟨mv, hns, _⟩ := k4.vars.ns
          obtain ⟨oL, es, ep, hoL, hdL, _⟩ := hns
          rw [← q, e'] at hoL; cases hoL; rw [hd] at hdL; cases hdL
        · obtain ⟨⟨v0, oc, hoc, hdc⟩, _⟩ := k4.eok.cells z b q
          rw [e'] at hoc; cases hoc; rw [hd] at hdc; cases hdc
      exact (t5.trans t6).new e' hn0 nW
    | ret r => exact ⟨_, m6, H6, hq6, .ret r, closeT T6, k6⟩
  · have hie : i = xs.length := by omega
    subst hie
    refine hit.done s' H' _ _ hinv' k'.objs k'.base hG' hfp' fun s3 t3 => ?_
    have k3 := k'.stepW t3 fldW
    simp only [List.drop_length, forW] at hw
    exact ⟨.next, m', H', hw, .next, closeT (T'.trans (t3.mono fun _ q => .inr q)), k3⟩

end
end Mine

set_option autoImplicit false
set_option linter.unusedVariables false
namespace Mine
open PySem PyProof.Rows

def M.del : M → String → M
  | [], _ => []
  | (y, w) :: r, x => if x = y then M.del r x else (y, w) :: M.del r x
theorem M.get_del (m : M) (x y : String) : (m.del x).get y = if y = x then .none else m.get y := by
  induction m with
  | nil => simp [M.del, M.get]
  | cons p r ih =>
    obtain ⟨z, w⟩ := p
    simp only [M.del]
    split
    · rename_i h; subst h; rw [ih]; simp only [M.get]; split <;> simp_all
    · rename_i h
      simp only [M.get, ih]
      split
      · rename_i h2; subst h2; rw [if_neg (fun e => h e.symm)]
      · rfl

def Tg.del (t : Tg) (m : M) : M :=
  match t with
  | .name x => (m.del x).del ".0"
  | .two x y => ((m.del x).del y).del ".0"

def Tg.has : Tg → String → Prop
  | .name y, x => x = y
  | .two y z, x => x = y ∨ x = z
def Tg.hasS : Tg → Str → Prop
  | .name y, x => x = Str.ofString y
  | .two y z, x => x = Str.ofString y ∨ x = Str.ofString z

/-- what a list comprehension makes: the kept items' values -/
def compW (elt : M → HM → (V → HM → Prop) → Prop) (cond : M → HM → (Bool → HM → Prop) → Prop) (t : Tg) (G : HM → Prop) (m : M) : List V → List V → HM → (List V → HM → Prop) → Prop
  | [], acc, H, Q => Q acc H
  | x :: xs, acc, H, Q => ∃ H0, HM.le H0 H ∧ asgW t x m fun m1 => cond m1 H0 fun b H1 =>
      if b then elt m1 H1 fun v H2 => G H2 ∧ compW elt cond t G m xs (acc ++ [v]) H2 Q else G H1 ∧ compW elt cond t G m xs acc H1 Q

/-- the closure of a comprehension -/
def closL (env : Env) : Names → List (Str × Addr) → List (Str × Addr)
  | [], acc => acc
  | (n, k) :: r, acc => if k == .free then (match env.cells.lookup n with | some a => closL env r ((n, a) :: acc) | none => closL env r acc) else closL env r acc
theorem closureFor_closL {scope : Scope} {env : Env} (h : ∀ x ∈ scope.names, x.2 = .free → ∃ a, env.cells.lookup x.1 = some a) : closureFor scope env = pure (closL env scope.names []) := by
  have gen : ∀ (names : Names) (acc : List (Str × Addr)), (∀ x ∈ names, x.2 = .free → ∃ a, env.cells.lookup x.1 = some a) →
      (forIn names acc fun (x : Str × NameKind) (cs : List (Str × Addr)) => (match x with
        | (name, kind) => if (kind == NameKind.free) = true then (do let a ← cellOf env name; pure (ForInStep.yield ((name, a) :: cs))) else pure (ForInStep.yield cs) : Sem (ForInStep (List (Str × Addr))))) = pure (closL env names acc) := by
    intro names
    induction names with
    | nil => intro acc _; rfl
    | cons p r ih =>
      intro acc hp
      obtain ⟨n, k⟩ := p
      rw [List.forIn_cons]
      have hr := ih
      cases hk : k == NameKind.free with
      | true =>
        have hkf : k = .free := by simpa using hk
        obtain ⟨a, ha⟩ := hp (n, k) List.mem_cons_self hkf
        have hc : cellOf env n = pure a := by unfold cellOf; rw [ha]
        simp only [hk, if_true, hc, closL, ha]
        exact ih _ fun x hx => hp x (List.mem_cons_of_mem _ hx)
      | false =>
        simp only [hk, Bool.false_eq_true, if_false, closL]
        exact ih _ fun x hx => hp x (List.mem_cons_of_mem _ hx)
  unfold closureFor
  have := gen scope.names [] h
  simp only at this ⊢
  rw [this]; rfl

theorem closL_lookup {env : Env} : ∀ (names : Names) (acc : List (Str × Addr)) (x : Str) (a : Addr), (closL env names acc).lookup x = some a → (∀ y b, acc.lookup y = some b → env.cells.lookup y = some b) → env.cells.lookup x = some a
  | [], acc, x, a, h, hacc => hacc x a h
  | (n, k) :: r, acc, x, a, h, hacc => by
    unfold closL at h
    split at h
    · split at h
      · rename_i b hb
        refine closL_lookup r _ x a h fun y b' hy => ?_
        rw [List.lookup_cons] at hy
        by_cases q : y = n
        · subst q; simp at hy; subst hy; exact hb
        · have q' : (y == n) = false := by simpa using q
          rw [q'] at hy; exact hacc y b' hy
      · exact closL_lookup r _ x a h hacc
    · exact closL_lookup r _ x a h hacc
theorem closL_has {env : Env} : ∀ (names : Names) (acc : List (Str × Addr)) (x : Str) (a : Addr), env.cells.lookup x = some a → (names.lookup x = some .free ∨ acc.lookup x = some a) → (∀ y b, acc.lookup y = some b → env.cells.lookup y = some b) → (closL env names acc).lookup x = some a
  | [], acc, x, a, ha, h, hacc => by
    rcases h with h | h
    · simp at h
    · exact h
  | (n, k) :: r, acc, x, a, ha, h, hacc => by
    unfold closL
    split
    · split
      · rename_i b hb
        have hacc' : ∀ y b', List.lookup y ((n, b) :: acc) = some b' → env.cells.lookup y = some b' := fun y b' hy => by
          rw [List.lookup_cons] at hy
          by_cases q : y = n
          · subst q; simp at hy; subst hy; exact hb
          · have q' : (y == n) = false := by simpa using q
            rw [q'] at hy; exact hacc y b' hy
        refine closL_has r _ x a ha ?_ hacc'
        by_cases q : x = n
        · subst q; right; simp; rw [ha] at hb; cases hb; rfl
        · have q' : (x == n) = false := by simpa using q
          rcases h with h | h
          · rw [List.lookup_cons, q'] at h; exact .inl h
          · right; rw [List.lookup_cons, q']; exact h
      · rename_i hb
        refine closL_has r _ x a ha ?_ hacc
        by_cases q : x = n
        · subst q; rw [ha] at hb; cases hb
        · have q' : (x == n) = false := by simpa using q
          rcases h with h | h
          · rw [List.lookup_cons, q'] at h; exact .inl h
          · exact .inr h
    · rename_i hk
      refine closL_has r _ x a ha ?_ hacc
      rcases h with h | h
      · rw [List.lookup_cons] at h
        by_cases q : x = n
        · subst q; simp at h; subst h; simp at hk
        · have q' : (x == n) = false := by simpa using q
          rw [q'] at h; exact .inl h
      · exact .inr h
theorem relabel_lookup {scope : Scope} {env : Env} (x : Str) : (relabel scope env).names.lookup x = (scope.names.lookup x).map fun k => if (k == .free && env.scope.kind == .function && env.kindOf x == some .cell) then .cell else k := by
  unfold relabel
  show (List.map _ scope.names).lookup x = _
  induction scope.names with
  | nil => rfl
  | cons p r ih =>
    obtain ⟨n, k⟩ := p
    simp only [List.map_cons]
    by_cases q : x = n
    · subst q
      split <;> simp_all [List.lookup_cons]
    · have q' : (x == n) = false := by simpa using q
      split <;> (simp only [List.lookup_cons, q']; exact ih)

/-- a look at a comprehension's table of names -/
def compNames (names cn : Names) (t : Tg) : Bool :=
  (cn.all fun p => match p.2 with
    | .local => p.1 == Str.ofString ".0" || (match t with | .name x => p.1 == Str.ofString x | .two x y => p.1 == Str.ofString x || p.1 == Str.ofString y)
    | .free => (match names.lookup p.1 with | some .cell => true | some .free => true | _ => false)
    | .globalImplicit => true
    | _ => false) && decide ((cn.map (·.1)).Nodup)

theorem lookup_of_mem : ∀ {cn : Names}, (cn.map (·.1)).Nodup → ∀ {x : Str} {k : NameKind}, (x, k) ∈ cn → cn.lookup x = some k
  | (n, k') :: r, nd, x, k, h => by
    have nd' := List.nodup_cons.mp nd
    rw [List.lookup_cons]
    rcases List.mem_cons.mp h with e | h
    · cases e; simp
    · have : x ≠ n := fun q => nd'.1 (q ▸ List.mem_map_of_mem (f := (·.1)) h)
      have q' : (x == n) = false := by simpa using this
      rw [q']
      exact lookup_of_mem nd'.2 h

structure CompN (names cn : Names) (t : Tg) : Prop where
  loc : ∀ x, cn.lookup x = some .local → x = Str.ofString ".0" ∨ t.hasS x
  free : ∀ p ∈ cn, p.2 = .free → names.lookup p.1 = some .cell ∨ names.lookup p.1 = some .free
  nocell : ∀ p ∈ cn, p.2 ≠ .cell
  self : ∀ p ∈ cn, p.2 = .local → cn.lookup p.1 = some .local
theorem compN_of {names cn : Names} {t : Tg} (h : compNames names cn t = true) : CompN names cn t := by
  simp only [compNames, Bool.and_eq_true, List.all_eq_true, decide_eq_true_eq] at h
  obtain ⟨h1, h2⟩ := h
  refine ⟨fun x hx => ?_, fun p hp hk => ?_, fun p hp hk => ?_, fun p hp hk => by rw [← hk]; exact lookup_of_mem h2 hp⟩
  · have := h1 _ (mem_of_lookup hx)
    simp only [Bool.or_eq_true, beq_iff_eq] at this
    rcases this with h | h
    · exact .inl h
    · right
      cases t with
      | name y => simpa [Tg.hasS] using h
      | two y z => simpa [Tg.hasS] using h
  · have := h1 p hp
    rw [hk] at this
    simp only at this
    split at this <;> simp_all
  · have := h1 p hp
    rw [hk] at this
    simp at this

section
variable {c : Cx} {d : Nat} {names : Names} {m : M} {H : HM} {X : XPost}

def NoX : XPost := fun _ _ => False

theorem compLoop_gen {Mo : Program} {w : World} {A : Around} {R : Result → Shared → Prop} {s : Shared} {elt target iter : Expr} {ifs : List Expr} {scope : Scope} {pos : Pos} {it acc : Value} {env : Env} (I : Nat → Shared → Prop)
    (turn : ∀ n s, I n s → wpAny (model Mo w) A (pyNext it) (fun r s₁ => match r with
      | none => R (.ok .next) s₁
      | some v => wpAny (model Mo w) A (letOwnedTupleGo target it v) (fun _ s₁ => wpAny (model Mo w) A (assign target env v) (fun _ s₂ =>
          wpAny (model Mo w) A (forIn ifs true fun c r => if r = true then do let ok ← isTrue c env (eval c env); pure (ForInStep.yield ok) else pure (ForInStep.yield r)) (fun ok s₃ =>
            if ok = true then wpAny (model Mo w) A (eval elt env) (fun x s₄ =>
              wpAny (model Mo w) A (call (.builtin "list.append") [acc, x]) (fun _ s₅ => ∃ m, m < n ∧ I m s₅) (fun _ _ => False) s₄) (fun _ _ => False) s₃
            else ∃ m, m < n ∧ I m s₃) (fun _ _ => False) s₂) (fun _ _ => False) s₁) (fun _ _ => False) s₁) (fun _ _ => False) s)
    (n : Nat) (h : I n s) : codeAny (model Mo w) A (.compLoop (.ListComp elt [⟨target, iter, ifs, 0⟩] scope pos) 0 it acc env) R s := by
  refine codeAny_loop rfl I (fun n s hI => ?_) n h
  show wpAny _ A ((compTurn (.ListComp elt [⟨target, iter, ifs, 0⟩] scope pos) 0 it acc env).onRaise (fun x => do noteFrame x env; theTreesLotGoes x)) _ _ s
  refine wpAny_noted ?_
  rw [compTurn_list]
  refine wpAny_bind (wpAny_standAt (wpAny_bind (wpAny_mono (turn n s hI) (fun r s₁ h₁ => ?_) fun _ _ f => f.elim)))
  cases r with
  | none => exact wpAny_pure h₁
  | some v =>
    refine wpAny_bind (wpAny_mono h₁ (fun _ s₁ h₁ => ?_) fun _ _ f => f.elim)
    refine wpAny_bind (wpAny_mono h₁ (fun _ s₂ h₂ => wpAny_bind (wpAny_mono h₂ (fun ok s₃ h₃ => ?_) fun _ _ f => f.elim)) fun _ _ f => f.elim)
    cases ok with
    | false => exact wpAny_pure ⟨rfl, h₃⟩
    | true =>
      exact wpAny_bind (wpAny_bind (wpAny_mono h₃ (fun x s₄ h₄ => wpAny_bind (wpAny_mono h₄ (fun _ s₅ h₅ => wpAny_pure (wpAny_pure ⟨rfl, h₅⟩)) fun _ _ f => f.elim)) fun _ _ f => f.elim))

theorem mTg_le {t : Tg} {te : Expr} {v : V} {m0 : M} {P : M → Prop} (ha : asgW t v m0 P) (hm : ∀ x, t.has x → m0.get x = none) : asgW t v m0 fun m1 => P m1 ∧ M.le m0 m1 := by
  cases t with
  | name y =>
    refine ⟨ha, fun x u e => ?_⟩
    rw [M.get_set]
    by_cases q : x = y
    · rw [hm x q] at e; cases e
    · rw [if_neg q]; exact e
  | two y z =>
    unfold asgW at ha ⊢
    cases v <;> try exact ha.elim
    rename_i vs
    match vs, ha with
    | [a, b], ha =>
      refine ⟨ha, fun x u e => ?_⟩
      rw [M.get_set, M.get_set]
      by_cases q : x = z
      · rw [hm x (.inr q)] at e; cases e
      · rw [if_neg q]
        by_cases q2 : x = y
        · rw [hm x (.inl q2)] at e; cases e
        · rw [if_neg q2]; exact e

end
end Mine

set_option autoImplicit false
set_option linter.unusedVariables false
namespace Mine
open PySem PyProof.Rows

section
variable {c : Cx} {d : Nat} {names : Names} {m : M} {H : HM} {X : XPost}

/-- the tests of a comprehension -/
def IfsOK (c : Cx) (d : Nat) (names : Names) (ifs : List Expr) (m : M) (H : HM) (X : XPost) (Q : Bool → HM → Prop) : Prop :=
  ∀ (env : Env) (A : Around) (fr : List Env) (s : Shared) (E : Value → Shared → Prop), Ok c d names env m H A fr s → (∀ e' s', XP c fr X NoW H s e' s' → E e' s') →
    wpAny (Md c) A (forIn ifs true fun c r => if r = true then do let ok ← isTrue c env (eval c env); pure (ForInStep.yield ok) else pure (ForInStep.yield r)) (PstB c H s Q) E s
theorem ifs_nil {Q : Bool → HM → Prop} (h : Q true H) : IfsOK c d names [] m H X Q := fun env A fr s E k hE => wpAny_tests_nil ⟨H, h, Tr.refl k.base k.objs⟩
theorem ifs_one {e : Expr} {Q : Bool → HM → Prop} (h : TsOK c d names e m H X Q) : IfsOK c d names [e] m H X Q := fun env A fr s E k hE => wpAny_tests_one (h env A fr s E k hE)

theorem noX_elim {fr : List Env} {W : Addr → Prop} {s s' : Shared} {e : Value} (x : XP c fr NoX W H s e s') : False := by obtain ⟨_, _, _, _, f, _⟩ := x; exact f

theorem Tg.del_get {t : Tg} {x : String} {v : V} (h : (t.del m).get x = some v) : m.get x = some v ∧ x ≠ ".0" ∧ ¬ t.has x := by
  cases t with
  | name y =>
    simp only [Tg.del, M.get_del] at h
    split at h
    · cases h
    · split at h
      · cases h
      · rename_i h1 h2; exact ⟨h, h1, h2⟩
  | two y z =>
    simp only [Tg.del, M.get_del] at h
    split at h
    · cases h
    · split at h
      · cases h
      · split at h
        · cases h
        · rename_i h1 h2 h3; exact ⟨h, h1, fun q => q.elim h3 h2⟩
theorem Tg.del_none {t : Tg} {x : String} (h : t.has x) : (t.del m).get x = none := by
  cases q : (t.del m).get x with
  | none => rfl
  | some v => exact absurd h (Tg.del_get q).2.2

theorem comp_core {elt te iter : Expr} {ifs : List Expr} {scope : Scope} {pos : Pos} {t : Tg} {env : Env} {A : Around} {fr : List Env} {s s₂ : Shared} {E : Value → Shared → Prop} {it : Value} {RR : Value → Addr → Result → Shared → Prop}
    (hn : CompN names scope.names t) (hkind : scope.kind = .function) (ht : mTg scope.names t te = true) (k : Ok c d names env m H A fr s)
    (EL : M → HM → (V → HM → Prop) → Prop) (CO : M → HM → (Bool → HM → Prop) → Prop) (QC : List V → HM → Prop)
    (hEL : ∀ m H Q, EL m H Q → EvOK c d scope.names elt m H NoX Q) (hCO : ∀ m H Q, CO m H Q → IfsOK c d scope.names ifs m H NoX Q)
    (hit : ItPst c A H s (fun xs G H2 => xs.length ≤ sizeLine ∧ compW EL CO t G (t.del m) xs [] H2 QC) it s₂)
    (hRR : ∀ D C s' H' ys items, QC ys H' → s.heap.get? D = none → s.heap.get? C = none → D ≠ C → s'.heap.PlainList D items → Reps c s'.heap ys items.toList → (∃ mc, s'.heap.Ns C mc) → H' D = none → H' C = none → c.base.get? D = none → c.base.get? C = none →
      Tr c NoW H s H' s' → Ok c d names env m H' A fr s' → RR (.ref D) C (.ok .next) s') :
    wpAny (Md c) A (newList []) (fun acc s₃ => wpAny (Md c) A (newFunctionEnv scope env.globals (closL env scope.names []) [] env.qual none .none (some env)) (fun cenv s₄ =>
      codeAny (Md c) A (.compStart (.ListComp elt [⟨te, iter, ifs, 0⟩] scope pos) 0 it acc { cenv with scope := relabel scope env }) (RR acc cenv.locals) s₄) E s₃) E s₂ := by
  obtain ⟨xs, G, H2, fp, Inv, ⟨hxs, hq⟩, hIt, hinv, hfp, hG, t2⟩ := hit
  have k2 := k.step t2
  refine wpAny_newObj_type (wpAny_newFunctionEnv hn.nocell (by intro y hy; simp at hy) (fun h₁ hns₁ hsb₁ => ?_) hkind)
  dsimp only at hns₁ hsb₁ ⊢
  generalize hD : s₂.heap.objs.size = D at *
  generalize hHp : s₂.heap.push { cls := .type "list", dict := none, data := .seq ([] : List Value).toArray } = Hp at hns₁ hsb₁ ⊢
  have hCs : Hp.objs.size = D + 1 := by rw [← hHp, Heap.size_push, hD]
  generalize hC : Hp.objs.size = C at *
  have hDC : D ≠ C := Nat.ne_of_lt (hCs ▸ Nat.lt_succ_self D)
  have hDleC : D ≤ C := hCs ▸ Nat.le_succ D
  have keep : ∀ b o, s₂.heap.get? b = some o → h₁.get? b = some o := fun b o e => by
    have hb : b < D := hD ▸ Heap.lt_size e
    exact hsb₁.extBut b o (Nat.ne_of_lt (Nat.lt_of_lt_of_le hb hDleC)) (Heap.get?_push_of_some _ (hHp ▸ Heap.get?_push_of_some _ e))
  have hplD : h₁.PlainList D #[] := ⟨0, hsb₁.extBut _ _ hDC (Heap.get?_push_of_some _ (by rw [← hHp, ← hD]; exact Heap.get?_push_size _ rfl))⟩
  have big : ∀ a : Addr, D ≤ a → s₂.heap.get? a = none := fun a ha => by
    cases q : s₂.heap.get? a with
    | none => rfl
    | some ob => exact absurd (hD ▸ Heap.lt_size q) (Nat.not_lt.mpr ha)
  have newS : ∀ a : Addr, D ≤ a → s.heap.get? a = none := fun a ha => by
    rcases t2.none (.inr (big a ha)) with q | q
    · exact q.elim
    · exact q
  have baseNone : ∀ a, s₂.heap.get? a = none → c.base.get? a = none := fun a ha => by
    cases q : c.base.get? a with
    | none => rfl
    | some ob => rw [k2.base a ob q] at ha; cases ha
  have HNone : ∀ a, s₂.heap.get? a = none → H2 a = none := fun a ha => by
    cases q : H2 a with
    | none => rfl
    | some ob => obtain ⟨o, e⟩ := (k2.objs a ob q).1.some; rw [ha] at e; cases e
  have bD := big D (Nat.le_refl _)
  have bC := big C hDleC
  generalize hs₄ : ({ s₂ with heap := h₁, toks := s₂.toks + ([] : List (Str × Value)).length } : Shared) = s₄
  have hh4 : s₄.heap = h₁ := by rw [← hs₄]
  have T4 : Tr c NoW H2 s₂ H2 s₄ := Tr.keepAll k2.base k2.objs (by rw [hh4]; exact keep) ⟨h₁, _, hs₄.symm⟩
  have k4 : Ok c d names env m H2 A fr s₄ := k2.step T4
  generalize hce : ({ (newEnv scope C env.globals (closL env scope.names []) env.qual none .none (some env) builtinsNs) with scope := relabel scope env } : Env) = cenv
  have hceL : cenv.locals = C := by rw [← hce]; rfl
  have hceC : cenv.cells = closL env scope.names [] := by rw [← hce]; rfl
  have hkf : ∀ x, cenv.kindOf x = (scope.names.lookup x).map fun k => if (k == .free && env.scope.kind == .function && env.kindOf x == some .cell) then .cell else k := fun x => by
    rw [← hce]; exact relabel_lookup x
  have cellsBack : ∀ x a, cenv.cells.lookup x = some a → env.cells.lookup x = some a := fun x a h => closL_lookup _ _ x a (hceC ▸ h) (fun y b hy => by simp at hy)
  have isFree : ∀ x, cenv.kindOf x = some .cell ∨ cenv.kindOf x = some .free → scope.names.lookup x = some .free ∧ (env.kindOf x = some .cell ∨ env.kindOf x = some .free) := fun x hx => by
    have hfr : scope.names.lookup x = some .free := by
      rw [hkf] at hx
      cases hl : scope.names.lookup x with
      | none => rw [hl] at hx; simp at hx
      | some kd =>
        rw [hl] at hx
        cases kd <;> simp at hx <;> try rfl
        exact absurd rfl (hn.nocell _ (mem_of_lookup hl))
    refine ⟨hfr, ?_⟩
    rcases hn.free _ (mem_of_lookup hfr) rfl with q | q
    · exact .inl ((k.eok.kinds _ _ q).2.1 rfl)
    · rcases (k.eok.kinds _ _ q).2.2.1 rfl with q | q
      · exact .inr q
      · exact .inl q
  have kc : Ok c d scope.names cenv (t.del m) H2 A fr s₄ := by
    refine ⟨k4.toOk0, ⟨fun x kd e => ?_, by rw [← hce]; exact hkind, by rw [← hce]; exact k.eok.glob, by rw [← hce]; exact k.eok.blt, ⟨by rw [hceL]; exact baseNone _ bC, by rw [hceL]; exact HNone _ bC⟩, fun x a hx => k4.eok.cells x a (cellsBack x a hx), fun x hx => ?_, fun x y a h1 h2 => k.eok.apart x y a (cellsBack _ _ h1) (cellsBack _ _ h2)⟩, ⟨_, by rw [hceL, hh4]; exact hns₁, fun x v hx hl => ?_⟩, fun x v hx hl => ?_⟩
    · rw [hkf, e]
      refine ⟨fun q => by subst q; simp, fun q => by subst q; exact absurd rfl (hn.nocell _ (mem_of_lookup e)), fun q => by subst q; simp only [Option.map_some]; split <;> simp, fun q => by subst q; simp⟩
    · obtain ⟨h1, h2⟩ := isFree x hx
      obtain ⟨a, ha⟩ := k.eok.has x h2
      exact ⟨a, by rw [hceC]; exact closL_has _ _ x a ha (.inl h1) (fun y b hy => by simp at hy)⟩
    · exfalso
      rw [hkf] at hl
      have hloc : scope.names.lookup (Str.ofString x) = some .local := by
        cases hl' : scope.names.lookup (Str.ofString x) with
        | none => rw [hl'] at hl; simp at hl
        | some kd =>
          rw [hl'] at hl
          simp only [Option.map_some] at hl
          split at hl
          · cases hl
          · exact hl
      obtain ⟨_, h0, hnt⟩ := Tg.del_get hx
      rcases hn.loc _ hloc with q | q
      · exact h0 (ofString_inj q)
      · apply hnt
        cases t with
        | name y => exact ofString_inj q
        | two y z => exact q.imp ofString_inj ofString_inj
    · obtain ⟨h1, h2⟩ := isFree _ hl
      obtain ⟨a, w, ha, hc, hr⟩ := k4.vars.cell x v (Tg.del_get hx).1 h2
      exact ⟨a, w, by rw [hceC]; exact closL_has _ _ _ a ha (.inl h1) (fun y b hy => by simp at hy), hc, hr⟩
  have loop : codeAny (Md c) A (.compLoop (.ListComp elt [⟨te, iter, ifs, 0⟩] scope pos) 0 it (.ref D) cenv) (RR (.ref D) C) s₄ := by
    refine compLoop_gen (fun n s' => ∃ i ys items H' mm, n = xs.length - i ∧ i ≤ xs.length ∧ ys.length ≤ i ∧ M.le (t.del m) mm ∧ Ok c d scope.names cenv mm H' A fr s' ∧ Inv i s'.heap ∧ (∀ b ∈ fp, H' b = none ∧ c.base.get? b = none) ∧ G H' ∧
        s'.heap.PlainList D items ∧ Reps c s'.heap ys items.toList ∧ H' D = none ∧ compW EL CO t G (t.del m) (xs.drop i) ys H' QC ∧ Tr c (fun b => b ∈ fp ∨ b = D ∨ b = C) H2 s₄ H' s')
      (fun n s' hI => ?_) (xs.length - 0) ⟨0, [], #[], H2, _, rfl, Nat.zero_le _, Nat.le_refl _, M.le.refl _, kc, hIt.frame _ _ _ hinv (fun b hb o e => by rw [hh4]; exact keep b o e) (T4.tup0 k2.objs), fun b hb => (hfp b hb).2, hG, by rw [hh4]; exact hplD, .nil, HNone _ bD, by simpa using hq, Tr.refl k4.base k4.objs⟩
    obtain ⟨i, ys, items, H', mm, rfl, hi, hyl, hmm, k', hinv', hfp', hG', hpl', hrs', hHD', hw, T'⟩ := hI
    have fldW : ∀ b, b ∈ fp → FldAt s'.heap b := hIt.fld i _ hinv'
    have fpD : ∀ {h : Heap} {it : Array Value} {j : Nat}, Inv j h → h.PlainList D it → D ∉ fp := fun {h it j} hj ⟨n, e⟩ q => by
      obtain ⟨o, vs, e', hd⟩ := hIt.fld j h hj D q
      rw [e] at e'; cases e'; cases hd
    have wrD : ∀ {s5 : Shared} {H5 : HM} {m5 : M} {it : Array Value}, Ok c d scope.names cenv m5 H5 A fr s5 → s5.heap.PlainList D it → ¬ Wr scope.names cenv D := fun {s5 H5 m5 it} k5 ⟨n, e⟩ q => by
      rcases q with q | ⟨z, hz, q⟩
      · rw [hceL] at q; exact hDC q
      · exact absurd rfl (hn.nocell _ (mem_of_lookup hz))
    have wrC : ∀ b, Wr scope.names cenv b → b = C := fun b q => by
      rcases q with q | ⟨z, hz, q⟩
      · rw [q, hceL]
      · exact absurd rfl (hn.nocell _ (mem_of_lookup hz))
    have notD : ∀ it n, ¬ IsD ({ cls := .type "list", data := .seq it n } : Obj) := fun it n ⟨es, e, q⟩ => nomatch q
    -- D stays while it is not written
    have keepD : ∀ {W : Addr → Prop} {Ha Hb : HM} {sa sb : Shared} {its : Array Value}, Tr c W Ha sa Hb sb → Ha D = none → ¬ W D → sa.heap.PlainList D its → sb.heap.PlainList D its := fun {W Ha Hb sa sb its} T hHa hW ⟨n, e⟩ => by
      obtain ⟨o', e', z⟩ := T.keep D _ e hHa hW
      rw [z.eq (notD _ _)] at e'
      exact ⟨n, e'⟩
    by_cases hlt : i < xs.length
    · obtain ⟨x, hx⟩ : ∃ x, xs[i]? = some x := ⟨xs[i], by simp [hlt]⟩
      have hdrop : xs.drop i = x :: xs.drop (i + 1) := by
        rw [List.drop_eq_getElem_cons hlt]
        have : xs[i] = x := by simpa [hlt] using hx
        rw [this]
      refine hIt.item i x s' H' _ _ hx hinv' k'.objs k'.base hG' hfp' fun v s3 rv inv3 t3 => ?_
      have k3 := k'.stepW t3 fldW
      refine hIt.own (i + 1) s3 H' _ _ te v inv3 k3.objs k3.base hfp' fun s5 inv5 t5 => ?_
      have k5 := k3.stepW t5 (hIt.fld _ _ inv3)
      have tupF : ∀ {sa sb : Shared} {j : Nat}, Objs c H' sa.heap → Inv j sa.heap → Tr c (· ∈ fp) H' sa H' sb → TupKeep sa.heap sb.heap := fun {sa sb j} ob hj T => T.tup ob fun a it ⟨n, e⟩ q => by
        obtain ⟨o, vs, e', hd⟩ := hIt.fld _ _ hj a q
        rw [e] at e'; cases e'; cases hd
      have pl3 := keepD t3 hHD' (fpD hinv' hpl') hpl'
      have pl5 := keepD t5 hHD' (fpD inv3 pl3) pl3
      have rs5 := (hrs'.keep (tupF k'.objs hinv' t3)).keep (tupF k3.objs inv3 t5)
      rw [hdrop] at hw
      obtain ⟨H0, hH0, hw⟩ := hw
      have k5' := k5.weaken hmm hH0
      have hn0 : ∀ b, H' b = none → H0 b = none := fun b e => by
        cases q : H0 b with
        | none => rfl
        | some ob => have := hH0 b ob q; rw [e] at this; cases this
      refine asg_ok ht k5' (rv.keep (tupF k3.objs inv3 t5)) (mTg_le (te := te) hw fun y hy => Tg.del_none hy) fun m6 s6 hb6 k6 t6 => ?_
      obtain ⟨hb6, hm6⟩ := hb6
      have pl6 := keepD t6 (hn0 _ hHD') (wrD k5' pl5) pl5
      have rs6 := rs5.keep (k5'.tupWr t6)
      have keepF : ∀ {W : Addr → Prop} {Ha Hb : HM} {sa sb : Shared} {j : Nat}, Tr c W Ha sa Hb sb → (∀ b ∈ fp, Ha b = none) → (∀ b ∈ fp, ¬ W b) → Inv j sa.heap → TupKeep sa.heap sb.heap → Inv j sb.heap := fun {W Ha Hb sa sb j} T hHa hWb hj tk =>
        hIt.frame _ _ _ hj (fun b hb o e => by
          obtain ⟨o', e', z⟩ := T.keep b o e (hHa b hb) (hWb b hb)
          obtain ⟨o2, vs, e2, hd⟩ := hIt.fld _ _ hj b hb
          rw [e] at e2; cases e2
          rw [z.eq (fun ⟨es, n, q⟩ => by rw [hd] at q; cases q)] at e'
          exact e') tk
      have fpC : ∀ b ∈ fp, ¬ Wr scope.names cenv b := fun b hb q => by
        have := wrC b q
        subst this
        obtain ⟨o, vs, e, hd⟩ := hIt.fld _ _ inv5 b hb
        obtain ⟨mv, ⟨oL, es, ep, hoL, hdL, _⟩, _⟩ := k5.vars.ns
        rw [hceL, e] at hoL; cases hoL; rw [hd] at hdL; cases hdL
      have inv6 := keepF t6 (fun b hb => hn0 b (hfp' b hb).1) fpC inv5 (k5'.tupWr t6)
      have T6 : Tr c (fun b => b ∈ fp ∨ b = D ∨ b = C) H2 s₄ H0 s6 :=
        (((T'.trans (t3.mono fun _ q => .inl q)).trans (t5.mono fun _ q => .inl q)).weaken hH0).trans (t6.mono fun b q => .inr (.inr (wrC b q)))
      refine wpAny_mono (hCO m6 H0 _ hb6 cenv A fr s6 (fun _ _ => False) k6 fun e' s' x => noX_elim x) ?_ fun _ _ f => f
      rintro ok s7 ⟨H7, hq7, t7⟩
      have k7 := k6.step t7
      have pl7 := keepD t7 (hn0 _ hHD') (fun f => f) pl6
      have rs7 := rs6.keep (t7.tup0 k6.objs)
      have fp7 : ∀ b ∈ fp, H7 b = none := fun b hb => by
        obtain ⟨o, vs, e, _⟩ := hIt.fld _ _ inv6 b hb
        exact t7.new e (hn0 b (hfp' b hb).1) fun f => f
      have hHD7 : H7 D = none := by obtain ⟨n, e⟩ := pl6; exact t7.new e (hn0 _ hHD') fun f => f
      have inv7 := keepF t7 (fun b hb => hn0 b (hfp' b hb).1) (fun _ _ f => f) inv6 (t7.tup0 k6.objs)
      cases ok with
      | false =>
        simp only [Bool.false_eq_true, if_false] at hq7 ⊢
        exact ⟨xs.length - (i + 1), by omega, i + 1, ys, items, H7, m6, rfl, hlt, by omega, hm6, k7, inv7, fun b hb => ⟨fp7 b hb, (hfp' b hb).2⟩, hq7.1, pl7, rs7, hHD7, hq7.2, T6.trans t7.noW⟩
      | true =>
        simp only [if_true] at hq7 ⊢
        refine wpAny_mono (hEL m6 H7 _ hq7 cenv A fr s7 (fun _ _ => False) k7 fun e' s' x => noX_elim x) ?_ fun _ _ f => f
        rintro w s8 ⟨r, H8, hq8, rw8, t8⟩
        have k8 := k7.step t8
        have pl8 := keepD t8 hHD7 (fun f => f) pl7
        have rs8 := rs7.keep (t8.tup0 k7.objs)
        have fp8 : ∀ b ∈ fp, H8 b = none := fun b hb => by
          obtain ⟨o, vs, e, _⟩ := hIt.fld _ _ inv7 b hb
          exact t8.new e (fp7 b hb) fun f => f
        have hHD8 : H8 D = none := by obtain ⟨n, e⟩ := pl7; exact t8.new e hHD7 fun f => f
        have inv8 := keepF t8 fp7 (fun _ _ f => f) inv7 (t8.tup0 k7.objs)
        have hsz : items.size ≤ sizeLine := by
          have h1 := hrs'.length
          have h2 : items.toList.length = items.size := by simp
          omega
        refine wpAny_list_append_plain pl8 (fun h9 pl9 hs9 => ?_) hsz
        have bDb : c.base.get? D = none := baseNone _ bD
        obtain ⟨n8, e8⟩ := id pl8
        obtain ⟨n9, e9⟩ := id pl9
        have tk9 : TupKeep s8.heap h9 := fun a it tt => by
          have hx : a ≠ D := fun q => by subst q; obtain ⟨n, e⟩ := tt; rw [e8] at e; simp at e
          exact tt.at fun ob e => (hs9.2 a hx).trans e
        have T9 : Tr c (fun b => b = D) H8 s8 H8 { s8 with heap := h9, toks := s8.toks } :=
          tr_but (oa := default) k8.base k8.objs tk9 hHD8 bDb rfl hs9 e9
        have k9 : Ok c d scope.names cenv m6 H8 A fr { s8 with heap := h9 } := by
          obtain ⟨mv, hns, hmv⟩ := k8.vars.ns
          obtain ⟨oL, es, ep, hoL, hdL, _⟩ := id hns
          have hLD : cenv.locals ≠ D := by rw [hceL]; exact Ne.symm hDC
          have cellD : ∀ y a, cenv.cells.lookup y = some a → a ≠ D := fun y a hy q => by
            obtain ⟨⟨v0, oc, hoc, hdc⟩, _⟩ := k8.eok.cells y a hy
            rw [q, e8] at hoc; cases hoc; cases hdc
          refine ⟨⟨k8.a, frOK_but k8.fr hs9 fun o ho hd => ?_, T9.base, k8.lim, T9.objs'⟩, ⟨k8.eok.kinds, k8.eok.fn, k8.eok.glob, k8.eok.blt, k8.eok.localsNew, fun y a hy => ?_, k8.eok.has, k8.eok.apart⟩, ⟨mv, hns.sameBut hs9 hLD, fun y u hy hl => ?_⟩, fun y u hy hl => ?_⟩
          · rw [e8] at ho; cases ho; exact absurd hd (notD _ _)
          · obtain ⟨⟨v0, hc⟩, hb, hH⟩ := k8.eok.cells y a hy
            exact ⟨⟨v0, hc.sameBut hs9 (cellD y a hy)⟩, hb, hH⟩
          · obtain ⟨w', h1, h2⟩ := hmv y u hy hl; exact ⟨w', h1, h2.keep tk9⟩
          · obtain ⟨a, w', h1, h2, h3⟩ := k8.vars.cell y u hy hl
            exact ⟨a, w', h1, h2.sameBut hs9 (cellD _ _ h1), h3.keep tk9⟩
        have inv9 : Inv (i + 1) h9 := hIt.frame _ _ _ inv8 (fun b hb o e => (hs9.2 b (fun q => fpD inv8 pl8 (q ▸ hb))).trans e) tk9
        refine ⟨xs.length - (i + 1), by omega, i + 1, ys ++ [r], items.push w, H8, m6, rfl, hlt, by rw [List.length_append]; simp; omega, hm6, k9, inv9, fun b hb => ⟨fp8 b hb, (hfp' b hb).2⟩, hq8.1, pl9, ?_, hHD8, hq8.2, ((T6.trans t7.noW).trans t8.noW).trans (T9.mono fun b q => .inr (.inl q))⟩
        rw [Array.toList_push]
        exact Reps.append (rs8.keep tk9) (.one (rw8.keep tk9))
    · have hie : i = xs.length := by omega
      subst hie
      refine hIt.done s' H' _ _ hinv' k'.objs k'.base hG' hfp' fun s3 t3 => ?_
      have k3 := k'.stepW t3 fldW
      simp only [List.drop_length, compW] at hw
      have tk3 : TupKeep s'.heap s3.heap := t3.tup k'.objs fun a it ⟨n, e⟩ q => by
        obtain ⟨o, vs, e', hd⟩ := hIt.fld _ _ hinv' a q
        rw [e] at e'; cases e'; cases hd
      have TT : Tr c NoW H s H' s3 := by
        refine (((t2.trans T4).noW (W := fun b => b ∈ fp ∨ b = D ∨ b = C)).trans (T'.trans (t3.mono fun _ q => .inl q))).shrink fun b q => .inr ?_
        rcases q with q | q | q
        · exact (hfp b q).1
        · subst q; exact newS _ (Nat.le_refl _)
        · subst q; exact newS _ hDleC
      obtain ⟨mv, hns, _⟩ := k3.vars.ns
      refine hRR D C s3 H' ys items hw (newS _ (Nat.le_refl _)) (newS _ hDleC) hDC (keepD t3 hHD' (fpD hinv' hpl') hpl') (hrs'.keep tk3) ⟨mv, hceL ▸ hns⟩ hHD' ?_ (baseNone _ bD) (baseNone _ bC) TT (k.step TT)
      have := k3.eok.localsNew.2
      rw [hceL] at this; exact this
  have hfin : codeAny (Md c) A (.compStart (.ListComp elt [⟨te, iter, ifs, 0⟩] scope pos) 0 it (.ref D) cenv) (RR (.ref D) C) s₄ :=
    codeAny_compStart_list loop (hIt.self 0 s₄ _ _ (hIt.frame _ _ _ hinv (fun b hb o e => by rw [hh4]; exact keep b o e) (T4.tup0 k2.objs)) loop)
  exact hfin

end
end Mine

set_option autoImplicit false
set_option linter.unusedVariables false
namespace Mine
open PySem PyProof.Rows

section
variable {c : Cx} {d : Nat} {names : Names} {m : M} {H : HM} {X : XPost}

theorem clos_ok {scope : Scope} {t : Tg} {env : Env} {A : Around} {fr : List Env} {s : Shared} (hn : CompN names scope.names t) (k : Ok c d names env m H A fr s) : closureFor scope env = pure (closL env scope.names []) := by
  refine closureFor_closL fun x hx hk => ?_
  rcases hn.free x hx hk with q | q
  · exact k.eok.has _ (.inl ((k.eok.kinds _ _ q).2.1 rfl))
  · exact k.eok.has _ ((k.eok.kinds _ _ q).2.2.1 rfl).symm

/-- the made list comes onto the ledger -/
theorem tr_track {W : Addr → Prop} {H' : HM} {s s' : Shared} {h'' : Heap} {C D : Addr} {ys : List V} {items : Array Value} (x : Tr c W H s H' s') (k : Objs c H' s'.heap) (hD : s.heap.get? D = none) (hC : s.heap.get? C = none) (hDC : D ≠ C) (hCb : c.base.get? C = none) (hDb : c.base.get? D = none) (hHC : H' C = none)
    (hpl : s'.heap.PlainList D items) (hr : Reps c s'.heap ys items.toList) (hns : ∃ mc, s'.heap.Ns C mc) (hs : Heap.SameBut C s'.heap h'') : Tr c W H s (H'.set D (.list ys)) { s' with heap := h'' } := by
  obtain ⟨mc, oC, es, ep, hoC, hdC, _⟩ := hns
  have tk : TupKeep s'.heap h'' := tupKeep_but hoC (fun it n q => by rw [hdC] at q; cases q) hs
  have ob := objs_but k tk hHC hs
  refine ⟨?_, fun a o e => ?_, fun a o e hw => ?_, fun a o e hH hw => ?_, fun a o e => ?_⟩
  · obtain ⟨h1, t1, rfl⟩ := x.same; exact ⟨_, _, rfl⟩
  · have hx : a ≠ C := fun q => by subst q; rw [hCb] at e; cases e
    exact (hs.2 a hx).trans (x.base a o e)
  · have hx : a ≠ C := fun q => by subst q; rw [hC] at e; cases e
    obtain ⟨o1, e1⟩ := x.grow a o e hw
    exact ⟨o1, (hs.2 a hx).trans e1⟩
  · have hx : a ≠ C := fun q => by subst q; rw [hC] at e; cases e
    obtain ⟨o1, e1, z⟩ := x.keep a o e hH hw
    exact ⟨o1, (hs.2 a hx).trans e1, z⟩
  · by_cases q : a = D
    · subst q
      rw [HM.set_same] at e; cases e
      exact ⟨⟨items, hpl.at fun ob e => (hs.2 _ hDC).trans e, hr.keep tk⟩, hDb, fun _ => .inr hD⟩
    · rw [HM.set_ne _ _ q] at e
      obtain ⟨a1, a2, a3⟩ := x.objs a o e
      exact ⟨(ob a o e).1, a2, a3⟩

theorem ev_comp {elt te iter : Expr} {ifs : List Expr} {scope : Scope} {pos : Pos} {t : Tg} {Q : V → HM → Prop} (hn : CompN names scope.names t) (hkind : scope.kind = .function) (ht : mTg scope.names t te = true) (hns : notSet iter = true)
    (EL : M → HM → (V → HM → Prop) → Prop) (CO : M → HM → (Bool → HM → Prop) → Prop)
    (hEL : ∀ m H Q, EL m H Q → EvOK c d scope.names elt m H NoX Q) (hCO : ∀ m H Q, CO m H Q → IfsOK c d scope.names ifs m H NoX Q)
    (h : ItOK c d names iter m H X fun xs G H2 => xs.length ≤ sizeLine ∧ compW EL CO t G (t.del m) xs [] H2 fun ys H' => ∀ a, H' a = none → Q (.ref a) (H'.set a (.list ys))) :
    EvOK c d names (.ListComp elt [⟨te, iter, ifs, 0⟩] scope pos) m H X Q := by
  intro env A fr s E k hE
  rw [eval_ListComp]
  refine wpAny_comprehension_free (use := none) rfl (folded_plain hns) (clos_ok hn k) hkind hn.self (wpAny_mono (h env A fr s E k hE) (fun x s₁ h₁ => wpAny_mono h₁ (fun it s₂ h₂ => ?_) fun _ _ x => x) fun _ _ x => x)
  refine comp_core hn hkind ht k EL CO _ hEL hCO h₂ fun D C s' H' ys items hq hD hC hDC hpl hr hnsC hHD hHC hDb hCb T k' => ?_
  obtain ⟨mc, hmc⟩ := hnsC
  exact ⟨mc, hmc, fun h'' hs => ⟨.ref D, _, hq D hHD, .ref D, tr_track T k'.objs hD hC hDC hCb hDb hHC hpl hr ⟨mc, hmc⟩ hs⟩⟩

/-- x = [.. for ..] -/
theorem st_assign_comp {x : String} {px : Pos} {elt te iter : Expr} {ifs : List Expr} {scope : Scope} {pos spos : Pos} {t : Tg} {Q : Fl → M → HM → Prop} (hx : isStore names x = true) (hn : CompN names scope.names t) (hkind : scope.kind = .function) (ht : mTg scope.names t te = true) (hns : notSet iter = true)
    (EL : M → HM → (V → HM → Prop) → Prop) (CO : M → HM → (Bool → HM → Prop) → Prop)
    (hEL : ∀ m H Q, EL m H Q → EvOK c d scope.names elt m H NoX Q) (hCO : ∀ m H Q, CO m H Q → IfsOK c d scope.names ifs m H NoX Q)
    (h : ItOK c d names iter m H X fun xs G H2 => xs.length ≤ sizeLine ∧ compW EL CO t G (t.del m) xs [] H2 fun ys H' => ∀ a, H' a = none → Q .next (m.set x (.ref a)) (H'.set a (.list ys))) :
    StOK c d names (.Assign [.Name (Str.ofString x) px] (.ListComp elt [⟨te, iter, ifs, 0⟩] scope pos) spos) m H X Q := by
  intro env A fr s E k hE
  have hcases : swapsWith (.ListComp elt [⟨te, iter, ifs, 0⟩] scope pos) (some (.Name (Str.ofString x) px)) spos.line env = pure true ∨ swapsWith (.ListComp elt [⟨te, iter, ifs, 0⟩] scope pos) (some (.Name (Str.ofString x) px)) spos.line env = pure false := by
    unfold swapsWith
    dsimp only
    cases hb : (env.blockKind == .function && env.kindOf (Str.ofString x) == some .local && px.line == (Expr.ListComp elt [⟨te, iter, ifs, 0⟩] scope pos).pos.line
      && !(scope.names.any fun (n, k) => n == Str.ofString x && (k == .local || k == .cell))) with
    | true => exact .inl rfl
    | false => exact .inr rfl
  rcases hcases with hsw | hsw
  · rw [exec_Assign_Name_used _ _ _ _ hsw]
    refine wpAny_bind (wpAny_standAt (wpAny_bind ?_))
    show wpAny _ A (do let _ ← comprehension (.ListComp elt [⟨te, iter, ifs, 0⟩] scope pos) scope env _ (newList []) false (eval iter env) (some (assign (.Name (Str.ofString x) px) env))) _ _ s
    refine wpAny_bind (wpAny_mono (wpAny_comprehension_free (use := some (assign (.Name (Str.ofString x) px) env)) (Q := fun _ s' => PstS c d names env A fr H s Q .next s') rfl (folded_plain hns) (clos_ok hn k) hkind hn.self
      (wpAny_mono (h env A fr s E k fun e' s' x => hE _ _ x.noW) (fun xv s₁ h₁ => wpAny_mono h₁ (fun it s₂ h₂ => ?_) fun _ _ e => e) fun _ _ e => e)) (fun _ s' hq => wpAny_pure (wpAny_pure hq)) fun _ _ e => e)
    refine comp_core hn hkind ht k EL CO _ hEL hCO h₂ fun D C s' H' ys items hq hD hC hDC hpl hr hnsC hHD hHC hDb hCb T k' => ?_
    obtain ⟨mc, hmc⟩ := hnsC
    show wpAny _ A (assign (.Name (Str.ofString x) px) env (.ref D)) _ _ _
    -- first onto the ledger, then the name
    have T1 := tr_track T k'.objs hD hC hDC hCb hDb hHC hpl hr ⟨mc, hmc⟩ (Heap.SameBut.refl C s'.heap)
    have k1 : Ok c d names env m (H'.set D (.list ys)) A fr s' := k.step T1
    refine wpAny_assign_Name (store_ok hx k1 (.ref D) fun s2 k2 t2 => ?_)
    obtain ⟨mv1, hns1, _⟩ := k1.vars.ns
    obtain ⟨oL, es, ep, hoL, hdL, _⟩ := id hns1
    have hLC : ¬ Wr names env C := by
      rintro (q | ⟨z, _, q⟩)
      · obtain ⟨mvk, ⟨oLk, esk, epk, hoLk, _⟩, _⟩ := k.vars.ns
        rw [← q, hC] at hoLk; cases hoLk
      · obtain ⟨⟨v0, oc, hoc, hdc⟩, _⟩ := k.eok.cells z C q
        rw [hC] at hoc; cases hoc
    have hHC1 : (H'.set D (.list ys)) C = none := by rw [HM.set_ne _ _ (Ne.symm hDC)]; exact hHC
    have hmc2 : s2.heap.Ns C mc := ns_slots hmc fun o ho => t2.keep C o ho hHC1 hLC
    refine ⟨mc, hmc2, fun h3 hs3 => ?_⟩
    obtain ⟨oC, esC, epC, hoC, hdC, _⟩ := id hmc2
    have hHC2 : (H'.set D (.list ys)) C = none := hHC1
    have tk3 : TupKeep s2.heap h3 := tupKeep_but hoC (fun it n q => by rw [hdC] at q; cases q) hs3
    have TT : Tr c (Wr names env) H s (H'.set D (.list ys)) { s2 with heap := h3 } := by
      have T12 := (T1.noW (W := Wr names env)).trans t2
      refine ⟨by obtain ⟨h1, t1, e⟩ := T12.same; rw [e]; exact ⟨_, _, rfl⟩, fun a o e => ?_, fun a o e hw => ?_, fun a o e hH hw => ?_, fun a o e => ⟨(objs_but T12.objs' tk3 hHC2 hs3 a o e).1, (T12.objs a o e).2⟩⟩
      · have hx : a ≠ C := fun q => by subst q; rw [hCb] at e; cases e
        exact (hs3.2 a hx).trans (T12.base a o e)
      · have hx : a ≠ C := fun q => by subst q; rw [hC] at e; cases e
        obtain ⟨o1, e1⟩ := T12.grow a o e hw
        exact ⟨o1, (hs3.2 a hx).trans e1⟩
      · have hx : a ≠ C := fun q => by subst q; rw [hC] at e; cases e
        obtain ⟨o1, e1, z⟩ := T12.keep a o e hH hw
        exact ⟨o1, (hs3.2 a hx).trans e1, z⟩
    have k3 : Ok c d names env (m.set x (.ref D)) (H'.set D (.list ys)) A fr { s2 with heap := h3 } := by
      obtain ⟨mv, hns, hmv⟩ := k2.vars.ns
      have hLne : env.locals ≠ C := fun q => hLC (.inl q.symm)
      have cellNe : ∀ y a, env.cells.lookup y = some a → a ≠ C := fun y a hy q => by
        obtain ⟨⟨v0, oc, hoc, hdc⟩, _⟩ := k.eok.cells y a hy
        rw [q, hC] at hoc; cases hoc
      refine ⟨⟨k2.a, fun e he => ?_, TT.base, k2.lim, TT.objs'⟩, ⟨k2.eok.kinds, k2.eok.fn, k2.eok.glob, k2.eok.blt, k2.eok.localsNew, fun y a hy => ?_, k2.eok.has, k2.eok.apart⟩, ⟨mv, hns.sameBut hs3 hLne, fun y u hy hl => ?_⟩, fun y u hy hl => ?_⟩
      · obtain ⟨a1, L, o, b1, b2, b3, b4, b5⟩ := k2.fr e he
        obtain ⟨_, L', o', b1', b2', b3', b4', _⟩ := k.fr e he
        rw [b1] at b1'; cases b1'
        have hx : L ≠ C := fun q => by rw [q, hC] at b4'; cases b4'
        exact ⟨a1, L, o, b1, b2, b3, (hs3.2 L hx).trans b4, b5⟩
      · obtain ⟨⟨v0, hc⟩, hb, hH⟩ := k2.eok.cells y a hy
        exact ⟨⟨v0, hc.sameBut hs3 (cellNe y a hy)⟩, hb, hH⟩
      · obtain ⟨w', h1, h2⟩ := hmv y u hy hl; exact ⟨w', h1, h2.keep tk3⟩
      · obtain ⟨a, w', h1, h2, h3'⟩ := k2.vars.cell y u hy hl
        exact ⟨a, w', h1, h2.sameBut hs3 (cellNe _ _ h1), h3'.keep tk3⟩
    exact ⟨.next, _, _, hq D hHD, .next, TT, k3⟩
  · have hev : EvOK c d names (.ListComp elt [⟨te, iter, ifs, 0⟩] scope pos) m H X fun v H1 => Q .next (m.set x v) H1 := ev_comp hn hkind ht hns EL CO hEL hCO h
    refine wpAny_Assign_Name (hev.use k (fun e' s' x => hE _ _ x.noW) fun v s1 a H1 h1 ra t1 k1 hE1 => ?_) hsw
    exact store_ok hx k1 ra fun s2 k2 t2 => ⟨.next, _, H1, h1, .next, t1.noW.trans t2, k2⟩

/-! ## while -/
def whileW (T : M → HM → (Bool → HM → Prop) → Prop) (B : M → HM → (Fl → M → HM → Prop) → Prop) : Nat → M → HM → (Fl → M → HM → Prop) → Prop
  | 0, _, _, _ => False
  | n + 1, m, H, Q => ∃ m0 H0, M.le m0 m ∧ HM.le H0 H ∧ T m0 H0 fun b H1 => if b then B m0 H1 fun fl m2 H2 => (match fl with | .next => whileW T B n m2 H2 Q | .ret v => Q (.ret v) m2 H2) else Q .next m0 H1

theorem st_while {te : Expr} {body : List Stmt} {pos : Pos} {Q : Fl → M → HM → Prop} (T : M → HM → (Bool → HM → Prop) → Prop) (B : M → HM → (Fl → M → HM → Prop) → Prop)
    (hT : ∀ m H Q, T m H Q → TsOK c d names te m H NoX Q) (hB : ∀ m H Q, B m H Q → SsOK c d names body m H NoX Q)
    (h : ∃ n, whileW T B n m H Q) : StOK c d names (.While te body [] pos) m H X Q := by
  intro env A fr s E k hE
  obtain ⟨n, h⟩ := h
  refine wpAny_While ?_
  refine codeAny_loop' rfl (fun n s' => ∃ m' H', Ok c d names env m' H' A fr s' ∧ whileW T B n m' H' Q ∧ Tr c (Wr names env) H s H' s') (fun n s' hI => ?_) n ⟨m, H, k, h, Tr.refl k.base k.objs⟩
  show wpAny _ A ((whileTurn te body [] env).onRaise (fun x => do noteFrame x env; theTreesLotGoes x)) _ _ s'
  refine wpAny_noted ?_
  obtain ⟨m', H', k', hw, T'⟩ := hI
  cases n with
  | zero => exact hw.elim
  | succ n =>
    obtain ⟨m0, H0, hm0, hH0, hw⟩ := hw
    have k0 := k'.weaken hm0 hH0
    have T0 := T'.weaken hH0
    unfold whileTurn
    refine wpAny_bind (wpAny_mono ((hT _ _ _ hw) env A fr s' (fun _ _ => False) k0 fun e' s' x => noX_elim x) ?_ fun _ _ f => f.elim)
    rintro b s1 ⟨H1, hq, t1⟩
    have k1 := k0.step t1
    cases b with
    | false =>
      simp only [Bool.false_eq_true, if_false] at hq ⊢
      exact wpAny_bind (wpAny_execs_nil (wpAny_pure ⟨.next, m0, H1, hq, .next, T0.trans t1.noW, k1⟩))
    | true =>
      simp only [if_true] at hq ⊢
      refine wpAny_bind (wpAny_mono ((hB _ _ _ hq) env A fr s1 (fun _ _ => False) k1 fun e' s' x => noX_elim x) ?_ fun _ _ f => f.elim)
      rintro f s2 ⟨fl, m2, H2, hq2, rf, t2, k2⟩
      have T2 := (T0.trans t1.noW).trans t2
      cases rf with
      | next => exact wpAny_pure (.inl ⟨rfl, n, Nat.lt_succ_self n, m2, H2, k2, hq2, T2⟩)
      | ret r => exact wpAny_pure ⟨_, m2, H2, hq2, .ret r, T2, k2⟩

end
end Mine

set_option autoImplicit false
set_option linter.unusedVariables false
namespace Mine
open PySem PyProof.Rows

section
variable {c : Cx} {d : Nat} {H : HM} {X : XPost}

theorem Tr.allocA {W : Addr → Prop} {s : Shared} (b : c.base.StaysIn s.heap) (k : Objs c H s.heap) {items : Array Value} {xs : List V} (hr : Reps c s.heap xs items.toList) {t : Nat} :
    Tr c W H s (H.set s.heap.objs.size (.list xs)) { s with heap := s.heap.push { cls := .type "list", data := .seq items }, toks := t } := by
  have := Tr.alloc (W := W) (t := t) b k hr
  rwa [Array.toArray_toList] at this

/-! ## truth -/
def truthW (v : V) (H : HM) (Q : Bool → HM → Prop) : Prop :=
  match v with
  | .none => Q false H
  | .bool b => Q b H
  | .int i => Q (i != 0) H
  | .str s => s.length < 2 ^ 62 ∧ Q (s.length != 0) H
  | .tup vs => vs.length < 2 ^ 62 ∧ Q (!vs.isEmpty) H
  | .ref a => match H a with | some (.list xs) => xs.length < 2 ^ 62 ∧ Q (!xs.isEmpty) H | _ => False
  | _ => False

theorem Reps.size {h : Heap} {xs : List V} {items : Array Value} (r : Reps c h xs items.toList) : items.size = xs.length := by rw [← r.length]; simp
theorem Reps.empty {h : Heap} {xs : List V} {items : Array Value} (r : Reps c h xs items.toList) : items.isEmpty = xs.isEmpty := by
  have := r.size
  rw [Array.isEmpty, this]
  cases xs <;> simp

theorem truth_ok {v : V} {Q : Bool → HM → Prop} (h : truthW v H Q) : OpBOK c d truthy v H X Q := by
  intro A fr s E w k r hE
  have R : Tr c NoW H s H s := Tr.refl k.base k.objs
  cases r with
  | none => exact truthy_none ⟨H, h, R⟩
  | bool b => exact wpAny_truthy_bool ⟨H, h, R⟩
  | int i t => exact P.truthy_int ⟨H, h, R⟩
  | str x t =>
    refine PySem.P.truthy_str (by have := h.1; omega) ⟨H, ?_, R.toks⟩
    have : ((x.length : Int) != 0) = (x.length != 0) := by
      rw [Bool.eq_iff_iff]; simp only [bne_iff_ne, ne_eq]; omega
    rw [this]; exact h.2
  | tup hp hr =>
    refine truthy_tuple hp.isTup (by rw [hr.size]; have := h.1; omega) ⟨H, ?_, R.toks⟩
    rw [hr.empty]; exact h.2
  | ref a =>
    simp only [truthW] at h
    split at h
    · rename_i xs hx
      obtain ⟨items, hl, hr⟩ := (k.objs _ _ hx).1
      refine wpAny_truthy_list hl.isList (by rw [hr.size]; have := h.1; omega) ⟨H, ?_, R.toks⟩
      rw [hr.empty]; exact h.2
    · exact h.elim
  | bi _ => exact h.elim
  | g _ => exact h.elim
  | scr => exact h.elim

/-! ## two operands -/
def binW (op : Operator) (a b : V) (H : HM) (Q : V → HM → Prop) : Prop :=
  match op, a, b with
  | .Add, .int x, .int y => Q (.int (x + y)) H
  | .Sub, .int x, .int y => Q (.int (x - y)) H
  | .Mult, .int x, .int y => (x.natAbs < 2 ^ 64 ∨ y.natAbs < 2 ^ 64) ∧ Q (.int (x * y)) H
  | .FloorDiv, .int x, .int y => y ≠ 0 ∧ y.natAbs < 2 ^ 30 ∧ Q (.int (x.fdiv y)) H
  | .Mod, .int x, .int y => y ≠ 0 ∧ Q (.int (x.fmod y)) H
  | .Add, .tup xs, .tup ys => xs.length + ys.length ≤ sizeLine ∧ Q (.tup (xs ++ ys)) H
  | .Add, .ref x, .ref y => match H x, H y with
    | some (.list xs), some (.list ys) => xs.length + ys.length ≤ sizeLine ∧ ∀ a, H a = none → Q (.ref a) (H.set a (.list (xs ++ ys)))
    | _, _ => False
  | _, _, _ => False

theorem intMulOk {x y : Int} (h : x.natAbs < 2 ^ 64 ∨ y.natAbs < 2 ^ 64) : IntMulOk x y := by
  have key : ∀ z : Int, z.natAbs < 2 ^ 64 → Builtin.Int.intBits z ≤ 64 := fun z hz => by
    unfold Builtin.Int.intBits
    split
    · omega
    · rename_i h0
      have : z.natAbs ≠ 0 := by simpa using h0
      have := (Nat.log2_lt this).mpr hz
      omega
  rcases h with h | h
  · exact IntMulOk.of_left (key x h)
  · exact IntMulOk.of_right (key y h)

theorem bin_ok {op : Operator} {a b : V} {Q : V → HM → Prop} (h : binW op a b H Q) : OpOK c d (bin2 op) [a, b] H X Q := by
  intro A fr s E vs k hr hE
  have R : Tr c NoW H s H s := Tr.refl k.base k.objs
  cases hr with
  | cons ra hr =>
  cases hr with
  | cons rb hr =>
  cases hr
  show wpAny (Md c) A (binaryOp op _ _) _ _ _
  unfold binW at h
  split at h
  · cases ra; cases rb; exact add_int ⟨_, H, h, .int _ _, R.toks⟩
  · cases ra; cases rb; exact sub_int ⟨_, H, h, .int _ _, R.toks⟩
  · cases ra; cases rb; exact mul_int ⟨_, H, h.2, .int _ _, R.toks⟩ (intMulOk h.1)
  · cases ra; cases rb; exact floordiv_int h.1 ⟨_, H, h.2.2, .int _ _, R.toks⟩ (.inl (PyProof.noPylong_small (by have := h.2.1; omega)))
  · cases ra; cases rb; exact mod_int' h.1 ⟨_, H, h.2, .int _ _, R.toks⟩
  · rename_i xs ys
    cases ra with
    | tup hp hr =>
    cases rb with
    | tup hp2 hr2 =>
      rename_i ta items tb items2
      obtain ⟨n, e⟩ := id hp
      obtain ⟨n2, e2⟩ := id hp2
      have s1 := hr.size
      have s2 := hr2.size
      by_cases e1 : items.isEmpty = true
      · have hx : xs = [] := by have := hr.empty; rw [e1] at this; simpa using this.symm
        subst hx
        refine concat_meets ⟨_, e, rfl⟩ ⟨_, e2, rfl⟩ noFill_tuple_add seq_tuple_add F.slot_tuple_add F.entry_tuple_add (F.args_tuple_add_2 _ _) (AutoSeq1.tuple___add___tuple_tuple_0 _ items n _ items2 n2 e1) ⟨e, e2, ?_⟩
        exact ⟨_, H, h.2, by simpa using Rep.tup hp2 hr2, R⟩
      · by_cases e3 : items2.isEmpty = true
        · have hy : ys = [] := by have := hr2.empty; rw [e3] at this; simpa using this.symm
          subst hy
          refine concat_meets ⟨_, e, rfl⟩ ⟨_, e2, rfl⟩ noFill_tuple_add seq_tuple_add F.slot_tuple_add F.entry_tuple_add (F.args_tuple_add_2 _ _) (AutoSeq1.tuple___add___tuple_tuple_1 _ items n _ items2 n2 e1 e3) ⟨e, e2, ?_⟩
          exact ⟨_, H, h.2, by simpa using Rep.tup hp hr, R⟩
        · refine concat_meets ⟨_, e, rfl⟩ ⟨_, e2, rfl⟩ noFill_tuple_add seq_tuple_add F.slot_tuple_add F.entry_tuple_add (F.args_tuple_add_2 _ _) (AutoSeq1.tuple___add___tuple_tuple_2 _ items n _ items2 n2 e1 e3 (by have := h.1; omega)) ⟨e, e2, ?_⟩
          refine ⟨_, H, h.2, .tup (PTup.new _ _) ?_, Tr.push (t := s.toks) k.base k.objs _⟩
          rw [Array.toList_append]
          exact (Reps.append hr hr2).keep (tupKeep_push _ _)
  · rename_i x y
    cases ra; cases rb
    split at h
    · rename_i xs ys hx hy
      obtain ⟨items, ⟨n, e⟩, hr⟩ := (k.objs _ _ hx).1
      obtain ⟨items2, ⟨n2, e2⟩, hr2⟩ := (k.objs _ _ hy).1
      have s1 := hr.size
      have s2 := hr2.size
      refine PySem.P.add_list e e2 ?_ (by have := h.1; omega)
      have T := Tr.allocA (W := NoW) (t := s.toks) (items := items ++ items2) k.base k.objs (by rw [Array.toList_append]; exact Reps.append hr hr2)
      exact ⟨.ref _, _, h.2 _ k.objs.fresh, .ref _, T⟩
    · exact h.elim
  · exact h.elim

/-! ## comparisons -/
def sameW : V → V → Option Bool
  | .none, .none => some true
  | .bool a, .bool b => some (a == b)
  | .none, .bool _ => some false
  | .bool _, .none => some false
  | .int _, .none => some false
  | .str _, .none => some false
  | .tup _, .none => some false
  | .ref _, .none => some false
  | .int _, .bool _ => some false
  | .str _, .bool _ => some false
  | .tup _, .bool _ => some false
  | .ref _, .bool _ => some false
  | _, _ => .none

theorem same_ok {Mo : Model} {A : Around} {E : Value → Shared → Prop} {s : Shared} {h : Heap} {a b : V} {u v : Value} {r : Bool} (e : sameW a b = some r) (ra : Rep c h a u) (rb : Rep c h b v) {R : Bool → Shared → Prop} (hR : R r s) : wpAny Mo A (isSame u v) R E s := by
  cases ra <;> cases rb <;> simp only [sameW, Option.some.injEq, reduceCtorEq] at e <;> subst e <;>
    exact wpAny_isSame_plain rfl (by first | exact hR | simpa using hR | (rename_i p q; cases p <;> cases q <;> exact hR))

theorem is_ok {Mo : Model} {A : Around} {E : Value → Shared → Prop} {s : Shared} {h : Heap} {a b : V} {u v : Value} {r : Bool} (e : sameW a b = some r) (ra : Rep c h a u) (rb : Rep c h b v) {Q : Value → Shared → Prop} (hQ : Q (.bool r) s) : wpAny Mo A (compareOp .Is u v) Q E s := by
  show wpAny Mo A (do return Value.bool (← isSame u v)) Q E s
  exact wpAny_bind (same_ok e ra rb (wpAny_pure hQ))
theorem isNot_ok {Mo : Model} {A : Around} {E : Value → Shared → Prop} {s : Shared} {h : Heap} {a b : V} {u v : Value} {r : Bool} (e : sameW a b = some r) (ra : Rep c h a u) (rb : Rep c h b v) {Q : Value → Shared → Prop} (hQ : Q (.bool (!r)) s) : wpAny Mo A (compareOp .IsNot u v) Q E s := by
  show wpAny Mo A (do return Value.bool (!(← isSame u v))) Q E s
  exact wpAny_bind (same_ok e ra rb (wpAny_pure hQ))

def cmpW (op : CmpOp) (a b : V) (H : HM) (Q : V → HM → Prop) : Prop :=
  match op with
  | .Is => match sameW a b with | some r => Q (.bool r) H | .none => False
  | .IsNot => match sameW a b with | some r => Q (.bool (!r)) H | .none => False
  | .Lt => match a, b with | .int x, .int y => Q (.bool (decide (x < y))) H | _, _ => False
  | .Gt => match a, b with | .int x, .int y => Q (.bool (decide (y < x))) H | _, _ => False
  | .LtE => match a, b with | .int x, .int y => Q (.bool (decide (x ≤ y))) H | _, _ => False
  | .GtE => match a, b with | .int x, .int y => Q (.bool (decide (y ≤ x))) H | _, _ => False
  | .Eq => match a, b with | .int x, .int y => Q (.bool (x == y)) H | .str x, .str y => Q (.bool (x == y)) H | _, _ => False
  | .NotEq => match a, b with | .int x, .int y => Q (.bool (x != y)) H | .str x, .str y => Q (.bool (x != y)) H | _, _ => False
  | _ => False

theorem cmp_ok {op : CmpOp} {a b : V} {Q : V → HM → Prop} (h : cmpW op a b H Q) : OpOK c d (cmp2 op) [a, b] H X Q := by
  intro A fr s E vs k hr hE
  have R : Tr c NoW H s H s := Tr.refl k.base k.objs
  cases hr with
  | cons ra hr =>
  cases hr with
  | cons rb hr =>
  cases hr
  show wpAny (Md c) A (compareOp op _ _) _ _ _
  unfold cmpW at h
  split at h
  · split at h
    · rename_i r e
      exact is_ok e ra rb ⟨_, H, h, .bool _, R⟩
    · exact h.elim
  · split at h
    · rename_i r e
      exact isNot_ok e ra rb ⟨_, H, h, .bool _, R⟩
    · exact h.elim
  · split at h
    · cases ra; cases rb; exact lt_int ⟨_, H, h, .bool _, R⟩
    · exact h.elim
  · split at h
    · cases ra; cases rb; exact gt_int ⟨_, H, h, .bool _, R⟩
    · exact h.elim
  · split at h
    · cases ra; cases rb; exact le_int ⟨_, H, h, .bool _, R⟩
    · exact h.elim
  · split at h
    · cases ra; cases rb; exact ge_int ⟨_, H, h, .bool _, R⟩
    · exact h.elim
  · split at h
    · cases ra; cases rb; exact eq_int ⟨_, H, h, .bool _, R⟩
    · cases ra; cases rb; exact eq_str ⟨_, H, h, .bool _, R⟩
    · exact h.elim
  · split at h
    · cases ra; cases rb; exact ne_int ⟨_, H, h, .bool _, R⟩
    · cases ra; cases rb; exact ne_str ⟨_, H, h, .bool _, R⟩
    · exact h.elim
  · exact h.elim

end
end Mine

set_option autoImplicit false
set_option linter.unusedVariables false
namespace Mine
open PySem PyProof.Rows

section
variable {c : Cx} {d : Nat} {H : HM} {X : XPost}

/-! ## items -/
def subW (c : Cx) (o i : V) (H : HM) (Q : V → HM → Prop) : Prop :=
  match o, i with
  | .tup vs, .int i => 0 ≤ i ∧ i < 2 ^ 62 ∧ (match vs[i.toNat]? with | some v => Q v H | .none => False)
  | .ref a, .int i => match H a with
    | some (.list xs) => 0 ≤ i ∧ i < 2 ^ 62 ∧ (match xs[i.toNat]? with | some v => Q v H | .none => False)
    | _ => False
  | .scr, .int i => 0 ≤ i ∧ (match c.ns[i.toNat]? with | some n => Q (.int n) H | .none => False)
  | _, _ => False

theorem subable_of (hc : CxOK c) {o i : V} {Q : V → HM → Prop} (h : subW c o i H Q) : Subable c H o := by
  intro s w bs ob r
  cases r with
  | tup hp hr => exact ⟨_, _, hp.isTup.typeIs, F.slot_tuple_getitem.lookup⟩
  | ref a =>
    cases i <;> simp only [subW] at h
    split at h
    · rename_i xs hx
      obtain ⟨items, hl, hr⟩ := (ob _ _ hx).1
      exact ⟨_, _, hl.isList.typeIs, F.slot_list_getitem.lookup⟩
    · exact h.elim
  | scr =>
    obtain ⟨items, hl, _⟩ := hc.scr
    have hl' : s.heap.IsList c.scr items := let ⟨o, ho, r⟩ := hl; ⟨o, bs _ _ ho, r⟩
    exact ⟨_, _, hl'.typeIs, F.slot_list_getitem.lookup⟩
  | none => cases i <;> exact h.elim
  | bool _ => cases i <;> exact h.elim
  | int _ _ => cases i <;> exact h.elim
  | str _ _ => cases i <;> exact h.elim
  | bi _ => cases i <;> exact h.elim
  | g _ => cases i <;> exact h.elim

theorem sub_ok (hc : CxOK c) {o i : V} {Q : V → HM → Prop} (h : subW c o i H Q) : OpOK c d getL [o, i] H X Q := by
  intro A fr s E vs k hr hE
  have R : Tr c NoW H s H s := Tr.refl k.base k.objs
  cases hr with
  | cons ra hr =>
  cases hr with
  | cons rb hr =>
  cases hr
  show wpAny (Md c) A (getItem _ _) _ _ _
  cases rb with
  | int i t =>
    cases ra with
    | tup hp hr =>
      obtain ⟨h0, h1, h2⟩ := h
      split at h2
      · rename_i v hv
        obtain ⟨w, hw, rw'⟩ := hr.get _ v hv
        obtain ⟨hb, _⟩ := List.getElem?_eq_some_iff.mp hw
        have hb' : i.toNat < _ := hb
        rw [Array.length_toList] at hb'
        refine getItem_tuple hp.isTup (by omega) (by omega) (j := i.toNat) ?_ (by simpa using hw) ⟨v, H, h2, rw', R⟩
        unfold seqIndex?
        simp only [show ¬ i < 0 by omega, if_false]
        rw [if_pos (by simp; omega)]
      · exact h2.elim
    | ref a =>
      simp only [subW] at h
      split at h
      · rename_i xs hx
        obtain ⟨items, hl, hr⟩ := (k.objs _ _ hx).1
        obtain ⟨h0, h1, h2⟩ := h
        split at h2
        · rename_i v hv
          obtain ⟨w, hw, rw'⟩ := hr.get _ v hv
          exact wpAny_getItem_list hl.isList h0 (by omega) (by simpa using hw) ⟨v, H, h2, rw', R⟩
        · exact h2.elim
      · exact h.elim
    | scr =>
      obtain ⟨items, hl, hr⟩ := hc.scr
      have hl' : s.heap.IsList c.scr items := let ⟨o, ho, r⟩ := hl; ⟨o, k.base _ _ ho, r⟩
      obtain ⟨h0, h2⟩ := h
      split at h2
      · rename_i n hv
        obtain ⟨w, hw, rw'⟩ := hr.get i.toNat (.int n) (by simp [hv])
        have hb := (List.getElem?_eq_some_iff.mp hv).1
        have := hc.small
        cases rw'
        exact wpAny_getItem_list hl' h0 (by omega) (by simpa using hw) ⟨.int n, H, h2, .int _ _, R⟩
      · exact h2.elim
    | none => exact h.elim
    | bool _ => exact h.elim
    | int _ _ => exact h.elim
    | str _ _ => exact h.elim
    | bi _ => exact h.elim
    | g _ => exact h.elim
  | none => cases ra <;> exact h.elim
  | bool _ => cases ra <;> exact h.elim
  | str _ _ => cases ra <;> exact h.elim
  | tup _ _ => cases ra <;> exact h.elim
  | ref _ => cases ra <;> exact h.elim
  | bi _ => cases ra <;> exact h.elim
  | g _ => cases ra <;> exact h.elim
  | scr => cases ra <;> exact h.elim

/-! ## built-in functions -/
def lenW (c : Cx) (v : V) (H : HM) (Q : V → HM → Prop) : Prop :=
  match v with
  | .tup vs => vs.length < 2 ^ 62 ∧ Q (.int vs.length) H
  | .ref a => match H a with | some (.list xs) => xs.length < 2 ^ 62 ∧ Q (.int xs.length) H | _ => False
  | .scr => Q (.int c.ns.length) H
  | _ => False

theorem len_ok (hc : CxOK c) {v : V} {Q : V → HM → Prop} (h : lenW c v H Q) : OpOK c d callL [.bi .len, v] H X Q := by
  intro A fr s E vs k hr hE
  have R : Tr c NoW H s H s := Tr.refl k.base k.objs
  cases hr with
  | cons rf hr =>
  cases rf
  cases hr with
  | cons rv hr =>
  cases hr
  show wpAny (Md c) A (call (.builtin "len") [_]) _ _ _
  cases rv with
  | tup hp hr =>
    obtain ⟨n, e⟩ := hp
    have hs := hr.size
    refine P.len_tuple e (by have := h.1; omega) ?_
    rw [hs]; exact ⟨_, H, h.2, .int _ _, R.toks⟩
  | ref a =>
    simp only [lenW] at h
    split at h
    · rename_i xs hx
      obtain ⟨items, hl, hr⟩ := (k.objs _ _ hx).1
      have hs := hr.size
      refine len_list hl.isList (by have := h.1; omega) ?_
      rw [hs]; exact ⟨_, H, h.2, .int _ _, R.toks⟩
    · exact h.elim
  | scr =>
    obtain ⟨items, hl, hr⟩ := hc.scr
    have hl' : s.heap.IsList c.scr items := let ⟨o, ho, r⟩ := hl; ⟨o, k.base _ _ ho, r⟩
    have hs : items.size = c.ns.length := by rw [hr.size]; simp
    have := hc.small
    refine len_list hl' (by omega) ?_
    rw [hs]; exact ⟨_, H, h, .int _ _, R.toks⟩
  | none => exact h.elim
  | bool _ => exact h.elim
  | int _ _ => exact h.elim
  | str _ _ => exact h.elim
  | bi _ => exact h.elim
  | g _ => exact h.elim

/-- isinstance -/
def isiW (v : V) (t : Bi) (H : HM) : Option Bool :=
  match t with
  | .tint => match v with | .int _ => some true | .bool _ => some true | .none => some false | .str _ => some false | .tup _ => some false | .ref a => (match H a with | some (.list _) => some false | _ => .none) | _ => .none
  | .tbool => match v with | .int _ => some false | .bool _ => some true | .none => some false | .str _ => some false | .tup _ => some false | .ref a => (match H a with | some (.list _) => some false | _ => .none) | _ => .none
  | .tstr => match v with | .int _ => some false | .bool _ => some false | .none => some false | .str _ => some true | .tup _ => some false | .ref a => (match H a with | some (.list _) => some false | _ => .none) | _ => .none
  | .ttuple => match v with | .int _ => some false | .bool _ => some false | .none => some false | .str _ => some false | .tup _ => some true | .ref a => (match H a with | some (.list _) => some false | _ => .none) | _ => .none
  | .tlist => match v with | .int _ => some false | .bool _ => some false | .none => some false | .str _ => some false | .tup _ => some false | .ref a => (match H a with | some (.list _) => some true | _ => .none) | _ => .none
  | _ => .none

theorem isi_ok {v : V} {t : Bi} {b : Bool} {Q : V → HM → Prop} (e : isiW v t H = some b) (h : Q (.bool b) H) : OpOK c d callL [.bi .isinst, v, .bi t] H X Q := by
  intro A fr s E vs k hr hE
  have R : Tr c NoW H s H s := Tr.refl k.base k.objs
  cases hr with
  | cons rf hr =>
  cases rf
  cases hr with
  | cons rv hr =>
  cases hr with
  | cons rt hr =>
  cases hr
  cases rt
  show wpAny (Md c) A (call (.builtin "isinstance") [_, Bi.val t]) _ _ _
  have fin : ∀ {b'} {t' : Nat}, b' = b → Pst c H s Q (.bool b') { s with toks := t' } := fun e => by subst e; exact ⟨_, H, h, .bool _, R.toks⟩
  have fin0 : ∀ {b'}, b' = b → Pst c H s Q (.bool b') s := fun e => by subst e; exact ⟨_, H, h, .bool _, R⟩
  cases rv with
  | none =>
    cases t <;> simp only [isiW, Option.some.injEq, reduceCtorEq] at e <;>
      first | exact IsiPair.NoneType_int (fin e) | exact IsiPair.NoneType_bool (fin e) | exact IsiPair.NoneType_str (fin e) | exact IsiPair.NoneType_tuple (fin e) | exact IsiPair.NoneType_list (fin e)
  | bool _ =>
    cases t <;> simp only [isiW, Option.some.injEq, reduceCtorEq] at e <;>
      first | exact IsiPair.bool_int (fin0 e) | exact IsiPair.bool_int (fin e) | exact IsiPair.bool_bool (fin0 e) | exact IsiPair.bool_str (fin e) | exact IsiPair.bool_tuple (fin e) | exact IsiPair.bool_list (fin e)
  | int _ _ =>
    cases t <;> simp only [isiW, Option.some.injEq, reduceCtorEq] at e <;>
      first | exact IsiPair.int_int (fin0 e) | exact IsiPair.int_bool (fin e) | exact IsiPair.int_str (fin e) | exact IsiPair.int_tuple (fin e) | exact IsiPair.int_list (fin e)
  | str _ _ =>
    cases t <;> simp only [isiW, Option.some.injEq, reduceCtorEq] at e <;>
      first | exact IsiPair.str_int (fin e) | exact IsiPair.str_bool (fin e) | exact IsiPair.str_str (fin0 e) | exact IsiPair.str_tuple (fin e) | exact IsiPair.str_list (fin e)
  | tup hp hr =>
    obtain ⟨n, ep⟩ := hp
    cases t <;> simp only [isiW, Option.some.injEq, reduceCtorEq] at e <;>
      first | exact IsiPair.tuple_int ep rfl (fin e) | exact IsiPair.tuple_bool ep rfl (fin e) | exact IsiPair.tuple_str ep rfl (fin e) | exact IsiPair.tuple_tuple ep rfl (fin0 e) | exact IsiPair.tuple_list ep rfl (fin e)
  | ref a =>
    cases hx : H a with
    | none => cases t <;> simp [isiW, hx] at e
    | some o =>
      cases o with
      | dict f n => cases t <;> simp [isiW, hx] at e
      | list xs =>
        obtain ⟨items, ⟨n, ep⟩, hr⟩ := (k.objs _ _ hx).1
        cases t <;> simp only [isiW, hx, Option.some.injEq, reduceCtorEq] at e <;>
          first | exact IsiPair.list_int ep rfl (fin e) | exact IsiPair.list_bool ep rfl (fin e) | exact IsiPair.list_str ep rfl (fin e) | exact IsiPair.list_tuple ep rfl (fin e) | exact IsiPair.list_list ep rfl (fin0 e)
  | bi _ => cases t <;> simp [isiW] at e
  | g _ => cases t <;> simp [isiW] at e
  | scr => cases t <;> simp [isiW] at e

end
end Mine

set_option autoImplicit false
set_option linter.unusedVariables false
namespace Mine
open PySem PyProof.Rows

section
variable {c : Cx} {d : Nat} {H : HM} {X : XPost}

/-- the heap only grows -/
theorem Tr.grown {W : Addr → Prop} {s : Shared} {h' : Heap} {t : Nat} (b : c.base.StaysIn s.heap) (k : Objs c H s.heap) (hk : ∀ b o, s.heap.get? b = some o → h'.get? b = some o) : Tr c W H s H { s with heap := h', toks := t } :=
  Tr.keepAll b k hk ⟨h', t, rfl⟩

/-! max(a, b) -/
theorem max2_ok {x y : Int} {Q : V → HM → Prop} (h : Q (.int (max x y)) H) : OpOK c d callL [.bi .max, .int x, .int y] H X Q := by
  intro A fr s E vs k hr hE
  cases hr with
  | cons rf hr =>
  cases rf
  cases hr with
  | cons r1 hr =>
  cases hr with
  | cons r2 hr =>
  cases hr
  cases r1; cases r2
  show wpAny (Md c) A (call (.builtin "max") [.int x _, .int y _]) _ _ _
  refine max_two_ints k.a.handled fun h' tk hk => ?_
  have T : Tr c NoW H s H { s with heap := h', toks := tk } := Tr.grown k.base k.objs hk
  by_cases q : y > x
  · rw [if_pos q]
    have : max x y = y := by omega
    rw [this] at h
    exact ⟨_, H, h, .int _ _, T⟩
  · rw [if_neg q]
    have : max x y = x := by omega
    rw [this] at h
    exact ⟨_, H, h, .int _ _, T⟩

/-! all(list of truths) -/
def allBools : List V → Option Bool
  | [] => some true
  | .bool b :: r => (allBools r).map (b && ·)
  | _ :: _ => .none
theorem allBools_map {α : Type} (f : α → Bool) (l : List α) : allBools (l.map fun x => .bool (f x)) = some (l.all f) := by
  induction l with
  | nil => rfl
  | cons a r ih => simp [allBools, ih]
theorem allBools_items {h : Heap} : ∀ {xs : List V} {ws : List Value} {b : Bool}, Reps c h xs ws → allBools xs = some b → ∃ bs : List Bool, ws = bs.map Value.bool ∧ b = bs.all id
  | _, _, b, .nil, e => ⟨[], rfl, by simp [allBools] at e; simp [← e]⟩
  | v :: r, w :: ws, b, .cons rv rr, e => by
    cases rv <;> simp only [allBools, Option.map_eq_some_iff, reduceCtorEq] at e
    obtain ⟨b', e', rfl⟩ := e
    obtain ⟨bs, rfl, rfl⟩ := allBools_items rr e'
    rename_i b0
    exact ⟨b0 :: bs, rfl, by simp⟩

theorem all_ok {a : Addr} {xs : List V} {b : Bool} {Q : V → HM → Prop} (hx : H a = some (.list xs)) (hb : allBools xs = some b) (h : Q (.bool b) H) : OpOK c d callL [.bi .all, .ref a] H X Q := by
  intro A fr s E vs k hr hE
  cases hr with
  | cons rf hr =>
  cases rf
  cases hr with
  | cons r1 hr =>
  cases hr
  cases r1
  show wpAny (Md c) A (call (.builtin "all") [.ref a]) _ _ _
  obtain ⟨items, hl, hrs⟩ := (k.objs _ _ hx).1
  obtain ⟨bs, hbs, rfl⟩ := allBools_items hrs hb
  have hne : a ≠ s.heap.objs.size := fun q => by obtain ⟨n, e⟩ := hl; rw [q, get_size_none] at e; cases e
  refine call_all_walk (wpAny_pyIter_list hl.isList ⟨s.heap.objs.size, _, _, _, _, _, fun i => bs.getD i true, rfl, Walks.list (A := A.in1) k.a.handled s.heap.objs.size a hne items, ⟨⟨_, Heap.get?_push_size _ rfl, rfl, rfl⟩, hl.isList.push _⟩, ?_, fun h' tk hk => ?_⟩)
  · intro i v s' Q' E' hP hQ
    have hv : items.toList[i]? = some v := by simpa using hP
    rw [hbs, List.getElem?_map] at hv
    obtain ⟨b0, hb0, rfl⟩ := Option.map_eq_some_iff.mp hv
    have : bs.getD i true = b0 := by rw [List.getD_eq_getElem?_getD, hb0]; rfl
    exact wpAny_truthy_bool (this ▸ hQ)
  · have hsz : items.size = bs.length := by have := congrArg List.length hbs; simpa using this
    have hall : (List.range items.size).all (fun i => bs.getD i true) = bs.all id := by
      rw [hsz, Bool.eq_iff_iff]
      simp only [List.all_eq_true, List.mem_range, id]
      constructor
      · intro hh x hx
        obtain ⟨i, hi, rfl⟩ := List.mem_iff_getElem.mp hx
        have := hh i hi
        rwa [List.getD_eq_getElem?_getD, List.getElem?_eq_getElem hi] at this
      · intro hh i hi
        rw [List.getD_eq_getElem?_getD, List.getElem?_eq_getElem hi]
        exact hh _ (List.getElem_mem hi)
    rw [hall]
    refine ⟨_, H, h, .bool _, Tr.grown k.base k.objs fun b' o e => hk b' o (fun hm => ?_) (Heap.get?_push_of_some _ e)⟩
    simp at hm; subst hm
    rw [get_size_none] at e; cases e

/-! tuple(..), list(..) -/
theorem tuple_list_ok {a : Addr} {xs : List V} {Q : V → HM → Prop} (hx : H a = some (.list xs)) (hn : xs.length ≤ sizeLine) (h : Q (.tup xs) H) : OpOK c d callL [.bi .ttuple, .ref a] H X Q := by
  intro A fr s E vs k hr hE
  cases hr with
  | cons rf hr =>
  cases rf
  cases hr with
  | cons r1 hr =>
  cases hr
  cases r1
  show wpAny (Md c) A (call (.type "tuple") [.ref a]) _ _ _
  obtain ⟨items, hl, hrs⟩ := (k.objs _ _ hx).1
  refine call_tuple_list hl.isList (fun h' hk => ?_) (by rw [hrs.size]; exact hn)
  have T : Tr c NoW H s H { s with heap := h', toks := s.toks } := Tr.grown k.base k.objs hk
  have k1 := k.step T
  refine ⟨_, H, h, .tup (PTup.new _ _) ?_, T.trans (Tr.push (t := s.toks) k1.base k1.objs _)⟩
  exact (hrs.keep (T.tup0 k.objs)).keep (tupKeep_push _ _)
theorem tuple_tup_ok {xs : List V} {Q : V → HM → Prop} (h : Q (.tup xs) H) : OpOK c d callL [.bi .ttuple, .tup xs] H X Q := by
  intro A fr s E vs k hr hE
  cases hr with
  | cons rf hr =>
  cases rf
  cases hr with
  | cons r1 hr =>
  cases hr
  cases r1 with
  | tup hp hr =>
    exact call_tuple_same hp.isTuple ⟨_, H, h, .tup hp hr, Tr.refl k.base k.objs⟩

theorem list_new_tr {A : Around} {fr : List Env} {s : Shared} {xs : List V} {items : Array Value} {h' : Heap} {c' : Nat} (k : Ok0 c d H A fr s) (hrs : Reps c s.heap xs items.toList) (hk : ∀ b o', s.heap.get? b = some o' → h'.get? b = some o')
    (hD : h'.get? s.heap.objs.size = some { cls := .type "list", dict := none, data := .seq items c', slots := #[] }) : Tr c NoW H s (H.set s.heap.objs.size (.list xs)) { s with heap := h' } := by
  have T : Tr c NoW H s H { s with heap := h', toks := s.toks } := Tr.grown k.base k.objs hk
  refine ⟨T.same, T.base, T.grow, T.keep, fun a o e => ?_⟩
  by_cases q : a = s.heap.objs.size
  · subst q
    rw [HM.set_same] at e; cases e
    exact ⟨⟨items, ⟨c', hD⟩, hrs.keep (T.tup0 k.objs)⟩, base_fresh k.base, fun _ => .inr (get_size_none _)⟩
  · rw [HM.set_ne _ _ q] at e; exact T.objs a o e

theorem list_list_ok {a : Addr} {xs : List V} {Q : V → HM → Prop} (hx : H a = some (.list xs)) (hn : xs.length ≤ sizeLine) (h : ∀ b, H b = none → Q (.ref b) (H.set b (.list xs))) : OpOK c d callL [.bi .tlist, .ref a] H X Q := by
  intro A fr s E vs k hr hE
  cases hr with
  | cons rf hr =>
  cases rf
  cases hr with
  | cons r1 hr =>
  cases hr
  cases r1
  show wpAny (Md c) A (call (.type "list") [.ref a]) _ _ _
  obtain ⟨items, ⟨n, e⟩, hrs⟩ := (k.objs _ _ hx).1
  refine call_list_seq a (.inl rfl) e rfl rfl (fun h' c' hk hD => ?_) (by rw [hrs.size]; exact hn)
  exact ⟨.ref _, _, h _ k.objs.fresh, .ref _, list_new_tr k hrs hk hD⟩
theorem list_tup_ok {xs : List V} {Q : V → HM → Prop} (hn : xs.length ≤ sizeLine) (h : ∀ b, H b = none → Q (.ref b) (H.set b (.list xs))) : OpOK c d callL [.bi .tlist, .tup xs] H X Q := by
  intro A fr s E vs k hr hE
  cases hr with
  | cons rf hr =>
  cases rf
  cases hr with
  | cons r1 hr =>
  cases hr
  cases r1 with
  | tup hp hrs =>
    obtain ⟨n, e⟩ := hp
    show wpAny (Md c) A (call (.type "list") [.ref _]) _ _ _
    refine call_list_seq _ (.inr rfl) e rfl rfl (fun h' c' hk hD => ?_) (by rw [hrs.size]; exact hn)
    exact ⟨.ref _, _, h _ k.objs.fresh, .ref _, list_new_tr k hrs hk hD⟩

/-! str(int) -/
theorem str_int_ok (hc : CxOK c) {i : Int} {Q : V → HM → Prop} (hi : i.natAbs < 10 ^ 4300) (h : Q (.str (Str.ofString (toString i))) H) : OpOK c d callL [.bi .tstr, .int i] H X Q := by
  intro A fr s E vs k hr hE
  cases hr with
  | cons rf hr =>
  cases rf
  cases hr with
  | cons r1 hr =>
  cases hr
  cases r1
  show wpAny (Md c) A (call (.type "str") [.int i _]) _ _ _
  exact str_of_int_or k.a.handled (hc.dig.keeps fun b o e => k.base b o e) (fun _ => ⟨_, H, h, .str _ _, (Tr.refl k.base k.objs).toks⟩) fun h2 => absurd h2 (by omega)

/-! max(list of ints, default=..) -/
def intsOf : List V → Option (List Int)
  | [] => some []
  | .int i :: r => (intsOf r).map (i :: ·)
  | _ :: _ => .none
theorem intsOf_map {α : Type} (f : α → Int) (l : List α) : intsOf (l.map fun x => .int (f x)) = some (l.map f) := by
  induction l with
  | nil => rfl
  | cons a r ih => simp [intsOf, ih]
theorem intsOf_items {h : Heap} : ∀ {xs : List V} {ws : List Value} {is : List Int}, Reps c h xs ws → intsOf xs = some is → ws.length = is.length ∧ ∀ (i : Nat) (n : Int), is[i]? = some n → ∃ t, ws[i]? = some (Value.int n t)
  | _, _, is, .nil, e => by simp [intsOf] at e; subst e; exact ⟨rfl, fun i n h => by simp at h⟩
  | v :: r, w :: ws, is, .cons rv rr, e => by
    cases rv <;> simp only [intsOf, Option.map_eq_some_iff, reduceCtorEq] at e
    obtain ⟨is', e', rfl⟩ := e
    obtain ⟨hl, hi⟩ := intsOf_items rr e'
    refine ⟨by simp [hl], fun i n h => ?_⟩
    cases i with
    | zero => simp at h; subst h; exact ⟨_, rfl⟩
    | succ i => simpa using hi i n (by simpa using h)

def maxFrom (b : Int) (l : List Int) : Int := l.foldl max b
def maxD (dflt : Int) : List Int → Int
  | [] => dflt
  | a :: r => maxFrom a r

theorem max_loop {Mo : Program} {w : World} {A : Around} {R : Result → Shared → Prop} {I l S : Addr} {items : Array Value} {is : List Int} {kw : List (Str × Value)} (hh : A.handled = none) (hlen : items.size = is.length)
    (hits : ∀ (i : Nat) (n : Int), is[i]? = some n → ∃ t, items[i]? = some (Value.int n t)) (hIl : l ≠ I) (hIS : I ≠ S) (hlS : l ≠ S) :
    ∀ (k i : Nat) (s : Shared) (b : Int) (t : Tok) (c : Nat), is.length - i = k → i ≤ is.length → s.heap.IsListIter I l i → s.heap.IsList l items →
    s.heap.get? S = some { cls := .type "list", dict := none, data := .seq #[.int b t, .int b t] c, slots := #[] } →
    (∀ t' h' tk, (∀ x o, x ≠ I → x ≠ S → s.heap.get? x = some o → h'.get? x = some o) → R (.ok (.ret (.int (maxFrom b (is.drop i)) t'))) { s with heap := h', toks := tk }) →
    codeAny (model Mo w) A (.builtin "max.loop" ⟨[.ref I, .none, .ref S], kw⟩) R s := by
  have hname : (toString "max" ++ toString ".loop" : String) = "max.loop" := by decide
  intro k
  induction k with
  | zero =>
    intro i s b t c hk hi hit hl hS hR
    have hie : i = is.length := by omega
    refine codeAny_builtin F.entry_max_loop ?_
    rw [Around.under_plainId F.plain_max_loop _]
    show wpAny _ A.in1 (seqItems? (.ref S) >>= _) _ _ s
    refine wpAny_bind (wpAny_seqItems hS rfl ?_)
    show wpAny _ A.in1 (tryCatch (pyNext (.ref I)) _ >>= _) _ _ s
    refine wpAny_bind (wpAny_tryCatch (wpAny_pyNext_list_end hh hit hl (by simp; omega) fun h' he => ?_))
    have hS' := he S _ (Ne.symm hIS) hS
    show wpAny _ A.in1 (updateSeq S (fun _ => #[]) >>= _) _ _ _
    refine wpAny_bind ?_
    refine wpAny_updateSeq hS' rfl (wpAny_bind (wpAny_letGo (wpAny_pure ?_)))
    have : is.drop i = [] := by rw [hie]; simp
    rw [this] at hR
    exact hR t _ s.toks fun x o hxI hxS e => (Heap.get?_update_other _ _ (Ne.symm hxS)).trans (he x o hxI e)
  | succ k ih =>
    intro i s b t c hk hi hit hl hS hR
    have hlt : i < is.length := by omega
    obtain ⟨n, hn⟩ : ∃ n, is[i]? = some n := ⟨is[i], by simp [hlt]⟩
    obtain ⟨tn, htn⟩ := hits i n hn
    have hdrop : is.drop i = n :: is.drop (i + 1) := by
      rw [List.drop_eq_getElem_cons hlt]
      have : is[i] = n := by simpa [hlt] using hn
      rw [this]
    rw [hdrop] at hR
    refine codeAny_builtin F.entry_max_loop ?_
    rw [Around.under_plainId F.plain_max_loop _]
    show wpAny _ A.in1 (seqItems? (.ref S) >>= _) _ _ s
    refine wpAny_bind (wpAny_seqItems hS rfl ?_)
    show wpAny _ A.in1 (tryCatch (pyNext (.ref I)) _ >>= _) _ _ s
    refine wpAny_bind (wpAny_tryCatch (wpAny_pyNext_list_item hit hl htn fun h' hit' hs' => ?_))
    have hS' := hs'.extBut S _ (Ne.symm hIS) hS
    have hl' := hl.extBut hs'.extBut hIl
    show wpAny _ A.in1 (tryCatch (holding [.int n tn, .int n tn] (richCompare .Gt (.int n tn) (.int b t) >>= _)) _ >>= _) _ _ _
    refine wpAny_bind (wpAny_tryCatch (wpAny_holding (wpAny_bind (gt_int (a := n) (b := b) ?_))))
    refine wpAny_bind (wpAny_holding (wpAny_truthy_bool ?_))
    refine wpAny_bind (wpAny_letGo (wpAny_pure ?_))
    cases hb : decide (b < n) with
    | true =>
      have hbn : b < n := by simpa using hb
      simp only [if_true]
      refine wpAny_bind ?_
      refine wpAny_updateSeq hS' rfl (wpAny_bind (wpAny_letGo ?_))
      rw [hname]
      refine wpAny_pure ⟨plainId_quiet F.plain_max_loop _, ih (i + 1) _ n tn _ (by omega) hlt ?_ ?_ (Heap.get?_update_self _ hS' rfl) fun t' h'' tk'' hk'' => ?_⟩
      · obtain ⟨o, ho, r⟩ := hit'; exact ⟨o, (Heap.get?_update_other _ _ (Ne.symm hIS)).trans ho, r⟩
      · obtain ⟨o, ho, r⟩ := hl'; exact ⟨o, (Heap.get?_update_other _ _ (Ne.symm hlS)).trans ho, r⟩
      · have e1 : maxFrom b (n :: is.drop (i + 1)) = maxFrom n (is.drop (i + 1)) := by
          show maxFrom (max b n) _ = _
          rw [show max b n = n by omega]
        rw [e1] at hR
        exact hR t' h'' tk'' fun x o hxI hxS e => hk'' x o hxI hxS ((Heap.get?_update_other _ _ (Ne.symm hxS)).trans (hs'.extBut x o hxI e))
    | false =>
      have hbn : ¬ b < n := by simpa using hb
      simp only [Bool.false_eq_true, if_false]
      refine wpAny_bind (wpAny_letGo ?_)
      rw [hname]
      refine wpAny_pure ⟨plainId_quiet F.plain_max_loop _, ih (i + 1) _ b t c (by omega) hlt hit' hl' hS' fun t' h'' tk'' hk'' => ?_⟩
      have e1 : maxFrom b (n :: is.drop (i + 1)) = maxFrom b (is.drop (i + 1)) := by
        show maxFrom (max b n) _ = _
        rw [show max b n = b by omega]
      rw [e1] at hR
      exact hR t' h'' tk'' fun x o hxI hxS e => hk'' x o hxI hxS (hs'.extBut x o hxI e)

theorem chk_max (a v : Value) : checkBuiltinCall "max" ⟨[a], [(Str.ofString "default", v)]⟩ = pure () := by kernel_rfl

def callK (k : Str) : List Value → Sem Value
  | [f, a, v] => call f [a] [(k, v)]
  | _ => unsupported "mine"

theorem maxd_ok {a : Addr} {xs : List V} {is : List Int} {dv : Int} {Q : V → HM → Prop} (hx : H a = some (.list xs)) (hi : intsOf xs = some is) (h : Q (.int (maxD dv is)) H) : OpOK c d (callK (Str.ofString "default")) [.bi .max, .ref a, .int dv] H X Q := by
  intro A fr s E vs k hr hE
  cases hr with
  | cons rf hr =>
  cases rf
  cases hr with
  | cons r1 hr =>
  cases hr with
  | cons r2 hr =>
  cases hr
  cases r1
  cases r2 with
  | int _ tv =>
  obtain ⟨items, hl, hrs⟩ := (k.objs _ _ hx).1
  obtain ⟨hlen, hits⟩ := intsOf_items hrs hi
  have hlen' : items.size = is.length := by rw [← hlen]; simp
  have hits' : ∀ (i : Nat) (n : Int), is[i]? = some n → ∃ t, items[i]? = some (Value.int n t) := fun i n e => by
    obtain ⟨t, ht⟩ := hits i n e; exact ⟨t, by simpa using ht⟩
  have hname : (toString "max" ++ toString ".loop" : String) = "max.loop" := by decide
  show wpAny (Md c) A (call (.builtin "max") [.ref a] [(Str.ofString "default", .int dv tv)]) _ _ _
  refine wpAny_call (codeAny_call_builtin F.plain_max F.entry_max ?_)
  rw [chk_max]
  refine wpAny_pure ?_
  show wpAny _ A.in1 (Builtin.Builtins.bindParams "max" ["key", "default"] 0 ⟨[], [(Str.ofString "default", .int dv tv)]⟩ >>= _) _ _ s
  refine wpAny_bind (wpAny_of_eq (show Builtin.Builtins.bindParams "max" ["key", "default"] 0 ⟨[], [(Str.ofString "default", .int dv tv)]⟩ = pure [none, some (.int dv tv)] by kernel_rfl) ?_)
  refine wpAny_bind (wpAny_pure ?_)
  refine wpAny_bind (wpAny_pyIter_list hl.isList ?_)
  refine wpAny_bind (wpAny_newObj_type ?_)
  rw [hname]
  refine wpAny_pure ⟨plainId_quiet F.plain_max_loop _, ?_⟩
  generalize hI : s.heap.objs.size = I
  generalize hh1 : s.heap.push { cls := .type "list_iterator", dict := none, data := .fields #[.ref a, .int 0 0] } = h1
  have hIlt : ∀ x o, s.heap.get? x = some o → x ≠ I := fun x o e q => by rw [q, ← hI, get_size_none] at e; cases e
  have hsz : h1.objs.size = I + 1 := by rw [← hh1, Heap.size_push, hI]
  generalize hS : h1.objs.size = S at *
  have hIS : I ≠ S := by rw [hsz]; exact Nat.ne_of_lt (Nat.lt_succ_self I)
  obtain ⟨nl, el⟩ := id hl
  have haI : a ≠ I := hIlt a _ el
  have hlt1 : ∀ x o, s.heap.get? x = some o → h1.get? x = some o := fun x o e => by rw [← hh1]; exact Heap.get?_push_of_some _ e
  have haS : a ≠ S := fun q => by have := Heap.lt_size (hlt1 a _ el); rw [q, hS] at this; exact Nat.lt_irrefl _ this
  have hxS : ∀ x o, s.heap.get? x = some o → x ≠ S := fun x o e q => by have := Heap.lt_size (hlt1 x _ e); rw [q, hS] at this; exact Nat.lt_irrefl _ this
  have hit1 : h1.IsListIter I a 0 := by rw [← hh1, ← hI]; exact ⟨_, Heap.get?_push_size _ rfl, rfl, rfl⟩
  generalize hh2 : h1.push { cls := .type "list", dict := none, data := .seq ([] : List Value).toArray } = h2
  have up : ∀ x o, h1.get? x = some o → h2.get? x = some o := fun x o e => by rw [← hh2]; exact Heap.get?_push_of_some _ e
  have hS2 : h2.get? S = some { cls := .type "list", dict := none, data := .seq #[] 0, slots := #[] } := by rw [← hh2, ← hS]; exact Heap.get?_push_size _ rfl
  have hit2 : h2.IsListIter I a 0 := let ⟨o, ho, r⟩ := hit1; ⟨o, up _ _ ho, r⟩
  have hl2 : h2.IsList a items := ⟨_, up _ _ (hlt1 _ _ el), rfl, nl, rfl⟩
  have fin : ∀ (n : Int) (t' : Tok) (h' : Heap) (tk : Nat), n = maxD dv is → (∀ x o, s.heap.get? x = some o → h'.get? x = some o) → Pst c H s Q (.int n t') { s with heap := h', toks := tk } := fun n t' h' tk e hk => by
    subst e; exact ⟨_, H, h, .int _ _, Tr.grown k.base k.objs hk⟩
  refine codeAny_builtin F.entry_max_loop ?_
  rw [Around.under_plainId F.plain_max_loop _]
  show wpAny _ A.in1 (seqItems? (.ref S) >>= _) _ _ _
  refine wpAny_bind (wpAny_seqItems hS2 rfl ?_)
  show wpAny _ A.in1 (tryCatch (pyNext (.ref I)) _ >>= _) _ _ _
  cases is with
  | nil =>
    refine wpAny_bind (wpAny_tryCatch (wpAny_pyNext_list_end (A := A.in1) k.a.handled hit2 hl2 (by simp at hlen'; simp [hlen']) fun h' he => ?_))
    exact wpAny_bind (wpAny_rule (wpAny_pure (fin dv tv h' s.toks rfl fun x o e => he x o (hIlt x o e) (up x o (hlt1 x o e)))))
  | cons n r =>
    obtain ⟨tn, htn⟩ := hits' 0 n rfl
    refine wpAny_bind (wpAny_tryCatch (wpAny_pyNext_list_item hit2 hl2 htn fun h' hit' hs' => ?_))
    have hS' := hs'.extBut S _ (Ne.symm hIS) hS2
    have hl' := hl2.extBut hs'.extBut haI
    show wpAny _ A.in1 (updateSeq S (fun _ => #[.int n tn, .int n tn]) >>= _) _ _ _
    refine wpAny_bind ?_
    refine wpAny_updateSeq hS' rfl ?_
    rw [hname]
    refine wpAny_pure ⟨plainId_quiet F.plain_max_loop _, max_loop (is := n :: r) k.a.handled hlen' hits' haI hIS haS _ 1 _ n tn _ rfl (by simp) ?_ ?_ (Heap.get?_update_self _ hS' rfl) fun t' h'' tk hk => ?_⟩
    · obtain ⟨o, ho, rr⟩ := hit'; exact ⟨o, (Heap.get?_update_other _ _ (Ne.symm hIS)).trans ho, rr⟩
    · obtain ⟨o, ho, rr⟩ := hl'; exact ⟨o, (Heap.get?_update_other _ _ (Ne.symm haS)).trans ho, rr⟩
    · exact fin _ t' h'' tk rfl fun x o e => hk x o (hIlt x o e) (hxS x o e) ((Heap.get?_update_other _ _ (Ne.symm (hxS x o e))).trans (hs'.extBut x o (hIlt x o e) (up x o (hlt1 x o e))))

end
end Mine

set_option autoImplicit false
set_option linter.unusedVariables false
namespace Mine
open PySem PyProof.Rows

section
variable {c : Cx} {d : Nat} {H : HM} {X : XPost}

/-! ## methods of lists -/
theorem plain_update {h : Heap} {l : Addr} {items : Array Value} (p : h.PlainList l items) (f : Array Value → Array Value) : (h.update l (Obj.mapSeq f)).PlainList l (f items) := by
  obtain ⟨n, e⟩ := p
  refine ⟨if (f items).size == items.size then n else n + 1, ?_⟩
  rw [Heap.get?_update_self _ e (by rfl)]
  rfl

theorem upd_tr {s : Shared} {a : Addr} {xs ys : List V} {items : Array Value} {f : Array Value → Array Value} (b : c.base.StaysIn s.heap) (k : Objs c H s.heap) (hx : H a = some (.list xs)) (hp : s.heap.PlainList a items) (hr : ∀ h', TupKeep s.heap h' → Reps c h' ys (f items).toList) {t : Nat} :
    Tr c NoW H s (H.set a (.list ys)) { s with heap := s.heap.update a (Obj.mapSeq f), toks := t } :=
  Tr.upd b k hx (Heap.SameBut.update ..) fun tk => ⟨_, plain_update hp f, hr _ tk⟩

def methOf (ov : V) (n : String) (H : HM) : Option String :=
  match ov with
  | .ref a => match H a with
    | some (.list _) => if n = "append" then some "list.append" else if n = "insert" then some "list.insert" else if n = "pop" then some "list.pop" else if n = "extend" then some "list.extend" else .none
    | _ => .none
  | _ => .none

theorem q68 {ov : V} {n : String} {id : String} (h : methOf ov n H = some id) : MethOK c H ov (Str.ofString n) id := by
  unfold methOf at h
  split at h
  · rename_i a
    split at h
    · rename_i xs hx
      have key : ∀ (s : Shared) (w : Value), Objs c H s.heap → Rep c s.heap (.ref a) w → s.TypeIs w "list" ∧ ∀ b, w = .ref b → ∃ ob, s.heap.get? b = some ob ∧ ob.dict = none := fun s w ob r => by
        cases r
        obtain ⟨items, ⟨m, e⟩, _⟩ := (ob _ _ hx).1
        exact ⟨⟨_, e, rfl⟩, fun b q => by cases q; exact ⟨_, e, rfl⟩⟩
      split at h
      · rename_i q; subst q; cases h; exact ⟨"list", F.plainAttrs_list, F.slot_list_append, F.type_list_append, key⟩
      · split at h
        · rename_i q; subst q; cases h; exact ⟨"list", F.plainAttrs_list, F.slot_list_insert, F.type_list_insert, key⟩
        · split at h
          · rename_i q; subst q; cases h; exact ⟨"list", F.plainAttrs_list, F.slot_list_pop, F.type_list_pop, key⟩
          · split at h
            · rename_i q; subst q; cases h; exact ⟨"list", F.plainAttrs_list, F.slot_list_extend, F.type_list_extend, key⟩
            · cases h
    · cases h
  · cases h

def insAt (xs : List V) (i : Nat) (v : V) : List V := xs.take i ++ v :: xs.drop i

def methW (id : String) (ov : V) (vs : List V) (H : HM) (Q : V → HM → Prop) : Prop :=
  match ov with
  | .ref a => match H a with
    | some (.list xs) =>
      if id = "list.append" then (match vs with | [v] => xs.length ≤ sizeLine ∧ Q .none (H.set a (.list (xs ++ [v]))) | _ => False)
      else if id = "list.insert" then (match vs with | [.int i, v] => 0 ≤ i ∧ i < 2 ^ 62 ∧ xs.length ≤ sizeLine ∧ Q .none (H.set a (.list (insAt xs i.toNat v))) | _ => False)
      else if id = "list.pop" then (match vs with | [.int i] => 0 ≤ i ∧ i < 2 ^ 62 ∧ xs.length ≤ sizeLine ∧ (match xs[i.toNat]? with | some v => Q v (H.set a (.list (xs.eraseIdx i.toNat))) | .none => False) | _ => False)
      else if id = "list.extend" then (match vs with | [.ref b] => a ≠ b ∧ (match H b with | some (.list ys) => xs.length + ys.length ≤ sizeLine ∧ Q .none (H.set a (.list (xs ++ ys))) | _ => False) | _ => False)
      else False
    | _ => False
  | _ => False

theorem append_ok {a : Addr} {xs : List V} {v : V} {Q : V → HM → Prop} (hx : H a = some (.list xs)) (hn : xs.length ≤ sizeLine) (h : Q .none (H.set a (.list (xs ++ [v])))) : OpOK c d (methL "list.append") [.ref a, v] H X Q := by
  intro A fr s E vs k hr hE
  cases hr with
  | cons r1 hr =>
  cases hr with
  | cons rv hr =>
  cases hr
  cases r1
  obtain ⟨items, hp, hrs⟩ := (k.objs _ _ hx).1
  refine wpAny_list_append_plain hp (fun h' hp' hs' => ⟨.none, _, h, .none, ?_⟩) (by rw [hrs.size]; exact hn)
  refine Tr.upd (t := s.toks) k.base k.objs hx hs' fun tk => ⟨_, hp', ?_⟩
  rw [Array.toList_push]
  exact Reps.append (hrs.keep tk) (.one (rv.keep tk))

theorem fits_of {i : Int} (h0 : 0 ≤ i) (h1 : i < 2 ^ 62) : Builtin.List.listFitsIndex i = true := by
  unfold Builtin.List.listFitsIndex; simp; omega

theorem insert_ok {a : Addr} {xs : List V} {i : Int} {v : V} {Q : V → HM → Prop} (hx : H a = some (.list xs)) (h0 : 0 ≤ i) (h1 : i < 2 ^ 62) (hn : xs.length ≤ sizeLine) (h : Q .none (H.set a (.list (insAt xs i.toNat v)))) : OpOK c d (methL "list.insert") [.ref a, .int i, v] H X Q := by
  intro A fr s E vs k hr hE
  cases hr with
  | cons r1 hr =>
  cases hr with
  | cons r2 hr =>
  cases hr with
  | cons rv hr =>
  cases hr
  cases r1; cases r2
  rename_i wv ti
  obtain ⟨items, hp, hrs⟩ := (k.objs _ _ hx).1
  obtain ⟨n, e⟩ := id hp
  refine call_meets F.slot_list_insert ⟨_, e, rfl⟩ F.entry_list_insert (F.args_list_insert_3 _ _ _) (AutoSeq1.list_insert_list_int_val_1 a items n i ti wv (by rw [fits_of h0 h1]; simp) (by rw [hrs.size]; exact hn)) ⟨e, ?_⟩
  refine ⟨.none, _, h, .none, upd_tr (t := s.toks) k.base k.objs hx hp fun h' tk => ?_⟩
  have hneg : ¬ i < 0 := by omega
  simp only [hneg, if_false]
  rw [hrs.size]
  have key : ((items.extract 0 (min i.toNat xs.length)).push wv ++ items.extract (min i.toNat xs.length) xs.length).toList = items.toList.take i.toNat ++ wv :: items.toList.drop i.toNat := by
    have hsz : items.toList.length = xs.length := hrs.length
    rw [Array.toList_append, Array.toList_push, Array.toList_extract, Array.toList_extract]
    have e1 : items.toList.extract 0 (min i.toNat xs.length) = items.toList.take i.toNat := by
      simp [List.extract, ← hsz]
    have e2 : items.toList.extract (min i.toNat xs.length) xs.length = items.toList.drop i.toNat := by
      have hsz' : items.size = xs.length := hrs.size
      simp only [List.extract]
      by_cases q : i.toNat ≤ xs.length
      · rw [Nat.min_eq_left q, List.take_of_length_le (by simp; omega)]
      · rw [Nat.min_eq_right (by omega), List.drop_eq_nil_of_le (by omega), List.drop_eq_nil_of_le (by omega), List.take_nil]
    rw [e1, e2]; simp
  rw [key]
  have hk := hrs.keep tk
  exact Reps.append (hk.take _) (.cons (rv.keep tk) (hk.drop _))

theorem Reps.eraseIdx {h : Heap} : ∀ {vs : List V} {ws : List Value} (n : Nat), Reps c h vs ws → Reps c h (vs.eraseIdx n) (ws.eraseIdx n)
  | _, _, _, .nil => by simpa using Reps.nil
  | _, _, 0, .cons a b => by simpa using b
  | _, _, n + 1, .cons a b => by simpa using Reps.cons a (Reps.eraseIdx n b)

theorem pop_ok {a : Addr} {xs : List V} {i : Int} {v : V} {Q : V → HM → Prop} (hx : H a = some (.list xs)) (h0 : 0 ≤ i) (h1 : i < 2 ^ 62) (hn : xs.length ≤ sizeLine) (hv : xs[i.toNat]? = some v) (h : Q v (H.set a (.list (xs.eraseIdx i.toNat)))) : OpOK c d (methL "list.pop") [.ref a, .int i] H X Q := by
  intro A fr s E vs k hr hE
  cases hr with
  | cons r1 hr =>
  cases hr with
  | cons r2 hr =>
  cases hr
  cases r1; cases r2
  rename_i ti
  obtain ⟨items, hp, hrs⟩ := (k.objs _ _ hx).1
  obtain ⟨n, e⟩ := id hp
  obtain ⟨w, hw, rw'⟩ := hrs.get _ v hv
  have hb : i.toNat < xs.length := (List.getElem?_eq_some_iff.mp hv).1
  have hsz : items.size = xs.length := hrs.size
  have hidx : seqIndex? i items.size = some i.toNat := by
    unfold seqIndex?
    simp only [show ¬ i < 0 by omega, if_false]
    rw [if_pos (by simp; omega)]
  refine call_meets F.slot_list_pop ⟨_, e, rfl⟩ F.entry_list_pop (F.args_list_pop_2 _ _) (PySem.MeetsSeq.list_pop_at a items n i ti i.toNat w (fits_of h0 h1) hidx (by simpa using hw) (by rw [hrs.size]; exact hn)) ⟨e, ?_⟩
  have T := upd_tr (t := s.toks) (f := fun xs => xs.eraseIdxIfInBounds i.toNat) (ys := xs.eraseIdx i.toNat) k.base k.objs hx hp fun h' tk => by
    have : (items.eraseIdxIfInBounds i.toNat).toList = items.toList.eraseIdx i.toNat := by simp
    rw [this]
    exact Reps.eraseIdx _ (hrs.keep tk)
  exact ⟨v, _, h, rw'.keep (T.tup0 k.objs), T⟩

theorem extend_ok {a b : Addr} {xs ys : List V} {Q : V → HM → Prop} (hab : a ≠ b) (hx : H a = some (.list xs)) (hy : H b = some (.list ys)) (hn : xs.length + ys.length ≤ sizeLine) (h : Q .none (H.set a (.list (xs ++ ys)))) : OpOK c d (methL "list.extend") [.ref a, .ref b] H X Q := by
  intro A fr s E vs k hr hE
  cases hr with
  | cons r1 hr =>
  cases hr with
  | cons r2 hr =>
  cases hr
  cases r1; cases r2
  obtain ⟨items, hp, hrs⟩ := (k.objs _ _ hx).1
  obtain ⟨items2, hp2, hrs2⟩ := (k.objs _ _ hy).1
  obtain ⟨n, e⟩ := id hp
  obtain ⟨n2, e2⟩ := id hp2
  have s1 := hrs.size
  have s2 := hrs2.size
  refine call_meets F.slot_list_extend ⟨_, e, rfl⟩ F.entry_list_extend (F.args_list_extend_2 _ _) (AutoSeq1.list_extend_list_list_0 a items n b items2 n2 ?_ (by omega) (by omega)) ⟨e, e2, ?_⟩
  · have : Builtin.List.listTooLong (items.size + items2.size) = false := by
      unfold Builtin.List.listTooLong; simp [sizeLine] at *; omega
    simp [this]
  · refine ⟨.none, _, h, .none, upd_tr (t := s.toks) k.base k.objs hx hp fun h' tk => ?_⟩
    rw [Array.toList_append]
    exact (Reps.append hrs hrs2).keep tk

theorem meth_ok {id : String} {ov : V} {vs : List V} {Q : V → HM → Prop} (h : methW id ov vs H Q) : OpOK c d (methL id) (ov :: vs) H X Q := by
  unfold methW at h
  split at h
  · rename_i a
    split at h
    · rename_i xs hx
      split at h
      · rename_i q; subst q
        split at h
        · exact append_ok hx h.1 h.2
        · exact h.elim
      · split at h
        · rename_i q; subst q
          split at h
          · exact insert_ok hx h.1 h.2.1 h.2.2.1 h.2.2.2
          · exact h.elim
        · split at h
          · rename_i q; subst q
            split at h
            · obtain ⟨h1, h2, h3, h4⟩ := h
              split at h4
              · rename_i hv; exact pop_ok hx h1 h2 h3 hv h4
              · exact h4.elim
            · exact h.elim
          · split at h
            · rename_i q; subst q
              split at h
              · obtain ⟨h1, h2⟩ := h
                split at h2
                · rename_i hy; exact extend_ok h1 hx hy h2.1 h2.2
                · exact h2.elim
              · exact h.elim
            · exact h.elim
    · exact h.elim
  · exact h.elim

end
end Mine

set_option autoImplicit false
set_option linter.unusedVariables false
namespace Mine
open PySem PyProof.Rows

mutual
inductive Ex where
  | name (x : String) | glob (x : String) | cnone | cbool (b : Bool) | cint (i : Int) | cstr (s : String)
  | bin (op : Operator) (l r : Ex) | neg (e : Ex) | not (e : Ex)
  | boolop (op : BoolOp) (es : Es)
  | cmp (op : CmpOp) (l r : Ex) | cmp3 (op op' : CmpOp) (l r q : Ex)
  | sub (e i : Ex)
  | tup (es : Es) | list (es : Es)
  | call (f : Ex) (as : Es) | callk (f a : Ex) (k : String) (v : Ex)
  | meth (o : Ex) (n : String) (as : Es)
  | comp (elt : Ex) (t : Tg) (it : Itr) (cond : Eo)
inductive Es where
  | nil | cons (e : Ex) (r : Es)
inductive Eo where
  | none | some (e : Ex)
inductive Itr where
  | ex (e : Ex) | range (as : Es)
end
mutual
inductive St where
  | assign (x : String) (e : Ex) | asgT (x y : String) (e : Ex) | setitem (o i e : Ex)
  | expr (e : Ex) | ret (e : Ex) | if_ (t : Ex) (a b : Ss) | for_ (t : Tg) (it : Itr) (b : Ss) | while_ (t : Ex) (b : Ss) | pass
inductive Ss where
  | nil | cons (s : St) (r : Ss)
end

/-! ## the match with the row's text -/
section
variable {e : Expr}
def mName (e : Expr) (k : Str → Bool) : Bool := match e with | .Name y _ => k y | _ => false
theorem mName_inv {k : Str → Bool} (h : mName e k = true) : ∃ y p, e = .Name y p ∧ k y = true := by cases e <;> first | exact ⟨_, _, rfl, h⟩ | exact (Bool.false_ne_true h).elim
def mConst (e : Expr) (k : Const → Bool) : Bool := match e with | .Constant v _ _ => k v | _ => false
theorem mConst_inv {k : Const → Bool} (h : mConst e k = true) : ∃ y q p, e = .Constant y q p ∧ k y = true := by cases e <;> first | exact ⟨_, _, _, rfl, h⟩ | exact (Bool.false_ne_true h).elim
def kNone (v : Const) : Bool := match v with | .none => true | _ => false
theorem kNone_inv {v : Const} (h : kNone v = true) : v = .none := by cases v <;> first | rfl | exact (Bool.false_ne_true h).elim
def kBool (b : Bool) (v : Const) : Bool := match v with | .bool b' => b == b' | _ => false
theorem kBool_inv {b : Bool} {v : Const} (h : kBool b v = true) : v = .bool b := by cases v <;> first | (rw [eq_of_beq h]) | exact (Bool.false_ne_true h).elim
def kInt (b : Int) (v : Const) : Bool := match v with | .int b' => b == b' | _ => false
theorem kInt_inv {b : Int} {v : Const} (h : kInt b v = true) : v = .int b := by cases v <;> first | (rw [eq_of_beq h]) | exact (Bool.false_ne_true h).elim
def kStr (b : Str) (v : Const) : Bool := match v with | .str b' => b == b' | _ => false
theorem kStr_inv {b : Str} {v : Const} (h : kStr b v = true) : v = .str b := by cases v <;> first | (rw [eq_of_beq h]) | exact (Bool.false_ne_true h).elim
def mBin (e : Expr) (k : Expr → Operator → Expr → Bool) : Bool := match e with | .BinOp l op r _ => k l op r | _ => false
theorem mBin_inv {k : Expr → Operator → Expr → Bool} (h : mBin e k = true) : ∃ l op r p, e = .BinOp l op r p ∧ k l op r = true := by cases e <;> first | exact ⟨_, _, _, _, rfl, h⟩ | exact (Bool.false_ne_true h).elim
def mUn (e : Expr) (k : UnaryOp → Expr → Bool) : Bool := match e with | .UnaryOp op r _ => k op r | _ => false
theorem mUn_inv {k : UnaryOp → Expr → Bool} (h : mUn e k = true) : ∃ op r p, e = .UnaryOp op r p ∧ k op r = true := by cases e <;> first | exact ⟨_, _, _, rfl, h⟩ | exact (Bool.false_ne_true h).elim
def mBoolop (e : Expr) (k : BoolOp → List Expr → Bool) : Bool := match e with | .BoolOp op r _ => k op r | _ => false
theorem mBoolop_inv {k : BoolOp → List Expr → Bool} (h : mBoolop e k = true) : ∃ op r p, e = .BoolOp op r p ∧ k op r = true := by cases e <;> first | exact ⟨_, _, _, rfl, h⟩ | exact (Bool.false_ne_true h).elim
def mCmp (e : Expr) (k : Expr → List CmpOp → List Expr → Bool) : Bool := match e with | .Compare l ops rs _ => k l ops rs | _ => false
theorem mCmp_inv {k : Expr → List CmpOp → List Expr → Bool} (h : mCmp e k = true) : ∃ l ops rs p, e = .Compare l ops rs p ∧ k l ops rs = true := by cases e <;> first | exact ⟨_, _, _, _, rfl, h⟩ | exact (Bool.false_ne_true h).elim
def mSub (e : Expr) (k : Expr → Expr → Bool) : Bool := match e with | .Subscript l r _ => k l r | _ => false
theorem mSub_inv {k : Expr → Expr → Bool} (h : mSub e k = true) : ∃ l r p, e = .Subscript l r p ∧ k l r = true := by cases e <;> first | exact ⟨_, _, _, rfl, h⟩ | exact (Bool.false_ne_true h).elim
def mTup (e : Expr) (k : List Expr → Bool) : Bool := match e with | .Tuple es _ _ => k es | _ => false
theorem mTup_inv {k : List Expr → Bool} (h : mTup e k = true) : ∃ l q p, e = .Tuple l q p ∧ k l = true := by cases e <;> first | exact ⟨_, _, _, rfl, h⟩ | exact (Bool.false_ne_true h).elim
def mList (e : Expr) (k : List Expr → Bool) : Bool := match e with | .List es _ => k es | _ => false
theorem mList_inv {k : List Expr → Bool} (h : mList e k = true) : ∃ l p, e = .List l p ∧ k l = true := by cases e <;> first | exact ⟨_, _, rfl, h⟩ | exact (Bool.false_ne_true h).elim
def mCall (e : Expr) (k : Expr → List Expr → List Keyword → Pos → Bool) : Bool := match e with | .Call f as ks p => k f as ks p | _ => false
theorem mCall_inv {k : Expr → List Expr → List Keyword → Pos → Bool} (h : mCall e k = true) : ∃ f as ks p, e = .Call f as ks p ∧ k f as ks p = true := by cases e <;> first | exact ⟨_, _, _, _, rfl, h⟩ | exact (Bool.false_ne_true h).elim
def mAttr (e : Expr) (k : Expr → Str → Pos → Bool) : Bool := match e with | .Attribute o n p => k o n p | _ => false
theorem mAttr_inv {k : Expr → Str → Pos → Bool} (h : mAttr e k = true) : ∃ o n p, e = .Attribute o n p ∧ k o n p = true := by cases e <;> first | exact ⟨_, _, _, rfl, h⟩ | exact (Bool.false_ne_true h).elim
def mComp (e : Expr) (k : Expr → List Comprehension → Scope → Bool) : Bool := match e with | .ListComp elt gs sc _ => k elt gs sc | _ => false
theorem mComp_inv {k : Expr → List Comprehension → Scope → Bool} (h : mComp e k = true) : ∃ elt gs sc p, e = .ListComp elt gs sc p ∧ k elt gs sc = true := by cases e <;> first | exact ⟨_, _, _, _, rfl, h⟩ | exact (Bool.false_ne_true h).elim
def kGen (g : Comprehension) (k : Expr → Expr → List Expr → Bool) : Bool := match g with | ⟨te, iter, ifs, ia⟩ => ia == 0 && k te iter ifs
theorem kGen_inv {g : Comprehension} {k : Expr → Expr → List Expr → Bool} (h : kGen g k = true) : ∃ te iter ifs, g = ⟨te, iter, ifs, 0⟩ ∧ k te iter ifs = true := by
  obtain ⟨te, iter, ifs, ia⟩ := g
  simp only [kGen, Bool.and_eq_true, beq_iff_eq] at h
  obtain ⟨rfl, h⟩ := h
  exact ⟨_, _, _, rfl, h⟩
def kKey (g : Keyword) (k : Str → Expr → Bool) : Bool := match g with | ⟨some n, v, _⟩ => k n v | ⟨none, _, _⟩ => false
theorem kKey_inv {g : Keyword} {k : Str → Expr → Bool} (h : kKey g k = true) : ∃ n v p, g = ⟨some n, v, p⟩ ∧ k n v = true := by
  obtain ⟨n, v, p⟩ := g
  cases n with
  | none => exact (Bool.false_ne_true h).elim
  | some n => exact ⟨_, _, _, rfl, h⟩
def l0 {α : Type} (l : List α) : Bool := match l with | [] => true | _ :: _ => false
theorem l0_inv {α : Type} {l : List α} (h : l0 l = true) : l = [] := by cases l with | nil => rfl | cons _ _ => exact (Bool.false_ne_true h).elim
def lC {α : Type} (l : List α) (k : α → List α → Bool) : Bool := match l with | [] => false | a :: r => k a r
theorem lC_inv {α : Type} {l : List α} {k : α → List α → Bool} (h : lC l k = true) : ∃ a r, l = a :: r ∧ k a r = true := by cases l with | nil => exact (Bool.false_ne_true h).elim | cons a r => exact ⟨_, _, rfl, h⟩
def l1 {α : Type} (l : List α) (k : α → Bool) : Bool := lC l fun a r => l0 r && k a
theorem l1_inv {α : Type} {l : List α} {k : α → Bool} (h : l1 l k = true) : ∃ a, l = [a] ∧ k a = true := by
  obtain ⟨a, r, rfl, h⟩ := lC_inv (k := fun a r => l0 r && k a) h
  have h' : (l0 r && k a) = true := h
  rw [Bool.and_eq_true] at h'
  have e : r = [] := l0_inv h'.1
  subst e; exact ⟨_, rfl, h'.2⟩
def l2 {α : Type} (l : List α) (k : α → α → Bool) : Bool := lC l fun a r => l1 r fun b => k a b
theorem l2_inv {α : Type} {l : List α} {k : α → α → Bool} (h : l2 l k = true) : ∃ a b, l = [a, b] ∧ k a b = true := by
  obtain ⟨a, r, rfl, h⟩ := lC_inv (k := fun a r => l1 r fun b => k a b) h
  obtain ⟨b, rfl, h⟩ := l1_inv h
  exact ⟨_, _, rfl, h⟩
end
mutual
def mE (gn : List String) (ns : Names) : Ex → Expr → Bool
  | .name x, e => mName e fun y => y == Str.ofString x && isVar ns x
  | .glob x, e => mName e fun y => y == Str.ofString x && isGlob ns x && gn.contains x
  | .cnone, e => mConst e kNone
  | .cbool b, e => mConst e (kBool b)
  | .cint i, e => mConst e (kInt i)
  | .cstr s, e => mConst e (kStr (Str.ofString s))
  | .bin op l r, e => mBin e fun l' op' r' => op == op' && mE gn ns l l' && mE gn ns r r'
  | .neg x, e => mUn e fun op e' => op == .USub && mE gn ns x e'
  | .not x, e => mUn e fun op e' => op == .Not && mE gn ns x e'
  | .boolop op es, e => mBoolop e fun op' es' => op == op' && mEs gn ns es es'
  | .cmp op l r, e => mCmp e fun l' ops rs => l1 ops fun op' => l1 rs fun r' => op == op' && mE gn ns l l' && mE gn ns r r' && !behindInMarks op' r'
  | .cmp3 op1 op2 l r q, e => mCmp e fun l' ops rs => l2 ops fun op1' op2' => l2 rs fun r' q' => op1 == op1' && op2 == op2' && mE gn ns l l' && mE gn ns r r' && mE gn ns q q' && !behindInMarks op2' q'
  | .sub x i, e => mSub e fun e' i' => mE gn ns x e' && mE gn ns i i' && notSlice i'
  | .tup es, e => mTup e fun es' => mEs gn ns es es'
  | .list es, e => mList e fun es' => mEs gn ns es es'
  | .call f as, e => mCall e fun f' as' ks _ => l0 ks && notAttr f' && mE gn ns f f' && mEs gn ns as as'
  | .callk f a k v, e => mCall e fun f' as' ks _ => l1 as' fun a' => l1 ks fun kw => kKey kw fun k' v' => notAttr f' && mE gn ns f f' && mE gn ns a a' && k' == Str.ofString k && mE gn ns v v' && notStar a'
  | .meth o n as, e => mCall e fun f' as' ks pos => mAttr f' fun o' n' apos => l0 ks && notSuper o' && n' == Str.ofString n && mE gn ns o o' && mEs gn ns as as' && (apos.endLine == pos.line) && decide (as'.length < 30)
  | .comp elt t it cond, e => mComp e fun elt' gs scope => l1 gs fun g => kGen g fun te iter ifs => mTg scope.names t te && compNames ns scope.names t && scope.kind == .function && notSet iter && mI gn ns it iter && mE gn scope.names elt elt' && mC gn scope.names cond ifs
def mEs (gn : List String) (ns : Names) : Es → List Expr → Bool
  | .nil, l => l0 l
  | .cons e r, l => lC l fun e' r' => notStar e' && mE gn ns e e' && mEs gn ns r r'
def mC (gn : List String) (ns : Names) : Eo → List Expr → Bool
  | .none, l => l0 l
  | .some e, l => l1 l fun e' => mE gn ns e e'
def mI (gn : List String) (ns : Names) : Itr → Expr → Bool
  | .ex x, e => mE gn ns x e
  | .range as, e => mCall e fun f' as' ks _ => mName f' fun y => l0 ks && y == Str.ofString "range" && isGlob ns "range" && gn.contains "range" && mEs gn ns as as'
end
def notTupE : Expr → Bool
  | .Tuple .. => false
  | _ => true
section
variable {s : Stmt}
def sAsg (s : Stmt) (k : List Expr → Expr → Bool) : Bool := match s with | .Assign ts e _ => k ts e | _ => false
theorem sAsg_inv {k : List Expr → Expr → Bool} (h : sAsg s k = true) : ∃ ts e p, s = .Assign ts e p ∧ k ts e = true := by cases s <;> first | exact ⟨_, _, _, rfl, h⟩ | exact (Bool.false_ne_true h).elim
def sExp (s : Stmt) (k : Expr → Bool) : Bool := match s with | .Expr e _ => k e | _ => false
theorem sExp_inv {k : Expr → Bool} (h : sExp s k = true) : ∃ e p, s = .Expr e p ∧ k e = true := by cases s <;> first | exact ⟨_, _, rfl, h⟩ | exact (Bool.false_ne_true h).elim
def sRet (s : Stmt) (k : Option Expr → Bool) : Bool := match s with | .Return e _ => k e | _ => false
theorem sRet_inv {k : Option Expr → Bool} (h : sRet s k = true) : ∃ e p, s = .Return e p ∧ k e = true := by cases s <;> first | exact ⟨_, _, rfl, h⟩ | exact (Bool.false_ne_true h).elim
def kSome (o : Option Expr) (k : Expr → Bool) : Bool := match o with | some e => k e | none => false
theorem kSome_inv {o : Option Expr} {k : Expr → Bool} (h : kSome o k = true) : ∃ e, o = some e ∧ k e = true := by cases o with | none => exact (Bool.false_ne_true h).elim | some e => exact ⟨_, rfl, h⟩
def sIf (s : Stmt) (k : Expr → List Stmt → List Stmt → Bool) : Bool := match s with | .If t a b _ => k t a b | _ => false
theorem sIf_inv {k : Expr → List Stmt → List Stmt → Bool} (h : sIf s k = true) : ∃ t a b p, s = .If t a b p ∧ k t a b = true := by cases s <;> first | exact ⟨_, _, _, _, rfl, h⟩ | exact (Bool.false_ne_true h).elim
def sFor (s : Stmt) (k : Expr → Expr → List Stmt → List Stmt → Bool) : Bool := match s with | .For t i b o _ => k t i b o | _ => false
theorem sFor_inv {k : Expr → Expr → List Stmt → List Stmt → Bool} (h : sFor s k = true) : ∃ t i b o p, s = .For t i b o p ∧ k t i b o = true := by cases s <;> first | exact ⟨_, _, _, _, _, rfl, h⟩ | exact (Bool.false_ne_true h).elim
def sWhile (s : Stmt) (k : Expr → List Stmt → List Stmt → Bool) : Bool := match s with | .While t b o _ => k t b o | _ => false
theorem sWhile_inv {k : Expr → List Stmt → List Stmt → Bool} (h : sWhile s k = true) : ∃ t b o p, s = .While t b o p ∧ k t b o = true := by cases s <;> first | exact ⟨_, _, _, _, rfl, h⟩ | exact (Bool.false_ne_true h).elim
def sPass (s : Stmt) : Bool := match s with | .Pass _ => true | _ => false
theorem sPass_inv (h : sPass s = true) : ∃ p, s = .Pass p := by cases s <;> first | exact ⟨_, rfl⟩ | exact (Bool.false_ne_true h).elim
end
mutual
def mS (gn : List String) (ns : Names) : St → Stmt → Bool
  | .assign x e, s => sAsg s fun ts e' => l1 ts fun t => mName t fun y => y == Str.ofString x && isStore ns x && mE gn ns e e'
  | .asgT x y e, s => sAsg s fun ts e' => l1 ts fun t => mTg ns (.two x y) t && mE gn ns e e' && notComp e' && notTupE e'
  | .setitem o i e, s => sAsg s fun ts e' => l1 ts fun t => mSub t fun o' i' => mE gn ns e e' && notComp e' && mE gn ns o o' && mE gn ns i i' && notSlice i'
  | .expr e, s => sExp s fun e' => mE gn ns e e' && notComp e'
  | .ret e, s => sRet s fun o => kSome o fun e' => mE gn ns e e'
  | .if_ t a b, s => sIf s fun t' a' b' => mE gn ns t t' && mSs gn ns a a' && mSs gn ns b b'
  | .for_ t it b, s => sFor s fun te iter b' o => l0 o && mTg ns t te && notSet iter && mI gn ns it iter && mSs gn ns b b'
  | .while_ t b, s => sWhile s fun t' b' o => l0 o && mE gn ns t t' && mSs gn ns b b'
  | .pass, s => sPass s
def mSs (gn : List String) (ns : Names) : Ss → List Stmt → Bool
  | .nil, l => l0 l
  | .cons s r, l => lC l fun s' r' => mS gn ns s s' && mSs gn ns r r'
end

/-! ## weakest preconditions -/
/-- behind a loop less may be told -/
def weakQ (Q : Fl → M → HM → Prop) (fl : Fl) (m : M) (H : HM) : Prop := ∃ m0 H0, M.le m0 m ∧ HM.le H0 H ∧ Q fl m0 H0
def globV (x : String) : V :=
  if x = "len" then .bi .len else if x = "range" then .bi .range else if x = "isinstance" then .bi .isinst else if x = "max" then .bi .max else if x = "all" then .bi .all
  else if x = "sorted" then .bi .sorted else if x = "enumerate" then .bi .enum else if x = "zip" then .bi .zip else if x = "int" then .bi .tint else if x = "bool" then .bi .tbool
  else if x = "str" then .bi .tstr else if x = "tuple" then .bi .ttuple else if x = "list" then .bi .tlist else if x = "ValueError" then .bi .tvalerr else .g x

def biW (c : Cx) (b : Bi) (vs : List V) (H : HM) (Q : V → HM → Prop) : Prop :=
  match b, vs with
  | .len, [v] => lenW c v H Q
  | .isinst, [v, .bi t] => (match isiW v t H with | some r => Q (.bool r) H | .none => False)
  | .max, [.int x, .int y] => Q (.int (max x y)) H
  | .all, [.ref a] => (match H a with | some (.list xs) => (match allBools xs with | some r => Q (.bool r) H | .none => False) | _ => False)
  | .ttuple, [.ref a] => (match H a with | some (.list xs) => xs.length ≤ sizeLine ∧ Q (.tup xs) H | _ => False)
  | .ttuple, [.tup xs] => Q (.tup xs) H
  | .tlist, [.ref a] => (match H a with | some (.list xs) => xs.length ≤ sizeLine ∧ ∀ b, H b = none → Q (.ref b) (H.set b (.list xs)) | _ => False)
  | .tlist, [.tup xs] => xs.length ≤ sizeLine ∧ ∀ b, H b = none → Q (.ref b) (H.set b (.list xs))
  | .tstr, [.int i] => i.natAbs < 10 ^ 4300 ∧ Q (.str (Str.ofString (toString i))) H
  | _, _ => False
def callW (c : Cx) (d : Nat) (f : V) (vs : List V) (H : HM) (X : XPost) (Q : V → HM → Prop) : Prop :=
  match f with
  | .g x => OpOK c d callL (.g x :: vs) H X Q
  | .bi b => biW c b vs H Q
  | _ => False
def callkW (f a : V) (k : String) (v : V) (H : HM) (Q : V → HM → Prop) : Prop :=
  match f, a, v with
  | .bi .max, .ref a, .int dv => k = "default" ∧ (match H a with | some (.list xs) => (match intsOf xs with | some is => Q (.int (maxD dv is)) H | .none => False) | _ => False)
  | _, _, _ => False
def setW (o i v : V) (H : HM) (Q : HM → Prop) : Prop :=
  match o, i with
  | .ref a, .int i => match H a with
    | some (.list xs) => 0 ≤ i ∧ i < 2 ^ 62 ∧ i.toNat < xs.length ∧ Q (H.set a (.list (xs.set i.toNat v)))
    | _ => False
  | _, _ => False

mutual
def wpE (c : Cx) (d : Nat) : Ex → M → HM → XPost → (V → HM → Prop) → Prop
  | .name x, m, H, X, Q => (match m.get x with | some v => Q v H | .none => False)
  | .glob x, m, H, X, Q => Q (globV x) H
  | .cnone, m, H, X, Q => Q .none H
  | .cbool b, m, H, X, Q => Q (.bool b) H
  | .cint i, m, H, X, Q => Q (.int i) H
  | .cstr s, m, H, X, Q => Q (.str (Str.ofString s)) H
  | .bin op l r, m, H, X, Q => wpE c d l m H X fun a H1 => wpE c d r m H1 X fun b H2 => binW op a b H2 Q
  | .neg e, m, H, X, Q => wpE c d e m H X fun v H1 => match v with | .int i => Q (.int (-i)) H1 | _ => False
  | .not e, m, H, X, Q => wpE c d e m H X fun v H1 => truthW v H1 fun b H2 => Q (.bool (!b)) H2
  | .boolop op es, m, H, X, Q => wpB c d op es m H X Q
  | .cmp op l r, m, H, X, Q => wpE c d l m H X fun a H1 => wpE c d r m H1 X fun b H2 => cmpW op a b H2 Q
  | .cmp3 op1 op2 l r q, m, H, X, Q => wpE c d l m H X fun a H1 => wpE c d r m H1 X fun b H2 => cmpW op1 a b H2 fun v H3 => truthW v H3 fun t H4 =>
      if t then wpE c d q m H4 X fun e H5 => cmpW op2 b e H5 Q else Q v H4
  | .sub e i, m, H, X, Q => wpE c d e m H X fun o H1 => wpE c d i m H1 X fun i H2 => subW c o i H2 Q
  | .tup es, m, H, X, Q => wpEs c d es m H X fun vs H1 => vs.length ≤ sizeLine ∧ Q (.tup vs) H1
  | .list es, m, H, X, Q => wpEs c d es m H X fun vs H1 => vs.length ≤ sizeLine ∧ ∀ a, H1 a = none → Q (.ref a) (H1.set a (.list vs))
  | .call f as, m, H, X, Q => wpE c d f m H X fun fv H1 => Callable fv ∧ wpEs c d as m H1 X fun vs H2 => callW c d fv vs H2 X Q
  | .callk f a k v, m, H, X, Q => wpE c d f m H X fun fv H1 => Callable fv ∧ wpE c d a m H1 X fun av H2 => wpE c d v m H2 X fun kv H3 => callkW fv av k kv H3 Q
  | .meth o n as, m, H, X, Q => wpE c d o m H X fun ov H1 => (match methOf ov n H1 with | some id => wpEs c d as m H1 X fun vs H2 => methW id ov vs H2 Q | .none => False)
  | .comp elt t it cond, m, H, X, Q => wpI c d it m H X fun xs G H2 => xs.length ≤ sizeLine ∧
      compW (fun m H Q => wpE c d elt m H NoX Q) (fun m H Q => wpC c d cond m H NoX Q) t G (t.del m) xs [] H2 fun ys H' => ∀ a, H' a = none → Q (.ref a) (H'.set a (.list ys))
def wpT (c : Cx) (d : Nat) : Ex → M → HM → XPost → (Bool → HM → Prop) → Prop
  | .not e, m, H, X, Q => wpT c d e m H X fun b H1 => Q (!b) H1
  | .boolop op es, m, H, X, Q => wpA c d op es m H X Q
  | .cmp op l r, m, H, X, Q => wpE c d l m H X fun a H1 => wpE c d r m H1 X fun b H2 => cmpW op a b H2 fun v H3 => truthW v H3 Q
  | .cmp3 op1 op2 l r q, m, H, X, Q => wpE c d l m H X fun a H1 => wpE c d r m H1 X fun b H2 => cmpW op1 a b H2 fun v H3 => truthW v H3 fun t H4 =>
      if t then wpE c d q m H4 X fun e H5 => cmpW op2 b e H5 fun v H6 => truthW v H6 Q else Q false H4
  | .name x, m, H, X, Q => (match m.get x with | some v => truthW v H Q | .none => False)
  | .sub e i, m, H, X, Q => wpE c d e m H X fun o H1 => wpE c d i m H1 X fun i H2 => subW c o i H2 fun v H3 => truthW v H3 Q
  | .call f as, m, H, X, Q => wpE c d f m H X fun fv H1 => Callable fv ∧ wpEs c d as m H1 X fun vs H2 => callW c d fv vs H2 X fun v H3 => truthW v H3 Q
  | _, _, _, _, _ => False
def wpB (c : Cx) (d : Nat) : BoolOp → Es → M → HM → XPost → (V → HM → Prop) → Prop
  | _, .nil, _, _, _, _ => False
  | op, .cons e .nil, m, H, X, Q => wpE c d e m H X Q
  | .And, .cons e r, m, H, X, Q => wpE c d e m H X fun v H1 => truthW v H1 fun b H2 => if b then wpB c d .And r m H2 X Q else Q v H2
  | .Or, .cons e r, m, H, X, Q => wpE c d e m H X fun v H1 => truthW v H1 fun b H2 => if b then Q v H2 else wpB c d .Or r m H2 X Q
def wpA (c : Cx) (d : Nat) : BoolOp → Es → M → HM → XPost → (Bool → HM → Prop) → Prop
  | op, .nil, _, H, _, Q => Q (op == .And) H
  | .And, .cons e r, m, H, X, Q => wpT c d e m H X fun b H1 => if b then wpA c d .And r m H1 X Q else Q false H1
  | .Or, .cons e r, m, H, X, Q => wpT c d e m H X fun b H1 => if b then Q true H1 else wpA c d .Or r m H1 X Q
def wpEs (c : Cx) (d : Nat) : Es → M → HM → XPost → (List V → HM → Prop) → Prop
  | .nil, m, H, X, Q => Q [] H
  | .cons e r, m, H, X, Q => wpE c d e m H X fun v H1 => wpEs c d r m H1 X fun vs H2 => Q (v :: vs) H2
def wpI (c : Cx) (d : Nat) : Itr → M → HM → XPost → (List V → (HM → Prop) → HM → Prop) → Prop
  | .ex e, m, H, X, Q => wpE c d e m H X fun v H1 => iterW v H1 Q
  | .range as, m, H, X, Q => wpEs c d as m H X fun vs H1 => rangeW vs H1 Q
def wpC (c : Cx) (d : Nat) : Eo → M → HM → XPost → (Bool → HM → Prop) → Prop
  | .none, m, H, X, Q => Q true H
  | .some e, m, H, X, Q => wpT c d e m H X Q
end
mutual
def wpS (c : Cx) (d : Nat) : St → M → HM → XPost → (Fl → M → HM → Prop) → Prop
  | .assign x e, m, H, X, Q => wpE c d e m H X fun v H1 => Q .next (m.set x v) H1
  | .asgT x y e, m, H, X, Q => wpE c d e m H X fun v H1 => asgW (.two x y) v m fun m1 => Q .next m1 H1
  | .setitem o i e, m, H, X, Q => wpE c d e m H X fun v H1 => wpE c d o m H1 X fun ov H2 => wpE c d i m H2 X fun iv H3 => setW ov iv v H3 fun H4 => Q .next m H4
  | .expr e, m, H, X, Q => wpE c d e m H X fun v H1 => Q .next m H1
  | .ret e, m, H, X, Q => wpE c d e m H X fun v H1 => Q (.ret v) m H1
  | .if_ t a b, m, H, X, Q => wpT c d t m H X fun b' H1 => if b' then wpSs c d a m H1 X Q else wpSs c d b m H1 X Q
  | .for_ t it b, m, H, X, Q => wpI c d it m H X fun xs G H1 => forW (fun m H Q => wpSs c d b m H NoX Q) t G xs m H1 (weakQ Q)
  | .while_ t b, m, H, X, Q => ∃ n, whileW (fun m H Q => wpT c d t m H NoX Q) (fun m H Q => wpSs c d b m H NoX Q) n m H (weakQ Q)
  | .pass, m, H, X, Q => Q .next m H
def wpSs (c : Cx) (d : Nat) : Ss → M → HM → XPost → (Fl → M → HM → Prop) → Prop
  | .nil, m, H, X, Q => Q .next m H
  | .cons s r, m, H, X, Q => wpS c d s m H X fun fl m1 H1 => match fl with | .next => wpSs c d r m1 H1 X Q | .ret v => Q (.ret v) m1 H1
end

end Mine

set_option autoImplicit false
set_option linter.unusedVariables false
namespace Mine
open PySem PyProof.Rows
theorem mE_name (gn : List String) (ns : Names)  (x) (e) : mE gn ns (.name x) e = (mName e fun y => y == Str.ofString x && isVar ns x) := rfl
theorem mE_glob (gn : List String) (ns : Names)  (x) (e) : mE gn ns (.glob x) e = (mName e fun y => y == Str.ofString x && isGlob ns x && gn.contains x) := rfl
theorem mE_cnone (gn : List String) (ns : Names)  (e) : mE gn ns .cnone e = (mConst e kNone) := rfl
theorem mE_cbool (gn : List String) (ns : Names)  (b) (e) : mE gn ns (.cbool b) e = (mConst e (kBool b)) := rfl
theorem mE_cint (gn : List String) (ns : Names)  (i) (e) : mE gn ns (.cint i) e = (mConst e (kInt i)) := rfl
theorem mE_cstr (gn : List String) (ns : Names)  (s) (e) : mE gn ns (.cstr s) e = (mConst e (kStr (Str.ofString s))) := rfl
theorem mE_bin (gn : List String) (ns : Names)  (op) (l) (r) (e) : mE gn ns (.bin op l r) e = (mBin e fun l' op' r' => op == op' && mE gn ns l l' && mE gn ns r r') := rfl
theorem mE_neg (gn : List String) (ns : Names)  (x) (e) : mE gn ns (.neg x) e = (mUn e fun op e' => op == .USub && mE gn ns x e') := rfl
theorem mE_not (gn : List String) (ns : Names)  (x) (e) : mE gn ns (.not x) e = (mUn e fun op e' => op == .Not && mE gn ns x e') := rfl
theorem mE_boolop (gn : List String) (ns : Names)  (op) (es) (e) : mE gn ns (.boolop op es) e = (mBoolop e fun op' es' => op == op' && mEs gn ns es es') := rfl
theorem mE_cmp (gn : List String) (ns : Names)  (op) (l) (r) (e) : mE gn ns (.cmp op l r) e = (mCmp e fun l' ops rs => l1 ops fun op' => l1 rs fun r' => op == op' && mE gn ns l l' && mE gn ns r r' && !behindInMarks op' r') := rfl
theorem mE_cmp3 (gn : List String) (ns : Names)  (op1) (op2) (l) (r) (q) (e) : mE gn ns (.cmp3 op1 op2 l r q) e = (mCmp e fun l' ops rs => l2 ops fun op1' op2' => l2 rs fun r' q' => op1 == op1' && op2 == op2' && mE gn ns l l' && mE gn ns r r' && mE gn ns q q' && !behindInMarks op2' q') := rfl
theorem mE_sub (gn : List String) (ns : Names)  (x) (i) (e) : mE gn ns (.sub x i) e = (mSub e fun e' i' => mE gn ns x e' && mE gn ns i i' && notSlice i') := rfl
theorem mE_tup (gn : List String) (ns : Names)  (es) (e) : mE gn ns (.tup es) e = (mTup e fun es' => mEs gn ns es es') := rfl
theorem mE_list (gn : List String) (ns : Names)  (es) (e) : mE gn ns (.list es) e = (mList e fun es' => mEs gn ns es es') := rfl
theorem mE_call (gn : List String) (ns : Names)  (f) (as) (e) : mE gn ns (.call f as) e = (mCall e fun f' as' ks _ => l0 ks && notAttr f' && mE gn ns f f' && mEs gn ns as as') := rfl
theorem mE_callk (gn : List String) (ns : Names)  (f) (a) (k) (v) (e) : mE gn ns (.callk f a k v) e = (mCall e fun f' as' ks _ => l1 as' fun a' => l1 ks fun kw => kKey kw fun k' v' => notAttr f' && mE gn ns f f' && mE gn ns a a' && k' == Str.ofString k && mE gn ns v v' && notStar a') := rfl
theorem mE_meth (gn : List String) (ns : Names)  (o) (n) (as) (e) : mE gn ns (.meth o n as) e = (mCall e fun f' as' ks pos => mAttr f' fun o' n' apos => l0 ks && notSuper o' && n' == Str.ofString n && mE gn ns o o' && mEs gn ns as as' && (apos.endLine == pos.line) && decide (as'.length < 30)) := rfl
theorem mE_comp (gn : List String) (ns : Names)  (elt) (t) (it) (cond) (e) : mE gn ns (.comp elt t it cond) e = (mComp e fun elt' gs scope => l1 gs fun g => kGen g fun te iter ifs => mTg scope.names t te && compNames ns scope.names t && scope.kind == .function && notSet iter && mI gn ns it iter && mE gn scope.names elt elt' && mC gn scope.names cond ifs) := rfl
theorem mEs_nil (gn : List String) (ns : Names)  (l) : mEs gn ns .nil l = (l0 l) := rfl
theorem mEs_cons (gn : List String) (ns : Names)  (e) (r) (l) : mEs gn ns (.cons e r) l = (lC l fun e' r' => notStar e' && mE gn ns e e' && mEs gn ns r r') := rfl
theorem mC_none (gn : List String) (ns : Names)  (l) : mC gn ns .none l = (l0 l) := rfl
theorem mC_some (gn : List String) (ns : Names)  (e) (l) : mC gn ns (.some e) l = (l1 l fun e' => mE gn ns e e') := rfl
theorem mI_ex (gn : List String) (ns : Names)  (x) (e) : mI gn ns (.ex x) e = (mE gn ns x e) := rfl
theorem mI_range (gn : List String) (ns : Names)  (as) (e) : mI gn ns (.range as) e = (mCall e fun f' as' ks _ => mName f' fun y => l0 ks && y == Str.ofString "range" && isGlob ns "range" && gn.contains "range" && mEs gn ns as as') := rfl
theorem mS_assign (gn : List String) (ns : Names)  (x) (e) (s) : mS gn ns (.assign x e) s = (sAsg s fun ts e' => l1 ts fun t => mName t fun y => y == Str.ofString x && isStore ns x && mE gn ns e e') := rfl
theorem mS_asgT (gn : List String) (ns : Names)  (x) (y) (e) (s) : mS gn ns (.asgT x y e) s = (sAsg s fun ts e' => l1 ts fun t => mTg ns (.two x y) t && mE gn ns e e' && notComp e' && notTupE e') := rfl
theorem mS_setitem (gn : List String) (ns : Names)  (o) (i) (e) (s) : mS gn ns (.setitem o i e) s = (sAsg s fun ts e' => l1 ts fun t => mSub t fun o' i' => mE gn ns e e' && notComp e' && mE gn ns o o' && mE gn ns i i' && notSlice i') := rfl
theorem mS_expr (gn : List String) (ns : Names)  (e) (s) : mS gn ns (.expr e) s = (sExp s fun e' => mE gn ns e e' && notComp e') := rfl
theorem mS_ret (gn : List String) (ns : Names)  (e) (s) : mS gn ns (.ret e) s = (sRet s fun o => kSome o fun e' => mE gn ns e e') := rfl
theorem mS_if_ (gn : List String) (ns : Names)  (t) (a) (b) (s) : mS gn ns (.if_ t a b) s = (sIf s fun t' a' b' => mE gn ns t t' && mSs gn ns a a' && mSs gn ns b b') := rfl
theorem mS_for_ (gn : List String) (ns : Names)  (t) (it) (b) (s) : mS gn ns (.for_ t it b) s = (sFor s fun te iter b' o => l0 o && mTg ns t te && notSet iter && mI gn ns it iter && mSs gn ns b b') := rfl
theorem mS_while_ (gn : List String) (ns : Names)  (t) (b) (s) : mS gn ns (.while_ t b) s = (sWhile s fun t' b' o => l0 o && mE gn ns t t' && mSs gn ns b b') := rfl
theorem mS_pass (gn : List String) (ns : Names)  (s) : mS gn ns .pass s = (sPass s) := rfl
theorem mSs_nil (gn : List String) (ns : Names)  (l) : mSs gn ns .nil l = (l0 l) := rfl
theorem mSs_cons (gn : List String) (ns : Names)  (s) (r) (l) : mSs gn ns (.cons s r) l = (lC l fun s' r' => mS gn ns s s' && mSs gn ns r r') := rfl
theorem q117 (c : Cx) (d : Nat)  (x) (m) (H) (X) (Q) : wpE c d (.name x) m H X Q = ((match m.get x with | some v => Q v H | .none => False)) := rfl
theorem q114 (c : Cx) (d : Nat)  (x) (m) (H) (X) (Q) : wpE c d (.glob x) m H X Q = (Q (globV x) H) := rfl
theorem q111 (c : Cx) (d : Nat)  (m) (H) (X) (Q) : wpE c d .cnone m H X Q = (Q .none H) := rfl
theorem q107 (c : Cx) (d : Nat)  (b) (m) (H) (X) (Q) : wpE c d (.cbool b) m H X Q = (Q (.bool b) H) := rfl
theorem q108 (c : Cx) (d : Nat)  (i) (m) (H) (X) (Q) : wpE c d (.cint i) m H X Q = (Q (.int i) H) := rfl
theorem q113 (c : Cx) (d : Nat)  (s) (m) (H) (X) (Q) : wpE c d (.cstr s) m H X Q = (Q (.str (Str.ofString s)) H) := rfl
theorem q103 (c : Cx) (d : Nat)  (op) (l) (r) (m) (H) (X) (Q) : wpE c d (.bin op l r) m H X Q = (wpE c d l m H X fun a H1 => wpE c d r m H1 X fun b H2 => binW op a b H2 Q) := rfl
theorem q118 (c : Cx) (d : Nat)  (e) (m) (H) (X) (Q) : wpE c d (.neg e) m H X Q = (wpE c d e m H X fun v H1 => match v with | .int i => Q (.int (-i)) H1 | _ => False) := rfl
theorem q119 (c : Cx) (d : Nat)  (e) (m) (H) (X) (Q) : wpE c d (.not e) m H X Q = (wpE c d e m H X fun v H1 => truthW v H1 fun b H2 => Q (.bool (!b)) H2) := rfl
theorem q104 (c : Cx) (d : Nat)  (op) (es) (m) (H) (X) (Q) : wpE c d (.boolop op es) m H X Q = (wpB c d op es m H X Q) := rfl
theorem q109 (c : Cx) (d : Nat)  (op) (l) (r) (m) (H) (X) (Q) : wpE c d (.cmp op l r) m H X Q = (wpE c d l m H X fun a H1 => wpE c d r m H1 X fun b H2 => cmpW op a b H2 Q) := rfl
theorem q110 (c : Cx) (d : Nat)  (op1) (op2) (l) (r) (q) (m) (H) (X) (Q) : wpE c d (.cmp3 op1 op2 l r q) m H X Q = (wpE c d l m H X fun a H1 => wpE c d r m H1 X fun b H2 => cmpW op1 a b H2 fun v H3 => truthW v H3 fun t H4 =>
      if t then wpE c d q m H4 X fun e H5 => cmpW op2 b e H5 Q else Q v H4) := rfl
theorem q120 (c : Cx) (d : Nat)  (e) (i) (m) (H) (X) (Q) : wpE c d (.sub e i) m H X Q = (wpE c d e m H X fun o H1 => wpE c d i m H1 X fun i H2 => subW c o i H2 Q) := rfl
theorem q121 (c : Cx) (d : Nat)  (es) (m) (H) (X) (Q) : wpE c d (.tup es) m H X Q = (wpEs c d es m H X fun vs H1 => vs.length ≤ sizeLine ∧ Q (.tup vs) H1) := rfl
theorem q115 (c : Cx) (d : Nat)  (es) (m) (H) (X) (Q) : wpE c d (.list es) m H X Q = (wpEs c d es m H X fun vs H1 => vs.length ≤ sizeLine ∧ ∀ a, H1 a = none → Q (.ref a) (H1.set a (.list vs))) := rfl
theorem q105 (c : Cx) (d : Nat)  (f) (as) (m) (H) (X) (Q) : wpE c d (.call f as) m H X Q = (wpE c d f m H X fun fv H1 => Callable fv ∧ wpEs c d as m H1 X fun vs H2 => callW c d fv vs H2 X Q) := rfl
theorem q106 (c : Cx) (d : Nat)  (f) (a) (k) (v) (m) (H) (X) (Q) : wpE c d (.callk f a k v) m H X Q = (wpE c d f m H X fun fv H1 => Callable fv ∧ wpE c d a m H1 X fun av H2 => wpE c d v m H2 X fun kv H3 => callkW fv av k kv H3 Q) := rfl
theorem q116 (c : Cx) (d : Nat)  (o) (n) (as) (m) (H) (X) (Q) : wpE c d (.meth o n as) m H X Q = (wpE c d o m H X fun ov H1 => (match methOf ov n H1 with | some id => wpEs c d as m H1 X fun vs H2 => methW id ov vs H2 Q | .none => False)) := rfl
theorem q112 (c : Cx) (d : Nat)  (elt) (t) (it) (cond) (m) (H) (X) (Q) : wpE c d (.comp elt t it cond) m H X Q = (wpI c d it m H X fun xs G H2 => xs.length ≤ sizeLine ∧
      compW (fun m H Q => wpE c d elt m H NoX Q) (fun m H Q => wpC c d cond m H NoX Q) t G (t.del m) xs [] H2 fun ys H' => ∀ a, H' a = none → Q (.ref a) (H'.set a (.list ys))) := rfl
theorem q142 (c : Cx) (d : Nat)  (e) (m) (H) (X) (Q) : wpT c d (.not e) m H X Q = (wpT c d e m H X fun b H1 => Q (!b) H1) := rfl
theorem q137 (c : Cx) (d : Nat)  (op) (es) (m) (H) (X) (Q) : wpT c d (.boolop op es) m H X Q = (wpA c d op es m H X Q) := rfl
theorem q139 (c : Cx) (d : Nat)  (op) (l) (r) (m) (H) (X) (Q) : wpT c d (.cmp op l r) m H X Q = (wpE c d l m H X fun a H1 => wpE c d r m H1 X fun b H2 => cmpW op a b H2 fun v H3 => truthW v H3 Q) := rfl
theorem q140 (c : Cx) (d : Nat)  (op1) (op2) (l) (r) (q) (m) (H) (X) (Q) : wpT c d (.cmp3 op1 op2 l r q) m H X Q = (wpE c d l m H X fun a H1 => wpE c d r m H1 X fun b H2 => cmpW op1 a b H2 fun v H3 => truthW v H3 fun t H4 =>
      if t then wpE c d q m H4 X fun e H5 => cmpW op2 b e H5 fun v H6 => truthW v H6 Q else Q false H4) := rfl
theorem q141 (c : Cx) (d : Nat)  (x) (m) (H) (X) (Q) : wpT c d (.name x) m H X Q = ((match m.get x with | some v => truthW v H Q | .none => False)) := rfl
theorem q143 (c : Cx) (d : Nat)  (e) (i) (m) (H) (X) (Q) : wpT c d (.sub e i) m H X Q = (wpE c d e m H X fun o H1 => wpE c d i m H1 X fun i H2 => subW c o i H2 fun v H3 => truthW v H3 Q) := rfl
theorem q138 (c : Cx) (d : Nat)  (f) (as) (m) (H) (X) (Q) : wpT c d (.call f as) m H X Q = (wpE c d f m H X fun fv H1 => Callable fv ∧ wpEs c d as m H1 X fun vs H2 => callW c d fv vs H2 X fun v H3 => truthW v H3 Q) := rfl
theorem q97 (c : Cx) (d : Nat)  (op) (u2) (H) (u4) (Q) : wpA c d op .nil u2 H u4 Q = (Q (op == .And) H) := by cases op <;> rfl
theorem q95 (c : Cx) (d : Nat)  (e) (r) (m) (H) (X) (Q) : wpA c d .And (.cons e r) m H X Q = (wpT c d e m H X fun b H1 => if b then wpA c d .And r m H1 X Q else Q false H1) := rfl
theorem q96 (c : Cx) (d : Nat)  (e) (r) (m) (H) (X) (Q) : wpA c d .Or (.cons e r) m H X Q = (wpT c d e m H X fun b H1 => if b then Q true H1 else wpA c d .Or r m H1 X Q) := rfl
theorem q123 (c : Cx) (d : Nat)  (m) (H) (X) (Q) : wpEs c d .nil m H X Q = (Q [] H) := rfl
theorem q122 (c : Cx) (d : Nat)  (e) (r) (m) (H) (X) (Q) : wpEs c d (.cons e r) m H X Q = (wpE c d e m H X fun v H1 => wpEs c d r m H1 X fun vs H2 => Q (v :: vs) H2) := rfl
theorem q124 (c : Cx) (d : Nat)  (e) (m) (H) (X) (Q) : wpI c d (.ex e) m H X Q = (wpE c d e m H X fun v H1 => iterW v H1 Q) := rfl
theorem q125 (c : Cx) (d : Nat)  (as) (m) (H) (X) (Q) : wpI c d (.range as) m H X Q = (wpEs c d as m H X fun vs H1 => rangeW vs H1 Q) := rfl
theorem q101 (c : Cx) (d : Nat)  (m) (H) (X) (Q) : wpC c d .none m H X Q = (Q true H) := rfl
theorem q102 (c : Cx) (d : Nat)  (e) (m) (H) (X) (Q) : wpC c d (.some e) m H X Q = (wpT c d e m H X Q) := rfl
theorem q127 (c : Cx) (d : Nat)  (x) (e) (m) (H) (X) (Q) : wpS c d (.assign x e) m H X Q = (wpE c d e m H X fun v H1 => Q .next (m.set x v) H1) := rfl
theorem q126 (c : Cx) (d : Nat)  (x) (y) (e) (m) (H) (X) (Q) : wpS c d (.asgT x y e) m H X Q = (wpE c d e m H X fun v H1 => asgW (.two x y) v m fun m1 => Q .next m1 H1) := rfl
theorem q133 (c : Cx) (d : Nat)  (o) (i) (e) (m) (H) (X) (Q) : wpS c d (.setitem o i e) m H X Q = (wpE c d e m H X fun v H1 => wpE c d o m H1 X fun ov H2 => wpE c d i m H2 X fun iv H3 => setW ov iv v H3 fun H4 => Q .next m H4) := rfl
theorem q128 (c : Cx) (d : Nat)  (e) (m) (H) (X) (Q) : wpS c d (.expr e) m H X Q = (wpE c d e m H X fun v H1 => Q .next m H1) := rfl
theorem q132 (c : Cx) (d : Nat)  (e) (m) (H) (X) (Q) : wpS c d (.ret e) m H X Q = (wpE c d e m H X fun v H1 => Q (.ret v) m H1) := rfl
theorem q130 (c : Cx) (d : Nat)  (t) (a) (b) (m) (H) (X) (Q) : wpS c d (.if_ t a b) m H X Q = (wpT c d t m H X fun b' H1 => if b' then wpSs c d a m H1 X Q else wpSs c d b m H1 X Q) := rfl
theorem q129 (c : Cx) (d : Nat)  (t) (it) (b) (m) (H) (X) (Q) : wpS c d (.for_ t it b) m H X Q = (wpI c d it m H X fun xs G H1 => forW (fun m H Q => wpSs c d b m H NoX Q) t G xs m H1 (weakQ Q)) := rfl
theorem q134 (c : Cx) (d : Nat)  (t) (b) (m) (H) (X) (Q) : wpS c d (.while_ t b) m H X Q = (∃ n, whileW (fun m H Q => wpT c d t m H NoX Q) (fun m H Q => wpSs c d b m H NoX Q) n m H (weakQ Q)) := rfl
theorem q131 (c : Cx) (d : Nat)  (m) (H) (X) (Q) : wpS c d .pass m H X Q = (Q .next m H) := rfl
theorem q136 (c : Cx) (d : Nat)  (m) (H) (X) (Q) : wpSs c d .nil m H X Q = (Q .next m H) := rfl
theorem q135 (c : Cx) (d : Nat)  (s) (r) (m) (H) (X) (Q) : wpSs c d (.cons s r) m H X Q = (wpS c d s m H X fun fl m1 H1 => match fl with | .next => wpSs c d r m1 H1 X Q | .ret v => Q (.ret v) m1 H1) := rfl
theorem q99 (c : Cx) (d : Nat) (op) (e) (m) (H) (X) (Q) : wpB c d op (.cons e .nil) m H X Q = wpE c d e m H X Q := by cases op <;> rfl
theorem q98 (c : Cx) (d : Nat) (e) (e2) (r) (m) (H) (X) (Q) : wpB c d .And (.cons e (.cons e2 r)) m H X Q = (wpE c d e m H X fun v H1 => truthW v H1 fun b H2 => if b then wpB c d .And (.cons e2 r) m H2 X Q else Q v H2) := rfl
theorem q100 (c : Cx) (d : Nat) (e) (e2) (r) (m) (H) (X) (Q) : wpB c d .Or (.cons e (.cons e2 r)) m H X Q = (wpE c d e m H X fun v H1 => truthW v H1 fun b H2 => if b then Q v H2 else wpB c d .Or (.cons e2 r) m H2 X Q) := rfl
end Mine

set_option autoImplicit false
set_option linter.unusedVariables false
namespace Mine
open PySem PyProof.Rows

section
variable {c : Cx} {d : Nat} {X : XPost}

theorem testChain3 {l r q : Expr} {op op' : CmpOp} {pos : Pos} {names : Names} {m : M} {H : HM} {Q : Bool → HM → Prop} (hm : behindInMarks op' q = false)
    (h : EvOK c d names l m H X fun a H1 => EvOK c d names r m H1 X fun b H2 => OpOK c d (cmp2 op) [a, b] H2 X fun v H3 => OpBOK c d truthy v H3 X fun t H4 =>
      if t then EvOK c d names q m H4 X fun e H5 => OpOK c d (cmp2 op') [b, e] H5 X fun v H6 => OpBOK c d truthy v H6 X Q else Q false H4) : TsOK c d names (.Compare l [op, op'] [r, q] pos) m H X Q := by
  intro env A fr s E k hE
  show wpAny (Md c) A (eval l env >>= fun a => testChain pos a [op, op'] (markedEach [op, op'] [r, q] [eval r env, eval q env])) _ _ _
  have hmk : markedEach [op, op'] [r, q] [eval r env, eval q env] = [eval r env, eval q env] := by
    show [eval r env, markedBehindIn op' q (eval q env)] = _
    rw [markedBehindIn_of_false hm]
  rw [hmk]
  refine wpAny_bind (h.use k hE fun v s1 a H1 h1 ra t1 k1 hE1 => ?_)
  show wpAny (Md c) A (holding [v] (eval r env) >>= fun rv => standAt pos >>= fun _ => holding [v, rv] (compareOp op v rv) >>= fun cv => release [v, rv] [cv] >>= fun _ => holding [cv, rv] (truthy cv) >>= fun t => if t then testChain pos rv [op'] [eval q env] else pure false) _ _ _
  refine wpAny_bind (wpAny_holding (h1.use k1 hE1 fun w s2 b H2 h2 rb t2 k2 hE2 => wpAny_bind (wpAny_standAt (wpAny_bind (wpAny_holding ?_)))))
  refine h2.use (vs := [v, w]) k2.toOk0 (.cons (ra.keep (t2.tup0 k1.objs)) (.one rb)) hE2 fun u s3 r3 H3 hq hr t3 k3 hE3 => wpAny_bind (release_ (wpAny_bind (wpAny_holding ?_)))
  refine hq.use k3 hr hE3 fun t s4 H4 hq t4 k4 hE4 => ?_
  have k4' := k2.step (t3.trans t4)
  cases t with
  | false =>
    simp only [Bool.false_eq_true, if_false] at hq ⊢
    exact wpAny_pure ⟨H4, hq, t1.trans (t2.trans (t3.trans t4))⟩
  | true =>
    simp only [if_true] at hq ⊢
    show wpAny (Md c) A (holding [w] (eval q env) >>= fun rv => standAt pos >>= fun _ => operate [w, rv] (compareOp op' w rv) >>= fun cv => holding [cv] (truthy cv)) _ _ _
    refine wpAny_bind (wpAny_holding (hq.use k4' hE4 fun u5 s5 e H5 h5 re t5 k5 hE5 => wpAny_bind (wpAny_standAt (wpAny_bind (operate_ ?_)))))
    have rb5 := rb.keep (((t3.trans t4).trans t5).tup0 k2.objs)
    refine h5.use (vs := [w, u5]) k5.toOk0 (.cons rb5 (.one re)) hE5 fun u s6 r H6 hq hr t6 k6 hE6 => wpAny_holding ?_
    exact hq.use k6 hr hE6 fun b s7 H7 hq t7 _ _ => ⟨H7, hq, t1.trans (t2.trans (t3.trans (t4.trans (t5.trans (t6.trans t7)))))⟩

theorem ev_callk (hc : CxOK c) {names : Names} {m : M} {H : HM} {f a v : Expr} {k : Str} {pos kp : Pos} {Q : V → HM → Prop} (hf : notAttr f = true) (hn : notStar a = true)
    (h : EvOK c d names f m H X fun fv H1 => Callable fv ∧ EvOK c d names a m H1 X fun av H2 => EvOK c d names v m H2 X fun kv H3 => OpOK c d (callK k) [fv, av, kv] H3 X Q) :
    EvOK c d names (.Call f [a] [⟨some k, v, kp⟩] pos) m H X Q := by
  intro env A fr s E k0 hE
  rw [eval_Call_plain hf]
  refine wpAny_bind (h.use k0 hE fun fv s1 fa H1 h1 ra t1 k1 hE1 => ?_)
  refine callWith_any (P := fun s => c.base.StaysIn s.heap) (fun s₁ Q hb hQ => (ra.keeper hc h1.1) A s₁ E Q hb hQ) ?_
  rw [starEach_cons hn]
  show wpAny (Md c) A (evalArgs fv true [(false, eval a env)] [(some k, (do let v ← eval v env; standAt pos; pure v))]) _ _ _
  refine evalArgs_kw rfl (Calls.spliced_cons (h1.2.use k1 hE1 fun av s2 aa H2 h2 ra2 t2 k2 hE2 => Calls.spliced_nil (wpAny_evalAll_cons (wpAny_bind (h2.use k2 hE2 fun kv s3 ka H3 h3 ra3 t3 k3 hE3 => wpAny_bind (wpAny_standAt (wpAny_pure (wpAny_evalAll_nil ?_))))))))
  refine ⟨k3.base, ?_⟩
  show wpAny (Md c) A (call fv [av] [(k, kv)]) _ _ _
  have T := t2.trans t3
  exact h3.use (vs := [fv, av, kv]) k3.toOk0 (.cons (ra.keep (T.tup0 k1.objs)) (.cons (ra2.keep (t3.tup0 k2.objs)) (.one ra3))) hE3 fun u s4 r H4 hq hr t4 _ _ => ⟨r, H4, hq, hr, t1.trans (t2.trans (t3.trans t4))⟩

theorem bi_ok (hc : CxOK c) {b : Bi} {vs : List V} {H : HM} {Q : V → HM → Prop} (h : biW c b vs H Q) : OpOK c d callL (.bi b :: vs) H X Q := by
  unfold biW at h
  split at h
  · exact len_ok hc h
  · split at h
    · rename_i r e; exact isi_ok e h
    · exact h.elim
  · exact max2_ok h
  · split at h
    · rename_i xs hx
      split at h
      · rename_i r e; exact all_ok hx e h
      · exact h.elim
    · exact h.elim
  · split at h
    · rename_i xs hx; exact tuple_list_ok hx h.1 h.2
    · exact h.elim
  · exact tuple_tup_ok h
  · split at h
    · rename_i xs hx; exact list_list_ok hx h.1 h.2
    · exact h.elim
  · exact list_tup_ok h.1 h.2
  · exact str_int_ok hc h.1 h.2
  · exact h.elim

theorem q20 (hc : CxOK c) {f : V} {vs : List V} {H : HM} {Q : V → HM → Prop} (h : callW c d f vs H X Q) : OpOK c d callL (f :: vs) H X Q := by
  unfold callW at h
  split at h
  · exact h
  · exact bi_ok hc h
  · exact h.elim
theorem q22 {f a v : V} {k : String} {H : HM} {Q : V → HM → Prop} (h : callkW f a k v H Q) : OpOK c d (callK (Str.ofString k)) [f, a, v] H X Q := by
  unfold callkW at h
  split at h
  · obtain ⟨rfl, h⟩ := h
    split at h
    · rename_i xs hx
      split at h
      · rename_i is e; exact maxd_ok hx e h
      · exact h.elim
    · exact h.elim
  · exact h.elim

end
end Mine

set_option autoImplicit false
set_option linter.unusedVariables false
namespace Mine
open PySem PyProof.Rows

section
variable {c : Cx} {d : Nat} {X : XPost} {names : Names} {m : M} {H : HM}

theorem setItem_upd {Mo : Program} {w : World} {A : Around} {E : Value → Shared → Prop} {s : Shared} {l : Addr} {items : Array Value} {k : Int} {t : Tok} {v : Value} {Q : Unit → Shared → Prop} (hl : s.heap.IsList l items)
    (h0 : 0 ≤ k) (hfit : k < 2 ^ 63) (hn : k < items.size) (hQ : Q () { s with heap := s.heap.update l (Obj.mapSeq (·.setIfInBounds k.toNat v)) }) : wpAny (model Mo w) A (setItem (.ref l) (.int k t) v) Q E s := by
  obtain ⟨o, ho, hc, ne, hd⟩ := id hl
  unfold setItem
  try with_reducible refine wpAny_holding ?_
  first | refine wpAny_bind (wpAny_pure ?_) | skip
  refine wpAny_bind (wpAny_sequenceKey hl.typeIs (by decide) ?_)
  refine wpAny_bind (wpAny_callSpecial?_slot (name := Str.ofString "__setitem__") hl.typeIs PySem.slot_list_setitem
    (wpAny_call_entry PySem.slot_list_setitem hl.typeIs PySem.entry_list_setitem ?_ (PySem.args_list_setitem _ _ _)))
  show wpAny _ _ (Builtin.List.listSubscript? (.int k t) >>= _) _ _ s
  refine wpAny_bind (wpAny_listSubscript_int (fitsIndex_of h0 hfit) ?_)
  clear hfit
  obtain ⟨j, rfl⟩ := Int.eq_ofNat_of_zero_le h0
  have hj : j < items.size := by omega
  have hx' : items[j]? = some items[j] := Array.getElem?_eq_getElem hj
  show wpAny _ _ ((seqItemAt l j >>= fun r => pure (r.map (j, ·))) >>= _) _ _ s
  refine wpAny_bind (wpAny_bind (wpAny_seqItemAt ho hd (wpAny_pure ?_)))
  rw [hx']
  show wpAny _ _ (setSeqItemAt l j v >>= _) _ _ s
  refine wpAny_bind (wpAny_setSeqItemAt ho hd ?_)
  first
    | exact wpAny_bind (wpAny_pure (wpAny_pure ⟨.none, rfl, wpAny_pure hQ⟩))
    | exact wpAny_pure ⟨.none, rfl, wpAny_pure hQ⟩

theorem set_ok {A : Around} {fr : List Env} {s : Shared} {E : Value → Shared → Prop} {o i v : V} {uo ui uv : Value} {P : HM → Prop} {Q : Unit → Shared → Prop} (k : Ok0 c d H A fr s) (ro : Rep c s.heap o uo) (ri : Rep c s.heap i ui) (rv : Rep c s.heap v uv) (h : setW o i v H P)
    (hQ : ∀ H' s', P H' → Tr c NoW H s H' s' → Q () s') : wpAny (Md c) A (setItem uo ui uv) Q E s := by
  unfold setW at h
  split at h
  · rename_i a i
    cases ro; cases ri
    split at h
    · rename_i xs hx
      obtain ⟨items, hp, hr⟩ := (k.objs _ _ hx).1
      obtain ⟨h0, h1, h2, h3⟩ := h
      have hs := hr.size
      refine setItem_upd hp.isList h0 (by omega) (by omega) (hQ _ _ h3 (upd_tr (t := s.toks) k.base k.objs hx hp fun h' tk => ?_))
      rw [Array.toList_setIfInBounds]
      exact Reps.set _ (hr.keep tk) (rv.keep tk)
    · exact h.elim
  · exact h.elim

theorem st_setitem {o i e : Expr} {p pos : Pos} {Q : Fl → M → HM → Prop} (hc : notComp e = true)
    (h : EvOK c d names e m H X fun v H1 => EvOK c d names o m H1 X fun ov H2 => EvOK c d names i m H2 X fun iv H3 => setW ov iv v H3 fun H4 => Q .next m H4) : StOK c d names (.Assign [.Subscript o i p] e pos) m H X Q := by
  intro env A fr s E k hE
  refine wpAny_Assign_Subscript (h.use k (fun e' s' x => hE _ _ x.noW) fun v s1 a H1 h1 ra t1 k1 hE1 => h1.use k1 hE1 fun ov s2 oa H2 h2 ro t2 k2 hE2 => h2.use k2 hE2 fun iv s3 ia H3 h3 ri t3 k3 hE3 => ?_) (swapsWith_of hc)
  have T := t2.trans t3
  refine set_ok k3.toOk0 (ro.keep (t3.tup0 k2.objs)) ri (ra.keep (T.tup0 k1.objs)) h3 fun H4 s4 hq t4 => ?_
  have k4 := k3.step t4
  exact ⟨.next, m, H4, hq, .next, (t1.trans (T.trans t4)).noW, k4⟩

theorem st_asgT {x y : String} {te e : Expr} {pos : Pos} {Q : Fl → M → HM → Prop} (ht : mTg names (.two x y) te = true) (hc : notComp e = true) (hnt : notTupE e = true)
    (h : EvOK c d names e m H X fun v H1 => asgW (.two x y) v m fun m1 => Q .next m1 H1) : StOK c d names (.Assign [te] e pos) m H X Q := by
  intro env A fr s E k hE
  obtain ⟨pa, pb, n, p, hte, hx, hy⟩ := mTg_two ht
  subst hte
  have hsw : swapsWithSole [.Tuple [.Name (Str.ofString x) pa, .Name (Str.ofString y) pb] n p] e pos.line env = pure false := by unfold swapsWithSole; exact swapsWith_of hc
  have hst : swappedStores [.Tuple [.Name (Str.ofString x) pa, .Name (Str.ofString y) pb] n p] e env = pure none := by
    unfold swappedStores
    cases e <;> first | rfl | (simp [notTupE] at hnt)
  have hex : exec (.Assign [.Tuple [.Name (Str.ofString x) pa, .Name (Str.ofString y) pb] n p] e pos) env = (do
      standAt pos
      if ← swapsWithSole [.Tuple [.Name (Str.ofString x) pa, .Name (Str.ofString y) pb] n p] e pos.line env then do
        evalThenUse e env fun v => assignAll v ((assignEach [.Tuple [.Name (Str.ofString x) pa, .Name (Str.ofString y) pb] n p] env).map (·.2))
        pure .next
      else do
        let v ← eval e env
        assignStores env v (← swappedStores [.Tuple [.Name (Str.ofString x) pa, .Name (Str.ofString y) pb] n p] e env) ((assignEach [.Tuple [.Name (Str.ofString x) pa, .Name (Str.ofString y) pb] n p] env).map (·.2))) := by rfl
  rw [hex, hsw, hst]
  refine wpAny_bind (wpAny_standAt (wpAny_bind (wpAny_pure ?_)))
  simp only [Bool.false_eq_true, if_false]
  refine wpAny_bind (h.use k (fun e' s' x => hE _ _ x.noW) fun v s1 a H1 h1 ra t1 k1 hE1 => wpAny_bind (wpAny_pure ?_))
  show wpAny (Md c) A (do assign (.Tuple [.Name (Str.ofString x) pa, .Name (Str.ofString y) pb] n p) env v; pure Flow.next) _ _ _
  refine wpAny_bind (asg_ok ht k1 ra h1 fun m2 s2 hq k2 t2 => wpAny_pure ⟨.next, m2, H1, hq, .next, t1.noW.trans t2, k2⟩)

end
end Mine

set_option autoImplicit false
set_option linter.unusedVariables false
namespace Mine
open PySem PyProof.Rows

section
variable {c : Cx} {d : Nat} {gn : List String}

theorem mEs_star {ns : Names} : ∀ (es : Es) (es' : List Expr), mEs gn ns es es' = true → es'.all notStar = true
  | .nil, es', h => by rw [mEs_nil] at h; rw [l0_inv h]; rfl
  | .cons e r, es', h => by
    rw [mEs_cons] at h
    obtain ⟨e', r', rfl, g1⟩ := lC_inv h
    simp only [Bool.and_eq_true] at g1
    simp only [List.all_cons, Bool.and_eq_true]
    exact ⟨g1.1.1, mEs_star r r' g1.2⟩

theorem OpOK.mono {t : List Value → Sem Value} {as : List V} {H : HM} {X : XPost} {Q Q' : V → HM → Prop} (h : OpOK c d t as H X Q) (hq : ∀ r H', Q r H' → Q' r H') : OpOK c d t as H X Q' :=
  fun A fr s E vs k hr hE => wpAny_mono (h A fr s E vs k hr hE) (fun v s' ⟨r, H', a, b⟩ => ⟨r, H', hq _ _ a, b⟩) fun _ _ x => x
theorem OpBOK.mono {t : Value → Sem Bool} {a : V} {H : HM} {X : XPost} {Q Q' : Bool → HM → Prop} (h : OpBOK c d t a H X Q) (hq : ∀ r H', Q r H' → Q' r H') : OpBOK c d t a H X Q' :=
  fun A fr s E v k hr hE => wpAny_mono (h A fr s E v k hr hE) (fun v s' ⟨H', a, b⟩ => ⟨H', hq _ _ a, b⟩) fun _ _ x => x
theorem TsOK.mono {ns : Names} {e : Expr} {m : M} {H : HM} {X : XPost} {Q Q' : Bool → HM → Prop} (h : TsOK c d ns e m H X Q) (hq : ∀ r H', Q r H' → Q' r H') : TsOK c d ns e m H X Q' :=
  fun env A fr s E k hE => wpAny_mono (h env A fr s E k hE) (fun v s' ⟨H', a, b⟩ => ⟨H', hq _ _ a, b⟩) fun _ _ x => x
theorem EsOK.mono {ns : Names} {es : List Expr} {m : M} {H : HM} {X : XPost} {Q Q' : List V → HM → Prop} (h : EsOK c d ns es m H X Q) (hq : ∀ r H', Q r H' → Q' r H') : EsOK c d ns es m H X Q' :=
  fun env A fr s E pos k hE => wpAny_mono (h env A fr s E pos k hE) (fun v s' ⟨r, H', a, b⟩ => ⟨r, H', hq _ _ a, b⟩) fun _ _ x => x
theorem StOK.mono {ns : Names} {st : Stmt} {m : M} {H : HM} {X : XPost} {Q Q' : Fl → M → HM → Prop} (h : StOK c d ns st m H X Q) (hq : ∀ fl m' H', Q fl m' H' → Q' fl m' H') : StOK c d ns st m H X Q' :=
  fun env A fr s E k hE => wpAny_mono (h env A fr s E k hE) (fun v s' ⟨fl, m', H', a, b⟩ => ⟨fl, m', H', hq _ _ _ a, b⟩) fun _ _ x => x

mutual
theorem sE (hc : CxOK c) (hg : ∀ x ∈ gn, GlobOK c x (globV x)) : (e : Ex) → ∀ (ns : Names) (e' : Expr) (m : M) (H : HM) (X : XPost) (Q : V → HM → Prop), mE gn ns e e' = true → wpE c d e m H X Q → EvOK c d ns e' m H X Q
  | .name x, ns, e', m, H, X, Q, h, hw => by
    rw [mE_name] at h
    obtain ⟨y, p, rfl, g1⟩ := mName_inv h
    simp only [Bool.and_eq_true, beq_iff_eq] at g1
    obtain ⟨rfl, hv⟩ := g1
    rw [q117] at hw
    split at hw
    · rename_i v e; exact ev_name hv e hw
    · exact hw.elim
  | .glob x, ns, e', m, H, X, Q, h, hw => by
    rw [mE_glob] at h
    obtain ⟨y, p, rfl, g1⟩ := mName_inv h
    simp only [Bool.and_eq_true, beq_iff_eq] at g1
    obtain ⟨⟨rfl, hv⟩, hm⟩ := g1
    rw [q114] at hw
    exact ev_glob hv (hg x (by simpa using hm)) hw
  | .cnone, ns, e', m, H, X, Q, h, hw => by
    rw [mE_cnone] at h
    obtain ⟨y, q, p, rfl, g1⟩ := mConst_inv h
    obtain rfl := kNone_inv g1
    exact ev_none (by rw [q111] at hw; exact hw)
  | .cbool b, ns, e', m, H, X, Q, h, hw => by
    rw [mE_cbool] at h
    obtain ⟨y, q, p, rfl, g1⟩ := mConst_inv h
    obtain rfl := kBool_inv g1
    exact ev_bool (by rw [q107] at hw; exact hw)
  | .cint i, ns, e', m, H, X, Q, h, hw => by
    rw [mE_cint] at h
    obtain ⟨y, q, p, rfl, g1⟩ := mConst_inv h
    obtain rfl := kInt_inv g1
    exact ev_int (by rw [q108] at hw; exact hw)
  | .cstr i, ns, e', m, H, X, Q, h, hw => by
    rw [mE_cstr] at h
    obtain ⟨y, q, p, rfl, g1⟩ := mConst_inv h
    obtain rfl := kStr_inv g1
    exact ev_str (by rw [q113] at hw; exact hw)
  | .bin op l r, ns, e', m, H, X, Q, h, hw => by
    rw [mE_bin] at h
    obtain ⟨l', op', r', p, rfl, g1⟩ := mBin_inv h
    simp only [Bool.and_eq_true, beq_iff_eq] at g1
    obtain ⟨⟨rfl, h1⟩, h2⟩ := g1
    rw [q103] at hw
    exact ev_bin ((sE hc hg l ns _ m H X _ h1 hw).mono fun a H1 hw => (sE hc hg r ns _ m H1 X _ h2 hw).mono fun b H2 hw => bin_ok hw)
  | .neg e, ns, e', m, H, X, Q, h, hw => by
    rw [mE_neg] at h
    obtain ⟨op, e', p, rfl, g1⟩ := mUn_inv h
    simp only [Bool.and_eq_true, beq_iff_eq] at g1
    obtain ⟨rfl, g1⟩ := g1
    rw [q118] at hw
    exact ev_neg (sE hc hg e ns _ m H X _ g1 hw)
  | .not e, ns, e', m, H, X, Q, h, hw => by
    rw [mE_not] at h
    obtain ⟨op, e', p, rfl, g1⟩ := mUn_inv h
    simp only [Bool.and_eq_true, beq_iff_eq] at g1
    obtain ⟨rfl, g1⟩ := g1
    rw [q119] at hw
    exact ev_not ((sE hc hg e ns _ m H X _ g1 hw).mono fun v H1 hw => truth_ok hw)
  | .boolop op es, ns, e', m, H, X, Q, h, hw => by
    rw [mE_boolop] at h
    obtain ⟨op', es', p, rfl, g1⟩ := mBoolop_inv h
    simp only [Bool.and_eq_true, beq_iff_eq] at g1
    obtain ⟨rfl, h1⟩ := g1
    rw [q104] at hw
    exact ev_boolop (sB hc hg op es ns _ m H X Q h1 hw)
  | .cmp op l r, ns, e', m, H, X, Q, h, hw => by
    rw [mE_cmp] at h
    obtain ⟨l', ops, rs, p, rfl, g1⟩ := mCmp_inv h
    obtain ⟨op', rfl, g2⟩ := l1_inv g1
    obtain ⟨r', rfl, g3⟩ := l1_inv g2
    simp only [Bool.and_eq_true, beq_iff_eq, Bool.not_eq_true'] at g3
    obtain ⟨⟨⟨rfl, h1⟩, h2⟩, h3⟩ := g3
    rw [q109] at hw
    exact ev_cmp h3 ((sE hc hg l ns _ m H X _ h1 hw).mono fun a H1 hw => (sE hc hg r ns _ m H1 X _ h2 hw).mono fun b H2 hw => cmp_ok hw)
  | .cmp3 op1 op2 l r q, ns, e', m, H, X, Q, h, hw => by
    rw [mE_cmp3] at h
    obtain ⟨l', ops, rs, p, rfl, g1⟩ := mCmp_inv h
    obtain ⟨op1', op2', rfl, g2⟩ := l2_inv g1
    obtain ⟨r', q', rfl, g3⟩ := l2_inv g2
    simp only [Bool.and_eq_true, beq_iff_eq, Bool.not_eq_true'] at g3
    obtain ⟨⟨⟨⟨⟨rfl, rfl⟩, h1⟩, h2⟩, h3⟩, h4⟩ := g3
    rw [q110] at hw
    refine ev_cmp3 h4 ((sE hc hg l ns _ m H X _ h1 hw).mono fun a H1 hw => (sE hc hg r ns _ m H1 X _ h2 hw).mono fun b H2 hw => (cmp_ok hw).mono fun v H3 hw => (truth_ok hw).mono fun t H4 hw => ?_)
    cases t with
    | true => simp only [if_true] at hw ⊢; exact (sE hc hg q ns _ m H4 X _ h3 hw).mono fun e H5 hw => cmp_ok hw
    | false => simpa using hw
  | .sub e i, ns, e', m, H, X, Q, h, hw => by
    rw [mE_sub] at h
    obtain ⟨e', i', p, rfl, g1⟩ := mSub_inv h
    simp only [Bool.and_eq_true] at g1
    obtain ⟨⟨h1, h2⟩, h3⟩ := g1
    rw [q120] at hw
    exact ev_sub h3 ((sE hc hg e ns _ m H X _ h1 hw).mono fun o H1 hw => (sE hc hg i ns _ m H1 X _ h2 hw).mono fun iv H2 hw => ⟨subable_of hc hw, sub_ok hc hw⟩)
  | .tup es, ns, e', m, H, X, Q, h, hw => by
    rw [mE_tup] at h
    obtain ⟨es', q, p, rfl, g1⟩ := mTup_inv h
    rw [q121] at hw
    exact ev_tuple (sEs hc hg es ns _ m H X _ g1 hw)
  | .list es, ns, e', m, H, X, Q, h, hw => by
    rw [mE_list] at h
    obtain ⟨es', p, rfl, g1⟩ := mList_inv h
    rw [q115] at hw
    exact ev_list (sEs hc hg es ns _ m H X _ g1 hw)
  | .call f as, ns, e', m, H, X, Q, h, hw => by
    rw [mE_call] at h
    obtain ⟨f', as', ks, p, rfl, g1⟩ := mCall_inv h
    simp only [Bool.and_eq_true] at g1
    obtain ⟨⟨⟨hk, h0⟩, h1⟩, h2⟩ := g1
    obtain rfl := l0_inv hk
    rw [q105] at hw
    exact ev_call hc h0 (mEs_star as as' h2) ((sE hc hg f ns _ m H X _ h1 hw).mono fun fv H1 hw => ⟨hw.1, (sEs hc hg as ns _ m H1 X _ h2 hw.2).mono fun vs H2 hw => q20 hc hw⟩)
  | .callk f a k v, ns, e', m, H, X, Q, h, hw => by
    rw [mE_callk] at h
    obtain ⟨f', as', ks, p, rfl, g1⟩ := mCall_inv h
    obtain ⟨a', rfl, g2⟩ := l1_inv g1
    obtain ⟨kw, rfl, g3⟩ := l1_inv g2
    obtain ⟨k', v', kp, rfl, g4⟩ := kKey_inv g3
    simp only [Bool.and_eq_true, beq_iff_eq] at g4
    obtain ⟨⟨⟨⟨⟨h0, h1⟩, h2⟩, rfl⟩, h4⟩, h5⟩ := g4
    rw [q106] at hw
    exact ev_callk hc h0 h5 ((sE hc hg f ns _ m H X _ h1 hw).mono fun fv H1 hw => ⟨hw.1, (sE hc hg a ns _ m H1 X _ h2 hw.2).mono fun av H2 hw => (sE hc hg v ns _ m H2 X _ h4 hw).mono fun kv H3 hw => q22 hw⟩)
  | .meth o n as, ns, e', m, H, X, Q, h, hw => by
    rw [mE_meth] at h
    obtain ⟨f', as', ks, p, rfl, g1⟩ := mCall_inv h
    obtain ⟨o', n', apos, rfl, g2⟩ := mAttr_inv g1
    simp only [Bool.and_eq_true, beq_iff_eq, decide_eq_true_eq] at g2
    obtain ⟨⟨⟨⟨⟨⟨hk, h0⟩, rfl⟩, h1⟩, h2⟩, h3⟩, h4⟩ := g2
    obtain rfl := l0_inv hk
    rw [q116] at hw
    refine ev_meth h0 (mEs_star as as' h2) h4 (by simpa using h3) ((sE hc hg o ns _ m H X _ h1 hw).mono fun ov H1 hw => ?_)
    split at hw
    · rename_i id hid
      exact ⟨id, q68 hid, (sEs hc hg as ns _ m H1 X _ h2 hw).mono fun vs H2 hw => meth_ok hw⟩
    · exact hw.elim
  | .comp elt t it cond, ns, e', m, H, X, Q, h, hw => by
    rw [mE_comp] at h
    obtain ⟨elt', gs, scope, p, rfl, g1⟩ := mComp_inv h
    obtain ⟨gc, rfl, g2⟩ := l1_inv g1
    obtain ⟨te, iter, ifs, rfl, g3⟩ := kGen_inv g2
    simp only [Bool.and_eq_true, beq_iff_eq] at g3
    obtain ⟨⟨⟨⟨⟨⟨h1, h2⟩, h3⟩, h4⟩, h5⟩, h6⟩, h7⟩ := g3
    rw [q112] at hw
    exact ev_comp (compN_of h2) h3 h1 h4 (fun m H Q => wpE c d elt m H NoX Q) (fun m H Q => wpC c d cond m H NoX Q) (fun m H Q hq => sE hc hg elt scope.names _ m H NoX Q h6 hq) (fun m H Q hq => sC hc hg cond scope.names _ m H NoX Q h7 hq) (sI hc hg it ns _ m H X _ h5 hw)
theorem sT (hc : CxOK c) (hg : ∀ x ∈ gn, GlobOK c x (globV x)) : (e : Ex) → ∀ (ns : Names) (e' : Expr) (m : M) (H : HM) (X : XPost) (Q : Bool → HM → Prop), mE gn ns e e' = true → wpT c d e m H X Q → TsOK c d ns e' m H X Q
  | .not e, ns, e', m, H, X, Q, h, hw => by
    rw [mE_not] at h
    obtain ⟨op, e', p, rfl, g1⟩ := mUn_inv h
    simp only [Bool.and_eq_true, beq_iff_eq] at g1
    obtain ⟨rfl, g1⟩ := g1
    rw [q142] at hw
    exact ts_not (sT hc hg e ns _ m H X _ g1 hw)
  | .boolop op es, ns, e', m, H, X, Q, h, hw => by
    rw [mE_boolop] at h
    obtain ⟨op', es', p, rfl, g1⟩ := mBoolop_inv h
    simp only [Bool.and_eq_true, beq_iff_eq] at g1
    obtain ⟨rfl, h1⟩ := g1
    rw [q137] at hw
    exact ts_bool (sA hc hg op es ns _ m H X Q h1 hw)
  | .cmp op l r, ns, e', m, H, X, Q, h, hw => by
    rw [mE_cmp] at h
    obtain ⟨l', ops, rs, p, rfl, g1⟩ := mCmp_inv h
    obtain ⟨op', rfl, g2⟩ := l1_inv g1
    obtain ⟨r', rfl, g3⟩ := l1_inv g2
    simp only [Bool.and_eq_true, beq_iff_eq, Bool.not_eq_true'] at g3
    obtain ⟨⟨⟨rfl, h1⟩, h2⟩, h3⟩ := g3
    rw [q139] at hw
    exact ts_cmp h3 ((sE hc hg l ns _ m H X _ h1 hw).mono fun a H1 hw => (sE hc hg r ns _ m H1 X _ h2 hw).mono fun b H2 hw => (cmp_ok hw).mono fun v H3 hw => truth_ok hw)
  | .cmp3 op1 op2 l r q, ns, e', m, H, X, Q, h, hw => by
    rw [mE_cmp3] at h
    obtain ⟨l', ops, rs, p, rfl, g1⟩ := mCmp_inv h
    obtain ⟨op1', op2', rfl, g2⟩ := l2_inv g1
    obtain ⟨r', q', rfl, g3⟩ := l2_inv g2
    simp only [Bool.and_eq_true, beq_iff_eq, Bool.not_eq_true'] at g3
    obtain ⟨⟨⟨⟨⟨rfl, rfl⟩, h1⟩, h2⟩, h3⟩, h4⟩ := g3
    rw [q140] at hw
    refine testChain3 h4 ((sE hc hg l ns _ m H X _ h1 hw).mono fun a H1 hw => (sE hc hg r ns _ m H1 X _ h2 hw).mono fun b H2 hw => (cmp_ok hw).mono fun v H3 hw => (truth_ok hw).mono fun t H4 hw => ?_)
    cases t with
    | true => simp only [if_true] at hw ⊢; exact (sE hc hg q ns _ m H4 X _ h3 hw).mono fun e H5 hw => (cmp_ok hw).mono fun v H6 hw => truth_ok hw
    | false => simpa using hw
  | .name x, ns, e', m, H, X, Q, h, hw => by
    rw [mE_name] at h
    obtain ⟨y, p, rfl, g1⟩ := mName_inv h
    simp only [Bool.and_eq_true, beq_iff_eq] at g1
    obtain ⟨rfl, hv⟩ := g1
    rw [q141] at hw
    split at hw
    · rename_i v e; exact ts_value rfl (ev_name hv e (truth_ok hw))
    · exact hw.elim
  | .sub e i, ns, e', m, H, X, Q, h, hw => by
    rw [mE_sub] at h
    obtain ⟨e', i', p, rfl, g1⟩ := mSub_inv h
    simp only [Bool.and_eq_true] at g1
    obtain ⟨⟨h1, h2⟩, h3⟩ := g1
    rw [q143] at hw
    exact ts_value rfl (ev_sub h3 ((sE hc hg e ns _ m H X _ h1 hw).mono fun o H1 hw => (sE hc hg i ns _ m H1 X _ h2 hw).mono fun iv H2 hw => ⟨subable_of hc hw, (sub_ok hc hw).mono fun v H3 hw => truth_ok hw⟩))
  | .call f as, ns, e', m, H, X, Q, h, hw => by
    rw [mE_call] at h
    obtain ⟨f', as', ks, p, rfl, g1⟩ := mCall_inv h
    simp only [Bool.and_eq_true] at g1
    obtain ⟨⟨⟨hk, h0⟩, h1⟩, h2⟩ := g1
    obtain rfl := l0_inv hk
    rw [q138] at hw
    exact ts_value rfl (ev_call hc h0 (mEs_star as as' h2) ((sE hc hg f ns _ m H X _ h1 hw).mono fun fv H1 hw => ⟨hw.1, (sEs hc hg as ns _ m H1 X _ h2 hw.2).mono fun vs H2 hw => (q20 hc hw).mono fun v H3 hw => truth_ok hw⟩))
  | .glob _, ns, e', m, H, X, Q, h, hw => (show False from hw).elim
  | .cnone, ns, e', m, H, X, Q, h, hw => (show False from hw).elim
  | .cbool _, ns, e', m, H, X, Q, h, hw => (show False from hw).elim
  | .cint _, ns, e', m, H, X, Q, h, hw => (show False from hw).elim
  | .cstr _, ns, e', m, H, X, Q, h, hw => (show False from hw).elim
  | .bin _ _ _, ns, e', m, H, X, Q, h, hw => (show False from hw).elim
  | .neg _, ns, e', m, H, X, Q, h, hw => (show False from hw).elim
  | .tup _, ns, e', m, H, X, Q, h, hw => (show False from hw).elim
  | .list _, ns, e', m, H, X, Q, h, hw => (show False from hw).elim
  | .callk _ _ _ _, ns, e', m, H, X, Q, h, hw => (show False from hw).elim
  | .meth _ _ _, ns, e', m, H, X, Q, h, hw => (show False from hw).elim
  | .comp _ _ _ _, ns, e', m, H, X, Q, h, hw => (show False from hw).elim
theorem sB (hc : CxOK c) (hg : ∀ x ∈ gn, GlobOK c x (globV x)) : (op : BoolOp) → (es : Es) → ∀ (ns : Names) (es' : List Expr) (m : M) (H : HM) (X : XPost) (Q : V → HM → Prop), mEs gn ns es es' = true → wpB c d op es m H X Q → BoolOK c d ns op es' m H X Q
  | op, .nil, ns, es', m, H, X, Q, h, hw => by cases op <;> exact (show False from hw).elim
  | op, .cons e .nil, ns, es', m, H, X, Q, h, hw => by
    rw [mEs_cons] at h
    obtain ⟨e', r', rfl, g1⟩ := lC_inv h
    simp only [Bool.and_eq_true] at g1
    rw [mEs_nil] at g1
    obtain rfl := l0_inv g1.2
    rw [q99] at hw
    exact bool_one (sE hc hg e ns _ m H X Q g1.1.2 hw)
  | .And, .cons e (.cons e2 r), ns, es', m, H, X, Q, h, hw => by
    rw [mEs_cons] at h
    obtain ⟨e', r', rfl, g1⟩ := lC_inv h
    simp only [Bool.and_eq_true] at g1
    have g2 := g1.2
    rw [mEs_cons] at g2
    obtain ⟨e2', r', rfl, g3⟩ := lC_inv g2
    rw [q98] at hw
    refine bool_and ((sE hc hg e ns _ m H X _ g1.1.2 hw).mono fun v H1 hw => (truth_ok hw).mono fun b H2 hw => ?_)
    cases b with
    | true => simp only [if_true] at hw ⊢; exact sB hc hg .And (.cons e2 r) ns _ m H2 X Q g1.2 hw
    | false => simpa using hw
  | .Or, .cons e (.cons e2 r), ns, es', m, H, X, Q, h, hw => by
    rw [mEs_cons] at h
    obtain ⟨e', r', rfl, g1⟩ := lC_inv h
    simp only [Bool.and_eq_true] at g1
    have g2 := g1.2
    rw [mEs_cons] at g2
    obtain ⟨e2', r', rfl, g3⟩ := lC_inv g2
    rw [q100] at hw
    refine bool_or ((sE hc hg e ns _ m H X _ g1.1.2 hw).mono fun v H1 hw => (truth_ok hw).mono fun b H2 hw => ?_)
    cases b with
    | true => simpa using hw
    | false => simp only [Bool.false_eq_true, if_false] at hw ⊢; exact sB hc hg .Or (.cons e2 r) ns _ m H2 X Q g1.2 hw
theorem sA (hc : CxOK c) (hg : ∀ x ∈ gn, GlobOK c x (globV x)) : (op : BoolOp) → (es : Es) → ∀ (ns : Names) (es' : List Expr) (m : M) (H : HM) (X : XPost) (Q : Bool → HM → Prop), mEs gn ns es es' = true → wpA c d op es m H X Q → AllOK c d ns op es' m H X Q
  | op, .nil, ns, es', m, H, X, Q, h, hw => by
    rw [mEs_nil] at h
    obtain rfl := l0_inv h
    rw [q97] at hw; exact all_nil hw
  | .And, .cons e r, ns, es', m, H, X, Q, h, hw => by
    rw [mEs_cons] at h
    obtain ⟨e', r', rfl, g1⟩ := lC_inv h
    simp only [Bool.and_eq_true] at g1
    rw [q95] at hw
    refine all_and ((sT hc hg e ns _ m H X _ g1.1.2 hw).mono fun b H1 hw => ?_)
    cases b with
    | true => simp only [if_true] at hw ⊢; exact sA hc hg .And r ns _ m H1 X Q g1.2 hw
    | false => simpa using hw
  | .Or, .cons e r, ns, es', m, H, X, Q, h, hw => by
    rw [mEs_cons] at h
    obtain ⟨e', r', rfl, g1⟩ := lC_inv h
    simp only [Bool.and_eq_true] at g1
    rw [q96] at hw
    refine all_or ((sT hc hg e ns _ m H X _ g1.1.2 hw).mono fun b H1 hw => ?_)
    cases b with
    | true => simpa using hw
    | false => simp only [Bool.false_eq_true, if_false] at hw ⊢; exact sA hc hg .Or r ns _ m H1 X Q g1.2 hw
theorem sEs (hc : CxOK c) (hg : ∀ x ∈ gn, GlobOK c x (globV x)) : (es : Es) → ∀ (ns : Names) (es' : List Expr) (m : M) (H : HM) (X : XPost) (Q : List V → HM → Prop), mEs gn ns es es' = true → wpEs c d es m H X Q → EsOK c d ns es' m H X Q
  | .nil, ns, es', m, H, X, Q, h, hw => by
    rw [mEs_nil] at h
    obtain rfl := l0_inv h
    rw [q123] at hw; exact es_nil hw
  | .cons e r, ns, es', m, H, X, Q, h, hw => by
    rw [mEs_cons] at h
    obtain ⟨e', r', rfl, g1⟩ := lC_inv h
    simp only [Bool.and_eq_true] at g1
    rw [q122] at hw
    exact es_cons g1.1.1 ((sE hc hg e ns _ m H X _ g1.1.2 hw).mono fun v H1 hw => sEs hc hg r ns _ m H1 X _ g1.2 hw)
theorem sI (hc : CxOK c) (hg : ∀ x ∈ gn, GlobOK c x (globV x)) : (it : Itr) → ∀ (ns : Names) (e' : Expr) (m : M) (H : HM) (X : XPost) (Q : List V → (HM → Prop) → HM → Prop), mI gn ns it e' = true → wpI c d it m H X Q → ItOK c d ns e' m H X Q
  | .ex e, ns, e', m, H, X, Q, h, hw => by
    rw [mI_ex] at h
    rw [q124] at hw
    exact it_ex (sE hc hg e ns _ m H X _ h hw)
  | .range as, ns, e', m, H, X, Q, h, hw => by
    rw [mI_range] at h
    obtain ⟨f', as', ks, p, rfl, g1⟩ := mCall_inv h
    obtain ⟨y, q, rfl, g2⟩ := mName_inv g1
    simp only [Bool.and_eq_true, beq_iff_eq] at g2
    obtain ⟨⟨⟨⟨hk, rfl⟩, h1⟩, h2⟩, h3⟩ := g2
    obtain rfl := l0_inv hk
    rw [q125] at hw
    exact it_range h1 (hg "range" (by simpa using h2)) (mEs_star as as' h3) (sEs hc hg as ns _ m H X _ h3 hw)
theorem sC (hc : CxOK c) (hg : ∀ x ∈ gn, GlobOK c x (globV x)) : (o : Eo) → ∀ (ns : Names) (es' : List Expr) (m : M) (H : HM) (X : XPost) (Q : Bool → HM → Prop), mC gn ns o es' = true → wpC c d o m H X Q → IfsOK c d ns es' m H X Q
  | .none, ns, es', m, H, X, Q, h, hw => by
    rw [mC_none] at h
    obtain rfl := l0_inv h
    rw [q101] at hw; exact ifs_nil hw
  | .some e, ns, es', m, H, X, Q, h, hw => by
    rw [mC_some] at h
    obtain ⟨e', rfl, g1⟩ := l1_inv h
    rw [q102] at hw; exact ifs_one (sT hc hg e ns _ m H X Q g1 hw)
end

end
end Mine

set_option autoImplicit false
set_option linter.unusedVariables false
namespace Mine
open PySem PyProof.Rows

section
variable {c : Cx} {d : Nat} {gn : List String}

def isComp : Ex → Bool
  | .comp _ _ _ _ => true
  | _ => false
theorem notComp_of {ns : Names} {e : Ex} {e' : Expr} (h : mE gn ns e e' = true) (he : isComp e = false) : notComp e' = true := by
  cases e
  case comp => exact (Bool.false_ne_true he.symm).elim
  case name => rw [mE_name] at h; obtain ⟨y, p, rfl, g⟩ := mName_inv h; rfl
  case glob => rw [mE_glob] at h; obtain ⟨y, p, rfl, g⟩ := mName_inv h; rfl
  case cnone => rw [mE_cnone] at h; obtain ⟨y, q, p, rfl, g⟩ := mConst_inv h; rfl
  case cbool => rw [mE_cbool] at h; obtain ⟨y, q, p, rfl, g⟩ := mConst_inv h; rfl
  case cint => rw [mE_cint] at h; obtain ⟨y, q, p, rfl, g⟩ := mConst_inv h; rfl
  case cstr => rw [mE_cstr] at h; obtain ⟨y, q, p, rfl, g⟩ := mConst_inv h; rfl
  case bin => rw [mE_bin] at h; obtain ⟨l', op', r', p, rfl, g⟩ := mBin_inv h; rfl
  case neg => rw [mE_neg] at h; obtain ⟨op, e', p, rfl, g⟩ := mUn_inv h; rfl
  case not => rw [mE_not] at h; obtain ⟨op, e', p, rfl, g⟩ := mUn_inv h; rfl
  case boolop => rw [mE_boolop] at h; obtain ⟨op, e', p, rfl, g⟩ := mBoolop_inv h; rfl
  case cmp => rw [mE_cmp] at h; obtain ⟨l', ops, rs, p, rfl, g⟩ := mCmp_inv h; rfl
  case cmp3 => rw [mE_cmp3] at h; obtain ⟨l', ops, rs, p, rfl, g⟩ := mCmp_inv h; rfl
  case sub => rw [mE_sub] at h; obtain ⟨e', i', p, rfl, g⟩ := mSub_inv h; rfl
  case tup => rw [mE_tup] at h; obtain ⟨es', q, p, rfl, g⟩ := mTup_inv h; rfl
  case list => rw [mE_list] at h; obtain ⟨es', p, rfl, g⟩ := mList_inv h; rfl
  case call => rw [mE_call] at h; obtain ⟨f', as', ks, p, rfl, g⟩ := mCall_inv h; rfl
  case callk => rw [mE_callk] at h; obtain ⟨f', as', ks, p, rfl, g⟩ := mCall_inv h; rfl
  case meth => rw [mE_meth] at h; obtain ⟨f', as', ks, p, rfl, g⟩ := mCall_inv h; rfl

theorem StOK.weakQ {ns : Names} {st : Stmt} {m : M} {H : HM} {X : XPost} {Q : Fl → M → HM → Prop} (h : StOK c d ns st m H X (Mine.weakQ Q)) : StOK c d ns st m H X Q :=
  fun env A fr s E k hE => wpAny_mono (h env A fr s E k hE) (fun v s' ⟨fl, m', H', ⟨m0, H0, hm, hH, hq⟩, a, t, k'⟩ => ⟨fl, m0, H0, hq, a, t.weaken hH, k'.weaken hm hH⟩) fun _ _ x => x

mutual
theorem sS (hc : CxOK c) (hg : ∀ x ∈ gn, GlobOK c x (globV x)) : (s : St) → ∀ (ns : Names) (s' : Stmt) (m : M) (H : HM) (X : XPost) (Q : Fl → M → HM → Prop), mS gn ns s s' = true → wpS c d s m H X Q → StOK c d ns s' m H X Q
  | .assign x e, ns, s', m, H, X, Q, h, hw => by
    rw [mS_assign] at h
    obtain ⟨ts, e', p, rfl, g1⟩ := sAsg_inv h
    obtain ⟨t, rfl, g2⟩ := l1_inv g1
    obtain ⟨y, q, rfl, g3⟩ := mName_inv g2
    simp only [Bool.and_eq_true, beq_iff_eq] at g3
    obtain ⟨⟨rfl, h1⟩, h2⟩ := g3
    rw [q127] at hw
    by_cases hcomp : isComp e = false
    · exact st_assign h1 (notComp_of h2 hcomp) (sE hc hg e ns _ m H X _ h2 hw)
    · cases e <;> try exact absurd rfl hcomp
      rename_i elt t it cond
      rw [mE_comp] at h2
      obtain ⟨elt', gs, scope, p, rfl, g4⟩ := mComp_inv h2
      obtain ⟨gc, rfl, g5⟩ := l1_inv g4
      obtain ⟨te, iter, ifs, rfl, g6⟩ := kGen_inv g5
      simp only [Bool.and_eq_true, beq_iff_eq] at g6
      obtain ⟨⟨⟨⟨⟨⟨k1, k2⟩, k3⟩, k4⟩, k5⟩, k6⟩, k7⟩ := g6
      rw [q112] at hw
      exact st_assign_comp h1 (compN_of k2) k3 k1 k4 (fun m H Q => wpE c d elt m H NoX Q) (fun m H Q => wpC c d cond m H NoX Q) (fun m H Q hq => sE hc hg elt scope.names _ m H NoX Q k6 hq) (fun m H Q hq => sC hc hg cond scope.names _ m H NoX Q k7 hq) (sI hc hg it ns _ m H X _ k5 hw)
  | .asgT x y e, ns, s', m, H, X, Q, h, hw => by
    rw [mS_asgT] at h
    obtain ⟨ts, e', p, rfl, g1⟩ := sAsg_inv h
    obtain ⟨t, rfl, g2⟩ := l1_inv g1
    simp only [Bool.and_eq_true] at g2
    rw [q126] at hw
    exact st_asgT g2.1.1.1 g2.1.2 g2.2 (sE hc hg e ns _ m H X _ g2.1.1.2 hw)
  | .setitem o i e, ns, s', m, H, X, Q, h, hw => by
    rw [mS_setitem] at h
    obtain ⟨ts, e', p, rfl, g1⟩ := sAsg_inv h
    obtain ⟨t, rfl, g2⟩ := l1_inv g1
    obtain ⟨o', i', q, rfl, g3⟩ := mSub_inv g2
    simp only [Bool.and_eq_true] at g3
    obtain ⟨⟨⟨⟨h3, h4⟩, h1⟩, h2⟩, _⟩ := g3
    rw [q133] at hw
    exact st_setitem h4 ((sE hc hg e ns _ m H X _ h3 hw).mono fun v H1 hw => (sE hc hg o ns _ m H1 X _ h1 hw).mono fun ov H2 hw => sE hc hg i ns _ m H2 X _ h2 hw)
  | .expr e, ns, s', m, H, X, Q, h, hw => by
    rw [mS_expr] at h
    obtain ⟨e', p, rfl, g1⟩ := sExp_inv h
    simp only [Bool.and_eq_true] at g1
    rw [q128] at hw
    exact st_expr g1.2 (sE hc hg e ns _ m H X _ g1.1 hw)
  | .ret e, ns, s', m, H, X, Q, h, hw => by
    rw [mS_ret] at h
    obtain ⟨o, p, rfl, g1⟩ := sRet_inv h
    obtain ⟨e', rfl, g2⟩ := kSome_inv g1
    rw [q132] at hw
    exact st_ret (sE hc hg e ns _ m H X _ g2 hw)
  | .if_ t a b, ns, s', m, H, X, Q, h, hw => by
    rw [mS_if_] at h
    obtain ⟨t', a', b', p, rfl, g1⟩ := sIf_inv h
    simp only [Bool.and_eq_true] at g1
    rw [q130] at hw
    refine st_if ((sT hc hg t ns _ m H X _ g1.1.1 hw).mono fun b' H1 hw => ?_)
    cases b' with
    | true => simp only [if_true] at hw ⊢; exact sSs hc hg a ns _ m H1 X Q g1.1.2 hw
    | false => simp only [Bool.false_eq_true, if_false] at hw ⊢; exact sSs hc hg b ns _ m H1 X Q g1.2 hw
  | .for_ t it b, ns, s', m, H, X, Q, h, hw => by
    rw [mS_for_] at h
    obtain ⟨te, iter, b', o, p, rfl, g1⟩ := sFor_inv h
    simp only [Bool.and_eq_true] at g1
    obtain ⟨⟨⟨⟨h0, h1⟩, h2⟩, h3⟩, h4⟩ := g1
    obtain rfl := l0_inv h0
    rw [q129] at hw
    exact StOK.weakQ (st_for h1 h2 (fun m H Q => wpSs c d b m H NoX Q) (fun m H Q hq => sSs hc hg b ns _ m H NoX Q h4 hq) (sI hc hg it ns _ m H X _ h3 hw))
  | .while_ t b, ns, s', m, H, X, Q, h, hw => by
    rw [mS_while_] at h
    obtain ⟨te, b', o, p, rfl, g1⟩ := sWhile_inv h
    simp only [Bool.and_eq_true] at g1
    obtain ⟨⟨h0, h1⟩, h2⟩ := g1
    obtain rfl := l0_inv h0
    rw [q134] at hw
    exact StOK.weakQ (st_while (fun m H Q => wpT c d t m H NoX Q) (fun m H Q => wpSs c d b m H NoX Q) (fun m H Q hq => sT hc hg t ns _ m H NoX Q h1 hq) (fun m H Q hq => sSs hc hg b ns _ m H NoX Q h2 hq) hw)
  | .pass, ns, s', m, H, X, Q, h, hw => by
    rw [mS_pass] at h
    obtain ⟨p, rfl⟩ := sPass_inv h
    rw [q131] at hw
    exact st_pass hw
theorem sSs (hc : CxOK c) (hg : ∀ x ∈ gn, GlobOK c x (globV x)) : (s : Ss) → ∀ (ns : Names) (s' : List Stmt) (m : M) (H : HM) (X : XPost) (Q : Fl → M → HM → Prop), mSs gn ns s s' = true → wpSs c d s m H X Q → SsOK c d ns s' m H X Q
  | .nil, ns, s', m, H, X, Q, h, hw => by
    rw [mSs_nil] at h
    obtain rfl := l0_inv h
    rw [q136] at hw; exact ss_nil hw
  | .cons s r, ns, s', m, H, X, Q, h, hw => by
    rw [mSs_cons] at h
    obtain ⟨s1, r', rfl, g1⟩ := lC_inv h
    simp only [Bool.and_eq_true] at g1
    rw [q135] at hw
    refine ss_cons ((sS hc hg s ns _ m H X _ g1.1 hw).mono fun fl m1 H1 hw => ?_)
    cases fl with
    | next => exact sSs hc hg r ns _ m1 H1 X Q g1.2 hw
    | ret v => exact hw
end

theorem SsOK.mono {ns : Names} {st : List Stmt} {m : M} {H : HM} {X : XPost} {Q Q' : Fl → M → HM → Prop} (h : SsOK c d ns st m H X Q) (hq : ∀ fl m' H', Q fl m' H' → Q' fl m' H') : SsOK c d ns st m H X Q' :=
  fun env A fr s E k hE => wpAny_mono (h env A fr s E k hE) (fun v s' ⟨fl, m', H', a, b⟩ => ⟨fl, m', H', hq _ _ _ a, b⟩) fun _ _ x => x

/-- a def of ours: its text, its parameters -/
structure Def (c : Cx) (gn : List String) (f : String) (ps : List String) (body : Ss) : Prop where
  ok : ∃ names stmts, FnOK c f ps names stmts ∧ mSs gn names body stmts = true

/-- a call by the def's own weakest precondition -/
theorem call_def (hc : CxOK c) (hg : ∀ x ∈ gn, GlobOK c x (globV x)) {f : String} {ps : List String} {body : Ss} {args : List V} {H : HM} {X : XPost} {Q : V → HM → Prop} (D : Def c gn f ps body) (hlen : args.length = ps.length)
    (h : wpSs c d body (ps.zip args) H NoX fun fl m' H' => match fl with | .ret v => Q v H' | .next => Q .none H') : OpOK c (d + 1) callL (.g f :: args) H X Q := by
  obtain ⟨names, stmts, F, hm⟩ := D.ok
  exact call_fn F hlen (sSs hc hg body names stmts _ H NoX _ hm h)
/-- .. and less may be told behind it -/
theorem call_def' (hc : CxOK c) (hg : ∀ x ∈ gn, GlobOK c x (globV x)) {f : String} {ps : List String} {body : Ss} {args : List V} {H : HM} {X : XPost} {Q : V → HM → Prop} (D : Def c gn f ps body) (hlen : args.length = ps.length)
    (h : wpSs c d body (ps.zip args) H NoX fun fl m' H' => match fl with | .ret v => ∃ H'', H''.le H' ∧ Q v H'' | .next => False) : OpOK c (d + 1) callL (.g f :: args) H X Q := by
  obtain ⟨names, stmts, F, hm⟩ := D.ok
  have := call_fn (X := X) (Q := fun v H' => ∃ H'', HM.le H'' H' ∧ Q v H'') F hlen ((sSs hc hg body names stmts _ H NoX _ hm h).mono fun fl m' H' hq => by
    cases fl with
    | next => exact hq.elim
    | ret v => exact hq)
  intro A fr s E vs k hr hE
  exact wpAny_mono (this A fr s E vs k hr hE) (fun v s' ⟨r, H', ⟨H'', hle, hq⟩, hr, t⟩ => ⟨r, H'', hq, hr, t.weaken hle⟩) fun _ _ x => x

end
end Mine

set_option autoImplicit false
set_option linter.unusedVariables false
namespace Mine
open PySem PyProof.Rows PySem.Calls

/-! ## from the row's head to the law -/
theorem glob_builtin {c : Cx} {x : String} {b : Bi} {mg mb : Str → Option Value} (hg : c.base.Ns mainGlobals mg) (hb : c.base.Ns builtinsNs mb) (h1 : mg (Str.ofString x) = none) (h2 : mb (Str.ofString x) = some b.val) : GlobOK c x (.bi b) := by
  intro env A s E Q hk hf e1 e2 hbase hq
  unfold loadName
  have hbk : env.blockKind = .function := by unfold Env.blockKind; rw [hf]; rfl
  simp only [hf, hbk, hk, ScopeKind.isAnnotationScope]
  refine loadGlobal_builtin (mg := mg) (mb := mb) (e1 ▸ hg.keeps fun b o e => hbase b o e) h1 (e2 ▸ hb.keeps fun b o e => hbase b o e) h2 (hq _ s.toks (.bi b))
theorem glob_def {c : Cx} {x : String} {v : Value} {mg : Str → Option Value} (hg : c.base.Ns mainGlobals mg) (h1 : mg (Str.ofString x) = some v) (h2 : c.gl x = some v) : GlobOK c x (.g x) := by
  intro env A s E Q hk hf e1 e2 hbase hq
  unfold loadName
  have hbk : env.blockKind = .function := by unfold Env.blockKind; rw [hf]; rfl
  simp only [hf, hbk, hk, ScopeKind.isAnnotationScope]
  refine loadGlobal_global (mg := mg) (e1 ▸ hg.keeps fun b o e => hbase b o e) h1 (hq _ s.toks (.g h2))


theorem keep_fn {c : Cx} {a : Addr} {o : Obj} {fd : FuncData} (ho : c.base.get? a = some o) (hd : o.data = .func fd) : KeepOK c (.ref a) := by
  intro A s E Q hb hq
  unfold keeperOf
  refine wpAny_bind (wpAny_load (hb _ _ ho) ?_)
  rw [hd]
  exact wpAny_pure (hq _)

def simpleA (ps : List String) (a : Arguments) : Bool :=
  a.posonlyargs.isEmpty && a.args.map (·.arg) == ps.map Str.ofString && a.vararg.isNone && a.kwonlyargs.isEmpty && a.kwarg.isNone
theorem bind_simple {ps : List Str} (nd : ps.Nodup) : ∀ (vals : List Value), vals.length = ps.length → (ps.filterMap fun n => ((ps.zip vals).lookup n).map (n, ·)) = ps.zip vals ∧ (ps.filter fun n => ((ps.zip vals).lookup n).isNone) = [] := by
  suffices h : ∀ (qs : List Str) (vs : List Value) (l : List (Str × Value)), vs.length = qs.length → qs.Nodup → (∀ q ∈ qs, l.lookup q = (qs.zip vs).lookup q) → (qs.filterMap fun n => (l.lookup n).map (n, ·)) = qs.zip vs ∧ (qs.filter fun n => (l.lookup n).isNone) = [] from
    fun vals hv => h ps vals _ hv nd fun _ _ => rfl
  intro qs
  induction qs with
  | nil => intro vs l hv _ _; cases vs <;> simp at hv ⊢
  | cons q r ih =>
    intro vs l hv hn hl
    cases vs with
    | nil => simp at hv
    | cons v vs =>
      have hn' := List.nodup_cons.mp hn
      have h1 : l.lookup q = some v := by rw [hl q List.mem_cons_self]; simp
      have ih' := ih vs l (by simpa using hv) hn'.2 fun x hx => by
        rw [hl x (List.mem_cons_of_mem _ hx)]
        have : (x == q) = false := by simp; intro e; exact hn'.1 (e ▸ hx)
        simp [List.lookup_cons, this]
      simp [h1, ih'.1, ih'.2]

theorem bindArgs_simple {fd : FuncData} {ps : List String} (hd : fd.defaults = .none) (ha : simpleA ps fd.params = true) (nd : ps.Nodup) (vals : List Value) (hv : vals.length = ps.length) : bindArgs fd ⟨vals, []⟩ = pure ((ps.map Str.ofString).zip vals) := by
  simp only [simpleA, Bool.and_eq_true, List.isEmpty_iff, beq_iff_eq, Option.isNone_iff_eq_none] at ha
  obtain ⟨⟨⟨⟨a1, a2⟩, a3⟩, a4⟩, a5⟩ := ha
  have nd' : (ps.map Str.ofString).Nodup := List.pairwise_map.mpr (nd.imp fun h e => h (ofString_inj e))
  have hv' : vals.length = (ps.map Str.ofString).length := by simpa using hv
  obtain ⟨b1, b2⟩ := bind_simple nd' vals hv'
  generalize ps.map Str.ofString = qs at *
  have e0 : notAStandIn Value.none = pure () := rfl
  unfold bindArgs
  simp only [a1, a2, a3, a4, a5, hd, seqItems?, e0, List.map_nil, List.nil_append, List.append_nil]
  simp [hv', b1, b2]
end Mine

set_option autoImplicit false
set_option linter.unusedVariables false
namespace Mine
open PySem PyProof.Rows PySem.Calls

def findRec (p : Program) (f : String) : Option DefRec := (recsOf p).find? fun d => d.name == Str.ofString f
def defOk (p : Program) (gn : List String) (f : String) (ps : List String) (body : Ss) : Bool :=
  match findRec p f with
  | some d => simpleA ps d.params && d.scope.kind == .function && !d.scope.isGenerator && !d.scope.isCoroutine && ps.all (isStore d.scope.names) && d.scope.names.all (fun x => x.2 != .free) && decide ps.Nodup && mSs gn d.scope.names body d.body
  | none => false
def biOf (x : String) : Option Bi := match globV x with | .bi b => some b | _ => none
def freeOk (p : Program) (loose : List Str) (x : Str) : Bool :=
  !startupNames.contains x && !loose.contains x && !((recsOf p).map (·.name)).contains x && !((litsOf p).map (·.1)).contains x && !((clssOf p loose).map (·.name)).contains x
abbrev Defs := List (String × List String × Ss)
def gnOk (p : Program) (loose : List Str) (defs : Defs) (x : String) : Bool :=
  match globV x with
  | .bi b => freeOk p loose (Str.ofString x)
  | .g y => y == x && defs.any (·.1 == x)
  | _ => false
def lawOk (p : Program) (loose : List Str) (gn : List String) (defs : Defs) : Bool :=
  defs.all (fun d => defOk p gn d.1 d.2.1 d.2.2) && gn.all (gnOk p loose defs)

theorem boot_bi {x : String} {b : Bi} (h : globV x = .bi b) : bootBuiltins (Str.ofString x) = some b.val ∧ Str.ofString x ≠ Str.ofString "__name__" := by
  unfold globV at h
  by_cases q : x = "len"
  · rw [if_pos q] at h; cases h; subst q; exact ⟨Boot.len, fun e => absurd (ofString_inj e) (by decide)⟩
  rw [if_neg q] at h; clear q
  by_cases q : x = "range"
  · rw [if_pos q] at h; cases h; subst q; exact ⟨Boot.range, fun e => absurd (ofString_inj e) (by decide)⟩
  rw [if_neg q] at h; clear q
  by_cases q : x = "isinstance"
  · rw [if_pos q] at h; cases h; subst q; exact ⟨Boot.isinstance, fun e => absurd (ofString_inj e) (by decide)⟩
  rw [if_neg q] at h; clear q
  by_cases q : x = "max"
  · rw [if_pos q] at h; cases h; subst q; exact ⟨Boot.max, fun e => absurd (ofString_inj e) (by decide)⟩
  rw [if_neg q] at h; clear q
  by_cases q : x = "all"
  · rw [if_pos q] at h; cases h; subst q; exact ⟨Boot.all, fun e => absurd (ofString_inj e) (by decide)⟩
  rw [if_neg q] at h; clear q
  by_cases q : x = "sorted"
  · rw [if_pos q] at h; cases h; subst q; exact ⟨Boot.sorted, fun e => absurd (ofString_inj e) (by decide)⟩
  rw [if_neg q] at h; clear q
  by_cases q : x = "enumerate"
  · rw [if_pos q] at h; cases h; subst q; exact ⟨Boot.enumerate, fun e => absurd (ofString_inj e) (by decide)⟩
  rw [if_neg q] at h; clear q
  by_cases q : x = "zip"
  · rw [if_pos q] at h; cases h; subst q; exact ⟨Boot.zip, fun e => absurd (ofString_inj e) (by decide)⟩
  rw [if_neg q] at h; clear q
  by_cases q : x = "int"
  · rw [if_pos q] at h; cases h; subst q; exact ⟨Boot.int, fun e => absurd (ofString_inj e) (by decide)⟩
  rw [if_neg q] at h; clear q
  by_cases q : x = "bool"
  · rw [if_pos q] at h; cases h; subst q; exact ⟨Boot.bool, fun e => absurd (ofString_inj e) (by decide)⟩
  rw [if_neg q] at h; clear q
  by_cases q : x = "str"
  · rw [if_pos q] at h; cases h; subst q; exact ⟨Boot.str, fun e => absurd (ofString_inj e) (by decide)⟩
  rw [if_neg q] at h; clear q
  by_cases q : x = "tuple"
  · rw [if_pos q] at h; cases h; subst q; exact ⟨Boot.tuple, fun e => absurd (ofString_inj e) (by decide)⟩
  rw [if_neg q] at h; clear q
  by_cases q : x = "list"
  · rw [if_pos q] at h; cases h; subst q; exact ⟨Boot.list, fun e => absurd (ofString_inj e) (by decide)⟩
  rw [if_neg q] at h; clear q
  by_cases q : x = "ValueError"
  · rw [if_pos q] at h; cases h; subst q; exact ⟨Boot.ValueError, fun e => absurd (ofString_inj e) (by decide)⟩
  rw [if_neg q] at h; clear q
  cases h

theorem find_of {p : Program} {f : String} {d : DefRec} (h : findRec p f = some d) : d ∈ recsOf p ∧ d.name = Str.ofString f := by
  unfold findRec at h
  exact ⟨List.mem_of_find?_eq_some h, by simpa using List.find?_some h⟩

def cxOf (prog : Program) (w : World) (base : Heap) (mg : Str → Option Value) (defs : Defs) (scr : Addr) (ns : List Int) : Cx :=
  { prog, w, base, gl := fun x => if defs.any (·.1 == x) then mg (Str.ofString x) else none, scr, ns }

theorem reps_ints {c : Cx} {h : Heap} : ∀ {vs : List Value} {ns : List Int}, IntsAre vs ns → Reps c h (ns.map .int) vs
  | _, _, .nil => .nil
  | _, _, .cons n t r => .cons (.int n t) (reps_ints r)

section
variable {p : Program} {loose : List Str} {mean : ExcName → Option Value} {mg mb : Str → Option Value} {prog : Program} {w : World} {s : Shared} {gn : List String} {defs : Defs} {scr : Addr} {ns : List Int}

theorem def_of (T : Top p loose mean mg mb s.heap) {f : String} {ps : List String} {b : Ss} (hm : (f, ps, b) ∈ defs) (h : defOk p gn f ps b = true) : Def (cxOf prog w s.heap mg defs scr ns) gn f ps b := by
  unfold defOk at h
  split at h
  · rename_i d hd
    obtain ⟨h1, h2⟩ := find_of hd
    simp only [Bool.and_eq_true, Bool.not_eq_true', beq_iff_eq, decide_eq_true_eq, List.all_eq_true] at h
    obtain ⟨⟨⟨⟨⟨⟨⟨q1, q2⟩, q3⟩, q4⟩, q5⟩, q6⟩, q7⟩, q8⟩ := h
    obtain ⟨a, o, pm, code, doc, t1, t2, t3, t4⟩ := T.fn d h1
    refine ⟨⟨d.scope.names, d.body, ⟨⟨a, o, _, ?_, t2, t3, rfl, rfl, t4, rfl, rfl, rfl, q4, q3, q2, fun vals hv => bindArgs_simple rfl q1 q7 vals hv⟩, q5, fun x hx => ?_, q7⟩, q8⟩⟩
    · show (if defs.any (·.1 == f) = true then mg (Str.ofString f) else none) = _
      rw [if_pos (List.any_eq_true.mpr ⟨_, hm, by simp⟩), ← h2]; exact t1
    · have hmem := mem_of_lookup hx
      have := q6 _ hmem
      simp at this
  · cases h

theorem entry (T : Top p loose mean mg mb s.heap) {lb : Ss} (hl : ("law", ["_law_script"], lb) ∈ defs) (hk : lawOk p loose gn defs = true) {items : List Value} (hL : s.heap.IsList scr items.toArray) (hI : IntsAre items ns) (hn : ns.length ≤ 63)
    {fa : Addr} (hfa : mg (Str.ofString "law") = some (.ref fa)) {R : Result → Shared → Prop}
    (h : ∀ c : Cx, CxOK c → c.ns = ns → (∀ x ∈ gn, GlobOK c x (globV x)) → (∀ f ps b, (f, ps, b) ∈ defs → Def c gn f ps b) →
      wpSs c 300 lb [("_law_script", .scr)] (fun _ => none) NoX fun fl m' H' => fl = .ret (.bool true))
    (hR : ∀ s', (∀ b o, s.heap.get? b = some o → s'.heap.get? b = some o) → (∃ h' tk, s' = { s with heap := h', toks := tk }) → R (.ok (.ret (.bool true))) s') :
    codeAny (model prog w) callerA (.call (.ref fa) ⟨[.ref scr], []⟩) R s := by
  simp only [lawOk, Bool.and_eq_true, List.all_eq_true] at hk
  obtain ⟨hk1, hk2⟩ := hk
  have D : ∀ f ps b, (f, ps, b) ∈ defs → Def (cxOf prog w s.heap mg defs scr ns) gn f ps b := fun f ps b hm => def_of T hm (hk1 _ hm)
  have Gg : ∀ x ∈ gn, GlobOK (cxOf prog w s.heap mg defs scr ns) x (globV x) := fun x hx => by
    have := hk2 x hx
    unfold gnOk at this
    split at this
    · rename_i b hb
      rw [hb]
      simp only [freeOk, Bool.and_eq_true, Bool.not_eq_true', List.contains_eq_mem, decide_eq_false_iff_not] at this
      obtain ⟨⟨⟨⟨f1, f2⟩, f3⟩, f4⟩, f5⟩ := this
      obtain ⟨b1, b2⟩ := boot_bi hb
      exact glob_builtin T.g T.b (T.free _ f1 f2 f3 f4 f5) ((T.builtins _ b2).trans b1)
    · rename_i y hy
      rw [hy]
      simp only [Bool.and_eq_true, beq_iff_eq] at this
      obtain ⟨rfl, ha⟩ := this
      obtain ⟨⟨f, ps, b⟩, hm, e⟩ := List.any_eq_true.mp ha
      simp only [beq_iff_eq] at e
      subst e
      obtain ⟨names, stmts, F, _⟩ := (D f ps b hm).ok
      obtain ⟨a, o, fd, hgl, _⟩ := F.fn
      refine glob_def T.g ?_ hgl
      have : (if defs.any (·.1 == f) = true then mg (Str.ofString f) else none) = some (Value.ref a) := hgl
      rw [if_pos ha] at this; exact this
    · cases this
  have hc : CxOK (cxOf prog w s.heap mg defs scr ns) := by
    refine ⟨fun x v hx => ?_, ⟨_, hL, by rw [List.toList_toArray]; exact reps_ints hI⟩, hn, T.nodigits⟩
    have hx' : (if defs.any (·.1 == x) = true then mg (Str.ofString x) else none) = some v := hx
    split at hx'
    · rename_i ha
      obtain ⟨⟨f, ps, b⟩, hm, e⟩ := List.any_eq_true.mp ha
      simp only [beq_iff_eq] at e
      subst e
      obtain ⟨names, stmts, F, _⟩ := (D f ps b hm).ok
      obtain ⟨a, o, fd, hgl, ho, hd, _⟩ := F.fn
      rw [hx] at hgl; cases hgl
      exact keep_fn ho hd
    · cases hx'
  obtain ⟨names, stmts, F, hm⟩ := (D _ _ _ hl).ok
  have hgl : (cxOf prog w s.heap mg defs scr ns).gl "law" = some (.ref fa) := by
    show (if defs.any (·.1 == "law") = true then mg (Str.ofString "law") else none) = _
    rw [if_pos (List.any_eq_true.mpr ⟨_, hl, by simp⟩)]; exact hfa
  have k0 : Ok0 (cxOf prog w s.heap mg defs scr ns) (300 + 1) (fun _ => none) callerA [] s := by
    refine ⟨⟨?_, ?_, rfl, rfl⟩, ?_, fun b o e => e, T.nolimit, ?_⟩
    · show 1 + claimMargin + (300 + 1) < recursionLimit; decide
    · show 4 + 20 * (300 + 1) + 20 < cLine; decide
    · intro e he; cases he
    · intro a o e; cases e
  have := call_code (d := 300) (args := [.scr]) (Q := fun v _ => v = .bool true) F rfl hgl k0 (.cons .scr .nil)
    ((sSs hc Gg lb names stmts _ _ NoX _ hm (h _ hc rfl Gg D)).mono fun fl m' H' e => by subst e; rfl)
  refine codeAny_mono this fun r s' hr => ?_
  obtain ⟨v, w', H', rfl, rfl, r, t⟩ := hr
  cases r
  exact hR s' (fun b o e => t.base b o e) t.same
end
end Mine

set_option autoImplicit false
set_option linter.unusedVariables false
namespace Mine
open PySem PyProof.Rows

/-! ## tools for the laws -/
theorem compW_map {elt : M → HM → (V → HM → Prop) → Prop} {cond : M → HM → (Bool → HM → Prop) → Prop} {t : Tg} {G : HM → Prop} {m : M} {H0 : HM} (f : V → Option V) {Q : List V → HM → Prop} :
    ∀ (xs acc : List V) (H : HM), (∀ x ∈ xs, ∀ (P : V → HM → Prop) (N : HM → Prop), (∀ H', H0.le H' → match f x with | some v => P v H' | .none => N H') →
        asgW t x m fun m1 => cond m1 H0 fun b H1 => if b then elt m1 H1 P else N H1) →
      (∀ H', H0.le H' → G H') → H0.le H → (∀ H', H0.le H' → Q (acc ++ xs.filterMap f) H') → compW elt cond t G m xs acc H Q
  | [], acc, H, hx, hG, hH, hQ => by simpa [compW] using hQ H hH
  | x :: xs, acc, H, hx, hG, hH, hQ => by
    refine ⟨H0, hH, hx x List.mem_cons_self _ _ fun H' hle => ?_⟩
    cases hf : f x with
    | none => exact ⟨hG _ hle, compW_map f xs acc H' (fun y hy => hx y (List.mem_cons_of_mem _ hy)) hG hle fun H'' h => by have := hQ H'' h; rw [List.filterMap_cons, hf] at this; exact this⟩
    | some v => exact ⟨hG _ hle, compW_map f xs (acc ++ [v]) H' (fun y hy => hx y (List.mem_cons_of_mem _ hy)) hG hle fun H'' h => by have := hQ H'' h; rw [List.filterMap_cons, hf] at this; simpa using this⟩

/-- .. where each turn leaves the heap as it was -/
theorem compW_eq {elt : M → HM → (V → HM → Prop) → Prop} {cond : M → HM → (Bool → HM → Prop) → Prop} {t : Tg} {G : HM → Prop} {m : M} {H : HM} (f : V → Option V) {Q : List V → HM → Prop} :
    ∀ (xs acc : List V), (∀ x ∈ xs, ∀ (P : V → HM → Prop) (N : HM → Prop), (match f x with | some v => P v H | .none => N H) →
        asgW t x m fun m1 => cond m1 H fun b H1 => if b then elt m1 H1 P else N H1) →
      G H → Q (acc ++ xs.filterMap f) H → compW elt cond t G m xs acc H Q
  | [], acc, hx, hG, hQ => by simpa [compW] using hQ
  | x :: xs, acc, hx, hG, hQ => by
    refine ⟨H, HM.le.refl H, hx x List.mem_cons_self _ _ ?_⟩
    cases hf : f x with
    | none => exact ⟨hG, compW_eq f xs acc (fun y hy => hx y (List.mem_cons_of_mem _ hy)) hG (by rw [List.filterMap_cons, hf] at hQ; exact hQ)⟩
    | some v => exact ⟨hG, compW_eq f xs (acc ++ [v]) (fun y hy => hx y (List.mem_cons_of_mem _ hy)) hG (by rw [List.filterMap_cons, hf] at hQ; simpa using hQ)⟩

theorem forW_inv {body : M → HM → (Fl → M → HM → Prop) → Prop} {t : Tg} {G : HM → Prop} {Q : Fl → M → HM → Prop} (I : List V → M → HM → Prop)
    (step : ∀ x xs m H, I (x :: xs) m H → ∀ K : Fl → M → HM → Prop, (∀ m2 H2, G H2 → I xs m2 H2 → K .next m2 H2) → (∀ v m2 H2, Q (.ret v) m2 H2 → K (.ret v) m2 H2) →
      ∃ m0 H0, M.le m0 m ∧ HM.le H0 H ∧ asgW t x m0 fun m1 => body m1 H0 K)
    (fin : ∀ m H, I [] m H → Q .next m H) : ∀ (xs : List V) (m : M) (H : HM), I xs m H → forW body t G xs m H Q
  | [], m, H, h => fin m H h
  | x :: xs, m, H, h => step x xs m H h _ (fun m2 H2 hG hI => ⟨hG, forW_inv I step fin xs m2 H2 hI⟩) fun v m2 H2 hq => hq

theorem M.le_nil (m : M) : M.le [] m := fun _ _ e => by simp [M.get] at e
theorem M.le_cons {x : String} {v : V} {r m : M} (h : m.get x = some v) (hr : M.le r m) : M.le ((x, v) :: r) m := fun y w e => by
  simp only [M.get] at e
  split at e
  · rename_i q; rw [q, ← e]; exact h
  · exact hr y w e

/-- what a law stands on -/
structure St0 (c : Cx) (gn : List String) : Prop where
  hc : CxOK c
  hg : ∀ x ∈ gn, GlobOK c x (globV x)

theorem q91 (H : HM) (Q : Bool → HM → Prop) : truthW .none H Q = Q false H := rfl
theorem q89 (b : Bool) (H : HM) (Q : Bool → HM → Prop) : truthW (.bool b) H Q = Q b H := rfl
theorem q90 (i : Int) (H : HM) (Q : Bool → HM → Prop) : truthW (.int i) H Q = Q (i != 0) H := rfl
theorem q93 (x : Str) (H : HM) (Q : Bool → HM → Prop) : truthW (.str x) H Q = (x.length < 2 ^ 62 ∧ Q (x.length != 0) H) := rfl
theorem q94 (vs : List V) (H : HM) (Q : Bool → HM → Prop) : truthW (.tup vs) H Q = (vs.length < 2 ^ 62 ∧ Q (!vs.isEmpty) H) := rfl
theorem q92 (a : Addr) (H : HM) (Q : Bool → HM → Prop) : truthW (.ref a) H Q = (match H a with | some (.list xs) => xs.length < 2 ^ 62 ∧ Q (!xs.isEmpty) H | _ => False) := rfl
theorem q11 (x y : Int) (H : HM) (Q : V → HM → Prop) : binW .Add (.int x) (.int y) H Q = Q (.int (x + y)) H := rfl
theorem q16 (x y : Int) (H : HM) (Q : V → HM → Prop) : binW .Sub (.int x) (.int y) H Q = Q (.int (x - y)) H := rfl
theorem q15 (x y : Int) (H : HM) (Q : V → HM → Prop) : binW .Mult (.int x) (.int y) H Q = ((x.natAbs < 2 ^ 64 ∨ y.natAbs < 2 ^ 64) ∧ Q (.int (x * y)) H) := rfl
theorem q12 (x y : Int) (H : HM) (Q : V → HM → Prop) : binW .FloorDiv (.int x) (.int y) H Q = (y ≠ 0 ∧ y.natAbs < 2 ^ 30 ∧ Q (.int (x.fdiv y)) H) := rfl
theorem q14 (x y : Int) (H : HM) (Q : V → HM → Prop) : binW .Mod (.int x) (.int y) H Q = (y ≠ 0 ∧ Q (.int (x.fmod y)) H) := rfl
theorem q17 (xs ys : List V) (H : HM) (Q : V → HM → Prop) : binW .Add (.tup xs) (.tup ys) H Q = (xs.length + ys.length ≤ sizeLine ∧ Q (.tup (xs ++ ys)) H) := rfl
theorem q13 (x y : Addr) (H : HM) (Q : V → HM → Prop) : binW .Add (.ref x) (.ref y) H Q = (match H x, H y with | some (.list xs), some (.list ys) => xs.length + ys.length ≤ sizeLine ∧ ∀ a, H a = none → Q (.ref a) (H.set a (.list (xs ++ ys))) | _, _ => False) := rfl
theorem q29 (a b : V) (H : HM) (Q : V → HM → Prop) : cmpW .Is a b H Q = (match sameW a b with | some r => Q (.bool r) H | .none => False) := rfl
theorem q30 (a b : V) (H : HM) (Q : V → HM → Prop) : cmpW .IsNot a b H Q = (match sameW a b with | some r => Q (.bool (!r)) H | .none => False) := rfl
theorem q26 (x y : Int) (H : HM) (Q : V → HM → Prop) : cmpW .Lt (.int x) (.int y) H Q = Q (.bool (decide (x < y))) H := rfl
theorem q24 (x y : Int) (H : HM) (Q : V → HM → Prop) : cmpW .Gt (.int x) (.int y) H Q = Q (.bool (decide (y < x))) H := rfl
theorem q27 (x y : Int) (H : HM) (Q : V → HM → Prop) : cmpW .LtE (.int x) (.int y) H Q = Q (.bool (decide (x ≤ y))) H := rfl
theorem q25 (x y : Int) (H : HM) (Q : V → HM → Prop) : cmpW .GtE (.int x) (.int y) H Q = Q (.bool (decide (y ≤ x))) H := rfl
theorem q23 (x y : Int) (H : HM) (Q : V → HM → Prop) : cmpW .Eq (.int x) (.int y) H Q = Q (.bool (x == y)) H := rfl
theorem q28 (x y : Int) (H : HM) (Q : V → HM → Prop) : cmpW .NotEq (.int x) (.int y) H Q = Q (.bool (x != y)) H := rfl
theorem q31 (x y : Str) (H : HM) (Q : V → HM → Prop) : cmpW .Eq (.str x) (.str y) H Q = Q (.bool (x == y)) H := rfl
theorem q32 (x y : Str) (H : HM) (Q : V → HM → Prop) : cmpW .NotEq (.str x) (.str y) H Q = Q (.bool (x != y)) H := rfl
theorem q88 (c : Cx) (vs : List V) (i : Int) (H : HM) (Q : V → HM → Prop) : subW c (.tup vs) (.int i) H Q = (0 ≤ i ∧ i < 2 ^ 62 ∧ (match vs[i.toNat]? with | some v => Q v H | .none => False)) := rfl
theorem q86 (c : Cx) (a : Addr) (i : Int) (H : HM) (Q : V → HM → Prop) : subW c (.ref a) (.int i) H Q = (match H a with | some (.list xs) => 0 ≤ i ∧ i < 2 ^ 62 ∧ (match xs[i.toNat]? with | some v => Q v H | .none => False) | _ => False) := rfl
theorem q87 (c : Cx) (i : Int) (H : HM) (Q : V → HM → Prop) : subW c .scr (.int i) H Q = (0 ≤ i ∧ (match c.ns[i.toNat]? with | some n => Q (.int n) H | .none => False)) := rfl
theorem q67 (c : Cx) (vs : List V) (H : HM) (Q : V → HM → Prop) : lenW c (.tup vs) H Q = (vs.length < 2 ^ 62 ∧ Q (.int vs.length) H) := rfl
theorem q65 (c : Cx) (a : Addr) (H : HM) (Q : V → HM → Prop) : lenW c (.ref a) H Q = (match H a with | some (.list xs) => xs.length < 2 ^ 62 ∧ Q (.int xs.length) H | _ => False) := rfl
theorem q66 (c : Cx) (H : HM) (Q : V → HM → Prop) : lenW c .scr H Q = Q (.int c.ns.length) H := rfl
theorem q41 (H : HM) : isiW .none .tint H = some false := rfl
theorem q39 (b : Bool) (H : HM) : isiW (.bool b) .tint H = some true := rfl
theorem q40 (i : Int) (H : HM) : isiW (.int i) .tint H = some true := rfl
theorem q43 (x : Str) (H : HM) : isiW (.str x) .tint H = some false := rfl
theorem q44 (vs : List V) (H : HM) : isiW (.tup vs) .tint H = some false := rfl
theorem q42 (a : Addr) (H : HM) : isiW (.ref a) .tint H = (match H a with | some (.list _) => some false | _ => .none) := rfl
theorem q35 (H : HM) : isiW .none .tbool H = some false := rfl
theorem q33 (b : Bool) (H : HM) : isiW (.bool b) .tbool H = some true := rfl
theorem q34 (i : Int) (H : HM) : isiW (.int i) .tbool H = some false := rfl
theorem q37 (x : Str) (H : HM) : isiW (.str x) .tbool H = some false := rfl
theorem q38 (vs : List V) (H : HM) : isiW (.tup vs) .tbool H = some false := rfl
theorem q36 (a : Addr) (H : HM) : isiW (.ref a) .tbool H = (match H a with | some (.list _) => some false | _ => .none) := rfl
theorem q53 (H : HM) : isiW .none .tstr H = some false := rfl
theorem q51 (b : Bool) (H : HM) : isiW (.bool b) .tstr H = some false := rfl
theorem q52 (i : Int) (H : HM) : isiW (.int i) .tstr H = some false := rfl
theorem q55 (x : Str) (H : HM) : isiW (.str x) .tstr H = some true := rfl
theorem q56 (vs : List V) (H : HM) : isiW (.tup vs) .tstr H = some false := rfl
theorem q54 (a : Addr) (H : HM) : isiW (.ref a) .tstr H = (match H a with | some (.list _) => some false | _ => .none) := rfl
theorem q59 (H : HM) : isiW .none .ttuple H = some false := rfl
theorem q57 (b : Bool) (H : HM) : isiW (.bool b) .ttuple H = some false := rfl
theorem q58 (i : Int) (H : HM) : isiW (.int i) .ttuple H = some false := rfl
theorem q61 (x : Str) (H : HM) : isiW (.str x) .ttuple H = some false := rfl
theorem q62 (vs : List V) (H : HM) : isiW (.tup vs) .ttuple H = some true := rfl
theorem q60 (a : Addr) (H : HM) : isiW (.ref a) .ttuple H = (match H a with | some (.list _) => some false | _ => .none) := rfl
theorem q47 (H : HM) : isiW .none .tlist H = some false := rfl
theorem q45 (b : Bool) (H : HM) : isiW (.bool b) .tlist H = some false := rfl
theorem q46 (i : Int) (H : HM) : isiW (.int i) .tlist H = some false := rfl
theorem q49 (x : Str) (H : HM) : isiW (.str x) .tlist H = some false := rfl
theorem q50 (vs : List V) (H : HM) : isiW (.tup vs) .tlist H = some false := rfl
theorem q48 (a : Addr) (H : HM) : isiW (.ref a) .tlist H = (match H a with | some (.list _) => some true | _ => .none) := rfl
theorem q19 (c : Cx) (d : Nat) (x : String) (vs : List V) (H : HM) (X : XPost) (Q : V → HM → Prop) : callW c d (.g x) vs H X Q = OpOK c d callL (.g x :: vs) H X Q := rfl
theorem q18 (c : Cx) (d : Nat) (b : Bi) (vs : List V) (H : HM) (X : XPost) (Q : V → HM → Prop) : callW c d (.bi b) vs H X Q = biW c b vs H Q := rfl
theorem q4 (c : Cx) (v : V) (H : HM) (Q : V → HM → Prop) : biW c .len [v] H Q = lenW c v H Q := rfl
theorem q3 (c : Cx) (v : V) (t : Bi) (H : HM) (Q : V → HM → Prop) : biW c .isinst [v, .bi t] H Q = (match isiW v t H with | some r => Q (.bool r) H | .none => False) := rfl
theorem q7 (c : Cx) (x y : Int) (H : HM) (Q : V → HM → Prop) : biW c .max [.int x, .int y] H Q = Q (.int (max x y)) H := rfl
theorem q2 (c : Cx) (a : Addr) (H : HM) (Q : V → HM → Prop) : biW c .all [.ref a] H Q = (match H a with | some (.list xs) => (match allBools xs with | some r => Q (.bool r) H | .none => False) | _ => False) := rfl
theorem q9 (c : Cx) (a : Addr) (H : HM) (Q : V → HM → Prop) : biW c .ttuple [.ref a] H Q = (match H a with | some (.list xs) => xs.length ≤ sizeLine ∧ Q (.tup xs) H | _ => False) := rfl
theorem q10 (c : Cx) (xs : List V) (H : HM) (Q : V → HM → Prop) : biW c .ttuple [.tup xs] H Q = Q (.tup xs) H := rfl
theorem q5 (c : Cx) (a : Addr) (H : HM) (Q : V → HM → Prop) : biW c .tlist [.ref a] H Q = (match H a with | some (.list xs) => xs.length ≤ sizeLine ∧ ∀ b, H b = none → Q (.ref b) (H.set b (.list xs)) | _ => False) := rfl
theorem q6 (c : Cx) (xs : List V) (H : HM) (Q : V → HM → Prop) : biW c .tlist [.tup xs] H Q = (xs.length ≤ sizeLine ∧ ∀ b, H b = none → Q (.ref b) (H.set b (.list xs))) := rfl
theorem q8 (c : Cx) (i : Int) (H : HM) (Q : V → HM → Prop) : biW c .tstr [.int i] H Q = (i.natAbs < 10 ^ 4300 ∧ Q (.str (Str.ofString (toString i))) H) := rfl
theorem q21 (a : Addr) (k : String) (dv : Int) (H : HM) (Q : V → HM → Prop) : callkW (.bi .max) (.ref a) k (.int dv) H Q = (k = "default" ∧ (match H a with | some (.list xs) => (match intsOf xs with | some is => Q (.int (maxD dv is)) H | .none => False) | _ => False)) := rfl
theorem q85 (a : Addr) (i : Int) (v : V) (H : HM) (Q : HM → Prop) : setW (.ref a) (.int i) v H Q = (match H a with | some (.list xs) => 0 ≤ i ∧ i < 2 ^ 62 ∧ i.toNat < xs.length ∧ Q (H.set a (.list (xs.set i.toNat v))) | _ => False) := rfl
theorem q64 (xs : List V) (H : HM) (Q : List V → (HM → Prop) → HM → Prop) : iterW (.tup xs) H Q = Q xs (fun _ => True) H := rfl
theorem q63 (a : Addr) (H : HM) (Q : List V → (HM → Prop) → HM → Prop) : iterW (.ref a) H Q = (match H a with | some (.list xs) => Q xs (fun H' => H' a = some (.list xs)) H | _ => False) := rfl
theorem q70 (b : Int) (H : HM) (Q : List V → (HM → Prop) → HM → Prop) : rangeW [.int b] H Q = (rngOK 0 b 1 ∧ Q ((rangeL 0 b 1).map .int) (fun _ => True) H) := rfl
theorem q71 (a b : Int) (H : HM) (Q : List V → (HM → Prop) → HM → Prop) : rangeW [.int a, .int b] H Q = (rngOK a b 1 ∧ Q ((rangeL a b 1).map .int) (fun _ => True) H) := rfl
theorem q72 (a b st : Int) (H : HM) (Q : List V → (HM → Prop) → HM → Prop) : rangeW [.int a, .int b, .int st] H Q = (rngOK a b st ∧ Q ((rangeL a b st).map .int) (fun _ => True) H) := rfl
theorem q0 (x : String) (v : V) (m : M) (k : M → Prop) : asgW (.name x) v m k = k (m.set x v) := rfl
theorem q1 (x y : String) (a b : V) (m : M) (k : M → Prop) : asgW (.two x y) (.tup [a, b]) m k = k ((m.set x a).set y b) := rfl
theorem q69 (a : Addr) (n : String) (H : HM) : methOf (.ref a) n H = (match H a with | some (.list _) => if n = "append" then some "list.append" else if n = "insert" then some "list.insert" else if n = "pop" then some "list.pop" else if n = "extend" then some "list.extend" else .none | _ => .none) := rfl
theorem q73 (a b : Bool) : sameW (.bool a) (.bool b) = some (a == b) := rfl
theorem q78 : sameW .none .none = some true := rfl
theorem q77 (b : Bool) : sameW .none (.bool b) = some false := rfl
theorem q74 (b : Bool) : sameW (.bool b) .none = some false := rfl
theorem q76 (i : Int) : sameW (.int i) .none = some false := rfl
theorem q75 (i : Int) (b : Bool) : sameW (.int i) (.bool b) = some false := rfl
theorem q82 (x : Str) : sameW (.str x) .none = some false := rfl
theorem q81 (x : Str) (b : Bool) : sameW (.str x) (.bool b) = some false := rfl
theorem q84 (vs : List V) : sameW (.tup vs) .none = some false := rfl
theorem q83 (vs : List V) (b : Bool) : sameW (.tup vs) (.bool b) = some false := rfl
theorem q80 (r : Addr) : sameW (.ref r) .none = some false := rfl
theorem q79 (r : Addr) (b : Bool) : sameW (.ref r) (.bool b) = some false := rfl
theorem orAnd : (BoolOp.Or == BoolOp.And) = false := rfl
theorem andAnd : (BoolOp.And == BoolOp.And) = true := rfl
theorem bq_tf : (true == false) = false := rfl
theorem bq_ft : (false == true) = false := rfl
theorem bq_xt (b : Bool) : (b == true) = b := by cases b <;> rfl
theorem bq_xf (b : Bool) : (b == false) = !b := by cases b <;> rfl
theorem set_none {H : HM} {a b : Addr} {o : O} (h : (H.set a o) b = none) : b ≠ a ∧ H b = none := by
  by_cases q : b = a
  · subst q; rw [HM.set_same] at h; cases h
  · rw [HM.set_ne _ _ q] at h; exact ⟨q, h⟩
theorem rangeL_len (n : Nat) : (rangeL 0 n 1) = (List.range n).map (fun (i : Nat) => (i : Int)) := by
  have : (Builtin.Range.rangeSize 0 n 1).toNat = n := by
    unfold Builtin.Range.rangeSize
    repeat' split
    all_goals first | omega | (simp at *; omega)
  unfold rangeL
  rw [this]
  simp
end Mine

set_option autoImplicit false
set_option linter.unusedVariables false
namespace Mine
open PySem PyProof.Rows

def b_is_place : Ss :=
 (.cons (.ret (.boolop .And (.cons (.call (.glob "isinstance") (.cons (.name "thing") (.cons (.glob "int") .nil))) (.cons (.not (.call (.glob "isinstance") (.cons (.name "thing") (.cons (.glob "bool") .nil)))) (.cons (.cmp .GtE (.name "thing") (.cint 0)) .nil)))))
 .nil)
def b_is_compare : Ss :=
 (.cons (.if_ (.boolop .Or (.cons (.not (.call (.glob "isinstance") (.cons (.name "thing") (.cons (.glob "tuple") .nil)))) (.cons (.cmp .NotEq (.call (.glob "len") (.cons (.name "thing") .nil)) (.cint 2)) .nil))) (.cons (.ret (.cbool false))
 .nil) .nil)
 (.cons (.ret (.boolop .And (.cons (.call (.glob "is_place") (.cons (.sub (.name "thing") (.cint 0)) .nil)) (.cons (.call (.glob "is_place") (.cons (.sub (.name "thing") (.cint 1)) .nil)) (.cons (.cmp3 .Lt .Lt (.sub (.name "thing") (.cint 0)) (.sub (.name "thing") (.cint 1)) (.name "places")) .nil)))))
 .nil))
def b_is_program : Ss :=
 (.cons (.ret (.boolop .And (.cons (.call (.glob "isinstance") (.cons (.name "thing") (.cons (.glob "tuple") .nil))) (.cons (.call (.glob "all") (.cons (.comp (.call (.glob "is_compare") (.cons (.name "one") (.cons (.name "places") .nil))) (.name "one") (.ex (.name "thing")) .none) .nil)) .nil))))
 .nil)
def b_places_of : Ss :=
 (.cons (.ret (.callk (.glob "max") (.comp (.bin .Add (.sub (.name "compare") (.cint 1)) (.cint 1)) (.name "compare") (.ex (.name "program")) .none) "default" (.cint 0)))
 .nil)
def b__law_cell_at : Ss :=
 (.cons (.if_ (.cmp .Lt (.name "_law_k") (.call (.glob "len") (.cons (.name "_law_script") .nil))) (.cons (.ret (.sub (.name "_law_script") (.name "_law_k")))
 .nil) .nil)
 (.cons (.ret (.cint 0))
 .nil))
def b__law_mixed : Ss :=
 (.cons (.assign "_law_cell" (.cint 0))
 (.cons (.if_ (.cmp .Gt (.call (.glob "len") (.cons (.name "_law_script") .nil)) (.cint 0)) (.cons (.assign "_law_cell" (.sub (.name "_law_script") (.bin .Mod (.name "_law_k") (.call (.glob "len") (.cons (.name "_law_script") .nil)))))
 .nil) .nil)
 (.cons (.assign "_law_number" (.bin .Mod (.bin .Mult (.bin .Add (.name "_law_cell") (.bin .Mult (.cint 7919) (.name "_law_k"))) (.cint 48271)) (.cint 2147483647)))
 (.cons (.ret (.bin .Mod (.bin .Mult (.name "_law_number") (.name "_law_number")) (.cint 2147483647)))
 .nil))))
def b__law_whole : Ss :=
 (.cons (.ret (.boolop .And (.cons (.call (.glob "isinstance") (.cons (.name "_law_found") (.cons (.glob "int") .nil))) (.cons (.not (.call (.glob "isinstance") (.cons (.name "_law_found") (.cons (.glob "bool") .nil)))) .nil))))
 .nil)
def b__law_compare_by : Ss :=
 (.cons (.assign "_law_low" (.bin .Mod (.name "_law_number") (.bin .Sub (.name "_law_places") (.cint 1))))
 (.cons (.assign "_law_far" (.bin .Mod (.bin .FloorDiv (.name "_law_number") (.cint 1000)) (.bin .Sub (.bin .Sub (.name "_law_places") (.cint 1)) (.name "_law_low"))))
 (.cons (.if_ (.cmp .Eq (.bin .Mod (.bin .FloorDiv (.name "_law_number") (.cint 100000)) (.cint 3)) (.cint 0)) (.cons (.assign "_law_far" (.cint 0))
 .nil) .nil)
 (.cons (.ret (.tup (.cons (.name "_law_low") (.cons (.bin .Add (.bin .Add (.name "_law_low") (.cint 1)) (.name "_law_far")) .nil))))
 .nil))))

section
variable {c : Cx} {gn : List String} {d : Nat} {H : HM} {X : XPost}

def cellAt (ns : List Int) (k : Nat) : Int := ns.getD k 0

theorem sp_cell_at (E : St0 c gn) (D : Def c gn "_law_cell_at" ["_law_script", "_law_k"] b__law_cell_at) {k : Nat} {Q : V → HM → Prop} (h : Q (.int (cellAt c.ns k)) H) :
    OpOK c (d + 1) callL [.g "_law_cell_at", .scr, .int k] H X Q := by
  refine call_def E.hc E.hg D rfl ?_
  unfold b__law_cell_at
  (simp only [q136, q135, q127, q126, q133, q128, q132, q130, q129, q134, q131, q117, q114, q111, q107, q108, q113, q103, q118, q119, q104, q109, q110, q120, q121, q115, q105, q106, q116, q112, q142, q137, q139, q140, q141, q143, q138, q97, q95, q96, q99, q98, q100, q123, q122, q124, q125, q101, q102, M.get, M.set, globV, methW, q73, q78, q77, q74, q76, q75, q82, q81, q84, q83, q80, q79, orAnd, andAnd, Callable, Tg.del, M.del, q91, q89, q90, q93, q94, q92, q11, q16, q15, q12, q14, q17, q13, q29, q30, q26, q24, q27, q25, q23, q28, q31, q32, q88, q86, q87, q67, q65, q66, q41, q39, q40, q43, q44, q42, q35, q33, q34, q37, q38, q36, q53, q51, q52, q55, q56, q54, q59, q57, q58, q61, q62, q60, q47, q45, q46, q49, q50, q48, q19, q18, q4, q3, q7, q2, q9, q10, q5, q6, q8, q21, q85, q64, q63, q70, q71, q72, q0, q1, q69, if_true, if_false, reduceIte, String.reduceEq, Bool.false_eq_true, true_and, and_true, List.zip_cons_cons, List.zip_nil_right, HM.set_same, Bool.not_true, beq_self_eq_true, bq_tf, bq_ft, bq_xt, bq_xf, Bool.not_false, reduceCtorEq, decide_true, decide_false])
  split
  · rename_i hk
    have hk' : k < c.ns.length := by simpa using hk
    refine ⟨by omega, ?_⟩
    rw [show ((k : Int)).toNat = k from rfl, List.getElem?_eq_getElem hk']
    simpa [cellAt, List.getD_eq_getElem?_getD, List.getElem?_eq_getElem hk'] using h
  · rename_i hk
    have hk' : c.ns.length ≤ k := by simpa using hk
    simpa [cellAt, List.getD_eq_getElem?_getD, List.getElem?_eq_none hk'] using h

def mixed (ns : List Int) (k : Int) : Int :=
  let n := ((ns.getD (k.fmod ns.length).toNat 0 + 7919 * k) * 48271).fmod 2147483647
  (n * n).fmod 2147483647
theorem fmod_pos {a b : Int} (h : 0 < b) : 0 ≤ a.fmod b ∧ a.fmod b < b := ⟨Int.fmod_nonneg_of_pos a h, Int.fmod_lt_of_pos a h⟩
theorem mixed_range (ns : List Int) (k : Int) : 0 ≤ mixed ns k ∧ mixed ns k < 2147483647 := fmod_pos (by decide)

theorem sp_mixed (E : St0 c gn) (D : Def c gn "_law_mixed" ["_law_script", "_law_k"] b__law_mixed) {k : Int} {Q : V → HM → Prop} (h : Q (.int (mixed c.ns k)) H) :
    OpOK c (d + 1) callL [.g "_law_mixed", .scr, .int k] H X Q := by
  refine call_def E.hc E.hg D rfl ?_
  unfold b__law_mixed
  have key : ∀ n : Int, n = c.ns.getD (k.fmod c.ns.length).toNat 0 → ((7919 : Int).natAbs < 2 ^ 64 ∨ k.natAbs < 2 ^ 64) ∧ ((n + 7919 * k).natAbs < 2 ^ 64 ∨ (48271 : Int).natAbs < 2 ^ 64) ∧ (2147483647 : Int) ≠ 0 ∧
      ((((n + 7919 * k) * 48271).fmod 2147483647).natAbs < 2 ^ 64 ∨ (((n + 7919 * k) * 48271).fmod 2147483647).natAbs < 2 ^ 64) ∧ (2147483647 : Int) ≠ 0 ∧ Q (.int ((((n + 7919 * k) * 48271).fmod 2147483647 * ((n + 7919 * k) * 48271).fmod 2147483647).fmod 2147483647)) H := by
    intro n hn
    have := @fmod_pos ((n + 7919 * k) * 48271) 2147483647 (by decide)
    refine ⟨.inl (by decide), .inr (by decide), by decide, .inl (by omega), by decide, ?_⟩
    subst hn; exact h
  (simp only [q136, q135, q127, q126, q133, q128, q132, q130, q129, q134, q131, q117, q114, q111, q107, q108, q113, q103, q118, q119, q104, q109, q110, q120, q121, q115, q105, q106, q116, q112, q142, q137, q139, q140, q141, q143, q138, q97, q95, q96, q99, q98, q100, q123, q122, q124, q125, q101, q102, M.get, M.set, globV, methW, q73, q78, q77, q74, q76, q75, q82, q81, q84, q83, q80, q79, orAnd, andAnd, Callable, Tg.del, M.del, q91, q89, q90, q93, q94, q92, q11, q16, q15, q12, q14, q17, q13, q29, q30, q26, q24, q27, q25, q23, q28, q31, q32, q88, q86, q87, q67, q65, q66, q41, q39, q40, q43, q44, q42, q35, q33, q34, q37, q38, q36, q53, q51, q52, q55, q56, q54, q59, q57, q58, q61, q62, q60, q47, q45, q46, q49, q50, q48, q19, q18, q4, q3, q7, q2, q9, q10, q5, q6, q8, q21, q85, q64, q63, q70, q71, q72, q0, q1, q69, if_true, if_false, reduceIte, String.reduceEq, Bool.false_eq_true, true_and, and_true, List.zip_cons_cons, List.zip_nil_right, HM.set_same, Bool.not_true, beq_self_eq_true, bq_tf, bq_ft, bq_xt, bq_xf, Bool.not_false, reduceCtorEq, decide_true, decide_false])
  split
  · rename_i hk
    have hk' : 0 < c.ns.length := by simpa using hk
    have := @fmod_pos k c.ns.length (by omega)
    refine ⟨by omega, this.1, ?_⟩
    rw [List.getElem?_eq_getElem (by omega : (k.fmod c.ns.length).toNat < c.ns.length)]
    refine key _ ?_
    rw [List.getD_eq_getElem?_getD, List.getElem?_eq_getElem (by omega : (k.fmod c.ns.length).toNat < c.ns.length)]; rfl
  · rename_i hk
    have hk' : c.ns = [] := by simpa using hk
    refine key _ ?_
    simp [hk']

def compareBy (n p : Int) : Int × Int :=
  let lo := n.fmod (p - 1)
  (lo, lo + 1 + if (n.fdiv 100000).fmod 3 = 0 then 0 else (n.fdiv 1000).fmod (p - 1 - lo))
theorem compareBy_range {n p : Int} (hp : 2 ≤ p) : 0 ≤ (compareBy n p).1 ∧ (compareBy n p).1 < (compareBy n p).2 ∧ (compareBy n p).2 < p := by
  have h1 := @fmod_pos n (p - 1) (by omega)
  have h2 := @fmod_pos (n.fdiv 1000) (p - 1 - n.fmod (p - 1)) (by omega)
  unfold compareBy
  dsimp only
  split <;> omega
def two (x : Int × Int) : V := .tup [.int x.1, .int x.2]

theorem sp_compare_by (E : St0 c gn) (D : Def c gn "_law_compare_by" ["_law_number", "_law_places"] b__law_compare_by) {n p : Int} (hp : 2 ≤ p) {Q : V → HM → Prop} (h : Q (two (compareBy n p)) H) :
    OpOK c (d + 1) callL [.g "_law_compare_by", .int n, .int p] H X Q := by
  refine call_def E.hc E.hg D rfl ?_
  unfold b__law_compare_by
  (simp only [q136, q135, q127, q126, q133, q128, q132, q130, q129, q134, q131, q117, q114, q111, q107, q108, q113, q103, q118, q119, q104, q109, q110, q120, q121, q115, q105, q106, q116, q112, q142, q137, q139, q140, q141, q143, q138, q97, q95, q96, q99, q98, q100, q123, q122, q124, q125, q101, q102, M.get, M.set, globV, methW, q73, q78, q77, q74, q76, q75, q82, q81, q84, q83, q80, q79, orAnd, andAnd, Callable, Tg.del, M.del, q91, q89, q90, q93, q94, q92, q11, q16, q15, q12, q14, q17, q13, q29, q30, q26, q24, q27, q25, q23, q28, q31, q32, q88, q86, q87, q67, q65, q66, q41, q39, q40, q43, q44, q42, q35, q33, q34, q37, q38, q36, q53, q51, q52, q55, q56, q54, q59, q57, q58, q61, q62, q60, q47, q45, q46, q49, q50, q48, q19, q18, q4, q3, q7, q2, q9, q10, q5, q6, q8, q21, q85, q64, q63, q70, q71, q72, q0, q1, q69, if_true, if_false, reduceIte, String.reduceEq, Bool.false_eq_true, true_and, and_true, List.zip_cons_cons, List.zip_nil_right, HM.set_same, Bool.not_true, beq_self_eq_true, bq_tf, bq_ft, bq_xt, bq_xf, Bool.not_false, reduceCtorEq, decide_true, decide_false])
  have h1 := @fmod_pos n (p - 1) (by omega)
  refine ⟨by omega, by decide, by decide, by omega, by decide, by decide, by decide, ?_⟩
  unfold two compareBy at h
  dsimp only at h
  split
  · rename_i q
    have q' : (n.fdiv 100000).fmod 3 = 0 := by simpa using q
    rw [if_pos q'] at h
    exact ⟨by simp [sizeLine], h⟩
  · rename_i q
    have q' : ¬ (n.fdiv 100000).fmod 3 = 0 := by simpa using q
    rw [if_neg q'] at h
    exact ⟨by simp [sizeLine], h⟩

/-- a plain thing that can be asked for its kind -/
def Flat (H : HM) : V → Prop
  | .none => True | .bool _ => True | .int _ => True | .str _ => True | .tup _ => True
  | .ref a => ∃ xs, H a = some (.list xs)
  | _ => False
def placeV : V → Bool
  | .int i => decide (0 ≤ i)
  | _ => false
theorem sp_is_place (E : St0 c gn) (D : Def c gn "is_place" ["thing"] b_is_place) {v : V} (hv : Flat H v) {Q : V → HM → Prop} (h : Q (.bool (placeV v)) H) :
    OpOK c (d + 1) callL [.g "is_place", v] H X Q := by
  refine call_def E.hc E.hg D rfl ?_
  unfold b_is_place
  cases v <;> try exact hv.elim
  all_goals (simp only [q136, q135, q127, q126, q133, q128, q132, q130, q129, q134, q131, q117, q114, q111, q107, q108, q113, q103, q118, q119, q104, q109, q110, q120, q121, q115, q105, q106, q116, q112, q142, q137, q139, q140, q141, q143, q138, q97, q95, q96, q99, q98, q100, q123, q122, q124, q125, q101, q102, M.get, M.set, globV, methW, q73, q78, q77, q74, q76, q75, q82, q81, q84, q83, q80, q79, orAnd, andAnd, Callable, Tg.del, M.del, q91, q89, q90, q93, q94, q92, q11, q16, q15, q12, q14, q17, q13, q29, q30, q26, q24, q27, q25, q23, q28, q31, q32, q88, q86, q87, q67, q65, q66, q41, q39, q40, q43, q44, q42, q35, q33, q34, q37, q38, q36, q53, q51, q52, q55, q56, q54, q59, q57, q58, q61, q62, q60, q47, q45, q46, q49, q50, q48, q19, q18, q4, q3, q7, q2, q9, q10, q5, q6, q8, q21, q85, q64, q63, q70, q71, q72, q0, q1, q69, if_true, if_false, reduceIte, String.reduceEq, Bool.false_eq_true, true_and, and_true, List.zip_cons_cons, List.zip_nil_right, HM.set_same, Bool.not_true, beq_self_eq_true, bq_tf, bq_ft, bq_xt, bq_xf, Bool.not_false, reduceCtorEq, decide_true, decide_false])
  all_goals try exact h
  rename_i a
  obtain ⟨xs, hx⟩ := hv
  rw [hx]; (simp only [q136, q135, q127, q126, q133, q128, q132, q130, q129, q134, q131, q117, q114, q111, q107, q108, q113, q103, q118, q119, q104, q109, q110, q120, q121, q115, q105, q106, q116, q112, q142, q137, q139, q140, q141, q143, q138, q97, q95, q96, q99, q98, q100, q123, q122, q124, q125, q101, q102, M.get, M.set, globV, methW, q73, q78, q77, q74, q76, q75, q82, q81, q84, q83, q80, q79, orAnd, andAnd, Callable, Tg.del, M.del, q91, q89, q90, q93, q94, q92, q11, q16, q15, q12, q14, q17, q13, q29, q30, q26, q24, q27, q25, q23, q28, q31, q32, q88, q86, q87, q67, q65, q66, q41, q39, q40, q43, q44, q42, q35, q33, q34, q37, q38, q36, q53, q51, q52, q55, q56, q54, q59, q57, q58, q61, q62, q60, q47, q45, q46, q49, q50, q48, q19, q18, q4, q3, q7, q2, q9, q10, q5, q6, q8, q21, q85, q64, q63, q70, q71, q72, q0, q1, q69, if_true, if_false, reduceIte, String.reduceEq, Bool.false_eq_true, true_and, and_true, List.zip_cons_cons, List.zip_nil_right, HM.set_same, Bool.not_true, beq_self_eq_true, bq_tf, bq_ft, bq_xt, bq_xf, Bool.not_false, reduceCtorEq, decide_true, decide_false]); exact h

def cmpV (p : Int) : V → Bool
  | .tup [x, y] => placeV x && placeV y && (match x, y with | .int a, .int b => decide (a < b) && decide (b < p) | _, _ => false)
  | _ => false
def Flat2 (H : HM) : V → Prop
  | .tup vs => vs.length < 2 ^ 62 ∧ ∀ v ∈ vs, Flat H v
  | v => Flat H v
theorem sp_is_compare (E : St0 c gn) (D1 : Def c gn "is_place" ["thing"] b_is_place) (D : Def c gn "is_compare" ["thing", "places"] b_is_compare) {v : V} {p : Int} (hv : Flat2 H v) {Q : V → HM → Prop} (h : Q (.bool (cmpV p v)) H) :
    OpOK c (d + 2) callL [.g "is_compare", v, .int p] H X Q := by
  refine call_def E.hc E.hg D rfl ?_
  unfold b_is_compare
  cases v <;> try exact hv.elim
  case tup vs =>
    obtain ⟨hl, hv⟩ := hv
    (simp only [q136, q135, q127, q126, q133, q128, q132, q130, q129, q134, q131, q117, q114, q111, q107, q108, q113, q103, q118, q119, q104, q109, q110, q120, q121, q115, q105, q106, q116, q112, q142, q137, q139, q140, q141, q143, q138, q97, q95, q96, q99, q98, q100, q123, q122, q124, q125, q101, q102, M.get, M.set, globV, methW, q73, q78, q77, q74, q76, q75, q82, q81, q84, q83, q80, q79, orAnd, andAnd, Callable, Tg.del, M.del, q91, q89, q90, q93, q94, q92, q11, q16, q15, q12, q14, q17, q13, q29, q30, q26, q24, q27, q25, q23, q28, q31, q32, q88, q86, q87, q67, q65, q66, q41, q39, q40, q43, q44, q42, q35, q33, q34, q37, q38, q36, q53, q51, q52, q55, q56, q54, q59, q57, q58, q61, q62, q60, q47, q45, q46, q49, q50, q48, q19, q18, q4, q3, q7, q2, q9, q10, q5, q6, q8, q21, q85, q64, q63, q70, q71, q72, q0, q1, q69, if_true, if_false, reduceIte, String.reduceEq, Bool.false_eq_true, true_and, and_true, List.zip_cons_cons, List.zip_nil_right, HM.set_same, Bool.not_true, beq_self_eq_true, bq_tf, bq_ft, bq_xt, bq_xf, Bool.not_false, reduceCtorEq, decide_true, decide_false])
    refine ⟨hl, ?_⟩
    match vs, hv with
    | [], hv => rw [show ((([] : List V).length : Int) != 2) = true from rfl]; (simp only [q136, q135, q127, q126, q133, q128, q132, q130, q129, q134, q131, q117, q114, q111, q107, q108, q113, q103, q118, q119, q104, q109, q110, q120, q121, q115, q105, q106, q116, q112, q142, q137, q139, q140, q141, q143, q138, q97, q95, q96, q99, q98, q100, q123, q122, q124, q125, q101, q102, M.get, M.set, globV, methW, q73, q78, q77, q74, q76, q75, q82, q81, q84, q83, q80, q79, orAnd, andAnd, Callable, Tg.del, M.del, q91, q89, q90, q93, q94, q92, q11, q16, q15, q12, q14, q17, q13, q29, q30, q26, q24, q27, q25, q23, q28, q31, q32, q88, q86, q87, q67, q65, q66, q41, q39, q40, q43, q44, q42, q35, q33, q34, q37, q38, q36, q53, q51, q52, q55, q56, q54, q59, q57, q58, q61, q62, q60, q47, q45, q46, q49, q50, q48, q19, q18, q4, q3, q7, q2, q9, q10, q5, q6, q8, q21, q85, q64, q63, q70, q71, q72, q0, q1, q69, if_true, if_false, reduceIte, String.reduceEq, Bool.false_eq_true, true_and, and_true, List.zip_cons_cons, List.zip_nil_right, HM.set_same, Bool.not_true, beq_self_eq_true, bq_tf, bq_ft, bq_xt, bq_xf, Bool.not_false, reduceCtorEq, decide_true, decide_false]); exact h
    | [x], hv => rw [show ((([x] : List V).length : Int) != 2) = true from rfl]; (simp only [q136, q135, q127, q126, q133, q128, q132, q130, q129, q134, q131, q117, q114, q111, q107, q108, q113, q103, q118, q119, q104, q109, q110, q120, q121, q115, q105, q106, q116, q112, q142, q137, q139, q140, q141, q143, q138, q97, q95, q96, q99, q98, q100, q123, q122, q124, q125, q101, q102, M.get, M.set, globV, methW, q73, q78, q77, q74, q76, q75, q82, q81, q84, q83, q80, q79, orAnd, andAnd, Callable, Tg.del, M.del, q91, q89, q90, q93, q94, q92, q11, q16, q15, q12, q14, q17, q13, q29, q30, q26, q24, q27, q25, q23, q28, q31, q32, q88, q86, q87, q67, q65, q66, q41, q39, q40, q43, q44, q42, q35, q33, q34, q37, q38, q36, q53, q51, q52, q55, q56, q54, q59, q57, q58, q61, q62, q60, q47, q45, q46, q49, q50, q48, q19, q18, q4, q3, q7, q2, q9, q10, q5, q6, q8, q21, q85, q64, q63, q70, q71, q72, q0, q1, q69, if_true, if_false, reduceIte, String.reduceEq, Bool.false_eq_true, true_and, and_true, List.zip_cons_cons, List.zip_nil_right, HM.set_same, Bool.not_true, beq_self_eq_true, bq_tf, bq_ft, bq_xt, bq_xf, Bool.not_false, reduceCtorEq, decide_true, decide_false]); exact h
    | x :: y :: z :: r, hv =>
      have : ¬ ((r.length : Int) + 1 + 1 + 1 = 2) := by omega
      rw [show (((x :: y :: z :: r).length : Int) != 2) = true by simp; omega]
      (simp only [q136, q135, q127, q126, q133, q128, q132, q130, q129, q134, q131, q117, q114, q111, q107, q108, q113, q103, q118, q119, q104, q109, q110, q120, q121, q115, q105, q106, q116, q112, q142, q137, q139, q140, q141, q143, q138, q97, q95, q96, q99, q98, q100, q123, q122, q124, q125, q101, q102, M.get, M.set, globV, methW, q73, q78, q77, q74, q76, q75, q82, q81, q84, q83, q80, q79, orAnd, andAnd, Callable, Tg.del, M.del, q91, q89, q90, q93, q94, q92, q11, q16, q15, q12, q14, q17, q13, q29, q30, q26, q24, q27, q25, q23, q28, q31, q32, q88, q86, q87, q67, q65, q66, q41, q39, q40, q43, q44, q42, q35, q33, q34, q37, q38, q36, q53, q51, q52, q55, q56, q54, q59, q57, q58, q61, q62, q60, q47, q45, q46, q49, q50, q48, q19, q18, q4, q3, q7, q2, q9, q10, q5, q6, q8, q21, q85, q64, q63, q70, q71, q72, q0, q1, q69, if_true, if_false, reduceIte, String.reduceEq, Bool.false_eq_true, true_and, and_true, List.zip_cons_cons, List.zip_nil_right, HM.set_same, Bool.not_true, beq_self_eq_true, bq_tf, bq_ft, bq_xt, bq_xf, Bool.not_false, reduceCtorEq, decide_true, decide_false]); exact h
    | [x, y], hv =>
      have hx := hv x (by simp)
      have hy := hv y (by simp)
      rw [show ((([x, y] : List V).length : Int) != 2) = false from rfl]
      (simp only [q136, q135, q127, q126, q133, q128, q132, q130, q129, q134, q131, q117, q114, q111, q107, q108, q113, q103, q118, q119, q104, q109, q110, q120, q121, q115, q105, q106, q116, q112, q142, q137, q139, q140, q141, q143, q138, q97, q95, q96, q99, q98, q100, q123, q122, q124, q125, q101, q102, M.get, M.set, globV, methW, q73, q78, q77, q74, q76, q75, q82, q81, q84, q83, q80, q79, orAnd, andAnd, Callable, Tg.del, M.del, q91, q89, q90, q93, q94, q92, q11, q16, q15, q12, q14, q17, q13, q29, q30, q26, q24, q27, q25, q23, q28, q31, q32, q88, q86, q87, q67, q65, q66, q41, q39, q40, q43, q44, q42, q35, q33, q34, q37, q38, q36, q53, q51, q52, q55, q56, q54, q59, q57, q58, q61, q62, q60, q47, q45, q46, q49, q50, q48, q19, q18, q4, q3, q7, q2, q9, q10, q5, q6, q8, q21, q85, q64, q63, q70, q71, q72, q0, q1, q69, if_true, if_false, reduceIte, String.reduceEq, Bool.false_eq_true, true_and, and_true, List.zip_cons_cons, List.zip_nil_right, HM.set_same, Bool.not_true, beq_self_eq_true, bq_tf, bq_ft, bq_xt, bq_xf, Bool.not_false, reduceCtorEq, decide_true, decide_false])
      refine ⟨by decide, by decide, ?_⟩
      rw [show ([x, y] : List V)[(0 : Int).toNat]? = some x from rfl]
      (simp only [q136, q135, q127, q126, q133, q128, q132, q130, q129, q134, q131, q117, q114, q111, q107, q108, q113, q103, q118, q119, q104, q109, q110, q120, q121, q115, q105, q106, q116, q112, q142, q137, q139, q140, q141, q143, q138, q97, q95, q96, q99, q98, q100, q123, q122, q124, q125, q101, q102, M.get, M.set, globV, methW, q73, q78, q77, q74, q76, q75, q82, q81, q84, q83, q80, q79, orAnd, andAnd, Callable, Tg.del, M.del, q91, q89, q90, q93, q94, q92, q11, q16, q15, q12, q14, q17, q13, q29, q30, q26, q24, q27, q25, q23, q28, q31, q32, q88, q86, q87, q67, q65, q66, q41, q39, q40, q43, q44, q42, q35, q33, q34, q37, q38, q36, q53, q51, q52, q55, q56, q54, q59, q57, q58, q61, q62, q60, q47, q45, q46, q49, q50, q48, q19, q18, q4, q3, q7, q2, q9, q10, q5, q6, q8, q21, q85, q64, q63, q70, q71, q72, q0, q1, q69, if_true, if_false, reduceIte, String.reduceEq, Bool.false_eq_true, true_and, and_true, List.zip_cons_cons, List.zip_nil_right, HM.set_same, Bool.not_true, beq_self_eq_true, bq_tf, bq_ft, bq_xt, bq_xf, Bool.not_false, reduceCtorEq, decide_true, decide_false])
      refine sp_is_place E D1 hx ?_
      cases qx : placeV x with
      | false => simp [cmpV, qx] at h; (simp only [q136, q135, q127, q126, q133, q128, q132, q130, q129, q134, q131, q117, q114, q111, q107, q108, q113, q103, q118, q119, q104, q109, q110, q120, q121, q115, q105, q106, q116, q112, q142, q137, q139, q140, q141, q143, q138, q97, q95, q96, q99, q98, q100, q123, q122, q124, q125, q101, q102, M.get, M.set, globV, methW, q73, q78, q77, q74, q76, q75, q82, q81, q84, q83, q80, q79, orAnd, andAnd, Callable, Tg.del, M.del, q91, q89, q90, q93, q94, q92, q11, q16, q15, q12, q14, q17, q13, q29, q30, q26, q24, q27, q25, q23, q28, q31, q32, q88, q86, q87, q67, q65, q66, q41, q39, q40, q43, q44, q42, q35, q33, q34, q37, q38, q36, q53, q51, q52, q55, q56, q54, q59, q57, q58, q61, q62, q60, q47, q45, q46, q49, q50, q48, q19, q18, q4, q3, q7, q2, q9, q10, q5, q6, q8, q21, q85, q64, q63, q70, q71, q72, q0, q1, q69, if_true, if_false, reduceIte, String.reduceEq, Bool.false_eq_true, true_and, and_true, List.zip_cons_cons, List.zip_nil_right, HM.set_same, Bool.not_true, beq_self_eq_true, bq_tf, bq_ft, bq_xt, bq_xf, Bool.not_false, reduceCtorEq, decide_true, decide_false]); exact h
      | true =>
        (simp only [q136, q135, q127, q126, q133, q128, q132, q130, q129, q134, q131, q117, q114, q111, q107, q108, q113, q103, q118, q119, q104, q109, q110, q120, q121, q115, q105, q106, q116, q112, q142, q137, q139, q140, q141, q143, q138, q97, q95, q96, q99, q98, q100, q123, q122, q124, q125, q101, q102, M.get, M.set, globV, methW, q73, q78, q77, q74, q76, q75, q82, q81, q84, q83, q80, q79, orAnd, andAnd, Callable, Tg.del, M.del, q91, q89, q90, q93, q94, q92, q11, q16, q15, q12, q14, q17, q13, q29, q30, q26, q24, q27, q25, q23, q28, q31, q32, q88, q86, q87, q67, q65, q66, q41, q39, q40, q43, q44, q42, q35, q33, q34, q37, q38, q36, q53, q51, q52, q55, q56, q54, q59, q57, q58, q61, q62, q60, q47, q45, q46, q49, q50, q48, q19, q18, q4, q3, q7, q2, q9, q10, q5, q6, q8, q21, q85, q64, q63, q70, q71, q72, q0, q1, q69, if_true, if_false, reduceIte, String.reduceEq, Bool.false_eq_true, true_and, and_true, List.zip_cons_cons, List.zip_nil_right, HM.set_same, Bool.not_true, beq_self_eq_true, bq_tf, bq_ft, bq_xt, bq_xf, Bool.not_false, reduceCtorEq, decide_true, decide_false])
        refine ⟨by decide, by decide, ?_⟩
        rw [show ([x, y] : List V)[(1 : Int).toNat]? = some y from rfl]
        (simp only [q136, q135, q127, q126, q133, q128, q132, q130, q129, q134, q131, q117, q114, q111, q107, q108, q113, q103, q118, q119, q104, q109, q110, q120, q121, q115, q105, q106, q116, q112, q142, q137, q139, q140, q141, q143, q138, q97, q95, q96, q99, q98, q100, q123, q122, q124, q125, q101, q102, M.get, M.set, globV, methW, q73, q78, q77, q74, q76, q75, q82, q81, q84, q83, q80, q79, orAnd, andAnd, Callable, Tg.del, M.del, q91, q89, q90, q93, q94, q92, q11, q16, q15, q12, q14, q17, q13, q29, q30, q26, q24, q27, q25, q23, q28, q31, q32, q88, q86, q87, q67, q65, q66, q41, q39, q40, q43, q44, q42, q35, q33, q34, q37, q38, q36, q53, q51, q52, q55, q56, q54, q59, q57, q58, q61, q62, q60, q47, q45, q46, q49, q50, q48, q19, q18, q4, q3, q7, q2, q9, q10, q5, q6, q8, q21, q85, q64, q63, q70, q71, q72, q0, q1, q69, if_true, if_false, reduceIte, String.reduceEq, Bool.false_eq_true, true_and, and_true, List.zip_cons_cons, List.zip_nil_right, HM.set_same, Bool.not_true, beq_self_eq_true, bq_tf, bq_ft, bq_xt, bq_xf, Bool.not_false, reduceCtorEq, decide_true, decide_false])
        refine sp_is_place E D1 hy ?_
        cases qy : placeV y with
        | false => simp [cmpV, qy] at h; (simp only [q136, q135, q127, q126, q133, q128, q132, q130, q129, q134, q131, q117, q114, q111, q107, q108, q113, q103, q118, q119, q104, q109, q110, q120, q121, q115, q105, q106, q116, q112, q142, q137, q139, q140, q141, q143, q138, q97, q95, q96, q99, q98, q100, q123, q122, q124, q125, q101, q102, M.get, M.set, globV, methW, q73, q78, q77, q74, q76, q75, q82, q81, q84, q83, q80, q79, orAnd, andAnd, Callable, Tg.del, M.del, q91, q89, q90, q93, q94, q92, q11, q16, q15, q12, q14, q17, q13, q29, q30, q26, q24, q27, q25, q23, q28, q31, q32, q88, q86, q87, q67, q65, q66, q41, q39, q40, q43, q44, q42, q35, q33, q34, q37, q38, q36, q53, q51, q52, q55, q56, q54, q59, q57, q58, q61, q62, q60, q47, q45, q46, q49, q50, q48, q19, q18, q4, q3, q7, q2, q9, q10, q5, q6, q8, q21, q85, q64, q63, q70, q71, q72, q0, q1, q69, if_true, if_false, reduceIte, String.reduceEq, Bool.false_eq_true, true_and, and_true, List.zip_cons_cons, List.zip_nil_right, HM.set_same, Bool.not_true, beq_self_eq_true, bq_tf, bq_ft, bq_xt, bq_xf, Bool.not_false, reduceCtorEq, decide_true, decide_false]); exact h
        | true =>
          cases x <;> simp [placeV] at qx
          cases y <;> simp [placeV] at qy
          rename_i i j
          rw [show cmpV p (.tup [.int i, .int j]) = (decide (i < j) && decide (j < p)) by simp [cmpV, placeV, qx, qy]] at h
          (simp only [q136, q135, q127, q126, q133, q128, q132, q130, q129, q134, q131, q117, q114, q111, q107, q108, q113, q103, q118, q119, q104, q109, q110, q120, q121, q115, q105, q106, q116, q112, q142, q137, q139, q140, q141, q143, q138, q97, q95, q96, q99, q98, q100, q123, q122, q124, q125, q101, q102, M.get, M.set, globV, methW, q73, q78, q77, q74, q76, q75, q82, q81, q84, q83, q80, q79, orAnd, andAnd, Callable, Tg.del, M.del, q91, q89, q90, q93, q94, q92, q11, q16, q15, q12, q14, q17, q13, q29, q30, q26, q24, q27, q25, q23, q28, q31, q32, q88, q86, q87, q67, q65, q66, q41, q39, q40, q43, q44, q42, q35, q33, q34, q37, q38, q36, q53, q51, q52, q55, q56, q54, q59, q57, q58, q61, q62, q60, q47, q45, q46, q49, q50, q48, q19, q18, q4, q3, q7, q2, q9, q10, q5, q6, q8, q21, q85, q64, q63, q70, q71, q72, q0, q1, q69, if_true, if_false, reduceIte, String.reduceEq, Bool.false_eq_true, true_and, and_true, List.zip_cons_cons, List.zip_nil_right, HM.set_same, Bool.not_true, beq_self_eq_true, bq_tf, bq_ft, bq_xt, bq_xf, Bool.not_false, reduceCtorEq, decide_true, decide_false])
          refine ⟨by decide, by decide, by decide, by decide, ?_⟩
          by_cases q : i < j
          · rw [decide_eq_true q] at h ⊢; rw [Bool.true_and] at h; (simp only [q136, q135, q127, q126, q133, q128, q132, q130, q129, q134, q131, q117, q114, q111, q107, q108, q113, q103, q118, q119, q104, q109, q110, q120, q121, q115, q105, q106, q116, q112, q142, q137, q139, q140, q141, q143, q138, q97, q95, q96, q99, q98, q100, q123, q122, q124, q125, q101, q102, M.get, M.set, globV, methW, q73, q78, q77, q74, q76, q75, q82, q81, q84, q83, q80, q79, orAnd, andAnd, Callable, Tg.del, M.del, q91, q89, q90, q93, q94, q92, q11, q16, q15, q12, q14, q17, q13, q29, q30, q26, q24, q27, q25, q23, q28, q31, q32, q88, q86, q87, q67, q65, q66, q41, q39, q40, q43, q44, q42, q35, q33, q34, q37, q38, q36, q53, q51, q52, q55, q56, q54, q59, q57, q58, q61, q62, q60, q47, q45, q46, q49, q50, q48, q19, q18, q4, q3, q7, q2, q9, q10, q5, q6, q8, q21, q85, q64, q63, q70, q71, q72, q0, q1, q69, if_true, if_false, reduceIte, String.reduceEq, Bool.false_eq_true, true_and, and_true, List.zip_cons_cons, List.zip_nil_right, HM.set_same, Bool.not_true, beq_self_eq_true, bq_tf, bq_ft, bq_xt, bq_xf, Bool.not_false, reduceCtorEq, decide_true, decide_false]); exact h
          · rw [decide_eq_false q] at h ⊢; rw [Bool.false_and] at h; (simp only [q136, q135, q127, q126, q133, q128, q132, q130, q129, q134, q131, q117, q114, q111, q107, q108, q113, q103, q118, q119, q104, q109, q110, q120, q121, q115, q105, q106, q116, q112, q142, q137, q139, q140, q141, q143, q138, q97, q95, q96, q99, q98, q100, q123, q122, q124, q125, q101, q102, M.get, M.set, globV, methW, q73, q78, q77, q74, q76, q75, q82, q81, q84, q83, q80, q79, orAnd, andAnd, Callable, Tg.del, M.del, q91, q89, q90, q93, q94, q92, q11, q16, q15, q12, q14, q17, q13, q29, q30, q26, q24, q27, q25, q23, q28, q31, q32, q88, q86, q87, q67, q65, q66, q41, q39, q40, q43, q44, q42, q35, q33, q34, q37, q38, q36, q53, q51, q52, q55, q56, q54, q59, q57, q58, q61, q62, q60, q47, q45, q46, q49, q50, q48, q19, q18, q4, q3, q7, q2, q9, q10, q5, q6, q8, q21, q85, q64, q63, q70, q71, q72, q0, q1, q69, if_true, if_false, reduceIte, String.reduceEq, Bool.false_eq_true, true_and, and_true, List.zip_cons_cons, List.zip_nil_right, HM.set_same, Bool.not_true, beq_self_eq_true, bq_tf, bq_ft, bq_xt, bq_xf, Bool.not_false, reduceCtorEq, decide_true, decide_false]); exact h
  case ref a =>
    obtain ⟨xs, hx⟩ := hv
    (simp only [q136, q135, q127, q126, q133, q128, q132, q130, q129, q134, q131, q117, q114, q111, q107, q108, q113, q103, q118, q119, q104, q109, q110, q120, q121, q115, q105, q106, q116, q112, q142, q137, q139, q140, q141, q143, q138, q97, q95, q96, q99, q98, q100, q123, q122, q124, q125, q101, q102, M.get, M.set, globV, methW, q73, q78, q77, q74, q76, q75, q82, q81, q84, q83, q80, q79, orAnd, andAnd, Callable, Tg.del, M.del, q91, q89, q90, q93, q94, q92, q11, q16, q15, q12, q14, q17, q13, q29, q30, q26, q24, q27, q25, q23, q28, q31, q32, q88, q86, q87, q67, q65, q66, q41, q39, q40, q43, q44, q42, q35, q33, q34, q37, q38, q36, q53, q51, q52, q55, q56, q54, q59, q57, q58, q61, q62, q60, q47, q45, q46, q49, q50, q48, q19, q18, q4, q3, q7, q2, q9, q10, q5, q6, q8, q21, q85, q64, q63, q70, q71, q72, q0, q1, q69, if_true, if_false, reduceIte, String.reduceEq, Bool.false_eq_true, true_and, and_true, List.zip_cons_cons, List.zip_nil_right, HM.set_same, Bool.not_true, beq_self_eq_true, bq_tf, bq_ft, bq_xt, bq_xf, Bool.not_false, reduceCtorEq, decide_true, decide_false])
    rw [hx]; (simp only [q136, q135, q127, q126, q133, q128, q132, q130, q129, q134, q131, q117, q114, q111, q107, q108, q113, q103, q118, q119, q104, q109, q110, q120, q121, q115, q105, q106, q116, q112, q142, q137, q139, q140, q141, q143, q138, q97, q95, q96, q99, q98, q100, q123, q122, q124, q125, q101, q102, M.get, M.set, globV, methW, q73, q78, q77, q74, q76, q75, q82, q81, q84, q83, q80, q79, orAnd, andAnd, Callable, Tg.del, M.del, q91, q89, q90, q93, q94, q92, q11, q16, q15, q12, q14, q17, q13, q29, q30, q26, q24, q27, q25, q23, q28, q31, q32, q88, q86, q87, q67, q65, q66, q41, q39, q40, q43, q44, q42, q35, q33, q34, q37, q38, q36, q53, q51, q52, q55, q56, q54, q59, q57, q58, q61, q62, q60, q47, q45, q46, q49, q50, q48, q19, q18, q4, q3, q7, q2, q9, q10, q5, q6, q8, q21, q85, q64, q63, q70, q71, q72, q0, q1, q69, if_true, if_false, reduceIte, String.reduceEq, Bool.false_eq_true, true_and, and_true, List.zip_cons_cons, List.zip_nil_right, HM.set_same, Bool.not_true, beq_self_eq_true, bq_tf, bq_ft, bq_xt, bq_xf, Bool.not_false, reduceCtorEq, decide_true, decide_false]); exact h
  all_goals (simp only [q136, q135, q127, q126, q133, q128, q132, q130, q129, q134, q131, q117, q114, q111, q107, q108, q113, q103, q118, q119, q104, q109, q110, q120, q121, q115, q105, q106, q116, q112, q142, q137, q139, q140, q141, q143, q138, q97, q95, q96, q99, q98, q100, q123, q122, q124, q125, q101, q102, M.get, M.set, globV, methW, q73, q78, q77, q74, q76, q75, q82, q81, q84, q83, q80, q79, orAnd, andAnd, Callable, Tg.del, M.del, q91, q89, q90, q93, q94, q92, q11, q16, q15, q12, q14, q17, q13, q29, q30, q26, q24, q27, q25, q23, q28, q31, q32, q88, q86, q87, q67, q65, q66, q41, q39, q40, q43, q44, q42, q35, q33, q34, q37, q38, q36, q53, q51, q52, q55, q56, q54, q59, q57, q58, q61, q62, q60, q47, q45, q46, q49, q50, q48, q19, q18, q4, q3, q7, q2, q9, q10, q5, q6, q8, q21, q85, q64, q63, q70, q71, q72, q0, q1, q69, if_true, if_false, reduceIte, String.reduceEq, Bool.false_eq_true, true_and, and_true, List.zip_cons_cons, List.zip_nil_right, HM.set_same, Bool.not_true, beq_self_eq_true, bq_tf, bq_ft, bq_xt, bq_xf, Bool.not_false, reduceCtorEq, decide_true, decide_false])
  all_goals exact h

theorem le_set {H : HM} {a : Addr} (o : O) (h : H a = none) : H.le (H.set a o) := fun b o' e => by
  by_cases q : b = a
  · subst q; rw [h] at e; cases e
  · rw [HM.set_ne _ _ q]; exact e

theorem sp_is_program_tup (E : St0 c gn) (D1 : Def c gn "is_place" ["thing"] b_is_place) (D2 : Def c gn "is_compare" ["thing", "places"] b_is_compare) (D : Def c gn "is_program" ["thing", "places"] b_is_program)
    {vs : List V} {p : Int} (hl : vs.length ≤ sizeLine) (hv : ∀ v ∈ vs, Flat2 H v) {Q : V → HM → Prop} (h : Q (.bool (vs.all (cmpV p))) H) :
    OpOK c (d + 3) callL [.g "is_program", .tup vs, .int p] H X Q := by
  refine call_def' E.hc E.hg D rfl ?_
  unfold b_is_program
  (simp only [q136, q135, q127, q126, q133, q128, q132, q130, q129, q134, q131, q117, q114, q111, q107, q108, q113, q103, q118, q119, q104, q109, q110, q120, q121, q115, q105, q106, q116, q112, q142, q137, q139, q140, q141, q143, q138, q97, q95, q96, q99, q98, q100, q123, q122, q124, q125, q101, q102, M.get, M.set, globV, methW, q73, q78, q77, q74, q76, q75, q82, q81, q84, q83, q80, q79, orAnd, andAnd, Callable, Tg.del, M.del, q91, q89, q90, q93, q94, q92, q11, q16, q15, q12, q14, q17, q13, q29, q30, q26, q24, q27, q25, q23, q28, q31, q32, q88, q86, q87, q67, q65, q66, q41, q39, q40, q43, q44, q42, q35, q33, q34, q37, q38, q36, q53, q51, q52, q55, q56, q54, q59, q57, q58, q61, q62, q60, q47, q45, q46, q49, q50, q48, q19, q18, q4, q3, q7, q2, q9, q10, q5, q6, q8, q21, q85, q64, q63, q70, q71, q72, q0, q1, q69, if_true, if_false, reduceIte, String.reduceEq, Bool.false_eq_true, true_and, and_true, List.zip_cons_cons, List.zip_nil_right, HM.set_same, Bool.not_true, beq_self_eq_true, bq_tf, bq_ft, bq_xt, bq_xf, Bool.not_false, reduceCtorEq, decide_true, decide_false])
  refine ⟨hl, compW_eq (fun v => some (.bool (cmpV p v))) _ _ (fun x hx P N hP => ?_) trivial fun a ha => ?_⟩
  · (simp only [q136, q135, q127, q126, q133, q128, q132, q130, q129, q134, q131, q117, q114, q111, q107, q108, q113, q103, q118, q119, q104, q109, q110, q120, q121, q115, q105, q106, q116, q112, q142, q137, q139, q140, q141, q143, q138, q97, q95, q96, q99, q98, q100, q123, q122, q124, q125, q101, q102, M.get, M.set, globV, methW, q73, q78, q77, q74, q76, q75, q82, q81, q84, q83, q80, q79, orAnd, andAnd, Callable, Tg.del, M.del, q91, q89, q90, q93, q94, q92, q11, q16, q15, q12, q14, q17, q13, q29, q30, q26, q24, q27, q25, q23, q28, q31, q32, q88, q86, q87, q67, q65, q66, q41, q39, q40, q43, q44, q42, q35, q33, q34, q37, q38, q36, q53, q51, q52, q55, q56, q54, q59, q57, q58, q61, q62, q60, q47, q45, q46, q49, q50, q48, q19, q18, q4, q3, q7, q2, q9, q10, q5, q6, q8, q21, q85, q64, q63, q70, q71, q72, q0, q1, q69, if_true, if_false, reduceIte, String.reduceEq, Bool.false_eq_true, true_and, and_true, List.zip_cons_cons, List.zip_nil_right, HM.set_same, Bool.not_true, beq_self_eq_true, bq_tf, bq_ft, bq_xt, bq_xf, Bool.not_false, reduceCtorEq, decide_true, decide_false])
    exact sp_is_compare E D1 D2 (hv x hx) hP
  · rw [show List.filterMap (fun v => some (V.bool (cmpV p v))) vs = vs.map fun v => V.bool (cmpV p v) by simp [List.filterMap_eq_map']]
    rw [List.nil_append, allBools_map]
    exact ⟨H, le_set _ ha, h⟩
theorem sp_is_program_no (E : St0 c gn) (D : Def c gn "is_program" ["thing", "places"] b_is_program) {v : V} {p : Int} (hv : isiW v .ttuple H = some false) {Q : V → HM → Prop} (h : Q (.bool false) H) :
    OpOK c (d + 1) callL [.g "is_program", v, .int p] H X Q := by
  refine call_def E.hc E.hg D rfl ?_
  unfold b_is_program
  (simp only [q136, q135, q127, q126, q133, q128, q132, q130, q129, q134, q131, q117, q114, q111, q107, q108, q113, q103, q118, q119, q104, q109, q110, q120, q121, q115, q105, q106, q116, q112, q142, q137, q139, q140, q141, q143, q138, q97, q95, q96, q99, q98, q100, q123, q122, q124, q125, q101, q102, M.get, M.set, globV, methW, q73, q78, q77, q74, q76, q75, q82, q81, q84, q83, q80, q79, orAnd, andAnd, Callable, Tg.del, M.del, q91, q89, q90, q93, q94, q92, q11, q16, q15, q12, q14, q17, q13, q29, q30, q26, q24, q27, q25, q23, q28, q31, q32, q88, q86, q87, q67, q65, q66, q41, q39, q40, q43, q44, q42, q35, q33, q34, q37, q38, q36, q53, q51, q52, q55, q56, q54, q59, q57, q58, q61, q62, q60, q47, q45, q46, q49, q50, q48, q19, q18, q4, q3, q7, q2, q9, q10, q5, q6, q8, q21, q85, q64, q63, q70, q71, q72, q0, q1, q69, if_true, if_false, reduceIte, String.reduceEq, Bool.false_eq_true, true_and, and_true, List.zip_cons_cons, List.zip_nil_right, HM.set_same, Bool.not_true, beq_self_eq_true, bq_tf, bq_ft, bq_xt, bq_xf, Bool.not_false, reduceCtorEq, decide_true, decide_false])
  rw [hv]
  (simp only [q136, q135, q127, q126, q133, q128, q132, q130, q129, q134, q131, q117, q114, q111, q107, q108, q113, q103, q118, q119, q104, q109, q110, q120, q121, q115, q105, q106, q116, q112, q142, q137, q139, q140, q141, q143, q138, q97, q95, q96, q99, q98, q100, q123, q122, q124, q125, q101, q102, M.get, M.set, globV, methW, q73, q78, q77, q74, q76, q75, q82, q81, q84, q83, q80, q79, orAnd, andAnd, Callable, Tg.del, M.del, q91, q89, q90, q93, q94, q92, q11, q16, q15, q12, q14, q17, q13, q29, q30, q26, q24, q27, q25, q23, q28, q31, q32, q88, q86, q87, q67, q65, q66, q41, q39, q40, q43, q44, q42, q35, q33, q34, q37, q38, q36, q53, q51, q52, q55, q56, q54, q59, q57, q58, q61, q62, q60, q47, q45, q46, q49, q50, q48, q19, q18, q4, q3, q7, q2, q9, q10, q5, q6, q8, q21, q85, q64, q63, q70, q71, q72, q0, q1, q69, if_true, if_false, reduceIte, String.reduceEq, Bool.false_eq_true, true_and, and_true, List.zip_cons_cons, List.zip_nil_right, HM.set_same, Bool.not_true, beq_self_eq_true, bq_tf, bq_ft, bq_xt, bq_xf, Bool.not_false, reduceCtorEq, decide_true, decide_false])
  exact h

theorem sp_places_of (E : St0 c gn) (D : Def c gn "places_of" ["program"] b_places_of) {vs : List (Int × Int)} (hl : vs.length ≤ sizeLine) {Q : V → HM → Prop} (h : Q (.int (maxD 0 (vs.map fun x => x.2 + 1))) H) :
    OpOK c (d + 1) callL [.g "places_of", .tup (vs.map two)] H X Q := by
  refine call_def' E.hc E.hg D rfl ?_
  unfold b_places_of
  (simp only [q136, q135, q127, q126, q133, q128, q132, q130, q129, q134, q131, q117, q114, q111, q107, q108, q113, q103, q118, q119, q104, q109, q110, q120, q121, q115, q105, q106, q116, q112, q142, q137, q139, q140, q141, q143, q138, q97, q95, q96, q99, q98, q100, q123, q122, q124, q125, q101, q102, M.get, M.set, globV, methW, q73, q78, q77, q74, q76, q75, q82, q81, q84, q83, q80, q79, orAnd, andAnd, Callable, Tg.del, M.del, q91, q89, q90, q93, q94, q92, q11, q16, q15, q12, q14, q17, q13, q29, q30, q26, q24, q27, q25, q23, q28, q31, q32, q88, q86, q87, q67, q65, q66, q41, q39, q40, q43, q44, q42, q35, q33, q34, q37, q38, q36, q53, q51, q52, q55, q56, q54, q59, q57, q58, q61, q62, q60, q47, q45, q46, q49, q50, q48, q19, q18, q4, q3, q7, q2, q9, q10, q5, q6, q8, q21, q85, q64, q63, q70, q71, q72, q0, q1, q69, if_true, if_false, reduceIte, String.reduceEq, Bool.false_eq_true, true_and, and_true, List.zip_cons_cons, List.zip_nil_right, HM.set_same, Bool.not_true, beq_self_eq_true, bq_tf, bq_ft, bq_xt, bq_xf, Bool.not_false, reduceCtorEq, decide_true, decide_false])
  refine ⟨by simpa using hl, compW_eq (fun v => match v with | .tup [.int a, .int b] => some (.int (b + 1)) | _ => .none) _ _ (fun x hx P N hP => ?_) trivial fun a ha => ?_⟩
  · obtain ⟨⟨i, j⟩, hm, rfl⟩ := List.mem_map.mp hx
    simp only [two] at hP ⊢
    (simp only [q136, q135, q127, q126, q133, q128, q132, q130, q129, q134, q131, q117, q114, q111, q107, q108, q113, q103, q118, q119, q104, q109, q110, q120, q121, q115, q105, q106, q116, q112, q142, q137, q139, q140, q141, q143, q138, q97, q95, q96, q99, q98, q100, q123, q122, q124, q125, q101, q102, M.get, M.set, globV, methW, q73, q78, q77, q74, q76, q75, q82, q81, q84, q83, q80, q79, orAnd, andAnd, Callable, Tg.del, M.del, q91, q89, q90, q93, q94, q92, q11, q16, q15, q12, q14, q17, q13, q29, q30, q26, q24, q27, q25, q23, q28, q31, q32, q88, q86, q87, q67, q65, q66, q41, q39, q40, q43, q44, q42, q35, q33, q34, q37, q38, q36, q53, q51, q52, q55, q56, q54, q59, q57, q58, q61, q62, q60, q47, q45, q46, q49, q50, q48, q19, q18, q4, q3, q7, q2, q9, q10, q5, q6, q8, q21, q85, q64, q63, q70, q71, q72, q0, q1, q69, if_true, if_false, reduceIte, String.reduceEq, Bool.false_eq_true, true_and, and_true, List.zip_cons_cons, List.zip_nil_right, HM.set_same, Bool.not_true, beq_self_eq_true, bq_tf, bq_ft, bq_xt, bq_xf, Bool.not_false, reduceCtorEq, decide_true, decide_false])
    exact ⟨by decide, by decide, hP⟩
  · rw [List.nil_append, List.filterMap_map, show (List.filterMap ((fun v => match v with | V.tup [V.int a, V.int b] => some (V.int (b + 1)) | _ => none) ∘ two) vs) = (vs.map fun x => V.int (x.2 + 1)) by rw [← List.filterMap_eq_map]; rfl, intsOf_map]
    exact ⟨H, le_set _ ha, h⟩
end
end Mine

set_option autoImplicit false
set_option maxRecDepth 100000
set_option maxHeartbeats 4000000
set_option linter.unusedSimpArgs false
set_option linter.unusedVariables false
namespace Mine
open PySem PyProof.Rows

def b__law_odd_s4 : Ss :=
 .cons (.ret (.sub (.name "_law_some") (.bin .Mod (.name "_law_number") (.cint 15)))) .nil
def b__law_odd_s3 : Ss :=
 .cons (.assign "_law_some" (.bin .Add (.name "_law_some") (.list (.cons (.tup (.cons (.cbool false) (.cons (.name "_law_high") .nil))) (.cons (.tup (.cons (.name "_law_low") (.cons (.call (.glob "str") (.cons (.name "_law_high") .nil)) .nil))) (.cons (.tup (.cons .cnone (.cons (.name "_law_high") .nil))) (.cons (.cstr "01") (.cons (.cint 7) (.cons .cnone (.cons (.tup (.cons (.name "_law_low") (.cons (.cbool true) .nil))) (.cons (.tup .nil) .nil))))))))))) b__law_odd_s4
def b__law_odd_s2 : Ss :=
 .cons (.assign "_law_some" (.list (.cons (.tup (.cons (.name "_law_low") (.cons (.name "_law_high") (.cons (.name "_law_high") .nil)))) (.cons (.tup (.cons (.name "_law_low") .nil)) (.cons (.list (.cons (.name "_law_low") (.cons (.name "_law_high") .nil))) (.cons (.tup (.cons (.name "_law_low") (.cons (.name "_law_low") .nil))) (.cons (.tup (.cons (.name "_law_high") (.cons (.name "_law_low") .nil))) (.cons (.tup (.cons (.bin .Sub (.neg (.cint 1)) (.name "_law_far")) (.cons (.name "_law_high") .nil))) (.cons (.tup (.cons (.name "_law_low") (.cons (.bin .Add (.name "_law_places") (.name "_law_far")) .nil))) .nil))))))))) b__law_odd_s3
def b__law_odd_s1 : Ss :=
 .cons (.assign "_law_far" (.bin .Mod (.bin .FloorDiv (.name "_law_number") (.cint 12)) (.cint 5))) b__law_odd_s2
def b__law_odd : Ss :=
 .cons (.asgT "_law_low" "_law_high" (.name "_law_one")) b__law_odd_s1
def b_law_s12 : Ss :=
 .cons (.ret (.cmp .Is (.call (.glob "is_program") (.cons (.call (.glob "tuple") (.cons (.name "_law_found") .nil)) (.cons (.name "_law_places") .nil))) (.cbool false))) .nil
def b_law_s11 : Ss :=
 .cons (.expr (.meth (.name "_law_found") "insert" (.cons (.bin .Mod (.bin .FloorDiv (.name "_law_number") (.cint 60)) (.bin .Add (.call (.glob "len") (.cons (.name "_law_found") .nil)) (.cint 1))) (.cons (.call (.glob "_law_odd") (.cons (.name "_law_number") (.cons (.name "_law_one") (.cons (.name "_law_places") .nil)))) .nil)))) b_law_s12
def b_law_s10 : Ss :=
 .cons (.assign "_law_one" (.call (.glob "_law_compare_by") (.cons (.name "_law_number") (.cons (.name "_law_places") .nil)))) b_law_s11
def b_law_s9 : Ss :=
 .cons (.if_ (.boolop .Or (.cons (.cmp .IsNot (.call (.glob "is_program") (.cons (.call (.glob "list") (.cons (.name "_law_found") .nil)) (.cons (.name "_law_places") .nil))) (.cbool false)) (.cons (.cmp .IsNot (.call (.glob "is_program") (.cons (.cstr "") (.cons (.name "_law_places") .nil))) (.cbool false)) .nil))) (.cons (.ret (.cbool false))
 .nil) .nil) b_law_s10
def b_law_s8 : Ss :=
 .cons (.if_ (.boolop .And (.cons (.cmp .Gt (.call (.glob "len") (.cons (.name "_law_found") .nil)) (.cint 0)) (.cons (.cmp .IsNot (.call (.glob "is_program") (.cons (.call (.glob "tuple") (.cons (.name "_law_found") .nil)) (.cons (.bin .Sub (.name "_law_most") (.cint 1)) .nil))) (.cbool false)) .nil))) (.cons (.ret (.cbool false))
 .nil) .nil) b_law_s9
def b_law_s7 : Ss :=
 .cons (.assign "_law_number" (.call (.glob "_law_mixed") (.cons (.name "_law_script") (.cons (.cint 2) .nil)))) b_law_s8
def b_law_s6 : Ss :=
 .cons (.if_ (.boolop .Or (.cons (.not (.call (.glob "_law_whole") (.cons (.name "_law_got") .nil))) (.cons (.cmp .NotEq (.name "_law_got") (.name "_law_most")) .nil))) (.cons (.ret (.cbool false))
 .nil) .nil) b_law_s7
def b_law_s5 : Ss :=
 .cons (.assign "_law_got" (.call (.glob "places_of") (.cons (.call (.glob "tuple") (.cons (.name "_law_found") .nil)) .nil))) b_law_s6
def b_law_s4 : Ss :=
 .cons (.for_ (.name "_law_one") (.ex (.name "_law_found")) (.cons (.assign "_law_most" (.call (.glob "max") (.cons (.name "_law_most") (.cons (.bin .Add (.sub (.name "_law_one") (.cint 1)) (.cint 1)) .nil))))
 .nil)) b_law_s5
def b_law_s3 : Ss :=
 .cons (.assign "_law_most" (.cint 0)) b_law_s4
def b_law_s2 : Ss :=
 .cons (.if_ (.boolop .Or (.cons (.cmp .IsNot (.call (.glob "is_program") (.cons (.call (.glob "tuple") (.cons (.name "_law_found") .nil)) (.cons (.name "_law_places") .nil))) (.cbool true)) (.cons (.cmp .IsNot (.call (.glob "is_program") (.cons (.tup .nil) (.cons (.name "_law_places") .nil))) (.cbool true)) .nil))) (.cons (.ret (.cbool false))
 .nil) .nil) b_law_s3
def b_law_s1 : Ss :=
 .cons (.assign "_law_found" (.comp (.call (.glob "_law_compare_by") (.cons (.call (.glob "_law_mixed") (.cons (.name "_law_script") (.cons (.bin .Add (.cint 3) (.name "_law_k")) .nil))) (.cons (.name "_law_places") .nil))) (.name "_law_k") (.range (.cons (.bin .Mod (.call (.glob "_law_cell_at") (.cons (.name "_law_script") (.cons (.cint 1) .nil))) (.cint 13)) .nil)) .none)) b_law_s2
def b_law : Ss :=
 .cons (.assign "_law_places" (.bin .Add (.cint 2) (.bin .Mod (.call (.glob "_law_cell_at") (.cons (.name "_law_script") (.cons (.cint 0) .nil))) (.cint 39)))) b_law_s1
def theGlobs : List String := ["_law_cell_at", "_law_compare_by", "_law_mixed", "_law_odd", "_law_whole", "all", "bool", "int", "is_compare", "is_place", "is_program", "isinstance", "len", "list", "max", "places_of", "range", "str", "tuple"]
def theDefs : Defs := [("is_place", ["thing"], b_is_place), ("is_compare", ["thing", "places"], b_is_compare), ("is_program", ["thing", "places"], b_is_program), ("places_of", ["program"], b_places_of), ("_law_cell_at", ["_law_script", "_law_k"], b__law_cell_at), ("_law_mixed", ["_law_script", "_law_k"], b__law_mixed), ("_law_whole", ["_law_found"], b__law_whole), ("_law_compare_by", ["_law_number", "_law_places"], b__law_compare_by), ("_law_odd", ["_law_number", "_law_one", "_law_places"], b__law_odd), ("law", ["_law_script"], b_law)]

section
variable {c : Cx} {gn : List String} {d : Nat} {H : HM} {X : XPost}
theorem sp_whole (E : St0 c gn) (D : Def c gn "_law_whole" ["_law_found"] b__law_whole) {i : Int} {Q : V → HM → Prop} (h : Q (.bool true) H) :
    OpOK c (d + 1) callL [.g "_law_whole", .int i] H X Q := by
  refine call_def E.hc E.hg D rfl ?_
  unfold b__law_whole
  (simp only [q136, q135, q127, q126, q133, q128, q132, q130, q129, q134, q131, q117, q114, q111, q107, q108, q113, q103, q118, q119, q104, q109, q110, q120, q121, q115, q105, q106, q116, q112, q142, q137, q139, q140, q141, q143, q138, q97, q95, q96, q99, q98, q100, q123, q122, q124, q125, q101, q102, M.get, M.set, globV, methW, q73, q78, q77, q74, q76, q75, q82, q81, q84, q83, q80, q79, orAnd, andAnd, Callable, Tg.del, M.del, q91, q89, q90, q93, q94, q92, q11, q16, q15, q12, q14, q17, q13, q29, q30, q26, q24, q27, q25, q23, q28, q31, q32, q88, q86, q87, q67, q65, q66, q41, q39, q40, q43, q44, q42, q35, q33, q34, q37, q38, q36, q53, q51, q52, q55, q56, q54, q59, q57, q58, q61, q62, q60, q47, q45, q46, q49, q50, q48, q19, q18, q4, q3, q7, q2, q9, q10, q5, q6, q8, q21, q85, q64, q63, q70, q71, q72, q0, q1, q69, if_true, if_false, reduceIte, String.reduceEq, Bool.false_eq_true, true_and, and_true, List.zip_cons_cons, List.zip_nil_right, HM.set_same, Bool.not_true, beq_self_eq_true, bq_tf, bq_ft, bq_xt, bq_xf, Bool.not_false, reduceCtorEq, decide_true, decide_false])
  exact h

theorem odd_all {lo hi p r5 : Int} {a : Addr} (h1 : 0 ≤ lo) (h2 : lo < hi) (h3 : hi < p) (hr5 : 0 ≤ r5 ∧ r5 < 5) : ∀ v ∈ [V.tup [.int lo, .int hi, .int hi], .tup [.int lo], .ref a, .tup [.int lo, .int lo], .tup [.int hi, .int lo], .tup [.int (-1 - r5), .int hi], .tup [.int lo, .int (p + r5)]] ++
      [V.tup [.bool false, .int hi], .tup [.int lo, .str (Str.ofString (toString hi))], .tup [.none, .int hi], .str (Str.ofString "01"), .int 7, .none, .tup [.int lo, .bool true], .tup []], (v = .ref a ∨ ∀ H, Flat2 H v) ∧ cmpV p v = false := by
  intro v hv
  have f2 : ∀ x y : V, (∀ H, Flat H x) → (∀ H, Flat H y) → ∀ H, Flat2 H (.tup [x, y]) := fun x y hx hy H => ⟨Nat.le_of_ble_eq_true rfl, fun v hv => by
    rcases List.mem_cons.mp hv with rfl | hv
    · exact hx H
    · rcases List.mem_cons.mp hv with rfl | hv
      · exact hy H
      · cases hv⟩
  have nc : ∀ x y : Int, ¬ (0 ≤ x ∧ x < y ∧ y < p) → cmpV p (.tup [.int x, .int y]) = false := fun x y h => by
    by_cases q1 : 0 ≤ x
    · by_cases q2 : 0 ≤ y
      · simp [cmpV, placeV, q1, q2]; omega
      · simp [cmpV, placeV, q1, q2]
    · simp [cmpV, placeV, q1]
  simp only [List.mem_append, List.mem_cons, List.not_mem_nil, or_false] at hv
  rcases hv with (rfl | rfl | rfl | rfl | rfl | rfl | rfl) | (rfl | rfl | rfl | rfl | rfl | rfl | rfl | rfl)
  · exact ⟨.inr fun H => ⟨Nat.le_of_ble_eq_true rfl, fun v hv => by simp only [List.mem_cons, List.not_mem_nil, or_false] at hv; rcases hv with rfl | rfl | rfl <;> trivial⟩, rfl⟩
  · exact ⟨.inr fun H => ⟨Nat.le_of_ble_eq_true rfl, fun v hv => by simp only [List.mem_cons, List.not_mem_nil, or_false] at hv; rcases hv with rfl; trivial⟩, rfl⟩
  · exact ⟨.inl rfl, rfl⟩
  · exact ⟨.inr (f2 _ _ (fun _ => trivial) fun _ => trivial), nc _ _ (by omega)⟩
  · exact ⟨.inr (f2 _ _ (fun _ => trivial) fun _ => trivial), nc _ _ (by omega)⟩
  · exact ⟨.inr (f2 _ _ (fun _ => trivial) fun _ => trivial), nc _ _ (by omega)⟩
  · exact ⟨.inr (f2 _ _ (fun _ => trivial) fun _ => trivial), nc _ _ (by omega)⟩
  · exact ⟨.inr (f2 _ _ (fun _ => trivial) fun _ => trivial), rfl⟩
  · exact ⟨.inr (f2 _ _ (fun _ => trivial) fun _ => trivial), by simp [cmpV, placeV]⟩
  · exact ⟨.inr (f2 _ _ (fun _ => trivial) fun _ => trivial), rfl⟩
  · exact ⟨.inr fun _ => trivial, rfl⟩
  · exact ⟨.inr fun _ => trivial, rfl⟩
  · exact ⟨.inr fun _ => trivial, rfl⟩
  · exact ⟨.inr (f2 _ _ (fun _ => trivial) fun _ => trivial), by simp [cmpV, placeV]⟩
  · exact ⟨.inr fun H => ⟨Nat.le_of_ble_eq_true rfl, fun v hv => by cases hv⟩, rfl⟩

theorem sp_odd (E : St0 c gn) (D : Def c gn "_law_odd" ["_law_number", "_law_one", "_law_places"] b__law_odd) {n lo hi p : Int} (h1 : 0 ≤ lo) (h2 : lo < hi) (h3 : hi < p) (h4 : p < 1000) {Q : V → HM → Prop} (h : ∀ v H', H.le H' → Flat2 H' v → cmpV p v = false → Q v H') :
    OpOK c (d + 1) callL [.g "_law_odd", .int n, .tup [.int lo, .int hi], .int p] H X Q := by
  refine call_def E.hc E.hg D rfl ?_
  have hsz : ∀ m : Nat, m ≤ 1000 → m ≤ sizeLine := fun m hm => Nat.le_trans hm (by decide)
  have hr5 := @fmod_pos (n.fdiv 12) 5 (by decide)
  unfold b__law_odd
  (simp only [q136, q135, q127, q126, q133, q128, q132, q130, q129, q134, q131, q117, q114, q111, q107, q108, q113, q103, q118, q119, q104, q109, q110, q120, q121, q115, q105, q106, q116, q112, q142, q137, q139, q140, q141, q143, q138, q97, q95, q96, q99, q98, q100, q123, q122, q124, q125, q101, q102, M.get, M.set, globV, methW, q73, q78, q77, q74, q76, q75, q82, q81, q84, q83, q80, q79, orAnd, andAnd, Callable, Tg.del, M.del, q91, q89, q90, q93, q94, q92, q11, q16, q15, q12, q14, q17, q13, q29, q30, q26, q24, q27, q25, q23, q28, q31, q32, q88, q86, q87, q67, q65, q66, q41, q39, q40, q43, q44, q42, q35, q33, q34, q37, q38, q36, q53, q51, q52, q55, q56, q54, q59, q57, q58, q61, q62, q60, q47, q45, q46, q49, q50, q48, q19, q18, q4, q3, q7, q2, q9, q10, q5, q6, q8, q21, q85, q64, q63, q70, q71, q72, q0, q1, q69, if_true, if_false, reduceIte, String.reduceEq, Bool.false_eq_true, true_and, and_true, List.zip_cons_cons, List.zip_nil_right, HM.set_same, Bool.not_true, beq_self_eq_true, bq_tf, bq_ft, bq_xt, bq_xf, Bool.not_false, reduceCtorEq, decide_true, decide_false])
  unfold b__law_odd_s1
  (simp only [q136, q135, q127, q126, q133, q128, q132, q130, q129, q134, q131, q117, q114, q111, q107, q108, q113, q103, q118, q119, q104, q109, q110, q120, q121, q115, q105, q106, q116, q112, q142, q137, q139, q140, q141, q143, q138, q97, q95, q96, q99, q98, q100, q123, q122, q124, q125, q101, q102, M.get, M.set, globV, methW, q73, q78, q77, q74, q76, q75, q82, q81, q84, q83, q80, q79, orAnd, andAnd, Callable, Tg.del, M.del, q91, q89, q90, q93, q94, q92, q11, q16, q15, q12, q14, q17, q13, q29, q30, q26, q24, q27, q25, q23, q28, q31, q32, q88, q86, q87, q67, q65, q66, q41, q39, q40, q43, q44, q42, q35, q33, q34, q37, q38, q36, q53, q51, q52, q55, q56, q54, q59, q57, q58, q61, q62, q60, q47, q45, q46, q49, q50, q48, q19, q18, q4, q3, q7, q2, q9, q10, q5, q6, q8, q21, q85, q64, q63, q70, q71, q72, q0, q1, q69, if_true, if_false, reduceIte, String.reduceEq, Bool.false_eq_true, true_and, and_true, List.zip_cons_cons, List.zip_nil_right, HM.set_same, Bool.not_true, beq_self_eq_true, bq_tf, bq_ft, bq_xt, bq_xf, Bool.not_false, reduceCtorEq, decide_true, decide_false])
  refine ⟨by decide, by decide, by decide, ?_⟩
  generalize (n.fdiv 12).fmod 5 = r5 at hr5 ⊢
  unfold b__law_odd_s2
  (simp only [q136, q135, q127, q126, q133, q128, q132, q130, q129, q134, q131, q117, q114, q111, q107, q108, q113, q103, q118, q119, q104, q109, q110, q120, q121, q115, q105, q106, q116, q112, q142, q137, q139, q140, q141, q143, q138, q97, q95, q96, q99, q98, q100, q123, q122, q124, q125, q101, q102, M.get, M.set, globV, methW, q73, q78, q77, q74, q76, q75, q82, q81, q84, q83, q80, q79, orAnd, andAnd, Callable, Tg.del, M.del, q91, q89, q90, q93, q94, q92, q11, q16, q15, q12, q14, q17, q13, q29, q30, q26, q24, q27, q25, q23, q28, q31, q32, q88, q86, q87, q67, q65, q66, q41, q39, q40, q43, q44, q42, q35, q33, q34, q37, q38, q36, q53, q51, q52, q55, q56, q54, q59, q57, q58, q61, q62, q60, q47, q45, q46, q49, q50, q48, q19, q18, q4, q3, q7, q2, q9, q10, q5, q6, q8, q21, q85, q64, q63, q70, q71, q72, q0, q1, q69, if_true, if_false, reduceIte, String.reduceEq, Bool.false_eq_true, true_and, and_true, List.zip_cons_cons, List.zip_nil_right, HM.set_same, Bool.not_true, beq_self_eq_true, bq_tf, bq_ft, bq_xt, bq_xf, Bool.not_false, reduceCtorEq, decide_true, decide_false])
  refine ⟨hsz _ (Nat.le_of_ble_eq_true rfl), hsz _ (Nat.le_of_ble_eq_true rfl), hsz _ (Nat.le_of_ble_eq_true rfl), fun a ha => ⟨hsz _ (Nat.le_of_ble_eq_true rfl), hsz _ (Nat.le_of_ble_eq_true rfl), hsz _ (Nat.le_of_ble_eq_true rfl), hsz _ (Nat.le_of_ble_eq_true rfl), hsz _ (Nat.le_of_ble_eq_true rfl), fun b hb => ?_⟩⟩
  have hall := @odd_all lo hi p r5 a h1 h2 h3 hr5
  have hl1 : [V.tup [V.int lo, V.int hi, V.int hi], V.tup [V.int lo], V.ref a, V.tup [V.int lo, V.int lo], V.tup [V.int hi, V.int lo], V.tup [V.int (-1 - r5), V.int hi], V.tup [V.int lo, V.int (p + r5)]].length = 7 := rfl
  have hl2 : [V.tup [.bool false, .int hi], .tup [.int lo, .str (Str.ofString (toString hi))], .tup [.none, .int hi], .str (Str.ofString "01"), .int 7, .none, .tup [.int lo, .bool true], .tup []].length = 8 := rfl
  generalize [V.tup [V.int lo, V.int hi, V.int hi], V.tup [V.int lo], V.ref a, V.tup [V.int lo, V.int lo], V.tup [V.int hi, V.int lo], V.tup [V.int (-1 - r5), V.int hi], V.tup [V.int lo, V.int (p + r5)]] = L1 at hall hl1 hb ⊢
  unfold b__law_odd_s3
  (simp only [q136, q135, q127, q126, q133, q128, q132, q130, q129, q134, q131, q117, q114, q111, q107, q108, q113, q103, q118, q119, q104, q109, q110, q120, q121, q115, q105, q106, q116, q112, q142, q137, q139, q140, q141, q143, q138, q97, q95, q96, q99, q98, q100, q123, q122, q124, q125, q101, q102, M.get, M.set, globV, methW, q73, q78, q77, q74, q76, q75, q82, q81, q84, q83, q80, q79, orAnd, andAnd, Callable, Tg.del, M.del, q91, q89, q90, q93, q94, q92, q11, q16, q15, q12, q14, q17, q13, q29, q30, q26, q24, q27, q25, q23, q28, q31, q32, q88, q86, q87, q67, q65, q66, q41, q39, q40, q43, q44, q42, q35, q33, q34, q37, q38, q36, q53, q51, q52, q55, q56, q54, q59, q57, q58, q61, q62, q60, q47, q45, q46, q49, q50, q48, q19, q18, q4, q3, q7, q2, q9, q10, q5, q6, q8, q21, q85, q64, q63, q70, q71, q72, q0, q1, q69, if_true, if_false, reduceIte, String.reduceEq, Bool.false_eq_true, true_and, and_true, List.zip_cons_cons, List.zip_nil_right, HM.set_same, Bool.not_true, beq_self_eq_true, bq_tf, bq_ft, bq_xt, bq_xf, Bool.not_false, reduceCtorEq, decide_true, decide_false])
  refine ⟨hsz _ (Nat.le_of_ble_eq_true rfl), Nat.lt_of_lt_of_le (by omega : hi.natAbs < 10 ^ 3) (Nat.pow_le_pow_right (by decide) (by decide)), hsz _ (Nat.le_of_ble_eq_true rfl), hsz _ (Nat.le_of_ble_eq_true rfl), hsz _ (Nat.le_of_ble_eq_true rfl), hsz _ (Nat.le_of_ble_eq_true rfl), hsz _ (Nat.le_of_ble_eq_true rfl), fun e he => ?_⟩
  generalize [V.tup [.bool false, .int hi], .tup [.int lo, .str (Str.ofString (toString hi))], .tup [.none, .int hi], .str (Str.ofString "01"), .int 7, .none, .tup [.int lo, .bool true], .tup []] = L2 at hall hl2 ⊢
  obtain ⟨hba, hb'⟩ := set_none hb
  obtain ⟨heb, he'⟩ := set_none he
  obtain ⟨hea, he''⟩ := set_none he'
  rw [HM.set_ne _ _ (Ne.symm heb)]
  (simp only [q136, q135, q127, q126, q133, q128, q132, q130, q129, q134, q131, q117, q114, q111, q107, q108, q113, q103, q118, q119, q104, q109, q110, q120, q121, q115, q105, q106, q116, q112, q142, q137, q139, q140, q141, q143, q138, q97, q95, q96, q99, q98, q100, q123, q122, q124, q125, q101, q102, M.get, M.set, globV, methW, q73, q78, q77, q74, q76, q75, q82, q81, q84, q83, q80, q79, orAnd, andAnd, Callable, Tg.del, M.del, q91, q89, q90, q93, q94, q92, q11, q16, q15, q12, q14, q17, q13, q29, q30, q26, q24, q27, q25, q23, q28, q31, q32, q88, q86, q87, q67, q65, q66, q41, q39, q40, q43, q44, q42, q35, q33, q34, q37, q38, q36, q53, q51, q52, q55, q56, q54, q59, q57, q58, q61, q62, q60, q47, q45, q46, q49, q50, q48, q19, q18, q4, q3, q7, q2, q9, q10, q5, q6, q8, q21, q85, q64, q63, q70, q71, q72, q0, q1, q69, if_true, if_false, reduceIte, String.reduceEq, Bool.false_eq_true, true_and, and_true, List.zip_cons_cons, List.zip_nil_right, HM.set_same, Bool.not_true, beq_self_eq_true, bq_tf, bq_ft, bq_xt, bq_xf, Bool.not_false, reduceCtorEq, decide_true, decide_false])
  refine ⟨hsz _ (by omega), fun f hf => ?_⟩
  unfold b__law_odd_s4
  (simp only [q136, q135, q127, q126, q133, q128, q132, q130, q129, q134, q131, q117, q114, q111, q107, q108, q113, q103, q118, q119, q104, q109, q110, q120, q121, q115, q105, q106, q116, q112, q142, q137, q139, q140, q141, q143, q138, q97, q95, q96, q99, q98, q100, q123, q122, q124, q125, q101, q102, M.get, M.set, globV, methW, q73, q78, q77, q74, q76, q75, q82, q81, q84, q83, q80, q79, orAnd, andAnd, Callable, Tg.del, M.del, q91, q89, q90, q93, q94, q92, q11, q16, q15, q12, q14, q17, q13, q29, q30, q26, q24, q27, q25, q23, q28, q31, q32, q88, q86, q87, q67, q65, q66, q41, q39, q40, q43, q44, q42, q35, q33, q34, q37, q38, q36, q53, q51, q52, q55, q56, q54, q59, q57, q58, q61, q62, q60, q47, q45, q46, q49, q50, q48, q19, q18, q4, q3, q7, q2, q9, q10, q5, q6, q8, q21, q85, q64, q63, q70, q71, q72, q0, q1, q69, if_true, if_false, reduceIte, String.reduceEq, Bool.false_eq_true, true_and, and_true, List.zip_cons_cons, List.zip_nil_right, HM.set_same, Bool.not_true, beq_self_eq_true, bq_tf, bq_ft, bq_xt, bq_xf, Bool.not_false, reduceCtorEq, decide_true, decide_false])
  have hr := @fmod_pos n 15 (by decide)
  generalize n.fmod 15 = r at hr ⊢
  refine ⟨by decide, hr.1, by omega, ?_⟩
  have hlt : r.toNat < (L1 ++ L2).length := by rw [List.length_append]; omega
  rw [List.getElem?_eq_getElem hlt]
  obtain ⟨hv, hcv⟩ := hall _ (List.getElem_mem hlt)
  generalize (L1 ++ L2)[r.toNat] = v at hv hcv ⊢
  refine h v _ ((((le_set _ ha).trans (le_set _ hb)).trans (le_set _ he)).trans (le_set _ hf)) ?_ hcv
  rcases hv with rfl | hv
  · obtain ⟨hfe, hf'⟩ := set_none hf
    obtain ⟨hfb, hf''⟩ := set_none hf'
    obtain ⟨hfa, hf3⟩ := set_none hf''
    exact ⟨[V.int lo, V.int hi], by rw [HM.set_ne _ _ (Ne.symm hfa), HM.set_ne _ _ (Ne.symm hea), HM.set_ne _ _ (Ne.symm hba), HM.set_same]⟩
  · exact hv _
end

theorem all_two {p : Int} {xs : List (Int × Int)} (h : ∀ x ∈ xs, 0 ≤ x.1 ∧ x.1 < x.2 ∧ x.2 < p) : (xs.map two).all (cmpV p) = true := by
  rw [List.all_eq_true]
  intro v hv
  obtain ⟨x, hx, rfl⟩ := List.mem_map.mp hv
  have := h x hx
  simp [two, cmpV, placeV]
  omega
theorem not_two {p : Int} {xs : List (Int × Int)} {x : Int × Int} (hx : x ∈ xs) (h : p ≤ x.2) : (xs.map two).all (cmpV p) = false := by
  rw [List.all_eq_false]
  refine ⟨two x, List.mem_map.mpr ⟨x, hx, rfl⟩, ?_⟩
  simp [two, cmpV, placeV]
  omega
theorem flat2_two {H : HM} {xs : List (Int × Int)} : ∀ v ∈ xs.map two, Flat2 H v := by
  intro v hv
  obtain ⟨x, hx, rfl⟩ := List.mem_map.mp hv
  simp [two, Flat2, Flat]

theorem flat_set {H : HM} (a : Addr) (ys : List V) {v : V} (h : Flat H v) : Flat (H.set a (.list ys)) v := by
  cases v <;> try exact h
  rename_i r
  obtain ⟨xs, hx⟩ := h
  by_cases q : r = a
  · subst q; exact ⟨_, HM.set_same _ _ _⟩
  · exact ⟨xs, by rw [HM.set_ne _ _ q]; exact hx⟩
theorem flat2_set {H : HM} (a : Addr) (ys : List V) {v : V} (h : Flat2 H v) : Flat2 (H.set a (.list ys)) v := by
  cases v with
  | tup vs => exact ⟨h.1, fun x hx => flat_set a ys (h.2 x hx)⟩
  | ref r => exact flat_set (v := .ref r) a ys h
  | none => trivial
  | bool _ => trivial
  | int _ => trivial
  | str _ => trivial
  | bi _ => exact h.elim
  | g _ => exact h.elim
  | scr => exact h.elim
def foldMax (w : Int) (l : List (Int × Int)) : Int := l.foldl (fun b x => max b (x.2 + 1)) w
theorem foldMax_maxD {l : List (Int × Int)} (h : ∀ x ∈ l, 0 ≤ x.2) : maxD 0 (l.map fun x => x.2 + 1) = foldMax 0 l := by
  cases l with
  | nil => rfl
  | cons x r =>
    have := h x List.mem_cons_self
    have e : max (0 : Int) (x.2 + 1) = x.2 + 1 := by omega
    show List.foldl max (x.2 + 1) (r.map fun x => x.2 + 1) = List.foldl _ (max 0 (x.2 + 1)) r
    rw [e, List.foldl_map]
theorem foldMax_mem : ∀ (l : List (Int × Int)) (w : Int), foldMax w l = w ∨ ∃ x ∈ l, foldMax w l = x.2 + 1
  | [], w => .inl rfl
  | x :: r, w => by
    rcases foldMax_mem r (max w (x.2 + 1)) with h | ⟨y, hy, h⟩
    · rw [show foldMax w (x :: r) = foldMax (max w (x.2 + 1)) r from rfl, h]
      rcases Int.le_total w (x.2 + 1) with q | q
      · exact .inr ⟨x, List.mem_cons_self, by omega⟩
      · exact .inl (by omega)
    · exact .inr ⟨y, List.mem_cons_of_mem _ hy, h⟩
theorem foldMax_ge : ∀ (l : List (Int × Int)) (w : Int), w ≤ foldMax w l
  | [], w => Int.le_refl _
  | x :: r, w => Int.le_trans (by omega : w ≤ max w (x.2 + 1)) (foldMax_ge r _)
theorem foldMax_first (x : Int × Int) (r : List (Int × Int)) (h : 0 ≤ x.2) : ∃ y ∈ x :: r, foldMax 0 (x :: r) = y.2 + 1 := by
  rcases foldMax_mem (x :: r) 0 with q | q
  · have h1 := foldMax_ge r (max 0 (x.2 + 1))
    have h2 : foldMax 0 (x :: r) = foldMax (max 0 (x.2 + 1)) r := rfl
    omega
  · exact q

theorem law01 (c : Cx) (hc : CxOK c) (hg : ∀ x ∈ theGlobs, GlobOK c x (globV x)) (D : ∀ f ps b, (f, ps, b) ∈ theDefs → Def c theGlobs f ps b) :
    wpSs c 300 b_law [("_law_script", .scr)] (fun _ => none) NoX fun fl m' H' => fl = .ret (.bool true) := by
  have E : St0 c theGlobs := ⟨hc, hg⟩
  have Dcell := D "_law_cell_at" _ _ (by simp [theDefs]; exact ⟨rfl, rfl⟩)
  have Dmix := D "_law_mixed" _ _ (by simp [theDefs]; exact ⟨rfl, rfl⟩)
  have Dby := D "_law_compare_by" _ _ (by simp [theDefs]; exact ⟨rfl, rfl⟩)
  have Dwh := D "_law_whole" _ _ (by simp [theDefs]; exact ⟨rfl, rfl⟩)
  have Dodd := D "_law_odd" _ _ (by simp [theDefs]; exact ⟨rfl, rfl⟩)
  have Dpl := D "is_place" _ _ (by simp [theDefs]; exact ⟨rfl, rfl⟩)
  have Dcm := D "is_compare" _ _ (by simp [theDefs]; exact ⟨rfl, rfl⟩)
  have Dpr := D "is_program" _ _ (by simp [theDefs]; exact ⟨rfl, rfl⟩)
  have Dpo := D "places_of" _ _ (by simp [theDefs]; exact ⟨rfl, rfl⟩)
  unfold b_law
  (simp only [q136, q135, q127, q126, q133, q128, q132, q130, q129, q134, q131, q117, q114, q111, q107, q108, q113, q103, q118, q119, q104, q109, q110, q120, q121, q115, q105, q106, q116, q112, q142, q137, q139, q140, q141, q143, q138, q97, q95, q96, q99, q98, q100, q123, q122, q124, q125, q101, q102, M.get, M.set, globV, methW, q73, q78, q77, q74, q76, q75, q82, q81, q84, q83, q80, q79, orAnd, andAnd, Callable, Tg.del, M.del, q91, q89, q90, q93, q94, q92, q11, q16, q15, q12, q14, q17, q13, q29, q30, q26, q24, q27, q25, q23, q28, q31, q32, q88, q86, q87, q67, q65, q66, q41, q39, q40, q43, q44, q42, q35, q33, q34, q37, q38, q36, q53, q51, q52, q55, q56, q54, q59, q57, q58, q61, q62, q60, q47, q45, q46, q49, q50, q48, q19, q18, q4, q3, q7, q2, q9, q10, q5, q6, q8, q21, q85, q64, q63, q70, q71, q72, q0, q1, q69, if_true, if_false, reduceIte, String.reduceEq, Bool.false_eq_true, true_and, and_true, List.zip_cons_cons, List.zip_nil_right, HM.set_same, Bool.not_true, beq_self_eq_true, bq_tf, bq_ft, bq_xt, bq_xf, Bool.not_false, reduceCtorEq, decide_true, decide_false])
  refine sp_cell_at E Dcell (k := 0) ?_
  (simp only [q136, q135, q127, q126, q133, q128, q132, q130, q129, q134, q131, q117, q114, q111, q107, q108, q113, q103, q118, q119, q104, q109, q110, q120, q121, q115, q105, q106, q116, q112, q142, q137, q139, q140, q141, q143, q138, q97, q95, q96, q99, q98, q100, q123, q122, q124, q125, q101, q102, M.get, M.set, globV, methW, q73, q78, q77, q74, q76, q75, q82, q81, q84, q83, q80, q79, orAnd, andAnd, Callable, Tg.del, M.del, q91, q89, q90, q93, q94, q92, q11, q16, q15, q12, q14, q17, q13, q29, q30, q26, q24, q27, q25, q23, q28, q31, q32, q88, q86, q87, q67, q65, q66, q41, q39, q40, q43, q44, q42, q35, q33, q34, q37, q38, q36, q53, q51, q52, q55, q56, q54, q59, q57, q58, q61, q62, q60, q47, q45, q46, q49, q50, q48, q19, q18, q4, q3, q7, q2, q9, q10, q5, q6, q8, q21, q85, q64, q63, q70, q71, q72, q0, q1, q69, if_true, if_false, reduceIte, String.reduceEq, Bool.false_eq_true, true_and, and_true, List.zip_cons_cons, List.zip_nil_right, HM.set_same, Bool.not_true, beq_self_eq_true, bq_tf, bq_ft, bq_xt, bq_xf, Bool.not_false, reduceCtorEq, decide_true, decide_false])
  refine ⟨by decide, ?_⟩
  unfold b_law_s1
  (simp only [q136, q135, q127, q126, q133, q128, q132, q130, q129, q134, q131, q117, q114, q111, q107, q108, q113, q103, q118, q119, q104, q109, q110, q120, q121, q115, q105, q106, q116, q112, q142, q137, q139, q140, q141, q143, q138, q97, q95, q96, q99, q98, q100, q123, q122, q124, q125, q101, q102, M.get, M.set, globV, methW, q73, q78, q77, q74, q76, q75, q82, q81, q84, q83, q80, q79, orAnd, andAnd, Callable, Tg.del, M.del, q91, q89, q90, q93, q94, q92, q11, q16, q15, q12, q14, q17, q13, q29, q30, q26, q24, q27, q25, q23, q28, q31, q32, q88, q86, q87, q67, q65, q66, q41, q39, q40, q43, q44, q42, q35, q33, q34, q37, q38, q36, q53, q51, q52, q55, q56, q54, q59, q57, q58, q61, q62, q60, q47, q45, q46, q49, q50, q48, q19, q18, q4, q3, q7, q2, q9, q10, q5, q6, q8, q21, q85, q64, q63, q70, q71, q72, q0, q1, q69, if_true, if_false, reduceIte, String.reduceEq, Bool.false_eq_true, true_and, and_true, List.zip_cons_cons, List.zip_nil_right, HM.set_same, Bool.not_true, beq_self_eq_true, bq_tf, bq_ft, bq_xt, bq_xf, Bool.not_false, reduceCtorEq, decide_true, decide_false])
  have hp : 2 ≤ 2 + (cellAt c.ns 0).fmod 39 ∧ 2 + (cellAt c.ns 0).fmod 39 ≤ 40 := by have := @fmod_pos (cellAt c.ns 0) 39 (by decide); omega
  generalize 2 + (cellAt c.ns 0).fmod 39 = p at hp ⊢
  refine sp_cell_at E Dcell (k := 1) ?_
  (simp only [q136, q135, q127, q126, q133, q128, q132, q130, q129, q134, q131, q117, q114, q111, q107, q108, q113, q103, q118, q119, q104, q109, q110, q120, q121, q115, q105, q106, q116, q112, q142, q137, q139, q140, q141, q143, q138, q97, q95, q96, q99, q98, q100, q123, q122, q124, q125, q101, q102, M.get, M.set, globV, methW, q73, q78, q77, q74, q76, q75, q82, q81, q84, q83, q80, q79, orAnd, andAnd, Callable, Tg.del, M.del, q91, q89, q90, q93, q94, q92, q11, q16, q15, q12, q14, q17, q13, q29, q30, q26, q24, q27, q25, q23, q28, q31, q32, q88, q86, q87, q67, q65, q66, q41, q39, q40, q43, q44, q42, q35, q33, q34, q37, q38, q36, q53, q51, q52, q55, q56, q54, q59, q57, q58, q61, q62, q60, q47, q45, q46, q49, q50, q48, q19, q18, q4, q3, q7, q2, q9, q10, q5, q6, q8, q21, q85, q64, q63, q70, q71, q72, q0, q1, q69, if_true, if_false, reduceIte, String.reduceEq, Bool.false_eq_true, true_and, and_true, List.zip_cons_cons, List.zip_nil_right, HM.set_same, Bool.not_true, beq_self_eq_true, bq_tf, bq_ft, bq_xt, bq_xf, Bool.not_false, reduceCtorEq, decide_true, decide_false])
  refine ⟨by decide, ?_⟩
  have hn := @fmod_pos (cellAt c.ns 1) 13 (by decide)
  generalize (cellAt c.ns 1).fmod 13 = n at hn ⊢
  refine ⟨by unfold rngOK; omega, ?_⟩
  obtain ⟨k, rfl⟩ : ∃ k : Nat, n = k := ⟨n.toNat, by omega⟩
  rw [rangeL_len, List.map_map]
  have hsz : ∀ m : Nat, m ≤ 1000 → m ≤ sizeLine := fun m hm => Nat.le_trans hm (by decide)
  refine ⟨hsz _ (by simp; omega), ?_⟩
  refine compW_eq (fun v => match v with | .int k => some (two (compareBy (mixed c.ns (3 + k)) p)) | _ => .none) _ _ (fun x hx P N hP => ?_) trivial fun a ha => ?_
  · obtain ⟨i, hi, rfl⟩ := List.mem_map.mp hx
    (simp only [q136, q135, q127, q126, q133, q128, q132, q130, q129, q134, q131, q117, q114, q111, q107, q108, q113, q103, q118, q119, q104, q109, q110, q120, q121, q115, q105, q106, q116, q112, q142, q137, q139, q140, q141, q143, q138, q97, q95, q96, q99, q98, q100, q123, q122, q124, q125, q101, q102, M.get, M.set, globV, methW, q73, q78, q77, q74, q76, q75, q82, q81, q84, q83, q80, q79, orAnd, andAnd, Callable, Tg.del, M.del, q91, q89, q90, q93, q94, q92, q11, q16, q15, q12, q14, q17, q13, q29, q30, q26, q24, q27, q25, q23, q28, q31, q32, q88, q86, q87, q67, q65, q66, q41, q39, q40, q43, q44, q42, q35, q33, q34, q37, q38, q36, q53, q51, q52, q55, q56, q54, q59, q57, q58, q61, q62, q60, q47, q45, q46, q49, q50, q48, q19, q18, q4, q3, q7, q2, q9, q10, q5, q6, q8, q21, q85, q64, q63, q70, q71, q72, q0, q1, q69, if_true, if_false, reduceIte, String.reduceEq, Bool.false_eq_true, true_and, and_true, List.zip_cons_cons, List.zip_nil_right, HM.set_same, Bool.not_true, beq_self_eq_true, bq_tf, bq_ft, bq_xt, bq_xf, Bool.not_false, reduceCtorEq, decide_true, decide_false])
    exact sp_mixed E Dmix (sp_compare_by E Dby hp.1 hP)
  rw [List.nil_append, List.filterMap_map]
  obtain ⟨xs, hxs⟩ : ∃ xs : List (Int × Int), xs = (List.range k).map fun (i : Nat) => compareBy (mixed c.ns (3 + (i : Int))) p := ⟨_, rfl⟩
  have hys : (List.filterMap ((fun v => match v with | V.int k => some (two (compareBy (mixed c.ns (3 + k)) p)) | x => none) ∘ V.int ∘ fun (i : Nat) => (i : Int)) (List.range k)) = xs.map two := by
    rw [hxs, List.map_map, ← List.filterMap_eq_map]; rfl
  have hin : ∀ x ∈ xs, 0 ≤ x.1 ∧ x.1 < x.2 ∧ x.2 < p := by
    intro x hx
    rw [hxs] at hx
    obtain ⟨i, hi, rfl⟩ := List.mem_map.mp hx
    exact compareBy_range hp.1
  have hlen : xs.length ≤ 12 := by rw [hxs]; simp; omega
  rw [hys]
  clear hys hxs
  unfold b_law_s2
  (simp only [q136, q135, q127, q126, q133, q128, q132, q130, q129, q134, q131, q117, q114, q111, q107, q108, q113, q103, q118, q119, q104, q109, q110, q120, q121, q115, q105, q106, q116, q112, q142, q137, q139, q140, q141, q143, q138, q97, q95, q96, q99, q98, q100, q123, q122, q124, q125, q101, q102, M.get, M.set, globV, methW, q73, q78, q77, q74, q76, q75, q82, q81, q84, q83, q80, q79, orAnd, andAnd, Callable, Tg.del, M.del, q91, q89, q90, q93, q94, q92, q11, q16, q15, q12, q14, q17, q13, q29, q30, q26, q24, q27, q25, q23, q28, q31, q32, q88, q86, q87, q67, q65, q66, q41, q39, q40, q43, q44, q42, q35, q33, q34, q37, q38, q36, q53, q51, q52, q55, q56, q54, q59, q57, q58, q61, q62, q60, q47, q45, q46, q49, q50, q48, q19, q18, q4, q3, q7, q2, q9, q10, q5, q6, q8, q21, q85, q64, q63, q70, q71, q72, q0, q1, q69, if_true, if_false, reduceIte, String.reduceEq, Bool.false_eq_true, true_and, and_true, List.zip_cons_cons, List.zip_nil_right, HM.set_same, Bool.not_true, beq_self_eq_true, bq_tf, bq_ft, bq_xt, bq_xf, Bool.not_false, reduceCtorEq, decide_true, decide_false])
  refine ⟨hsz _ (by simp; omega), ?_⟩
  refine sp_is_program_tup E Dpl Dcm Dpr (d := 297) (hsz _ (by simp; omega)) flat2_two ?_
  rw [all_two hin]
  (simp only [q136, q135, q127, q126, q133, q128, q132, q130, q129, q134, q131, q117, q114, q111, q107, q108, q113, q103, q118, q119, q104, q109, q110, q120, q121, q115, q105, q106, q116, q112, q142, q137, q139, q140, q141, q143, q138, q97, q95, q96, q99, q98, q100, q123, q122, q124, q125, q101, q102, M.get, M.set, globV, methW, q73, q78, q77, q74, q76, q75, q82, q81, q84, q83, q80, q79, orAnd, andAnd, Callable, Tg.del, M.del, q91, q89, q90, q93, q94, q92, q11, q16, q15, q12, q14, q17, q13, q29, q30, q26, q24, q27, q25, q23, q28, q31, q32, q88, q86, q87, q67, q65, q66, q41, q39, q40, q43, q44, q42, q35, q33, q34, q37, q38, q36, q53, q51, q52, q55, q56, q54, q59, q57, q58, q61, q62, q60, q47, q45, q46, q49, q50, q48, q19, q18, q4, q3, q7, q2, q9, q10, q5, q6, q8, q21, q85, q64, q63, q70, q71, q72, q0, q1, q69, if_true, if_false, reduceIte, String.reduceEq, Bool.false_eq_true, true_and, and_true, List.zip_cons_cons, List.zip_nil_right, HM.set_same, Bool.not_true, beq_self_eq_true, bq_tf, bq_ft, bq_xt, bq_xf, Bool.not_false, reduceCtorEq, decide_true, decide_false])
  refine ⟨hsz _ (by simp), ?_⟩
  refine sp_is_program_tup E Dpl Dcm Dpr (d := 297) (hsz _ (by simp)) (by simp) ?_
  rw [show ([] : List V).all (cmpV p) = true from rfl]
  (simp only [q136, q135, q127, q126, q133, q128, q132, q130, q129, q134, q131, q117, q114, q111, q107, q108, q113, q103, q118, q119, q104, q109, q110, q120, q121, q115, q105, q106, q116, q112, q142, q137, q139, q140, q141, q143, q138, q97, q95, q96, q99, q98, q100, q123, q122, q124, q125, q101, q102, M.get, M.set, globV, methW, q73, q78, q77, q74, q76, q75, q82, q81, q84, q83, q80, q79, orAnd, andAnd, Callable, Tg.del, M.del, q91, q89, q90, q93, q94, q92, q11, q16, q15, q12, q14, q17, q13, q29, q30, q26, q24, q27, q25, q23, q28, q31, q32, q88, q86, q87, q67, q65, q66, q41, q39, q40, q43, q44, q42, q35, q33, q34, q37, q38, q36, q53, q51, q52, q55, q56, q54, q59, q57, q58, q61, q62, q60, q47, q45, q46, q49, q50, q48, q19, q18, q4, q3, q7, q2, q9, q10, q5, q6, q8, q21, q85, q64, q63, q70, q71, q72, q0, q1, q69, if_true, if_false, reduceIte, String.reduceEq, Bool.false_eq_true, true_and, and_true, List.zip_cons_cons, List.zip_nil_right, HM.set_same, Bool.not_true, beq_self_eq_true, bq_tf, bq_ft, bq_xt, bq_xf, Bool.not_false, reduceCtorEq, decide_true, decide_false])
  unfold b_law_s3
  (simp only [q136, q135, q127, q126, q133, q128, q132, q130, q129, q134, q131, q117, q114, q111, q107, q108, q113, q103, q118, q119, q104, q109, q110, q120, q121, q115, q105, q106, q116, q112, q142, q137, q139, q140, q141, q143, q138, q97, q95, q96, q99, q98, q100, q123, q122, q124, q125, q101, q102, M.get, M.set, globV, methW, q73, q78, q77, q74, q76, q75, q82, q81, q84, q83, q80, q79, orAnd, andAnd, Callable, Tg.del, M.del, q91, q89, q90, q93, q94, q92, q11, q16, q15, q12, q14, q17, q13, q29, q30, q26, q24, q27, q25, q23, q28, q31, q32, q88, q86, q87, q67, q65, q66, q41, q39, q40, q43, q44, q42, q35, q33, q34, q37, q38, q36, q53, q51, q52, q55, q56, q54, q59, q57, q58, q61, q62, q60, q47, q45, q46, q49, q50, q48, q19, q18, q4, q3, q7, q2, q9, q10, q5, q6, q8, q21, q85, q64, q63, q70, q71, q72, q0, q1, q69, if_true, if_false, reduceIte, String.reduceEq, Bool.false_eq_true, true_and, and_true, List.zip_cons_cons, List.zip_nil_right, HM.set_same, Bool.not_true, beq_self_eq_true, bq_tf, bq_ft, bq_xt, bq_xf, Bool.not_false, reduceCtorEq, decide_true, decide_false])
  unfold b_law_s4
  (simp only [q136, q135, q127, q126, q133, q128, q132, q130, q129, q134, q131, q117, q114, q111, q107, q108, q113, q103, q118, q119, q104, q109, q110, q120, q121, q115, q105, q106, q116, q112, q142, q137, q139, q140, q141, q143, q138, q97, q95, q96, q99, q98, q100, q123, q122, q124, q125, q101, q102, M.get, M.set, globV, methW, q73, q78, q77, q74, q76, q75, q82, q81, q84, q83, q80, q79, orAnd, andAnd, Callable, Tg.del, M.del, q91, q89, q90, q93, q94, q92, q11, q16, q15, q12, q14, q17, q13, q29, q30, q26, q24, q27, q25, q23, q28, q31, q32, q88, q86, q87, q67, q65, q66, q41, q39, q40, q43, q44, q42, q35, q33, q34, q37, q38, q36, q53, q51, q52, q55, q56, q54, q59, q57, q58, q61, q62, q60, q47, q45, q46, q49, q50, q48, q19, q18, q4, q3, q7, q2, q9, q10, q5, q6, q8, q21, q85, q64, q63, q70, q71, q72, q0, q1, q69, if_true, if_false, reduceIte, String.reduceEq, Bool.false_eq_true, true_and, and_true, List.zip_cons_cons, List.zip_nil_right, HM.set_same, Bool.not_true, beq_self_eq_true, bq_tf, bq_ft, bq_xt, bq_xf, Bool.not_false, reduceCtorEq, decide_true, decide_false])
  obtain ⟨H0, hH0⟩ : ∃ H0 : HM, H0 = HM.set (fun _ => none) a (.list (xs.map two)) := ⟨_, rfl⟩
  have hH0a : H0 a = some (.list (xs.map two)) := by rw [hH0, HM.set_same]
  rw [← hH0]
  clear hH0 ha
  refine forW_inv (fun ys m H => ∃ (rest : List (Int × Int)) (w : Int), ys = rest.map two ∧ foldMax w rest = foldMax 0 xs ∧ H = H0 ∧
    M.le [("_law_script", V.scr), ("_law_places", V.int p), ("_law_found", V.ref a), ("_law_most", V.int w)] m) ?_ ?_ _ _ _ ⟨xs, 0, rfl, rfl, rfl, M.le.refl _⟩
  · rintro x ys m H ⟨rest, w, e, hw, rfl, hm⟩ K hK hR
    cases rest with
    | nil => cases e
    | cons r rest =>
      cases e
      refine ⟨_, _, hm, HM.le.refl _, ?_⟩
      simp only [two]
      (simp only [q136, q135, q127, q126, q133, q128, q132, q130, q129, q134, q131, q117, q114, q111, q107, q108, q113, q103, q118, q119, q104, q109, q110, q120, q121, q115, q105, q106, q116, q112, q142, q137, q139, q140, q141, q143, q138, q97, q95, q96, q99, q98, q100, q123, q122, q124, q125, q101, q102, M.get, M.set, globV, methW, q73, q78, q77, q74, q76, q75, q82, q81, q84, q83, q80, q79, orAnd, andAnd, Callable, Tg.del, M.del, q91, q89, q90, q93, q94, q92, q11, q16, q15, q12, q14, q17, q13, q29, q30, q26, q24, q27, q25, q23, q28, q31, q32, q88, q86, q87, q67, q65, q66, q41, q39, q40, q43, q44, q42, q35, q33, q34, q37, q38, q36, q53, q51, q52, q55, q56, q54, q59, q57, q58, q61, q62, q60, q47, q45, q46, q49, q50, q48, q19, q18, q4, q3, q7, q2, q9, q10, q5, q6, q8, q21, q85, q64, q63, q70, q71, q72, q0, q1, q69, if_true, if_false, reduceIte, String.reduceEq, Bool.false_eq_true, true_and, and_true, List.zip_cons_cons, List.zip_nil_right, HM.set_same, Bool.not_true, beq_self_eq_true, bq_tf, bq_ft, bq_xt, bq_xf, Bool.not_false, reduceCtorEq, decide_true, decide_false])
      refine ⟨by decide, by decide, hK _ _ hH0a ⟨rest, _, rfl, hw, rfl, by ((repeat' (first | exact M.le_nil _ | refine M.le_cons ?_ ?_)) <;> first | (simp only [M.get, M.set, if_true, if_false, reduceIte, String.reduceEq, reduceCtorEq]; done) | (simp [M.get, M.set]; done))⟩⟩
  rintro m H ⟨rest, w, e, hw, rfl, hm⟩
  cases rest with
  | cons r rest => cases e
  | nil =>
    have hw : w = foldMax 0 xs := hw
    subst hw
    refine ⟨_, _, hm, HM.le.refl _, ?_⟩
    clear e hm m
    unfold b_law_s5
    (simp only [q136, q135, q127, q126, q133, q128, q132, q130, q129, q134, q131, q117, q114, q111, q107, q108, q113, q103, q118, q119, q104, q109, q110, q120, q121, q115, q105, q106, q116, q112, q142, q137, q139, q140, q141, q143, q138, q97, q95, q96, q99, q98, q100, q123, q122, q124, q125, q101, q102, M.get, M.set, globV, methW, q73, q78, q77, q74, q76, q75, q82, q81, q84, q83, q80, q79, orAnd, andAnd, Callable, Tg.del, M.del, q91, q89, q90, q93, q94, q92, q11, q16, q15, q12, q14, q17, q13, q29, q30, q26, q24, q27, q25, q23, q28, q31, q32, q88, q86, q87, q67, q65, q66, q41, q39, q40, q43, q44, q42, q35, q33, q34, q37, q38, q36, q53, q51, q52, q55, q56, q54, q59, q57, q58, q61, q62, q60, q47, q45, q46, q49, q50, q48, q19, q18, q4, q3, q7, q2, q9, q10, q5, q6, q8, q21, q85, q64, q63, q70, q71, q72, q0, q1, q69, if_true, if_false, reduceIte, String.reduceEq, Bool.false_eq_true, true_and, and_true, List.zip_cons_cons, List.zip_nil_right, HM.set_same, Bool.not_true, beq_self_eq_true, bq_tf, bq_ft, bq_xt, bq_xf, Bool.not_false, reduceCtorEq, decide_true, decide_false])
    rw [hH0a]
    refine ⟨hsz _ (by simp; omega), ?_⟩
    refine sp_places_of E Dpo (hsz _ (by omega)) ?_
    rw [foldMax_maxD fun x hx => by have := hin x hx; omega]
    unfold b_law_s6
    (simp only [q136, q135, q127, q126, q133, q128, q132, q130, q129, q134, q131, q117, q114, q111, q107, q108, q113, q103, q118, q119, q104, q109, q110, q120, q121, q115, q105, q106, q116, q112, q142, q137, q139, q140, q141, q143, q138, q97, q95, q96, q99, q98, q100, q123, q122, q124, q125, q101, q102, M.get, M.set, globV, methW, q73, q78, q77, q74, q76, q75, q82, q81, q84, q83, q80, q79, orAnd, andAnd, Callable, Tg.del, M.del, q91, q89, q90, q93, q94, q92, q11, q16, q15, q12, q14, q17, q13, q29, q30, q26, q24, q27, q25, q23, q28, q31, q32, q88, q86, q87, q67, q65, q66, q41, q39, q40, q43, q44, q42, q35, q33, q34, q37, q38, q36, q53, q51, q52, q55, q56, q54, q59, q57, q58, q61, q62, q60, q47, q45, q46, q49, q50, q48, q19, q18, q4, q3, q7, q2, q9, q10, q5, q6, q8, q21, q85, q64, q63, q70, q71, q72, q0, q1, q69, if_true, if_false, reduceIte, String.reduceEq, Bool.false_eq_true, true_and, and_true, List.zip_cons_cons, List.zip_nil_right, HM.set_same, Bool.not_true, beq_self_eq_true, bq_tf, bq_ft, bq_xt, bq_xf, Bool.not_false, reduceCtorEq, decide_true, decide_false])
    refine sp_whole E Dwh ?_
    (simp only [q136, q135, q127, q126, q133, q128, q132, q130, q129, q134, q131, q117, q114, q111, q107, q108, q113, q103, q118, q119, q104, q109, q110, q120, q121, q115, q105, q106, q116, q112, q142, q137, q139, q140, q141, q143, q138, q97, q95, q96, q99, q98, q100, q123, q122, q124, q125, q101, q102, M.get, M.set, globV, methW, q73, q78, q77, q74, q76, q75, q82, q81, q84, q83, q80, q79, orAnd, andAnd, Callable, Tg.del, M.del, q91, q89, q90, q93, q94, q92, q11, q16, q15, q12, q14, q17, q13, q29, q30, q26, q24, q27, q25, q23, q28, q31, q32, q88, q86, q87, q67, q65, q66, q41, q39, q40, q43, q44, q42, q35, q33, q34, q37, q38, q36, q53, q51, q52, q55, q56, q54, q59, q57, q58, q61, q62, q60, q47, q45, q46, q49, q50, q48, q19, q18, q4, q3, q7, q2, q9, q10, q5, q6, q8, q21, q85, q64, q63, q70, q71, q72, q0, q1, q69, if_true, if_false, reduceIte, String.reduceEq, Bool.false_eq_true, true_and, and_true, List.zip_cons_cons, List.zip_nil_right, HM.set_same, Bool.not_true, beq_self_eq_true, bq_tf, bq_ft, bq_xt, bq_xf, Bool.not_false, reduceCtorEq, decide_true, decide_false])
    rw [show (foldMax 0 xs != foldMax 0 xs) = false by simp]
    (simp only [q136, q135, q127, q126, q133, q128, q132, q130, q129, q134, q131, q117, q114, q111, q107, q108, q113, q103, q118, q119, q104, q109, q110, q120, q121, q115, q105, q106, q116, q112, q142, q137, q139, q140, q141, q143, q138, q97, q95, q96, q99, q98, q100, q123, q122, q124, q125, q101, q102, M.get, M.set, globV, methW, q73, q78, q77, q74, q76, q75, q82, q81, q84, q83, q80, q79, orAnd, andAnd, Callable, Tg.del, M.del, q91, q89, q90, q93, q94, q92, q11, q16, q15, q12, q14, q17, q13, q29, q30, q26, q24, q27, q25, q23, q28, q31, q32, q88, q86, q87, q67, q65, q66, q41, q39, q40, q43, q44, q42, q35, q33, q34, q37, q38, q36, q53, q51, q52, q55, q56, q54, q59, q57, q58, q61, q62, q60, q47, q45, q46, q49, q50, q48, q19, q18, q4, q3, q7, q2, q9, q10, q5, q6, q8, q21, q85, q64, q63, q70, q71, q72, q0, q1, q69, if_true, if_false, reduceIte, String.reduceEq, Bool.false_eq_true, true_and, and_true, List.zip_cons_cons, List.zip_nil_right, HM.set_same, Bool.not_true, beq_self_eq_true, bq_tf, bq_ft, bq_xt, bq_xf, Bool.not_false, reduceCtorEq, decide_true, decide_false])
    unfold b_law_s7
    (simp only [q136, q135, q127, q126, q133, q128, q132, q130, q129, q134, q131, q117, q114, q111, q107, q108, q113, q103, q118, q119, q104, q109, q110, q120, q121, q115, q105, q106, q116, q112, q142, q137, q139, q140, q141, q143, q138, q97, q95, q96, q99, q98, q100, q123, q122, q124, q125, q101, q102, M.get, M.set, globV, methW, q73, q78, q77, q74, q76, q75, q82, q81, q84, q83, q80, q79, orAnd, andAnd, Callable, Tg.del, M.del, q91, q89, q90, q93, q94, q92, q11, q16, q15, q12, q14, q17, q13, q29, q30, q26, q24, q27, q25, q23, q28, q31, q32, q88, q86, q87, q67, q65, q66, q41, q39, q40, q43, q44, q42, q35, q33, q34, q37, q38, q36, q53, q51, q52, q55, q56, q54, q59, q57, q58, q61, q62, q60, q47, q45, q46, q49, q50, q48, q19, q18, q4, q3, q7, q2, q9, q10, q5, q6, q8, q21, q85, q64, q63, q70, q71, q72, q0, q1, q69, if_true, if_false, reduceIte, String.reduceEq, Bool.false_eq_true, true_and, and_true, List.zip_cons_cons, List.zip_nil_right, HM.set_same, Bool.not_true, beq_self_eq_true, bq_tf, bq_ft, bq_xt, bq_xf, Bool.not_false, reduceCtorEq, decide_true, decide_false])
    refine sp_mixed E Dmix ?_
    unfold b_law_s8
    (simp only [q136, q135, q127, q126, q133, q128, q132, q130, q129, q134, q131, q117, q114, q111, q107, q108, q113, q103, q118, q119, q104, q109, q110, q120, q121, q115, q105, q106, q116, q112, q142, q137, q139, q140, q141, q143, q138, q97, q95, q96, q99, q98, q100, q123, q122, q124, q125, q101, q102, M.get, M.set, globV, methW, q73, q78, q77, q74, q76, q75, q82, q81, q84, q83, q80, q79, orAnd, andAnd, Callable, Tg.del, M.del, q91, q89, q90, q93, q94, q92, q11, q16, q15, q12, q14, q17, q13, q29, q30, q26, q24, q27, q25, q23, q28, q31, q32, q88, q86, q87, q67, q65, q66, q41, q39, q40, q43, q44, q42, q35, q33, q34, q37, q38, q36, q53, q51, q52, q55, q56, q54, q59, q57, q58, q61, q62, q60, q47, q45, q46, q49, q50, q48, q19, q18, q4, q3, q7, q2, q9, q10, q5, q6, q8, q21, q85, q64, q63, q70, q71, q72, q0, q1, q69, if_true, if_false, reduceIte, String.reduceEq, Bool.false_eq_true, true_and, and_true, List.zip_cons_cons, List.zip_nil_right, HM.set_same, Bool.not_true, beq_self_eq_true, bq_tf, bq_ft, bq_xt, bq_xf, Bool.not_false, reduceCtorEq, decide_true, decide_false])
    rw [hH0a]
    (simp only [q136, q135, q127, q126, q133, q128, q132, q130, q129, q134, q131, q117, q114, q111, q107, q108, q113, q103, q118, q119, q104, q109, q110, q120, q121, q115, q105, q106, q116, q112, q142, q137, q139, q140, q141, q143, q138, q97, q95, q96, q99, q98, q100, q123, q122, q124, q125, q101, q102, M.get, M.set, globV, methW, q73, q78, q77, q74, q76, q75, q82, q81, q84, q83, q80, q79, orAnd, andAnd, Callable, Tg.del, M.del, q91, q89, q90, q93, q94, q92, q11, q16, q15, q12, q14, q17, q13, q29, q30, q26, q24, q27, q25, q23, q28, q31, q32, q88, q86, q87, q67, q65, q66, q41, q39, q40, q43, q44, q42, q35, q33, q34, q37, q38, q36, q53, q51, q52, q55, q56, q54, q59, q57, q58, q61, q62, q60, q47, q45, q46, q49, q50, q48, q19, q18, q4, q3, q7, q2, q9, q10, q5, q6, q8, q21, q85, q64, q63, q70, q71, q72, q0, q1, q69, if_true, if_false, reduceIte, String.reduceEq, Bool.false_eq_true, true_and, and_true, List.zip_cons_cons, List.zip_nil_right, HM.set_same, Bool.not_true, beq_self_eq_true, bq_tf, bq_ft, bq_xt, bq_xf, Bool.not_false, reduceCtorEq, decide_true, decide_false])
    refine ⟨Nat.lt_of_le_of_lt (by simp; omega : _ ≤ 12) (by decide), ?_⟩
    have hc1 := @compareBy_range (mixed c.ns 2) p hp.1
    have hcut : ∀ (b : Bool), b = decide (0 < ((xs.map two).length : Int)) → (b = true → (xs.map two).all (cmpV (foldMax 0 xs - 1)) = false) := by
      intro b hb hb'
      rw [hb'] at hb
      cases xs with
      | nil => simp at hb
      | cons x r =>
        obtain ⟨y, hy, e⟩ := foldMax_first x r (by have := hin x (by simp); omega)
        exact not_two hy (by omega)
    have hcut' := hcut _ rfl
    generalize decide (0 < ((xs.map two).length : Int)) = b at hcut' ⊢
    cases b
    case' true =>
      (simp only [q136, q135, q127, q126, q133, q128, q132, q130, q129, q134, q131, q117, q114, q111, q107, q108, q113, q103, q118, q119, q104, q109, q110, q120, q121, q115, q105, q106, q116, q112, q142, q137, q139, q140, q141, q143, q138, q97, q95, q96, q99, q98, q100, q123, q122, q124, q125, q101, q102, M.get, M.set, globV, methW, q73, q78, q77, q74, q76, q75, q82, q81, q84, q83, q80, q79, orAnd, andAnd, Callable, Tg.del, M.del, q91, q89, q90, q93, q94, q92, q11, q16, q15, q12, q14, q17, q13, q29, q30, q26, q24, q27, q25, q23, q28, q31, q32, q88, q86, q87, q67, q65, q66, q41, q39, q40, q43, q44, q42, q35, q33, q34, q37, q38, q36, q53, q51, q52, q55, q56, q54, q59, q57, q58, q61, q62, q60, q47, q45, q46, q49, q50, q48, q19, q18, q4, q3, q7, q2, q9, q10, q5, q6, q8, q21, q85, q64, q63, q70, q71, q72, q0, q1, q69, if_true, if_false, reduceIte, String.reduceEq, Bool.false_eq_true, true_and, and_true, List.zip_cons_cons, List.zip_nil_right, HM.set_same, Bool.not_true, beq_self_eq_true, bq_tf, bq_ft, bq_xt, bq_xf, Bool.not_false, reduceCtorEq, decide_true, decide_false])
      refine ⟨hsz _ (by simp; omega), ?_⟩
      refine sp_is_program_tup E Dpl Dcm Dpr (d := 297) (hsz _ (by simp; omega)) flat2_two ?_
      rw [hcut' rfl]
      (simp only [q136, q135, q127, q126, q133, q128, q132, q130, q129, q134, q131, q117, q114, q111, q107, q108, q113, q103, q118, q119, q104, q109, q110, q120, q121, q115, q105, q106, q116, q112, q142, q137, q139, q140, q141, q143, q138, q97, q95, q96, q99, q98, q100, q123, q122, q124, q125, q101, q102, M.get, M.set, globV, methW, q73, q78, q77, q74, q76, q75, q82, q81, q84, q83, q80, q79, orAnd, andAnd, Callable, Tg.del, M.del, q91, q89, q90, q93, q94, q92, q11, q16, q15, q12, q14, q17, q13, q29, q30, q26, q24, q27, q25, q23, q28, q31, q32, q88, q86, q87, q67, q65, q66, q41, q39, q40, q43, q44, q42, q35, q33, q34, q37, q38, q36, q53, q51, q52, q55, q56, q54, q59, q57, q58, q61, q62, q60, q47, q45, q46, q49, q50, q48, q19, q18, q4, q3, q7, q2, q9, q10, q5, q6, q8, q21, q85, q64, q63, q70, q71, q72, q0, q1, q69, if_true, if_false, reduceIte, String.reduceEq, Bool.false_eq_true, true_and, and_true, List.zip_cons_cons, List.zip_nil_right, HM.set_same, Bool.not_true, beq_self_eq_true, bq_tf, bq_ft, bq_xt, bq_xf, Bool.not_false, reduceCtorEq, decide_true, decide_false])
    case' false => (simp only [q136, q135, q127, q126, q133, q128, q132, q130, q129, q134, q131, q117, q114, q111, q107, q108, q113, q103, q118, q119, q104, q109, q110, q120, q121, q115, q105, q106, q116, q112, q142, q137, q139, q140, q141, q143, q138, q97, q95, q96, q99, q98, q100, q123, q122, q124, q125, q101, q102, M.get, M.set, globV, methW, q73, q78, q77, q74, q76, q75, q82, q81, q84, q83, q80, q79, orAnd, andAnd, Callable, Tg.del, M.del, q91, q89, q90, q93, q94, q92, q11, q16, q15, q12, q14, q17, q13, q29, q30, q26, q24, q27, q25, q23, q28, q31, q32, q88, q86, q87, q67, q65, q66, q41, q39, q40, q43, q44, q42, q35, q33, q34, q37, q38, q36, q53, q51, q52, q55, q56, q54, q59, q57, q58, q61, q62, q60, q47, q45, q46, q49, q50, q48, q19, q18, q4, q3, q7, q2, q9, q10, q5, q6, q8, q21, q85, q64, q63, q70, q71, q72, q0, q1, q69, if_true, if_false, reduceIte, String.reduceEq, Bool.false_eq_true, true_and, and_true, List.zip_cons_cons, List.zip_nil_right, HM.set_same, Bool.not_true, beq_self_eq_true, bq_tf, bq_ft, bq_xt, bq_xf, Bool.not_false, reduceCtorEq, decide_true, decide_false])
    all_goals
      unfold b_law_s9
      (simp only [q136, q135, q127, q126, q133, q128, q132, q130, q129, q134, q131, q117, q114, q111, q107, q108, q113, q103, q118, q119, q104, q109, q110, q120, q121, q115, q105, q106, q116, q112, q142, q137, q139, q140, q141, q143, q138, q97, q95, q96, q99, q98, q100, q123, q122, q124, q125, q101, q102, M.get, M.set, globV, methW, q73, q78, q77, q74, q76, q75, q82, q81, q84, q83, q80, q79, orAnd, andAnd, Callable, Tg.del, M.del, q91, q89, q90, q93, q94, q92, q11, q16, q15, q12, q14, q17, q13, q29, q30, q26, q24, q27, q25, q23, q28, q31, q32, q88, q86, q87, q67, q65, q66, q41, q39, q40, q43, q44, q42, q35, q33, q34, q37, q38, q36, q53, q51, q52, q55, q56, q54, q59, q57, q58, q61, q62, q60, q47, q45, q46, q49, q50, q48, q19, q18, q4, q3, q7, q2, q9, q10, q5, q6, q8, q21, q85, q64, q63, q70, q71, q72, q0, q1, q69, if_true, if_false, reduceIte, String.reduceEq, Bool.false_eq_true, true_and, and_true, List.zip_cons_cons, List.zip_nil_right, HM.set_same, Bool.not_true, beq_self_eq_true, bq_tf, bq_ft, bq_xt, bq_xf, Bool.not_false, reduceCtorEq, decide_true, decide_false])
      rw [hH0a]
      (simp only [q136, q135, q127, q126, q133, q128, q132, q130, q129, q134, q131, q117, q114, q111, q107, q108, q113, q103, q118, q119, q104, q109, q110, q120, q121, q115, q105, q106, q116, q112, q142, q137, q139, q140, q141, q143, q138, q97, q95, q96, q99, q98, q100, q123, q122, q124, q125, q101, q102, M.get, M.set, globV, methW, q73, q78, q77, q74, q76, q75, q82, q81, q84, q83, q80, q79, orAnd, andAnd, Callable, Tg.del, M.del, q91, q89, q90, q93, q94, q92, q11, q16, q15, q12, q14, q17, q13, q29, q30, q26, q24, q27, q25, q23, q28, q31, q32, q88, q86, q87, q67, q65, q66, q41, q39, q40, q43, q44, q42, q35, q33, q34, q37, q38, q36, q53, q51, q52, q55, q56, q54, q59, q57, q58, q61, q62, q60, q47, q45, q46, q49, q50, q48, q19, q18, q4, q3, q7, q2, q9, q10, q5, q6, q8, q21, q85, q64, q63, q70, q71, q72, q0, q1, q69, if_true, if_false, reduceIte, String.reduceEq, Bool.false_eq_true, true_and, and_true, List.zip_cons_cons, List.zip_nil_right, HM.set_same, Bool.not_true, beq_self_eq_true, bq_tf, bq_ft, bq_xt, bq_xf, Bool.not_false, reduceCtorEq, decide_true, decide_false])
      refine ⟨hsz _ (by simp; omega), fun b hb => ?_⟩
      have hba : b ≠ a := fun q => by rw [q, hH0a] at hb; cases hb
      refine sp_is_program_no E Dpr (by rw [q60, HM.set_same]) ?_
      (simp only [q136, q135, q127, q126, q133, q128, q132, q130, q129, q134, q131, q117, q114, q111, q107, q108, q113, q103, q118, q119, q104, q109, q110, q120, q121, q115, q105, q106, q116, q112, q142, q137, q139, q140, q141, q143, q138, q97, q95, q96, q99, q98, q100, q123, q122, q124, q125, q101, q102, M.get, M.set, globV, methW, q73, q78, q77, q74, q76, q75, q82, q81, q84, q83, q80, q79, orAnd, andAnd, Callable, Tg.del, M.del, q91, q89, q90, q93, q94, q92, q11, q16, q15, q12, q14, q17, q13, q29, q30, q26, q24, q27, q25, q23, q28, q31, q32, q88, q86, q87, q67, q65, q66, q41, q39, q40, q43, q44, q42, q35, q33, q34, q37, q38, q36, q53, q51, q52, q55, q56, q54, q59, q57, q58, q61, q62, q60, q47, q45, q46, q49, q50, q48, q19, q18, q4, q3, q7, q2, q9, q10, q5, q6, q8, q21, q85, q64, q63, q70, q71, q72, q0, q1, q69, if_true, if_false, reduceIte, String.reduceEq, Bool.false_eq_true, true_and, and_true, List.zip_cons_cons, List.zip_nil_right, HM.set_same, Bool.not_true, beq_self_eq_true, bq_tf, bq_ft, bq_xt, bq_xf, Bool.not_false, reduceCtorEq, decide_true, decide_false])
      refine sp_is_program_no E Dpr rfl ?_
      (simp only [q136, q135, q127, q126, q133, q128, q132, q130, q129, q134, q131, q117, q114, q111, q107, q108, q113, q103, q118, q119, q104, q109, q110, q120, q121, q115, q105, q106, q116, q112, q142, q137, q139, q140, q141, q143, q138, q97, q95, q96, q99, q98, q100, q123, q122, q124, q125, q101, q102, M.get, M.set, globV, methW, q73, q78, q77, q74, q76, q75, q82, q81, q84, q83, q80, q79, orAnd, andAnd, Callable, Tg.del, M.del, q91, q89, q90, q93, q94, q92, q11, q16, q15, q12, q14, q17, q13, q29, q30, q26, q24, q27, q25, q23, q28, q31, q32, q88, q86, q87, q67, q65, q66, q41, q39, q40, q43, q44, q42, q35, q33, q34, q37, q38, q36, q53, q51, q52, q55, q56, q54, q59, q57, q58, q61, q62, q60, q47, q45, q46, q49, q50, q48, q19, q18, q4, q3, q7, q2, q9, q10, q5, q6, q8, q21, q85, q64, q63, q70, q71, q72, q0, q1, q69, if_true, if_false, reduceIte, String.reduceEq, Bool.false_eq_true, true_and, and_true, List.zip_cons_cons, List.zip_nil_right, HM.set_same, Bool.not_true, beq_self_eq_true, bq_tf, bq_ft, bq_xt, bq_xf, Bool.not_false, reduceCtorEq, decide_true, decide_false])
      unfold b_law_s10
      (simp only [q136, q135, q127, q126, q133, q128, q132, q130, q129, q134, q131, q117, q114, q111, q107, q108, q113, q103, q118, q119, q104, q109, q110, q120, q121, q115, q105, q106, q116, q112, q142, q137, q139, q140, q141, q143, q138, q97, q95, q96, q99, q98, q100, q123, q122, q124, q125, q101, q102, M.get, M.set, globV, methW, q73, q78, q77, q74, q76, q75, q82, q81, q84, q83, q80, q79, orAnd, andAnd, Callable, Tg.del, M.del, q91, q89, q90, q93, q94, q92, q11, q16, q15, q12, q14, q17, q13, q29, q30, q26, q24, q27, q25, q23, q28, q31, q32, q88, q86, q87, q67, q65, q66, q41, q39, q40, q43, q44, q42, q35, q33, q34, q37, q38, q36, q53, q51, q52, q55, q56, q54, q59, q57, q58, q61, q62, q60, q47, q45, q46, q49, q50, q48, q19, q18, q4, q3, q7, q2, q9, q10, q5, q6, q8, q21, q85, q64, q63, q70, q71, q72, q0, q1, q69, if_true, if_false, reduceIte, String.reduceEq, Bool.false_eq_true, true_and, and_true, List.zip_cons_cons, List.zip_nil_right, HM.set_same, Bool.not_true, beq_self_eq_true, bq_tf, bq_ft, bq_xt, bq_xf, Bool.not_false, reduceCtorEq, decide_true, decide_false])
      refine sp_compare_by E Dby hp.1 ?_
      unfold b_law_s11
      (simp only [q136, q135, q127, q126, q133, q128, q132, q130, q129, q134, q131, q117, q114, q111, q107, q108, q113, q103, q118, q119, q104, q109, q110, q120, q121, q115, q105, q106, q116, q112, q142, q137, q139, q140, q141, q143, q138, q97, q95, q96, q99, q98, q100, q123, q122, q124, q125, q101, q102, M.get, M.set, globV, methW, q73, q78, q77, q74, q76, q75, q82, q81, q84, q83, q80, q79, orAnd, andAnd, Callable, Tg.del, M.del, q91, q89, q90, q93, q94, q92, q11, q16, q15, q12, q14, q17, q13, q29, q30, q26, q24, q27, q25, q23, q28, q31, q32, q88, q86, q87, q67, q65, q66, q41, q39, q40, q43, q44, q42, q35, q33, q34, q37, q38, q36, q53, q51, q52, q55, q56, q54, q59, q57, q58, q61, q62, q60, q47, q45, q46, q49, q50, q48, q19, q18, q4, q3, q7, q2, q9, q10, q5, q6, q8, q21, q85, q64, q63, q70, q71, q72, q0, q1, q69, if_true, if_false, reduceIte, String.reduceEq, Bool.false_eq_true, true_and, and_true, List.zip_cons_cons, List.zip_nil_right, HM.set_same, Bool.not_true, beq_self_eq_true, bq_tf, bq_ft, bq_xt, bq_xf, Bool.not_false, reduceCtorEq, decide_true, decide_false])
      have hHa : (H.set b (.list (xs.map two))) a = some (.list (xs.map two)) := by rw [HM.set_ne _ _ (Ne.symm hba)]; exact hH0a
      rw [hHa]
      (simp only [q136, q135, q127, q126, q133, q128, q132, q130, q129, q134, q131, q117, q114, q111, q107, q108, q113, q103, q118, q119, q104, q109, q110, q120, q121, q115, q105, q106, q116, q112, q142, q137, q139, q140, q141, q143, q138, q97, q95, q96, q99, q98, q100, q123, q122, q124, q125, q101, q102, M.get, M.set, globV, methW, q73, q78, q77, q74, q76, q75, q82, q81, q84, q83, q80, q79, orAnd, andAnd, Callable, Tg.del, M.del, q91, q89, q90, q93, q94, q92, q11, q16, q15, q12, q14, q17, q13, q29, q30, q26, q24, q27, q25, q23, q28, q31, q32, q88, q86, q87, q67, q65, q66, q41, q39, q40, q43, q44, q42, q35, q33, q34, q37, q38, q36, q53, q51, q52, q55, q56, q54, q59, q57, q58, q61, q62, q60, q47, q45, q46, q49, q50, q48, q19, q18, q4, q3, q7, q2, q9, q10, q5, q6, q8, q21, q85, q64, q63, q70, q71, q72, q0, q1, q69, if_true, if_false, reduceIte, String.reduceEq, Bool.false_eq_true, true_and, and_true, List.zip_cons_cons, List.zip_nil_right, HM.set_same, Bool.not_true, beq_self_eq_true, bq_tf, bq_ft, bq_xt, bq_xf, Bool.not_false, reduceCtorEq, decide_true, decide_false])
      refine ⟨by decide, by decide, Nat.lt_of_le_of_lt (by simp; omega : _ ≤ 12) (by decide), by omega, ?_⟩
      refine sp_odd E Dodd hc1.1 hc1.2.1 hc1.2.2 (by omega) fun v H' hle hf hv => ?_
      rw [hle _ _ hHa]
      (simp only [q136, q135, q127, q126, q133, q128, q132, q130, q129, q134, q131, q117, q114, q111, q107, q108, q113, q103, q118, q119, q104, q109, q110, q120, q121, q115, q105, q106, q116, q112, q142, q137, q139, q140, q141, q143, q138, q97, q95, q96, q99, q98, q100, q123, q122, q124, q125, q101, q102, M.get, M.set, globV, methW, q73, q78, q77, q74, q76, q75, q82, q81, q84, q83, q80, q79, orAnd, andAnd, Callable, Tg.del, M.del, q91, q89, q90, q93, q94, q92, q11, q16, q15, q12, q14, q17, q13, q29, q30, q26, q24, q27, q25, q23, q28, q31, q32, q88, q86, q87, q67, q65, q66, q41, q39, q40, q43, q44, q42, q35, q33, q34, q37, q38, q36, q53, q51, q52, q55, q56, q54, q59, q57, q58, q61, q62, q60, q47, q45, q46, q49, q50, q48, q19, q18, q4, q3, q7, q2, q9, q10, q5, q6, q8, q21, q85, q64, q63, q70, q71, q72, q0, q1, q69, if_true, if_false, reduceIte, String.reduceEq, Bool.false_eq_true, true_and, and_true, List.zip_cons_cons, List.zip_nil_right, HM.set_same, Bool.not_true, beq_self_eq_true, bq_tf, bq_ft, bq_xt, bq_xf, Bool.not_false, reduceCtorEq, decide_true, decide_false])
      have hr := @fmod_pos ((mixed c.ns 2).fdiv 60) (((xs.map two).length : Int) + 1) (by omega)
      have hr2 : ((xs.map two).length : Int) ≤ 12 := by simp; omega
      generalize ((mixed c.ns 2).fdiv 60).fmod (((xs.map two).length : Int) + 1) = i at hr ⊢
      refine ⟨hr.1, by omega, hsz _ (by simp; omega), ?_⟩
      unfold b_law_s12
      (simp only [q136, q135, q127, q126, q133, q128, q132, q130, q129, q134, q131, q117, q114, q111, q107, q108, q113, q103, q118, q119, q104, q109, q110, q120, q121, q115, q105, q106, q116, q112, q142, q137, q139, q140, q141, q143, q138, q97, q95, q96, q99, q98, q100, q123, q122, q124, q125, q101, q102, M.get, M.set, globV, methW, q73, q78, q77, q74, q76, q75, q82, q81, q84, q83, q80, q79, orAnd, andAnd, Callable, Tg.del, M.del, q91, q89, q90, q93, q94, q92, q11, q16, q15, q12, q14, q17, q13, q29, q30, q26, q24, q27, q25, q23, q28, q31, q32, q88, q86, q87, q67, q65, q66, q41, q39, q40, q43, q44, q42, q35, q33, q34, q37, q38, q36, q53, q51, q52, q55, q56, q54, q59, q57, q58, q61, q62, q60, q47, q45, q46, q49, q50, q48, q19, q18, q4, q3, q7, q2, q9, q10, q5, q6, q8, q21, q85, q64, q63, q70, q71, q72, q0, q1, q69, if_true, if_false, reduceIte, String.reduceEq, Bool.false_eq_true, true_and, and_true, List.zip_cons_cons, List.zip_nil_right, HM.set_same, Bool.not_true, beq_self_eq_true, bq_tf, bq_ft, bq_xt, bq_xf, Bool.not_false, reduceCtorEq, decide_true, decide_false])
      refine ⟨hsz _ (by simp [insAt]; omega), ?_⟩
      refine sp_is_program_tup E Dpl Dcm Dpr (d := 297) (hsz _ (by simp [insAt]; omega)) (fun u hu => ?_) ?_
      · unfold insAt at hu
        rcases List.mem_append.mp hu with q | q
        · exact flat2_two u (List.mem_of_mem_take q)
        · rcases List.mem_cons.mp q with q | q
          · rw [q]; exact flat2_set _ _ hf
          · exact flat2_two u (List.mem_of_mem_drop q)
      · have : (insAt (xs.map two) i.toNat v).all (cmpV p) = false := by
          rw [List.all_eq_false]
          exact ⟨v, by simp [insAt], by simp [hv]⟩
        rw [this]
        (simp only [q136, q135, q127, q126, q133, q128, q132, q130, q129, q134, q131, q117, q114, q111, q107, q108, q113, q103, q118, q119, q104, q109, q110, q120, q121, q115, q105, q106, q116, q112, q142, q137, q139, q140, q141, q143, q138, q97, q95, q96, q99, q98, q100, q123, q122, q124, q125, q101, q102, M.get, M.set, globV, methW, q73, q78, q77, q74, q76, q75, q82, q81, q84, q83, q80, q79, orAnd, andAnd, Callable, Tg.del, M.del, q91, q89, q90, q93, q94, q92, q11, q16, q15, q12, q14, q17, q13, q29, q30, q26, q24, q27, q25, q23, q28, q31, q32, q88, q86, q87, q67, q65, q66, q41, q39, q40, q43, q44, q42, q35, q33, q34, q37, q38, q36, q53, q51, q52, q55, q56, q54, q59, q57, q58, q61, q62, q60, q47, q45, q46, q49, q50, q48, q19, q18, q4, q3, q7, q2, q9, q10, q5, q6, q8, q21, q85, q64, q63, q70, q71, q72, q0, q1, q69, if_true, if_false, reduceIte, String.reduceEq, Bool.false_eq_true, true_and, and_true, List.zip_cons_cons, List.zip_nil_right, HM.set_same, Bool.not_true, beq_self_eq_true, bq_tf, bq_ft, bq_xt, bq_xf, Bool.not_false, reduceCtorEq, decide_true, decide_false])
end Mine

open PySem PySem.W PyProof.Rows in
set_option maxRecDepth 100000 in
set_option maxHeartbeats 8000000 in
theorem PySem.Challenge.cw_uf040001_01_holds : PySem.Challenge.rw_uf040001_01.Holds := by
  w_on
  o_law
  k_head
  (case hw => w_witness2)
  k_fill
  intro w s₀ s₁ mg mb G Y fa o pm cd doc dV kV ho hd hcd hD hmg hg args vals as hpre hlay hrd hwl hlo
  have KX := kIn_of Y
  refine Ground.open G ?_
  intro T B D TE TW
  wrow_args hpre hlay hrd hwl hlo
  rename_i hL _ _ _ hI _ h63 _
  refine enter_call ?_
  refine codeAny_mono ?_ (fun _ _ g => GoodW.toG g)
  refine Mine.entry (gn := Mine.theGlobs) (defs := Mine.theDefs) T (lb := Mine.b_law) (by simp [Mine.theDefs]) (by decide +kernel) hL hI (by omega) hmg (fun c hc hns hg D => Mine.law01 c hc hg D) ?_
  intro s' hb hs
  obtain ⟨h', tk, rfl⟩ := hs
  refine ⟨.inl ⟨_, .bool true, [], rfl, raisesW_false (by wrow_none_raised), .bool true, ?_, ?_⟩, hb, rfl, hg⟩
  · wrow_post
  · intro _; exact ⟨.nil, fun a ha => by cases ha⟩
