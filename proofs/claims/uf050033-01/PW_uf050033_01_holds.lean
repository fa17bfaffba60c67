import PyProof.Rows.All
import Wide.All
import Open.Boot
import Wide.FinOn
import PyProof.ExcQuiet
import PyProof.ExcClass3
import PyProof.StationsW
import PyProof.ExcArgsOwn
import PyProof.NsMap
import PyProof.Cells
import PyProof.ForAny
import PyProof.WalksMore
import PyProof.DictRoads
import PyProof.SliceList
import PyProof.Boot
import PyProof.Rules3
import PyProof.PureInt
import PyProof.NoPylong
import PyProof.FitsBits
import PyProof.Rows.RuleB_floordiv
import PyProof.Rows.RuleB_mod
import PyProof.Rows.RuleB_pow
import PyProof.Calls
import PyProof.CompFree
import PyProof.AttrMissSeq
import KE.KDictOf
import PyProof.WalkInts
import PyProof.Rows.CallKwBuiltin
import PyProof.Rows.SetFrom
import PyProof.SetRoads
import PyProof.Rows.TupAssign
import PyProof.Rows.SortWalk
import PyProof.IsiHeapPairs
import PyProof.Rows.Tup
import PyProof.TupleIter
import PyProof.Raises
import PyProof.TupleKey
import PyProof.DictRoadsH
import PyProof.TupleOfSeq
import PyProof.P3In
import PyProof.RulesTry
import PyProof.IsInstanceH
import PyProof.ExcBaseAll.ValueError
import PyProof.ExcAttrAll.ValueError
import PyProof.RulesAs
import PyProof.Rows.RuleN_isinstance
import PyProof.IsiPairs
import PyProof.IsiNone
import PyProof.AutoSeq1
import PyProof.Conv_bool
import PyProof.Conv_int_bool
import PyProof.Rows.StrRules
import PyProof.EqKinds
import PySem.Challenge.RW_uf050033_01
set_option Elab.async false
set_option compiler.extract_closed false
-- Core33
set_option linter.unusedVariables false
set_option linter.unusedSimpArgs false
set_option maxRecDepth 100000
namespace Mine
open PySem PySem.W PySem.Calls PyProof.Rows

/-! ## own classes of errors -/
def calmNames : List Str := ["__init__", "__getattribute__", "__getattr__", "args", "__class__"]
def bmV : List Value := [.type "ValueError", .type "Exception", .type "BaseException", .type "object"]
def XC (h : Heap) (C : Addr) (up : List Value) : Prop :=
  ∃ N nm q bs hdct sn sub ab col dd k0 k1 k2 k3 k5 mN, h.get? C = some (excClassObj nm q C N bs up hdct sn sub ab col dd k0 k1 k2 k3 k5 "ValueError.__new__") ∧ h.Ns N mN ∧ ∀ n ∈ calmNames, mN n = none
theorem XC.keeps {h h' : Heap} {C : Addr} {up : List Value} (x : XC h C up) (k : ∀ b o, h.get? b = some o → h'.get? b = some o) : XC h' C up :=
  by
  obtain ⟨N, nm, q, bs, hdct, sn, sub, ab, col, dd, k0, k1, k2, k3, k5, mN, hC, hN, hq⟩ := x
  exact ⟨N, nm, q, bs, hdct, sn, sub, ab, col, dd, k0, k1, k2, k3, k5, mN, k _ _ hC, hN.keeps k, hq⟩
def calmOk (h : Heap) (name : Str) : Bool :=
  match h.clsAt mainGlobals name with
  | some (_, _, cd) => calmNames.all fun n => (h.nsMap cd.ns n).isNone
  | none => false
theorem xc_of_ok {h : Heap} {name : Str} {chain : List Str} (x : h.ownExcOk name chain bmV "ValueError.__new__" = true) (y : calmOk h name = true) :
    ∃ C, h.nsMap mainGlobals name = some (.ref C) ∧ XC h C ((chain.map fun n => (h.nsMap mainGlobals n).getD .none) ++ bmV) := by
  obtain ⟨C, N, nm, q, bs, hdct, sn, sub, ab, col, dd, k0, k1, k2, k3, k5, hb, hC, hN, _⟩ := Heap.ownExc_of_ok x
  refine ⟨C, hb, N, nm, q, bs, hdct, sn, sub, ab, col, dd, k0, k1, k2, k3, k5, _, hC, hN, fun n hn => ?_⟩
  unfold calmOk at y
  cases hf : h.clsAt mainGlobals name with
  | none => rw [hf] at y; cases y
  | some z =>
    obtain ⟨C', o', cd'⟩ := z
    rw [hf] at y
    obtain ⟨hn', ho', hd'⟩ := Heap.clsAt_spec hf
    rw [hb] at hn'
    obtain rfl : C = C' := by injection hn' with q1; injection q1
    rw [hC] at ho'
    obtain rfl := Option.some.inj ho'
    obtain rfl : _ = cd' := by injection hd'
    exact Option.isNone_iff_eq_none.mp (List.all_eq_true.mp y n hn)

def errsOk (names : List Str) (h : Heap) : Bool :=
  h.isNs mainGlobals && h.ownExcOk "GameError" [] bmV "ValueError.__new__" && calmOk h "GameError" && names.all (fun n => h.ownExcOk n ["GameError"] bmV "ValueError.__new__" && calmOk h n) &&
    (("GameError" : Str) :: names).all (fun n => (("GameError" : Str) :: names).all fun m => n == m || !decide (h.nsMap mainGlobals n = h.nsMap mainGlobals m))
def Errs (names : List Str) (mg : Str → Option Value) (h : Heap) : Prop :=
  ∃ G, mg "GameError" = some (.ref G) ∧ XC h G bmV ∧ ∀ n ∈ names, ∃ C, mg n = some (.ref C) ∧ XC h C (.ref G :: bmV) ∧ C ≠ G ∧ ∀ m ∈ names, m ≠ n → mg m ≠ some (.ref C)
theorem Errs.keeps {names : List Str} {mg : Str → Option Value} {h h' : Heap} (x : Errs names mg h) (k : ∀ b o, h.get? b = some o → h'.get? b = some o) : Errs names mg h' :=
  by
  obtain ⟨G, h1, h2, h3⟩ := x
  refine ⟨G, h1, h2.keeps k, fun n hn => ?_⟩
  obtain ⟨C, a1, a2, a3, a4⟩ := h3 n hn
  exact ⟨C, a1, a2.keeps k, a3, a4⟩
theorem errs_of {names : List Str} {h : Heap} (hG : ("GameError" : Str) ∉ names) (x : errsOk names h = true) : h.Ns mainGlobals (h.nsMap mainGlobals) ∧ Errs names (h.nsMap mainGlobals) h := by
  unfold errsOk at x
  simp only [Bool.and_eq_true] at x
  obtain ⟨⟨⟨⟨x0, x1⟩, x2⟩, x3⟩, x4⟩ := x
  refine ⟨.of_isNs x0, ?_⟩
  obtain ⟨G, g1, g2⟩ := xc_of_ok x1 x2
  have dis : ∀ n ∈ (("GameError" : Str) :: names), ∀ m ∈ (("GameError" : Str) :: names), m ≠ n → h.nsMap mainGlobals n ≠ h.nsMap mainGlobals m := by
    intro n hn m hm hne e
    have := List.all_eq_true.mp (List.all_eq_true.mp x4 n hn) m hm
    simp only [Bool.or_eq_true, beq_iff_eq, Bool.not_eq_true', decide_eq_false_iff_not] at this
    exact this.elim (fun z => hne z.symm) fun z => z e
  refine ⟨G, g1, g2, fun n hn => ?_⟩
  have hx := Bool.and_eq_true_iff.mp (List.all_eq_true.mp x3 n hn)
  obtain ⟨C, c1, c2⟩ := xc_of_ok hx.1 hx.2
  refine ⟨C, c1, by simpa [g1] using c2, fun e => ?_, fun m hm hne e => ?_⟩
  · exact dis n (List.mem_cons_of_mem _ hn) _ (List.mem_cons_self ..) (fun z => hG (z ▸ hn)) (by rw [c1, g1, e])
  · exact dis n (List.mem_cons_of_mem _ hn) m (List.mem_cons_of_mem _ hm) hne (by rw [c1, e])
def errHook (names : List Str) (hG : ("GameError" : Str) ∉ names) : Hook :=
  ⟨Bool, fun s => errsOk names s.heap, fun _ => true, fun _ h => ∃ mg, h.Ns mainGlobals mg ∧ Errs names mg h, fun _ s e => ⟨_, errs_of hG e⟩,
    fun _ h h' ⟨mg, x, y⟩ k => ⟨mg, x.keeps k, y.keeps k⟩⟩
theorem errs_at {names : List Str} {mg : Str → Option Value} {h : Heap} (x : h.Ns mainGlobals mg) (y : ∃ mg', h.Ns mainGlobals mg' ∧ Errs names mg' h) : Errs names mg h := by
  obtain ⟨mg', y1, y2⟩ := y
  have : mg = mg' := funext fun n => x.agree y1 n
  subst this
  exact y2
end Mine

-- HD01
namespace Mine
open PySem PySem.W PySem.Calls PyProof.Rows PySem.Challenge
set_option maxRecDepth 100000
set_option maxHeartbeats 8000000
def headNames : List Str := ["NoWeb", "Ringed", "NoRow", "NoMove", "TooMany"]
def headHk : Hook := errHook headNames (by decide)
def headView : Program := { pw_uf050033_01 with main := { pw_uf050033_01.main with body := [1, 2, 3, 4, 5, 6, 8, 9, 10, 11, 12, 13, 14, 15, 16, 17, 18, 20, 21, 22, 23, 24, 25, 26, 28, 29, 30, 31, 32, 33, 34, 36, 37, 38, 40, 41, 42, 43, 44, 45, 46, 47, 48, 49, 50, 51].filterMap fun i => pw_uf050033_01.main.body[i]? } }
def headRow : OpenRow := rw_uf050033_01.row
def headSees (s : Shared) : Bool := xlAt headView [] s && recOk (RowW.records headRow.toRowW) s
theorem headLeft : LeftO headRow.prog headView [] headSees (Hook.obs headHk) (Hook.val headHk) 4948 := fun w => by kernel_rfl
theorem headSaid : rw_uf050033_01.wellSaid = true := by kernel_rfl
end Mine

-- Core1
namespace Mine
open PySem

/-! ## abstract values, objects, heaps -/
inductive AV where
  | none | bool (b : Bool) | int (i : Int) | str (s : Str) | ref (a : Addr) | ty (n : String)
  deriving DecidableEq

def VR : AV → Value → Prop
  | .none, v => v = .none
  | .bool b, v => v = .bool b
  | .int i, v => ∃ t, v = .int i t
  | .str x, v => ∃ t, v = .str x t
  | .ref a, v => v = .ref a
  | .ty n, v => v = .type n

def VRs : List AV → List Value → Prop
  | [], [] => True
  | a :: as, v :: vs => VR a v ∧ VRs as vs
  | _, _ => False

theorem VRs.length : ∀ {as : List AV} {vs : List Value}, VRs as vs → as.length = vs.length
  | [], [], _ => rfl
  | _ :: _, _ :: _, h => by simp [VRs.length h.2]
  | [], _ :: _, h => h.elim
  | _ :: _, [], h => h.elim
theorem VRs.get : ∀ {as : List AV} {vs : List Value} {i : Nat} {a : AV}, VRs as vs → as[i]? = some a → ∃ v, vs[i]? = some v ∧ VR a v
  | _ :: _, v :: _, 0, _, h, e => by cases e; exact ⟨v, rfl, h.1⟩
  | _ :: _, _ :: _, i + 1, _, h, e => VRs.get (i := i) h.2 e
  | [], _, _, _, _, e => by simp at e
  | _ :: _, [], _, _, h, _ => h.elim
theorem VRs.append : ∀ {as bs : List AV} {vs ws : List Value}, VRs as vs → VRs bs ws → VRs (as ++ bs) (vs ++ ws)
  | [], _, [], _, _, h => h
  | _ :: _, _, _ :: _, _, h, h' => ⟨h.1, VRs.append h.2 h'⟩
  | [], _, _ :: _, _, h, _ => h.elim
  | _ :: _, _, [], _, h, _ => h.elim
theorem VRs.one {a : AV} {v : Value} (h : VR a v) : VRs [a] [v] := ⟨h, trivial⟩
theorem VRs.snoc {as : List AV} {vs : List Value} {a : AV} {v : Value} (h : VRs as vs) (h' : VR a v) : VRs (as ++ [a]) (vs ++ [v]) := h.append (.one h')
theorem VRs.set : ∀ {as : List AV} {vs : List Value} {a : AV} {v : Value} (i : Nat), VRs as vs → VR a v → VRs (as.set i a) (vs.set i v)
  | [], [], _, _, _, _, _ => trivial
  | _ :: _, _ :: _, _, _, 0, h, h' => ⟨h', h.2⟩
  | _ :: _, _ :: _, _, _, i + 1, h, h' => ⟨h.1, VRs.set i h.2 h'⟩
  | [], _ :: _, _, _, _, h, _ => h.elim
  | _ :: _, [], _, _, _, h, _ => h.elim
theorem VRs.take : ∀ {as : List AV} {vs : List Value} (n : Nat), VRs as vs → VRs (as.take n) (vs.take n)
  | [], [], n, _ => by cases n <;> exact trivial
  | _ :: _, _ :: _, 0, _ => trivial
  | _ :: _, _ :: _, n + 1, h => ⟨h.1, VRs.take n h.2⟩
  | [], _ :: _, _, h => h.elim
  | _ :: _, [], _, h => h.elim
theorem VRs.drop : ∀ {as : List AV} {vs : List Value} (n : Nat), VRs as vs → VRs (as.drop n) (vs.drop n)
  | [], [], n, _ => by cases n <;> exact trivial
  | _ :: _, _ :: _, 0, h => h
  | _ :: _, _ :: _, n + 1, h => VRs.drop n h.2
  | [], _ :: _, _, h => h.elim
  | _ :: _, [], _, h => h.elim
theorem VRs.reverse : ∀ {as : List AV} {vs : List Value}, VRs as vs → VRs as.reverse vs.reverse
  | [], [], _ => trivial
  | _ :: _, _ :: _, h => by simp only [List.reverse_cons]; exact (VRs.reverse h.2).snoc h.1
  | [], _ :: _, h => h.elim
  | _ :: _, [], h => h.elim
theorem VRs.eraseIdx : ∀ {as : List AV} {vs : List Value} (n : Nat), VRs as vs → VRs (as.eraseIdx n) (vs.eraseIdx n)
  | [], [], n, _ => by cases n <;> exact trivial
  | _ :: _, _ :: _, 0, h => h.2
  | _ :: _, _ :: _, n + 1, h => ⟨h.1, VRs.eraseIdx n h.2⟩
  | [], _ :: _, _, h => h.elim
  | _ :: _, [], _, h => h.elim
inductive AObj where
  | list (ro : Bool) (vs : List AV)
  | tuple (vs : List AV)
  | dict (kvs : List (Int × AV))
  | range (lo hi : Int)
  | raw (p : Obj → Prop)

def KVs : List (Int × AV) → List (Int × Value) → Prop
  | [], [] => True
  | a :: as, v :: vs => (a.1 = v.1 ∧ VR a.2 v.2) ∧ KVs as vs
  | _, _ => False

abbrev PH := Addr → Option Obj
abbrev Hp := Addr → Option AObj
abbrev Loc := Str → Option AV

def Hp.put (H : Hp) (a : Addr) (o : AObj) : Hp := fun b => if b = a then some o else H b
@[simp] theorem Hp.put_self (H : Hp) (a : Addr) (o : AObj) : H.put a o a = some o := by simp [Hp.put]
theorem Hp.put_ne {H : Hp} {a b : Addr} {o : AObj} (h : b ≠ a) : H.put a o b = H b := by simp [Hp.put, h]
def upd (loc : Loc) (x : Str) (v : AV) : Loc := fun y => if y = x then some v else loc y
@[simp] theorem upd_self (loc : Loc) (x : Str) (v : AV) : upd loc x v x = some v := by simp [upd]
theorem upd_ne {loc : Loc} {x y : Str} {v : AV} (h : y ≠ x) : upd loc x v y = loc y := by simp [upd, h]

structure Cx where
  prog : Program
  w : World
  base : Heap
  script : Addr
  nums : List Int
  mg : Str → Option Value
  mb : Str → Option Value
  g : base.Ns mainGlobals mg
  b : base.Ns builtinsNs mb
  nolimit : base.NoLimit
  scriptIn : ∃ o, base.get? script = some o
  builtins : ∀ x : Str, x ≠ "__name__" → mb x = bootBuiltins x

def OR (cx : Cx) : AObj → Obj → Prop
  | .list _ vs, O => ∃ items n, O = { cls := .type "list", dict := none, data := .seq items n, slots := #[] } ∧ VRs vs items.toList
  | .tuple vs, O => ∃ items n, O = { cls := .type "tuple", dict := none, data := .seq items n, slots := #[] } ∧ VRs vs items.toList
  | .dict kvs, O => ∃ es ep vs, O.ExactDict ∧ O.data = .dict es ep ∧ KeysOf (intKind cx.prog cx.w) es ∧ Pairs (intKind cx.prog cx.w) es.toList vs ∧ (vs.map (·.1)).Nodup ∧ KVs kvs vs
  | .range lo hi, O => ∃ t u v, O = { cls := .type "range", dict := none, data := .fields #[.int lo t, .int hi u, .int 1 v], slots := #[] }
  | .raw p, O => p O

structure Rep (cx : Cx) (P : PH) (H : Hp) (h : Heap) : Prop where
  base : ∀ a o, cx.base.get? a = some o → P a = some o
  ext : ∀ a o, P a = some o → h.get? a = some o
  obj : ∀ a o, H a = some o → ∃ O, h.get? a = some O ∧ OR cx o O
  sep : ∀ a o O, H a = some o → P a = some O → a = cx.script
  scr : H cx.script = some (.list true (cx.nums.map .int))

/-- a name that the frame may bear -/
def plainName (x : Str) : Bool := !(x == ("__debug__" : Str)) && !(x == ("__classdict__" : Str))

def NsG (g : PH) (a : Addr) (m : Str → Option Value) : Prop := ∃ o es ep, g a = some o ∧ o.data = .dict es ep ∧ StrKeys es ∧ ∀ name, nsFind es name = m name
def CellG (g : PH) (c : Addr) (v : Option Value) : Prop := ∃ o, g c = some o ∧ o.data = .cell v
theorem NsG.heap {h : Heap} {a : Addr} {m : Str → Option Value} (x : NsG h.get? a m) : h.Ns a m := x
theorem CellG.heap {h : Heap} {c : Addr} {v : Option Value} (x : CellG h.get? c v) : h.IsCell c v := x

/-- the frame's names as the objects in g bear them -/
structure FrameAt (env : Env) (loc : Loc) (g : PH) : Prop where
  ns : ∃ m, NsG g env.locals m ∧ ∀ x v, loc x = some v → env.kindOf x = some .local → ∃ V, m x = some V ∧ VR v V
  cells : ∀ x v, loc x = some v → (env.kindOf x = some .cell ∨ env.kindOf x = some .free) → ∃ c V, env.cells.lookup x = some c ∧ CellG g c (some V) ∧ VR v V
  dom : ∀ x v, loc x = some v → (env.kindOf x = some .local ∨ env.kindOf x = some .cell ∨ env.kindOf x = some .free) ∧ plainName x = true
  cellOk : ∀ x c, env.cells.lookup x = some c → ∃ ov, CellG g c ov

structure EnvOk (sc : Scope) (env : Env) : Prop where
  scope : env.scope = sc
  kind : env.scope.kind = .function
  glob : env.globals = mainGlobals
  blt : env.builtins = builtinsNs
  apart : env.cells.Pairwise fun x y => x.2 ≠ y.2
  has : ∀ x, env.kindOf x = some .cell ∨ env.kindOf x = some .free → (env.cells.lookup x).isSome = true

abbrev FrameP (env : Env) (loc : Loc) (P : PH) : Prop := FrameAt env loc P

def fp (env : Env) (a : Addr) : Prop := a = env.locals ∨ ∃ x, env.cells.lookup x = some a

theorem FrameAt.eq_on {env : Env} {loc : Loc} {g g' : PH} (F : FrameAt env loc g) (e : ∀ a, fp env a → ∀ o, g a = some o → g' a = some o) : FrameAt env loc g' where
  ns := by
    obtain ⟨m, ⟨o, es, ep, ho, r⟩, hm⟩ := F.ns
    exact ⟨m, ⟨o, es, ep, e _ (.inl rfl) o ho, r⟩, hm⟩
  cells := fun x v hx hk => by
    obtain ⟨c, V, hc, ⟨o, ho, hd⟩, hr⟩ := F.cells x v hx hk
    exact ⟨c, V, hc, ⟨o, e c (.inr ⟨x, hc⟩) o ho, hd⟩, hr⟩
  dom := F.dom
  cellOk := fun x c hc => by
    obtain ⟨ov, o, ho, hd⟩ := F.cellOk x c hc
    exact ⟨ov, o, e c (.inr ⟨x, hc⟩) o ho, hd⟩

structure Room (d : Nat) (A : Around) : Prop where
  handled : A.handled = none
  depth : A.depth + d < recursionLimit
  units : A.units + 8 * d < cLine

abbrev XP := AV → Hp → Prop
def EV (cx : Cx) (d : Nat) (sc : Scope) (loc : Loc) (e : Expr) (H : Hp) (Q : AV → Hp → Prop) : Prop :=
  ∀ (env : Env) (A : Around) (P : PH) (s : Shared) (E : Value → Shared → Prop) (Q' : Value → Shared → Prop), EnvOk sc env → FrameP env loc P → Room d A → Rep cx P H s.heap →
    (∀ v V H' h' tk, Q v H' → VR v V → Rep cx P H' h' → Q' V { s with heap := h', toks := tk }) →
    wpAny (model cx.prog cx.w) A (eval e env) Q' E s

def TV (cx : Cx) (d : Nat) (sc : Scope) (loc : Loc) (e : Expr) (H : Hp) (Q : Bool → Hp → Prop) : Prop :=
  ∀ (env : Env) (A : Around) (P : PH) (s : Shared) (E : Value → Shared → Prop) (Q' : Bool → Shared → Prop), EnvOk sc env → FrameP env loc P → Room d A → Rep cx P H s.heap →
    (∀ b H' h' tk, Q b H' → Rep cx P H' h' → Q' b { s with heap := h', toks := tk }) →
    wpAny (model cx.prog cx.w) A (isTrue e env (eval e env)) Q' E s

section
variable {cx : Cx} {d : Nat} {sc : Scope} {loc : Loc} {H : Hp} {Q : AV → Hp → Prop} {QB : Bool → Hp → Prop}

theorem EV.mono {e : Expr} {Q₁ : AV → Hp → Prop} (h : EV cx d sc loc e H Q₁) (hq : ∀ v H', Q₁ v H' → Q v H') : EV cx d sc loc e H Q :=
  fun env A P s E Q' he hF hA R k => h env A P s E Q' he hF hA R fun v V H' h' tk q => k v V H' h' tk (hq v H' q)
theorem TV.mono {e : Expr} {Q₁ : Bool → Hp → Prop} (h : TV cx d sc loc e H Q₁) (hq : ∀ v H', Q₁ v H' → QB v H') : TV cx d sc loc e H QB :=
  fun env A P s E Q' he hF hA R k => h env A P s E Q' he hF hA R fun v H' h' tk q => k v H' h' tk (hq v H' q)

theorem EV_Name {x : Str} {pos : Pos} {v : AV} (hx : loc x = some v) (hq : Q v H) : EV cx d sc loc (.Name x pos) H Q := by
  intro env A P s E Q' he hF hA R k
  have F : FrameAt env loc s.heap.get? := hF.eq_on fun a _ o e => R.ext a o e
  obtain ⟨hk, hp⟩ := F.dom x v hx
  simp only [plainName, Bool.and_eq_true, Bool.not_eq_true'] at hp
  rcases hk with hk | hk | hk
  · obtain ⟨m, hn, hm⟩ := F.ns
    obtain ⟨V, hV, hr⟩ := hm x v hx hk
    exact wpAny_Name (wpAny_loadName_local he.kind hk hn hV (k v V H s.heap s.toks hq hr R)) hp.1
  · obtain ⟨c, V, hc, hv, hr⟩ := F.cells x v hx (.inl hk)
    exact wpAny_Name (wpAny_loadName_cell he.kind hk hc hv (k v V H s.heap s.toks hq hr R)) hp.1
  · obtain ⟨c, V, hc, hv, hr⟩ := F.cells x v hx (.inr hk)
    exact wpAny_Name (wpAny_loadName_free he.kind hk hc hv (k v V H s.heap s.toks hq hr R) hp.2) hp.1

theorem EV_int {i : Int} {k : Nat} {pos : Pos} (hq : Q (.int i) H) : EV cx d sc loc (.Constant (.int i) k pos) H Q :=
  fun _ _ _ s _ _ _ _ _ R kk => wpAny_Constant_int (kk _ _ H s.heap _ hq ⟨_, rfl⟩ R)
theorem EV_none {k : Nat} {pos : Pos} (hq : Q .none H) : EV cx d sc loc (.Constant .none k pos) H Q :=
  fun _ _ _ s _ _ _ _ _ R kk => wpAny_Constant_none (kk _ _ H s.heap s.toks hq rfl R)
theorem EV_bool {b : Bool} {k : Nat} {pos : Pos} (hq : Q (.bool b) H) : EV cx d sc loc (.Constant (.bool b) k pos) H Q :=
  fun _ _ _ s _ _ _ _ _ R kk => wpAny_Constant_bool (kk _ _ H s.heap s.toks hq rfl R)
theorem EV_str {x : Str} {k : Nat} {pos : Pos} (hq : Q (.str x) H) : EV cx d sc loc (.Constant (.str x) k pos) H Q :=
  fun _ _ _ s _ _ _ _ _ R kk => wpAny_Constant_str (kk _ _ H s.heap _ hq ⟨_, rfl⟩ R)
end

/-! ## statements -/
inductive AF where
  | next | brk | cont | ret (v : AV)

def FR : AF → Flow → Prop
  | .next, f => f = .next
  | .brk, f => f = .brk
  | .cont, f => f = .cont
  | .ret v, f => ∃ V, f = .ret V ∧ VR v V

/-- the frame; the names in W may be stored into -/
structure FrameW (W : Str → Prop) (env : Env) (loc : Loc) (P : PH) (H : Hp) (h : Heap) : Prop where
  at_ : FrameAt env loc h.get?
  cellHas : ∀ x, env.kindOf x = some .cell → (env.cells.lookup x).isSome = true
  apart : env.cells.Pairwise fun x y => x.2 ≠ y.2
  cellNe : ∀ x c, (x, c) ∈ env.cells → c ≠ env.locals
  locP : P env.locals = none
  cellP : ∀ x c, W x → env.cells.lookup x = some c → P c = none
  offH : ∀ a, fp env a → H a = none
abbrev FrameOwn := FrameW fun _ => True

theorem FrameW.eq_on {W : Str → Prop} {env : Env} {loc : Loc} {P : PH} {H H' : Hp} {h h' : Heap} (F : FrameW W env loc P H h) (e : ∀ a, fp env a → ∀ o, h.get? a = some o → h'.get? a = some o)
    (hH : ∀ a, fp env a → H' a = none) : FrameW W env loc P H' h' where
  at_ := F.at_.eq_on e
  cellHas := F.cellHas
  apart := F.apart
  cellNe := F.cellNe
  locP := F.locP
  cellP := F.cellP
  offH := hH

theorem FrameW.live {W : Str → Prop} {env : Env} {loc : Loc} {P : PH} {H : Hp} {h : Heap} (F : FrameW W env loc P H h) : ∀ a, fp env a → ∃ o, h.get? a = some o := by
  intro a ha
  rcases ha with rfl | ⟨x, hm⟩
  · obtain ⟨m, ⟨o, _, _, ho, _⟩, _⟩ := F.at_.ns; exact ⟨o, ho⟩
  · obtain ⟨ov, o, ho, _⟩ := F.at_.cellOk x a hm; exact ⟨o, ho⟩

open Classical in
/-- the frame's own objects laid aside with what must stay -/
noncomputable def aside (P : PH) (env : Env) (h : Heap) : PH := fun a => if fp env a then h.get? a else P a

theorem aside_rep {cx : Cx} {W : Str → Prop} {env : Env} {loc : Loc} {P : PH} {H : Hp} {h : Heap} (F : FrameW W env loc P H h) (R : Rep cx P H h) : Rep cx (aside P env h) H h where
  base := fun a o e => by
    have hP := R.base a o e
    unfold aside
    split
    · exact R.ext a o hP
    · exact hP
  ext := fun a o e => by
    unfold aside at e
    split at e
    · exact e
    · exact R.ext a o e
  obj := R.obj
  sep := fun a o O ho hO => by
    unfold aside at hO
    split at hO
    · rename_i hm; rw [F.offH a hm] at ho; cases ho
    · exact R.sep a o O ho hO
  scr := R.scr

theorem aside_frame {W : Str → Prop} {env : Env} {loc : Loc} {P : PH} {H : Hp} {h : Heap} (F : FrameW W env loc P H h) : FrameP env loc (aside P env h) :=
  F.at_.eq_on fun a ha o ho => by unfold aside; rw [if_pos ha]; exact ho

theorem aside_back {cx : Cx} {W : Str → Prop} {env : Env} {loc : Loc} {P : PH} {H H' : Hp} {h h' : Heap} (F : FrameW W env loc P H h) (R : Rep cx P H h) (R' : Rep cx (aside P env h) H' h') :
    FrameW W env loc P H' h' ∧ Rep cx P H' h' := by
  have up : ∀ a, fp env a → ∀ o, h.get? a = some o → h'.get? a = some o := fun a ha o ho => R'.ext a o (by unfold aside; rw [if_pos ha]; exact ho)
  have off : ∀ a, fp env a → H' a = none := fun a ha => by
    cases q : H' a with
    | none => rfl
    | some o =>
      obtain ⟨O, hO⟩ := F.live a ha
      have := R'.sep a o O q (by unfold aside; rw [if_pos ha]; exact hO)
      subst this
      have := F.offH _ ha; rw [R.scr] at this; cases this
  refine ⟨F.eq_on up off, ⟨R.base, fun a o e => ?_, R'.obj, fun a o O ho hO => ?_, R'.scr⟩⟩
  · refine R'.ext a o ?_
    unfold aside
    split
    · exact R.ext a o e
    · exact e
  · refine R'.sep a o O ho ?_
    unfold aside
    split
    · rename_i hm; rw [off a hm] at ho; cases ho
    · exact hO

def EX1 (cx : Cx) (d : Nat) (sc : Scope) (loc : Loc) (st : Stmt) (H : Hp) (Q : AF → Loc → Hp → Prop) : Prop :=
  ∀ (env : Env) (A : Around) (P : PH) (s : Shared) (E : Value → Shared → Prop) (Q' : Flow → Shared → Prop), EnvOk sc env → FrameOwn env loc P H s.heap → Room d A → Rep cx P H s.heap →
    (∀ f F loc' H' h' tk, Q f loc' H' → FR f F → FrameOwn env loc' P H' h' → Rep cx P H' h' → Q' F { s with heap := h', toks := tk }) →
    wpAny (model cx.prog cx.w) A (exec st env) Q' E s

def EX (cx : Cx) (d : Nat) (sc : Scope) (loc : Loc) (ss : List Stmt) (H : Hp) (Q : AF → Loc → Hp → Prop) : Prop :=
  ∀ (env : Env) (A : Around) (P : PH) (s : Shared) (E : Value → Shared → Prop) (Q' : Flow → Shared → Prop), EnvOk sc env → FrameOwn env loc P H s.heap → Room d A → Rep cx P H s.heap →
    (∀ f F loc' H' h' tk, Q f loc' H' → FR f F → FrameOwn env loc' P H' h' → Rep cx P H' h' → Q' F { s with heap := h', toks := tk }) →
    wpAny (model cx.prog cx.w) A (execs ss env) Q' E s

section
variable {cx : Cx} {d : Nat} {sc : Scope} {loc : Loc} {H : Hp} {Q : AF → Loc → Hp → Prop}

theorem EX1.mono {e : Stmt} {Q₁ : AF → Loc → Hp → Prop} (h : EX1 cx d sc loc e H Q₁) (hq : ∀ f l H', Q₁ f l H' → Q f l H') : EX1 cx d sc loc e H Q :=
  fun env A P s E Q' he hF hA R k => h env A P s E Q' he hF hA R fun f F l H' h' tk q => k f F l H' h' tk (hq f l H' q)
theorem EV.here {W : Str → Prop} {e : Expr} {Q₁ : AV → Hp → Prop} (h : EV cx d sc loc e H Q₁) {env : Env} {A : Around} {P : PH} {s : Shared} {E : Value → Shared → Prop} {Q' : Value → Shared → Prop}
    (he : EnvOk sc env) (F : FrameW W env loc P H s.heap) (hA : Room d A) (R : Rep cx P H s.heap)
    (k : ∀ v V H' h' tk, Q₁ v H' → VR v V → FrameW W env loc P H' h' → Rep cx P H' h' → Q' V { s with heap := h', toks := tk }) :
    wpAny (model cx.prog cx.w) A (eval e env) Q' E s :=
  h env A _ s E Q' he (aside_frame F) hA (aside_rep F R) fun v V H' h' tk q hv R' => k v V H' h' tk q hv (aside_back F R R').1 (aside_back F R R').2
theorem TV.here {W : Str → Prop} {e : Expr} {Q₁ : Bool → Hp → Prop} (h : TV cx d sc loc e H Q₁) {env : Env} {A : Around} {P : PH} {s : Shared} {E : Value → Shared → Prop} {Q' : Bool → Shared → Prop}
    (he : EnvOk sc env) (F : FrameW W env loc P H s.heap) (hA : Room d A) (R : Rep cx P H s.heap)
    (k : ∀ v H' h' tk, Q₁ v H' → FrameW W env loc P H' h' → Rep cx P H' h' → Q' v { s with heap := h', toks := tk }) :
    wpAny (model cx.prog cx.w) A (isTrue e env (eval e env)) Q' E s :=
  h env A _ s E Q' he (aside_frame F) hA (aside_rep F R) fun v H' h' tk q R' => k v H' h' tk q (aside_back F R R').1 (aside_back F R R').2

theorem EX_nil (hq : Q .next loc H) : EX cx d sc loc [] H Q := fun _ _ _ s _ _ _ F _ R k => wpAny_execs_nil (k .next .next loc H s.heap s.toks hq rfl F R)

/-- the rest of a block behind one statement -/
def andThen (cx : Cx) (d : Nat) (sc : Scope) (rest : List Stmt) (Q : AF → Loc → Hp → Prop) : AF → Loc → Hp → Prop
  | .next, loc, H => EX cx d sc loc rest H Q
  | f, loc, H => Q f loc H
theorem EX_cons {st : Stmt} {rest : List Stmt} (h : EX1 cx d sc loc st H (andThen cx d sc rest Q)) : EX cx d sc loc (st :: rest) H Q := by
  intro env A P s E Q' he F hA R k
  refine wpAny_execs_cons (h env A P s E _ he F hA R fun f Fl loc' H' h' tk q hf F' R' => ?_)
  cases f with
  | next => cases hf; exact q env A P _ E Q' he F' hA R' fun f₂ Fl₂ l₂ H₂ h₂ tk₂ => k f₂ Fl₂ l₂ H₂ h₂ tk₂
  | brk => cases hf; exact k .brk _ _ _ _ _ q rfl F' R'
  | cont => cases hf; exact k .cont _ _ _ _ _ q rfl F' R'
  | ret v => obtain ⟨V, rfl, hv⟩ := hf; exact k (.ret v) _ _ _ _ _ q ⟨V, rfl, hv⟩ F' R'

theorem EX_Return {e : Expr} {pos : Pos} (h : EV cx d sc loc e H fun v H' => Q (.ret v) loc H') : EX1 cx d sc loc (.Return (some e) pos) H Q := by
  intro env A P s E Q' he F hA R k
  exact wpAny_Return_some (h.here he F hA R fun v V H' h' tk q hv F' R' => k (.ret v) (.ret V) loc H' h' tk q ⟨V, rfl, hv⟩ F' R')

theorem EX_If {t : Expr} {b o : List Stmt} {pos : Pos} (h : TV cx d sc loc t H fun c H' => if c = true then EX cx d sc loc b H' Q else EX cx d sc loc o H' Q) : EX1 cx d sc loc (.If t b o pos) H Q := by
  intro env A P s E Q' he F hA R k
  refine wpAny_If (h.here he F hA R fun c H' h' tk q F' R' => ?_)
  cases c with
  | true => simp only [if_true] at q ⊢; exact q env A P _ E Q' he F' hA R' fun f₂ Fl₂ l₂ H₂ h₂ tk₂ => k f₂ Fl₂ l₂ H₂ h₂ tk₂
  | false => simp only [Bool.false_eq_true, if_false] at q ⊢; exact q env A P _ E Q' he F' hA R' fun f₂ Fl₂ l₂ H₂ h₂ tk₂ => k f₂ Fl₂ l₂ H₂ h₂ tk₂

/-- a name that a store may bind -/
def storable (sc : Scope) (x : Str) : Bool := (sc.names.lookup x == some .local || sc.names.lookup x == some .cell) && plainName x

theorem storable_of {sc : Scope} {x : Str} (h : storable sc x = true) : (sc.names.lookup x = some .local ∨ sc.names.lookup x = some .cell) ∧ plainName x = true := by
  simp only [storable, Bool.and_eq_true, Bool.or_eq_true, beq_iff_eq] at h
  exact h

theorem upd_some {loc : Loc} {x y : Str} {v w : AV} (h : upd loc x v y = some w) : (y = x ∧ w = v) ∨ (y ≠ x ∧ loc y = some w) := by
  unfold upd at h
  split at h
  · rename_i e; cases h; exact .inl ⟨e, rfl⟩
  · rename_i e; exact .inr ⟨e, h⟩

theorem store_own {W : Str → Prop} {env : Env} {A : Around} {P : PH} {s : Shared} {E : Value → Shared → Prop} {Q' : Unit → Shared → Prop} {x : Str} {v : AV} {V : Value}
    (he : EnvOk sc env) (F : FrameW W env loc P H s.heap) (R : Rep cx P H s.heap) (hx : storable sc x = true) (hv : VR v V)
    (k : ∀ h' tk, FrameW W env (upd loc x v) P H h' → Rep cx P H h' → Q' () { s with heap := h', toks := tk }) (hW : W x := by trivial) :
    wpAny (model cx.prog cx.w) A (storeName env x V) Q' E s := by
  obtain ⟨hk, hp⟩ := storable_of hx
  have repBut : ∀ b h', fp env b → P b = none → Heap.SameBut b s.heap h' → Rep cx P H h' := fun b h' hb hPb hs => by
    refine ⟨R.base, fun a o e => ?_, fun a o e => ?_, R.sep, R.scr⟩
    · have hne : a ≠ b := fun q => by rw [q, hPb] at e; cases e
      exact (hs.2 a hne).trans (R.ext a o e)
    · have hne : a ≠ b := fun q => by rw [q, F.offH b hb] at e; cases e
      obtain ⟨O, hO, r⟩ := R.obj a o e
      exact ⟨O, (hs.2 a hne).trans hO, r⟩
  rw [← he.scope] at hk
  rcases hk with hk | hk
  · obtain ⟨m, hn, hm⟩ := F.at_.ns
    refine wpAny_storeName_local hk hn.heap (fun h' hn' hs' => k h' _ ⟨⟨⟨_, hn', fun y w hy hl => ?_⟩, fun y w hy hc => ?_, fun y w hy => ?_, fun y c hm' => ?_⟩, F.cellHas, F.apart, F.cellNe, F.locP, F.cellP, F.offH⟩ (repBut _ h' (.inl rfl) F.locP hs')) (by rw [he.kind]; rfl)
    · rcases upd_some hy with ⟨rfl, rfl⟩ | ⟨hne, hy⟩
      · exact ⟨V, by simp, hv⟩
      · obtain ⟨W, hW, hr⟩ := hm y w hy hl
        exact ⟨W, by simp [hne, hW], hr⟩
    · rcases upd_some hy with ⟨rfl, rfl⟩ | ⟨hne, hy⟩
      · exact absurd hk (by unfold Env.kindOf at hc; rcases hc with e | e <;> rw [e] <;> simp)
      · obtain ⟨c, W, hc', hW, hr⟩ := F.at_.cells y w hy hc
        exact ⟨c, W, hc', hW.heap.sameBut hs' (F.cellNe y c (mem_of_lookup hc')), hr⟩
    · rcases upd_some hy with ⟨rfl, rfl⟩ | ⟨hne, hy⟩
      · exact ⟨.inl hk, hp⟩
      · exact F.at_.dom y w hy
    · obtain ⟨ov, ho⟩ := F.at_.cellOk y c hm'
      exact ⟨ov, ho.heap.sameBut hs' (F.cellNe y c (mem_of_lookup hm'))⟩
  · obtain ⟨c, hc⟩ := Option.isSome_iff_exists.mp (F.cellHas x hk)
    have hcm := mem_of_lookup hc
    obtain ⟨ov, hov⟩ := F.at_.cellOk x c hc
    have hcf : fp env c := .inr ⟨x, hc⟩
    refine wpAny_storeName_cell he.kind hk hc hov.heap fun h' hc' hs' => k h' s.toks ⟨⟨?_, fun y w hy hl => ?_, fun y w hy => ?_, fun y c' hm' => ?_⟩, F.cellHas, F.apart, F.cellNe, F.locP, F.cellP, F.offH⟩ (repBut _ h' hcf (F.cellP x c hW hc) hs')
    · obtain ⟨m, hn, hm⟩ := F.at_.ns
      refine ⟨m, hn.heap.sameBut hs' (Ne.symm (F.cellNe x c hcm)), fun y w hy hl => ?_⟩
      rcases upd_some hy with ⟨rfl, rfl⟩ | ⟨hne, hy⟩
      · exact absurd hk (by unfold Env.kindOf at hl; rw [hl]; simp)
      · exact hm y w hy hl
    · rcases upd_some hy with ⟨rfl, rfl⟩ | ⟨hne, hy⟩
      · exact ⟨c, V, hc, hc', hv⟩
      · obtain ⟨c₂, W, hc₂, hW, hr⟩ := F.at_.cells y w hy hl
        exact ⟨c₂, W, hc₂, hW.heap.sameBut hs' fun e => hne (name_of_addr F.apart (mem_of_lookup hc₂) (e ▸ hcm)), hr⟩
    · rcases upd_some hy with ⟨rfl, rfl⟩ | ⟨hne, hy⟩
      · exact ⟨.inr (.inl hk), hp⟩
      · exact F.at_.dom y w hy
    · by_cases hcc : c' = c
      · exact ⟨some V, hcc ▸ hc'⟩
      · obtain ⟨ov', ho'⟩ := F.at_.cellOk y c' hm'
        exact ⟨ov', ho'.heap.sameBut hs' hcc⟩
end
end Mine

-- Core2
namespace Mine
open PySem

/-- a step of the machine upon two values -/
def OpW (cx : Cx) (d : Nat) (t : Value → Value → Sem Value) (a b : AV) (H : Hp) (Q : AV → Hp → Prop) : Prop :=
  ∀ (A : Around) (P : PH) (s : Shared) (E : Value → Shared → Prop) (Q' : Value → Shared → Prop) (V W : Value), Room d A → Rep cx P H s.heap → VR a V → VR b W →
    (∀ v V H' h' tk, Q v H' → VR v V → Rep cx P H' h' → Q' V { s with heap := h', toks := tk }) → wpAny (model cx.prog cx.w) A (t V W) Q' E s

section
variable {cx : Cx} {d : Nat} {sc : Scope} {loc : Loc} {H : Hp} {Q : AV → Hp → Prop} {QB : Bool → Hp → Prop} {l r e : Expr} {pos : Pos}

theorem EV_BinOp {op : Operator} (h : EV cx d sc loc l H fun a H₁ => EV cx d sc loc r H₁ fun b H₂ => OpW cx d (binaryOp op) a b H₂ Q) : EV cx d sc loc (.BinOp l op r pos) H Q := by
  intro env A P s E Q' he hF hA R k
  refine wpAny_BinOp (h env A P s E _ he hF hA R fun a V H₁ h₁ tk₁ q₁ ha R₁ => ?_)
  refine q₁ env A P _ E _ he hF hA R₁ fun b W H₂ h₂ tk₂ q₂ hb R₂ => ?_
  exact q₂ A P _ E Q' V W hA R₂ ha hb fun v V H' h' tk => k v V H' h' tk

theorem EV_Compare1 {op : CmpOp} (h : EV cx d sc loc l H fun a H₁ => EV cx d sc loc r H₁ fun b H₂ => OpW cx d (compareOp op) a b H₂ Q)
    (hm : behindInMarks op r = false := by with_unfolding_all rfl) : EV cx d sc loc (.Compare l [op] [r] pos) H Q := by
  intro env A P s E Q' he hF hA R k
  refine wpAny_Compare1 (h env A P s E _ he hF hA R fun a V H₁ h₁ tk₁ q₁ ha R₁ => ?_) hm
  refine q₁ env A P _ E _ he hF hA R₁ fun b W H₂ h₂ tk₂ q₂ hb R₂ => ?_
  exact q₂ A P _ E Q' V W hA R₂ ha hb fun v V H' h' tk => k v V H' h' tk

/-- what a test gives: a bool -/
def asB (QB : Bool → Hp → Prop) : AV → Hp → Prop
  | .bool b, H => QB b H
  | _, _ => False

theorem asB_of {v : AV} {H : Hp} (h : asB QB v H) : ∃ b, v = .bool b ∧ QB b H := by
  cases v <;> first | exact h.elim | exact ⟨_, rfl, h⟩

theorem TV_Compare1 {op : CmpOp} (h : EV cx d sc loc l H fun a H₁ => EV cx d sc loc r H₁ fun b H₂ => OpW cx d (compareOp op) a b H₂ (asB QB))
    (hm : behindInMarks op r = false := by with_unfolding_all rfl) : TV cx d sc loc (.Compare l [op] [r] pos) H QB := by
  intro env A P s E Q' he hF hA R k
  refine wpAny_isTrue_Compare1 (h env A P s E _ he hF hA R fun a V H₁ h₁ tk₁ q₁ ha R₁ => ?_) hm
  refine q₁ env A P _ E _ he hF hA R₁ fun b W H₂ h₂ tk₂ q₂ hb R₂ => ?_
  refine q₂ A P _ E _ V W hA R₂ ha hb fun v V' H' h' tk q hv R' => ?_
  obtain ⟨c, rfl, q⟩ := asB_of q
  cases hv
  exact wpAny_truthy_bool (k c H' h' tk q R')

theorem TV_val (h : EV cx d sc loc e H (asB QB)) (ht : ∀ env whole, isTrue e env whole = (do let v ← whole; standAt e.pos; holding [v] (truthy v)) := by intro _ _; rfl) : TV cx d sc loc e H QB := by
  intro env A P s E Q' he hF hA R k
  refine wpAny_isTrue_value (h env A P s E _ he hF hA R fun v V H' h' tk q hv R' => ?_) (ht env _)
  obtain ⟨c, rfl, q⟩ := asB_of q
  cases hv
  exact wpAny_truthy_bool (k c H' h' tk q R')

theorem TV_Not (h : TV cx d sc loc e H fun b H' => QB (!b) H') : TV cx d sc loc (.UnaryOp .Not e pos) H QB := by
  intro env A P s E Q' he hF hA R k
  exact wpAny_isTrue_Not (h env A P s E _ he hF hA R fun b H' h' tk q R' => k _ H' h' tk q R')

theorem EV_Not (h : EV cx d sc loc e H (asB fun b H' => Q (.bool (!b)) H')) : EV cx d sc loc (.UnaryOp .Not e pos) H Q := by
  intro env A P s E Q' he hF hA R k
  refine wpAny_UnaryOp (h env A P s E _ he hF hA R fun v V H' h' tk q hv R' => ?_)
  obtain ⟨c, rfl, q⟩ := asB_of q
  cases hv
  exact not_value (wpAny_truthy_bool (k _ _ H' h' tk q rfl R'))

theorem EV_IfExp {t b o : Expr} (h : TV cx d sc loc t H fun c H' => if c = true then EV cx d sc loc b H' Q else EV cx d sc loc o H' Q) : EV cx d sc loc (.IfExp t b o pos) H Q := by
  intro env A P s E Q' he hF hA R k
  refine wpAny_IfExp (h env A P s E _ he hF hA R fun c H' h' tk q R' => ?_)
  cases c with
  | true => simp only [if_true] at q ⊢; exact q env A P _ E Q' he hF hA R' fun v V H₂ h₂ tk₂ => k v V H₂ h₂ tk₂
  | false => simp only [Bool.false_eq_true, if_false] at q ⊢; exact q env A P _ E Q' he hF hA R' fun v V H₂ h₂ tk₂ => k v V H₂ h₂ tk₂

/-- the tests of an «and», one behind the other -/
def TAnd (cx : Cx) (d : Nat) (sc : Scope) (loc : Loc) : List Expr → Hp → (Bool → Hp → Prop) → Prop
  | [], H, QB => QB true H
  | e :: r, H, QB => TV cx d sc loc e H fun b H' => if b = true then TAnd cx d sc loc r H' QB else QB false H'
def TOr (cx : Cx) (d : Nat) (sc : Scope) (loc : Loc) : List Expr → Hp → (Bool → Hp → Prop) → Prop
  | [], H, QB => QB false H
  | e :: r, H, QB => TV cx d sc loc e H fun b H' => if b = true then QB true H' else TOr cx d sc loc r H' QB

theorem TV_And {es : List Expr} (h : TAnd cx d sc loc es H QB) : TV cx d sc loc (.BoolOp .And es pos) H QB := by
  intro env A P s E Q' he hF hA R k
  refine wpAny_isTrue_BoolOp ?_
  induction es generalizing H s with
  | nil => exact wpAny_allTrue_And_nil (k true H s.heap s.toks h R)
  | cons e r ih =>
    refine wpAny_allTrue_And_cons (h env A P s E _ he hF hA R fun b H' h' tk q R' => ?_)
    cases b with
    | true => simp only [if_true] at q ⊢; exact ih q _ R' fun b H₂ h₂ tk₂ => k b H₂ h₂ tk₂
    | false => simp only [Bool.false_eq_true, if_false] at q ⊢; exact k false H' h' tk q R'
theorem TV_Or {es : List Expr} (h : TOr cx d sc loc es H QB) : TV cx d sc loc (.BoolOp .Or es pos) H QB := by
  intro env A P s E Q' he hF hA R k
  refine wpAny_isTrue_BoolOp ?_
  induction es generalizing H s with
  | nil => exact wpAny_allTrue_Or_nil (k false H s.heap s.toks h R)
  | cons e r ih =>
    refine wpAny_allTrue_Or_cons (h env A P s E _ he hF hA R fun b H' h' tk q R' => ?_)
    cases b with
    | false => simp only [Bool.false_eq_true, if_false] at q ⊢; exact ih q _ R' fun b H₂ h₂ tk₂ => k b H₂ h₂ tk₂
    | true => simp only [if_true] at q ⊢; exact k true H' h' tk q R'

theorem EV_And2 {x y : Expr} (h : EV cx d sc loc x H (asB fun b H' => if b = true then EV cx d sc loc y H' Q else Q (.bool false) H')) : EV cx d sc loc (.BoolOp .And [x, y] pos) H Q := by
  intro env A P s E Q' he hF hA R k
  refine wpAny_And2 (h env A P s E _ he hF hA R fun v V H' h' tk q hv R' => ?_)
  obtain ⟨c, rfl, q⟩ := asB_of q
  cases hv
  refine wpAny_truthy_bool ?_
  cases c with
  | true => simp only [if_true] at q ⊢; exact q env A P _ E Q' he hF hA R' fun v V H₂ h₂ tk₂ => k v V H₂ h₂ tk₂
  | false => simp only [Bool.false_eq_true, if_false] at q ⊢; exact k _ _ H' h' tk q rfl R'
/-! two comparisons in a chain -/
theorem wpAny_release {M : Model} {A : Around} {E : Value → Shared → Prop} {s : Shared} {vs ks : List Value} {Q : Unit → Shared → Prop} (h : Q () s) : wpAny M A (release vs ks) Q E s :=
  fun Γ p hΓ => by rw [Sem.wp_release]; exact h

theorem EV_Compare2 {a b c : Expr} {op₁ op₂ : CmpOp}
    (h : EV cx d sc loc a H fun x H₁ => EV cx d sc loc b H₁ fun y H₂ => OpW cx d (compareOp op₁) x y H₂ (asB fun t H₃ =>
      if t = true then EV cx d sc loc c H₃ fun z H₄ => OpW cx d (compareOp op₂) y z H₄ Q else Q (.bool false) H₃))
    (hm : behindInMarks op₂ c = false := by with_unfolding_all rfl) : EV cx d sc loc (.Compare a [op₁, op₂] [b, c] pos) H Q := by
  intro env A P s E Q' he hF hA R k
  show wpAny _ A (eval a env >>= fun left => (do
    let rv ← holding [left] (eval b env)
    standAt pos
    let c' ← holding [left, rv] (compareOp op₁ left rv)
    release [left, rv] [c']
    if ← holding [c', rv] (truthy c') then (do
      let rv' ← holding [rv] (markedBehindIn op₂ c (eval c env))
      standAt pos
      operate [rv, rv'] (compareOp op₂ rv rv')) else pure c')) Q' E s
  rw [markedBehindIn_of_false hm]
  refine wpAny_bind (h env A P s E _ he hF hA R fun x V H₁ h₁ tk₁ q₁ hx R₁ => ?_)
  refine wpAny_bind (wpAny_holding (q₁ env A P _ E _ he hF hA R₁ fun y W H₂ h₂ tk₂ q₂ hy R₂ => ?_))
  refine wpAny_bind (wpAny_standAt (wpAny_bind (wpAny_holding (q₂ A P _ E _ V W hA R₂ hx hy fun t T H₃ h₃ tk₃ q₃ ht R₃ => ?_))))
  obtain ⟨t, rfl, q₃⟩ := asB_of q₃
  cases ht
  refine wpAny_bind (wpAny_release (wpAny_bind (wpAny_holding (wpAny_truthy_bool ?_))))
  cases t with
  | false => simp only [Bool.false_eq_true, if_false] at q₃ ⊢; exact wpAny_pure (k _ _ H₃ h₃ tk₃ q₃ rfl R₃)
  | true =>
    simp only [if_true] at q₃ ⊢
    refine wpAny_bind (wpAny_holding (q₃ env A P _ E _ he hF hA R₃ fun z Z H₄ h₄ tk₄ q₄ hz R₄ => ?_))
    exact wpAny_bind (wpAny_standAt (wpAny_operating (q₄ A P _ E Q' W Z hA R₄ hy hz fun v V H' h' tk => k v V H' h' tk)))

theorem TV_Compare2 {a b c : Expr} {op₁ op₂ : CmpOp}
    (h : EV cx d sc loc a H fun x H₁ => EV cx d sc loc b H₁ fun y H₂ => OpW cx d (compareOp op₁) x y H₂ (asB fun t H₃ =>
      if t = true then EV cx d sc loc c H₃ fun z H₄ => OpW cx d (compareOp op₂) y z H₄ (asB QB) else QB false H₃))
    (hm : behindInMarks op₂ c = false := by with_unfolding_all rfl) : TV cx d sc loc (.Compare a [op₁, op₂] [b, c] pos) H QB := by
  intro env A P s E Q' he hF hA R k
  show wpAny _ A (eval a env >>= fun left => (do
    let rv ← holding [left] (eval b env)
    standAt pos
    let c' ← holding [left, rv] (compareOp op₁ left rv)
    release [left, rv] [c']
    if ← holding [c', rv] (truthy c') then (do
      let rv' ← holding [rv] (markedBehindIn op₂ c (eval c env))
      standAt pos
      let c'' ← operate [rv, rv'] (compareOp op₂ rv rv')
      holding [c''] (truthy c'')) else pure false)) Q' E s
  rw [markedBehindIn_of_false hm]
  refine wpAny_bind (h env A P s E _ he hF hA R fun x V H₁ h₁ tk₁ q₁ hx R₁ => ?_)
  refine wpAny_bind (wpAny_holding (q₁ env A P _ E _ he hF hA R₁ fun y W H₂ h₂ tk₂ q₂ hy R₂ => ?_))
  refine wpAny_bind (wpAny_standAt (wpAny_bind (wpAny_holding (q₂ A P _ E _ V W hA R₂ hx hy fun t T H₃ h₃ tk₃ q₃ ht R₃ => ?_))))
  obtain ⟨t, rfl, q₃⟩ := asB_of q₃
  cases ht
  refine wpAny_bind (wpAny_release (wpAny_bind (wpAny_holding (wpAny_truthy_bool ?_))))
  cases t with
  | false => simp only [Bool.false_eq_true, if_false] at q₃ ⊢; exact wpAny_pure (k _ H₃ h₃ tk₃ q₃ R₃)
  | true =>
    simp only [if_true] at q₃ ⊢
    refine wpAny_bind (wpAny_holding (q₃ env A P _ E _ he hF hA R₃ fun z Z H₄ h₄ tk₄ q₄ hz R₄ => ?_))
    refine wpAny_bind (wpAny_standAt (wpAny_bind (wpAny_operating (q₄ A P _ E _ W Z hA R₄ hy hz fun v V' H' h' tk q hv R' => ?_))))
    obtain ⟨c', rfl, q⟩ := asB_of q
    cases hv
    exact wpAny_holding (wpAny_truthy_bool (k c' H' h' tk q R'))
end

section
variable {cx : Cx} {d : Nat} {H : Hp} {Q : AV → Hp → Prop} {a b : Int}

theorem Op_add (hq : Q (.int (a + b)) H) : OpW cx d (binaryOp .Add) (.int a) (.int b) H Q := by
  rintro A P s E Q' V W hA R ⟨t, rfl⟩ ⟨u, rfl⟩ k
  exact PySem.P.add_int (k _ _ H s.heap _ hq ⟨_, rfl⟩ R)
theorem Op_sub (hq : Q (.int (a - b)) H) : OpW cx d (binaryOp .Sub) (.int a) (.int b) H Q := by
  rintro A P s E Q' V W hA R ⟨t, rfl⟩ ⟨u, rfl⟩ k
  exact PySem.P.sub_int (k _ _ H s.heap _ hq ⟨_, rfl⟩ R)
theorem Op_mul (hm : IntMulOk a b) (hq : Q (.int (a * b)) H) : OpW cx d (binaryOp .Mult) (.int a) (.int b) H Q := by
  rintro A P s E Q' V W hA R ⟨t, rfl⟩ ⟨u, rfl⟩ k
  exact PySem.P.mul_int (k _ _ H s.heap _ hq ⟨_, rfl⟩ R) hm
theorem Op_eq (hq : Q (.bool (decide (a = b))) H) : OpW cx d (compareOp .Eq) (.int a) (.int b) H Q := by
  rintro A P s E Q' V W hA R ⟨t, rfl⟩ ⟨u, rfl⟩ k
  exact PySem.P.eq_int (k _ _ H s.heap s.toks hq (by show Value.bool (a == b) = .bool (decide (a = b)); rw [show (a == b) = decide (a = b) from rfl]) R)
theorem Op_ne (hq : Q (.bool (decide (a ≠ b))) H) : OpW cx d (compareOp .NotEq) (.int a) (.int b) H Q := by
  rintro A P s E Q' V W hA R ⟨t, rfl⟩ ⟨u, rfl⟩ k
  exact PySem.P.ne_int (k _ _ H s.heap s.toks hq (by show Value.bool (a != b) = .bool (decide (a ≠ b)); rw [show (a != b) = !(decide (a = b)) from rfl]; simp) R)
theorem Op_lt (hq : Q (.bool (decide (a < b))) H) : OpW cx d (compareOp .Lt) (.int a) (.int b) H Q := by
  rintro A P s E Q' V W hA R ⟨t, rfl⟩ ⟨u, rfl⟩ k
  exact PySem.P.lt_int (k _ _ H s.heap s.toks hq rfl R)
theorem Op_le (hq : Q (.bool (decide (a ≤ b))) H) : OpW cx d (compareOp .LtE) (.int a) (.int b) H Q := by
  rintro A P s E Q' V W hA R ⟨t, rfl⟩ ⟨u, rfl⟩ k
  exact PySem.P.le_int (k _ _ H s.heap s.toks hq rfl R)
theorem Op_gt (hq : Q (.bool (decide (b < a))) H) : OpW cx d (compareOp .Gt) (.int a) (.int b) H Q := by
  rintro A P s E Q' V W hA R ⟨t, rfl⟩ ⟨u, rfl⟩ k
  exact PySem.P.gt_int (k _ _ H s.heap s.toks hq rfl R)
end

section
variable {cx : Cx} {d : Nat} {sc : Scope} {loc : Loc} {H : Hp} {Q : AF → Loc → Hp → Prop}

theorem EX_Assign {x : Str} {px pos : Pos} {e : Expr} (h : EV cx d sc loc e H fun v H' => Q .next (upd loc x v) H') (hx : storable sc x = true := by rfl)
    (hs : ∀ env, swapsWith e (some (.Name x px)) pos.line env = pure false := by intro _; rfl) : EX1 cx d sc loc (.Assign [.Name x px] e pos) H Q := by
  intro env A P s E Q' he F hA R k
  refine wpAny_Assign_Name (h.here he F hA R fun v V H' h' tk q hv F' R' => ?_) (hs env)
  exact store_own he F' R' hx hv fun h₂ tk₂ F₂ R₂ => k .next .next _ H' h₂ tk₂ q rfl F₂ R₂

theorem EX_Expr {e : Expr} {pos : Pos} (h : EV cx d sc loc e H fun v H' => v = .none ∧ Q .next loc H') (hs : ∀ env, swapsWith e none pos.line env = pure false := by intro _; rfl) : EX1 cx d sc loc (.Expr e pos) H Q := by
  intro env A P s E Q' he F hA R k
  refine wpAny_Expr (h.here he F hA R fun v V H' h' tk q hv F' R' => ?_) (by unfold interactive; rw [he.kind]; rfl) (hs env)
  obtain ⟨rfl, q⟩ := q
  cases hv
  exact k .next .next _ H' h' tk q rfl F' R'
end
end Mine

-- Core2b
namespace Mine
open PySem
section
variable {cx : Cx} {d : Nat} {H : Hp} {Q : AV → Hp → Prop} {a b : Int}
theorem Op_floordiv (hb : 0 < b) (hb' : b < 1073741824) (hq : Q (.int (a / b)) H) : OpW cx d (binaryOp .FloorDiv) (.int a) (.int b) H Q := by
  rintro A P s E Q' V W hA R ⟨t, rfl⟩ ⟨u, rfl⟩ k
  refine PyProof.Rows.floordiv_int (by omega) ?_ (.inl (PyProof.noPylong_small (by omega)))
  rw [Int.fdiv_eq_ediv_of_nonneg _ (by omega)]
  exact k _ _ H s.heap _ hq ⟨_, rfl⟩ R
theorem Op_mod (hb : 0 < b) (hq : Q (.int (a % b)) H) : OpW cx d (binaryOp .Mod) (.int a) (.int b) H Q := by
  rintro A P s E Q' V W hA R ⟨t, rfl⟩ ⟨u, rfl⟩ k
  refine PyProof.Rows.mod_int' (by omega) ?_
  rw [Int.fmod_eq_emod_of_nonneg _ (by omega)]
  exact k _ _ H s.heap _ hq ⟨_, rfl⟩ R
end
end Mine

-- Core3
namespace Mine
open PySem

/-! ## arguments, calls of the text's own defs -/
def EVs (cx : Cx) (d : Nat) (sc : Scope) (loc : Loc) : List Expr → Hp → (List AV → Hp → Prop) → Prop
  | [], H, Q => Q [] H
  | e :: r, H, Q => EV cx d sc loc e H fun v H₁ => EVs cx d sc loc r H₁ fun vs H₂ => Q (v :: vs) H₂

def notStar : Expr → Bool
  | .Starred _ _ => false
  | _ => true
theorem starEach_cons {e : Expr} {rest : List Expr} {env : Env} (h : notStar e = true) : starEach (e :: rest) env = (false, eval e env) :: starEach rest env := by
  cases e <;> first | rfl | cases h

section
variable {cx : Cx} {d : Nat} {sc : Scope} {loc : Loc} {H : Hp} {Q : AV → Hp → Prop}

theorem EVs.sound : ∀ {es : List Expr} {H : Hp} {QL : List AV → Hp → Prop}, EVs cx d sc loc es H QL → es.all notStar = true →
    ∀ {env : Env} {A : Around} {P : PH} {s : Shared} {E : Value → Shared → Prop} {Q' : List Value → Shared → Prop} {pos : Pos}, EnvOk sc env → FrameP env loc P → Room d A → Rep cx P H s.heap →
    (∀ vs Vs H' h' tk, QL vs H' → VRs vs Vs → Rep cx P H' h' → Q' Vs { s with heap := h', toks := tk }) →
    wpAny (model cx.prog cx.w) A (spliced (backTo pos (starEach es env))) Q' E s
  | [], H, _, h, _, _, _, _, s, _, _, _, _, _, _, R, k => wpAny_items_nil (k [] [] H s.heap s.toks h trivial R)
  | e :: r, H, _, h, hn, env, A, P, s, E, _, pos, he, hF, hA, R, k => by
    simp only [List.all_cons, Bool.and_eq_true] at hn
    refine wpAny_items_cons (h env A P s E _ he hF hA R fun v V H₁ h₁ tk₁ q hv R₁ => ?_) (starEach_cons hn.1)
    exact EVs.sound q hn.2 he hF hA R₁ fun vs Vs H' h' tk q' hvs R' => k (v :: vs) (V :: Vs) H' h' tk q' ⟨hv, hvs⟩ R'

/-- what a call of the value V with these arguments does -/
def CW (cx : Cx) (d : Nat) (V : Value) (args : List AV) (H : Hp) (Q : AV → Hp → Prop) : Prop :=
  ∀ (A : Around) (P : PH) (s : Shared) (E : Value → Shared → Prop) (Q' : Value → Shared → Prop) (vs : List Value), Room d A → Rep cx P H s.heap → VRs args vs →
    (∀ v V H' h' tk, Q v H' → VR v V → Rep cx P H' h' → Q' V { s with heap := h', toks := tk }) → wpAny (model cx.prog cx.w) A (call V vs) Q' E s

theorem CW.mono {V : Value} {args : List AV} {Q₁ : AV → Hp → Prop} (h : CW cx d V args H Q₁) (hq : ∀ v H', Q₁ v H' → Q v H') : CW cx d V args H Q :=
  fun A P s E Q' vs hA R ha k => h A P s E Q' vs hA R ha fun v V H' h' tk q => k v V H' h' tk (hq v H' q)

/-- the text's def f stands at fa -/
structure IsFn (cx : Cx) (f : Str) (fa : Addr) (fd : FuncData) : Prop where
  g : cx.mg f = some (.ref fa)
  o : ∃ o, cx.base.get? fa = some o ∧ o.data = .func fd
  code : cx.base.CodeRec fd.code fd.qualname

theorem Rep.keeps {P : PH} {h : Heap} (R : Rep cx P H h) : ∀ b o, cx.base.get? b = some o → h.get? b = some o := fun b o e => R.ext b o (R.base b o e)

def globalName (sc : Scope) (x : Str) : Bool := sc.names.lookup x == some .globalImplicit && !(x == ("__debug__" : Str))

theorem load_global {x : Str} {pos : Pos} {V : Value} {env : Env} {A : Around} {P : PH} {s : Shared} {E : Value → Shared → Prop} {Q' : Value → Shared → Prop}
    (he : EnvOk sc env) (R : Rep cx P H s.heap) (hx : globalName sc x = true) (hg : cx.mg x = some V) (h : Q' V s) : wpAny (model cx.prog cx.w) A (eval (.Name x pos) env) Q' E s := by
  simp only [globalName, Bool.and_eq_true, beq_iff_eq, Bool.not_eq_true'] at hx
  rw [← he.scope] at hx
  refine Calls.Name_function_global he.kind hx.1 (Calls.loadGlobal_global (mg := cx.mg) ?_ hg h) hx.2
  rw [he.glob]; exact cx.g.keeps R.keeps
theorem load_builtin {x : Str} {pos : Pos} {V : Value} {env : Env} {A : Around} {P : PH} {s : Shared} {E : Value → Shared → Prop} {Q' : Value → Shared → Prop}
    (he : EnvOk sc env) (R : Rep cx P H s.heap) (hx : globalName sc x = true) (hg : cx.mg x = none) (hn : x ≠ "__name__") (hb : bootBuiltins x = some V) (h : Q' V s) :
    wpAny (model cx.prog cx.w) A (eval (.Name x pos) env) Q' E s := by
  simp only [globalName, Bool.and_eq_true, beq_iff_eq, Bool.not_eq_true'] at hx
  rw [← he.scope] at hx
  refine Calls.Name_function_global he.kind hx.1 (Calls.loadGlobal_builtin (mg := cx.mg) (mb := cx.mb) ?_ hg ?_ ((cx.builtins x hn).trans hb) h) hx.2
  · rw [he.glob]; exact cx.g.keeps R.keeps
  · rw [he.blt]; exact cx.b.keeps R.keeps

/-- a global int, bool .. of the text -/
theorem EV_Global {x : Str} {pos : Pos} {v : AV} {V : Value} (hg : cx.mg x = some V) (hv : VR v V) (hq : Q v H) (hx : globalName sc x = true := by rfl) : EV cx d sc loc (.Name x pos) H Q :=
  fun _ _ _ s _ _ he _ _ R k => load_global he R hx hg (k v V H s.heap s.toks hq hv R)

theorem eval_Call_Name (f : Str) (p : Pos) (args : List Expr) (kws : List Keyword) (pos : Pos) (env : Env) :
    eval (.Call (.Name f p) args kws pos) env = (do callWith pos (← eval (.Name f p) env) [] (backTo pos (starEach args env)) (backToKw pos (keywordEach kws env))) := rfl

theorem backTo_cons (pos : Pos) (t : Sem Value) (r : List (Bool × Sem Value)) : ∃ t', backTo pos ((false, t) :: r) = (false, t') :: backTo pos r := ⟨_, rfl⟩

theorem EV_CallF {f : Str} {fa : Addr} {fd : FuncData} {e : Expr} {r : List Expr} {p pos : Pos} (hf : IsFn cx f fa fd)
    (h : EVs cx d sc loc (e :: r) H fun vs H' => CW cx d (.ref fa) vs H' Q) (hx : globalName sc f = true := by rfl) (hn : (e :: r).all notStar = true := by rfl) :
    EV cx d sc loc (.Call (.Name f p) (e :: r) [] pos) H Q := by
  intro env A P s E Q' he hF hA R k
  obtain ⟨o, ho, hd⟩ := hf.o
  rw [eval_Call_Name]
  refine wpAny_bind (load_global he R hx hf.g (Calls.callWith_function (o := o) (fd := fd) ?_))
  have hn1 : notStar e = true := by simp only [List.all_cons, Bool.and_eq_true] at hn; exact hn.1
  have hs := EVs.sound (env := env) (A := A) (P := P) (s := s) (E := E) (pos := pos) h hn he hF hA R (Q' := fun vs s₁ => (s₁.heap.get? fa = some o ∧ o.data = .func fd) ∧ wpAny (model cx.prog cx.w) A (call (.ref fa) vs) Q' E s₁)
    (fun vs Vs H' h' tk q hvs R' => ⟨⟨R'.keeps _ _ ho, hd⟩, q A P _ E Q' Vs hA R' hvs fun v V H₂ h₂ tk₂ => k v V H₂ h₂ tk₂⟩)
  rw [starEach_cons hn1] at hs ⊢
  exact Calls.evalArgs_plain hs

theorem backTo_plain {pos : Pos} : ∀ {es : List Expr} {env : Env}, es.all notStar = true → (backTo pos (starEach es env)).any (·.1) = false
  | [], _, _ => rfl
  | e :: r, env, h => by
    simp only [List.all_cons, Bool.and_eq_true] at h
    rw [starEach_cons h.1]
    show (false || (backTo pos (starEach r env)).any (·.1)) = false
    rw [backTo_plain h.2]; rfl

/-- the name of a built-in function -/
structure IsBuiltin (cx : Cx) (x : Str) (V : Value) : Prop where
  g : cx.mg x = none
  n : x ≠ "__name__"
  b : bootBuiltins x = some V

theorem EV_CallB {f : Str} {id : String} {e : Expr} {r : List Expr} {p pos : Pos} (hf : IsBuiltin cx f (.builtin id))
    (h : EVs cx d sc loc (e :: r) H fun vs H' => CW cx d (.builtin id) vs H' Q) (hx : globalName sc f = true := by rfl) (hn : (e :: r).all notStar = true := by rfl) :
    EV cx d sc loc (.Call (.Name f p) (e :: r) [] pos) H Q := by
  intro env A P s E Q' he hF hA R k
  rw [eval_Call_Name]
  refine wpAny_bind (load_builtin he R hx hf.g hf.n hf.b (Calls.callWith_builtin (backTo_plain hn) ?_))
  have hn1 : notStar e = true := by simp only [List.all_cons, Bool.and_eq_true] at hn; exact hn.1
  have hs := EVs.sound (env := env) (A := A) (P := P) (s := s) (E := E) (pos := pos) h hn he hF hA R (Q' := fun vs s₁ => wpAny (model cx.prog cx.w) A (call (.builtin id) vs) Q' E s₁)
    (fun vs Vs H' h' tk q hvs R' => q A P _ E Q' Vs hA R' hvs fun v V H₂ h₂ tk₂ => k v V H₂ h₂ tk₂)
  rw [starEach_cons hn1] at hs ⊢
  exact Calls.evalArgs_plain hs

/-! entering a def -/
def bindA : List (Str × AV) → Loc → Loc
  | [], loc => loc
  | (n, v) :: r, loc => bindA r (upd loc n v)

theorem cells_some {x : Str} : ∀ (names : List (Str × NameKind)) (n : Nat) (acc : List (Str × Addr)), names.lookup x = some .cell ∨ (acc.lookup x).isSome = true → ((cellsFrom n names acc).lookup x).isSome = true
  | [], _, _, h => h.elim (fun e => by cases e) id
  | (y, k) :: r, n, acc, h => by
    unfold cellsFrom
    by_cases hk : (k == .cell) = true
    · rw [if_pos hk]
      refine cells_some r (n + 1) ((y, n) :: acc) ?_
      by_cases hy : (x == y) = true
      · exact .inr (by rw [List.lookup_cons, hy]; rfl)
      · refine h.imp (fun e => ?_) fun e => ?_
        · rw [List.lookup_cons] at e; simpa only [hy] using e
        · rw [List.lookup_cons]; simpa only [hy] using e
    · rw [if_neg hk]
      refine cells_some r n acc ?_
      by_cases hy : (x == y) = true
      · refine .inr (h.elim (fun e => ?_) id)
        rw [List.lookup_cons, hy] at e
        exact absurd (by rw [Option.some.inj e]; rfl) hk
      · refine h.imp (fun e => ?_) id
        rw [List.lookup_cons] at e; simpa only [hy] using e

theorem bind_frame {kd : Str → Option NameKind} : ∀ (names : List Str) (as : List AV) (vs : List Value) (loc : Loc) (m cm : Str → Option Value), VRs as vs →
    (∀ x v, loc x = some v → kd x = some .local → ∃ V, m x = some V ∧ VR v V) → (∀ x v, loc x = some v → kd x ≠ some .local → ∃ V, cm x = some V ∧ VR v V) →
    (∀ x v, bindA (names.zip as) loc x = some v → kd x = some .local → ∃ V, bindL kd (names.zip vs) m x = some V ∧ VR v V) ∧
    (∀ x v, bindA (names.zip as) loc x = some v → kd x ≠ some .local → ∃ V, bindC kd (names.zip vs) cm x = some V ∧ VR v V)
  | [], _, _, _, _, _, _, h1, h2 => ⟨by simpa [bindA, bindL] using h1, by simpa [bindA, bindC] using h2⟩
  | n :: ns, [], [], _, _, _, _, h1, h2 => ⟨by simpa [bindA, bindL] using h1, by simpa [bindA, bindC] using h2⟩
  | n :: ns, a :: as, v :: vs, loc, m, cm, hr, h1, h2 => by
    simp only [List.zip_cons_cons, bindA, bindL, bindC]
    refine bind_frame ns as vs _ _ _ hr.2 (fun x w hx hk => ?_) (fun x w hx hk => ?_)
    · rcases upd_some hx with ⟨rfl, rfl⟩ | ⟨hne, hx⟩
      · rw [if_pos hk]; exact ⟨v, by simp, hr.1⟩
      · obtain ⟨V, hV, hv⟩ := h1 x w hx hk
        refine ⟨V, ?_, hv⟩
        split
        · simpa [hne] using hV
        · exact hV
    · rcases upd_some hx with ⟨rfl, rfl⟩ | ⟨hne, hx⟩
      · rw [if_neg hk]; exact ⟨v, by simp, hr.1⟩
      · obtain ⟨V, hV, hv⟩ := h2 x w hx hk
        refine ⟨V, ?_, hv⟩
        split
        · exact hV
        · simpa [hne] using hV
  | _ :: _, [], _ :: _, _, _, _, h, _, _ => h.elim
  | _ :: _, _ :: _, [], _, _, _, h, _, _ => h.elim

theorem bindA_dom : ∀ (names : List Str) (as : List AV) (loc : Loc) (x : Str) (v : AV), bindA (names.zip as) loc x = some v → x ∈ names ∨ loc x = some v
  | [], _, _, _, _, h => .inr (by simpa [bindA] using h)
  | n :: ns, [], _, _, _, h => .inr (by simpa [bindA] using h)
  | n :: ns, a :: as, loc, x, v, h => by
    simp only [List.zip_cons_cons, bindA] at h
    rcases bindA_dom ns as _ x v h with h | h
    · exact .inl (.tail _ h)
    · rcases upd_some h with ⟨rfl, rfl⟩ | ⟨_, h⟩
      · exact .inl (.head _)
      · exact .inr h

/-- what a def gives back -/
def retQ (Q : AV → Hp → Prop) : AF → Loc → Hp → Prop
  | .ret v, _, H => Q v H
  | .next, _, H => Q .none H
  | _, _, _ => False

theorem CW_def {f : Str} {fa : Addr} {fd : FuncData} {body : List Stmt} {names : List Str} {args : List AV} (hf : IsFn cx f fa fd) (hb : fd.body = .stmts body) (hc : fd.closure = [])
    (hbind : ∀ vs : List Value, vs.length = args.length → bindArgs fd ⟨vs, []⟩ = pure (names.zip vs)) (hnm : names.all (storable fd.scope) = true)
    (hgl : fd.globals = mainGlobals) (hbl : fd.builtins = builtinsNs)
    (h : EX cx d fd.scope (bindA (names.zip args) fun _ => none) body H (retQ Q)) (hnf : fd.scope.names.all (fun y => y.2 != .free) = true := by rfl)
    (hco : fd.scope.isCoroutine = false := by rfl) (hgen : fd.scope.isGenerator = false := by rfl) (hk : fd.scope.kind = .function := by rfl) :
    CW cx (d + 1) (.ref fa) args H Q := by
  intro A P s E Q' vs hA R hvs k
  obtain ⟨o, ho, hd⟩ := hf.o
  have hroom : A.depth < recursionLimit := Nat.lt_of_le_of_lt (Nat.le_add_right _ _) hA.depth
  refine wpAny_call (codeAny_call_cells (fd := fd) (body := body) (binds := names.zip vs) hroom (R.keeps _ _ ho) hd (cx.nolimit.keeps R.keeps) (hf.code.keeps R.keeps) hb (hbind vs hvs.length.symm) hc ?_ ?_ hco hgen hk)
  · intro x hx
    have hx1 : x.1 ∈ names := (List.of_mem_zip hx).1
    have := (storable_of (List.all_eq_true.mp hnm x.1 hx1)).1
    exact this.imp id fun e => ⟨e, cells_some _ _ _ (.inl e)⟩
  · intro s₁ X
    obtain ⟨h₁, tk₁, rfl⟩ := X.toInCall.same
    have hup := X.toInCall.keep
    have R₁ : Rep cx P H h₁ := ⟨R.base, fun a o e => hup a o (R.ext a o e), fun a o e => by obtain ⟨O, hO, r⟩ := R.obj a o e; exact ⟨O, hup a O hO, r⟩, R.sep, R.scr⟩
    have hL : (callEnvC fd s.heap.objs.size fa).locals = s.heap.objs.size := rfl
    have big : ∀ a, fp (callEnvC fd s.heap.objs.size fa) a → s.heap.objs.size ≤ a := by
      intro a ha
      rcases ha with rfl | ⟨x, hm⟩
      · exact Nat.le_refl _
      · exact Nat.le_of_lt (X.above x a (mem_of_lookup hm))
    have none_of : ∀ a, s.heap.objs.size ≤ a → s.heap.get? a = none := fun a ha => by
      cases q : s.heap.get? a with
      | none => rfl
      | some o => exact absurd (Heap.lt_size q) (Nat.not_lt.mpr ha)
    have bf := bind_frame (kd := (callEnvC fd s.heap.objs.size fa).kindOf) names args vs (fun _ => none) (fun _ => none) (fun _ => none) hvs (fun _ _ e => by cases e) (fun _ _ e => by cases e)
    have hdom : ∀ x v, bindA (names.zip args) (fun _ => none) x = some v → storable fd.scope x = true := fun x v hx => by
      rcases bindA_dom names args _ x v hx with hm | e
      · exact List.all_eq_true.mp hnm x hm
      · cases e
    have offP : ∀ a, fp (callEnvC fd s.heap.objs.size fa) a → P a = none := fun a ha => by
      cases q : P a with
      | none => rfl
      | some o => have := R.ext a o q; rw [none_of a (big a ha)] at this; cases this
    have F : FrameOwn (callEnvC fd s.heap.objs.size fa) (bindA (names.zip args) fun _ => none) P H h₁ := by
      refine ⟨⟨⟨_, X.toInCall.ns, bf.1⟩, fun x v hx hc' => ?_, fun x v hx => ?_, fun x c hm => ?_⟩, fun x hx => cells_some _ _ _ (.inl hx), X.apart, fun x c hm => Nat.ne_of_gt (X.above x c hm), offP _ (.inl rfl), fun x c _ hc => offP c (.inr ⟨x, hc⟩), fun a ha => ?_⟩
      · have hnl : (callEnvC fd s.heap.objs.size fa).kindOf x ≠ some .local := by rcases hc' with e | e <;> rw [e] <;> simp
        have hcell : (callEnvC fd s.heap.objs.size fa).kindOf x = some .cell := (storable_of (hdom x v hx)).1.elim (fun e => absurd e hnl) id
        obtain ⟨c, hcl⟩ := Option.isSome_iff_exists.mp (cells_some fd.scope.names (s.heap.objs.size + 1) [] (.inl hcell))
        obtain ⟨V, hV, hv⟩ := bf.2 x v hx hnl
        have hcc := X.cell x c hcl
        rw [hV] at hcc
        exact ⟨c, V, hcl, hcc, hv⟩
      · obtain ⟨hk', hp⟩ := storable_of (hdom x v hx)
        exact ⟨hk'.imp id .inl, hp⟩
      · exact ⟨_, X.cell x c hm⟩
      · cases q : H a with
        | none => rfl
        | some o => obtain ⟨O, hO, _⟩ := R.obj a o q; rw [none_of a (big a ha)] at hO; cases hO
    have hA' : Room d (A.deeper (callEnvC fd s.heap.objs.size fa)) := ⟨hA.handled, by have := hA.depth; show A.depth + 1 + d < recursionLimit; omega, by have := hA.units; show A.units + 3 + 8 * d < cLine; omega⟩
    have hnofree : ∀ x, fd.scope.names.lookup x ≠ some .free := fun x e => by
      have := List.all_eq_true.mp hnf _ (mem_of_lookup e)
      simp at this
    refine h _ _ P _ _ _ ⟨rfl, hk, hgl, hbl, X.apart, fun x hx => cells_some _ _ _ (.inl (hx.elim id fun e => absurd e (hnofree x)))⟩ F hA' R₁ fun fl Fl loc' H' h' tk q hfl F' R' => ?_
    · cases fl with
      | next => cases hfl; exact k .none .none H' h' tk q rfl R'
      | brk => exact q.elim
      | cont => exact q.elim
      | ret v => obtain ⟨V, rfl, hv⟩ := hfl; exact k v V H' h' tk q hv R'
end
end Mine

-- Core4
namespace Mine
open PySem

/-! ## new objects, what is laid aside -/
section
variable {cx : Cx} {P : PH} {H : Hp} {h : Heap}

theorem Rep.fresh (R : Rep cx P H h) {a : Addr} (ha : h.get? a = none) : P a = none ∧ H a = none := by
  constructor
  · cases q : P a with
    | none => rfl
    | some o => have := R.ext a o q; rw [ha] at this; cases this
  · cases q : H a with
    | none => rfl
    | some o => obtain ⟨O, hO, _⟩ := R.obj a o q; rw [ha] at hO; cases hO

theorem get_size (h : Heap) : h.get? h.objs.size = none := by
  cases q : h.get? h.objs.size with
  | none => rfl
  | some o => exact absurd (Heap.lt_size q) (Nat.lt_irrefl _)

/-- the heap has grown, or an object that nobody keeps has turned -/
theorem Rep.ext_to (R : Rep cx P H h) {h' : Heap} {I : Addr} (hP : P I = none) (hH : H I = none) (e : Heap.ExtBut I h h') : Rep cx P H h' :=
  ⟨R.base, fun a o q => e a o (fun z => by rw [z, hP] at q; cases q) (R.ext a o q), fun a o q => by
    obtain ⟨O, hO, r⟩ := R.obj a o q
    exact ⟨O, e a O (fun z => by rw [z, hH] at q; cases q) hO, r⟩, R.sep, R.scr⟩
theorem Rep.grow (R : Rep cx P H h) {h' : Heap} (e : ∀ b o, h.get? b = some o → h'.get? b = some o) : Rep cx P H h' :=
  ⟨R.base, fun a o q => e a o (R.ext a o q), fun a o q => by
    obtain ⟨O, hO, r⟩ := R.obj a o q
    exact ⟨O, e a O hO, r⟩, R.sep, R.scr⟩

theorem Rep.put_new (R : Rep cx P H h) {h' : Heap} {a : Addr} {o : AObj} {O : Obj} (ha : h.get? a = none) (e : ∀ b o, h.get? b = some o → h'.get? b = some o) (hO : h'.get? a = some O) (r : OR cx o O) :
    Rep cx P (H.put a o) h' := by
  have hf := R.fresh ha
  refine ⟨R.base, fun b ob q => e b ob (R.ext b ob q), fun b ob q => ?_, fun b ob Ob q hq => ?_, ?_⟩
  · by_cases hb : b = a
    · subst hb; rw [Hp.put_self] at q; cases q; exact ⟨O, hO, r⟩
    · rw [Hp.put_ne hb] at q; obtain ⟨O', hO', r'⟩ := R.obj b ob q; exact ⟨O', e b O' hO', r'⟩
  · by_cases hb : b = a
    · subst hb; rw [hf.1] at hq; cases hq
    · rw [Hp.put_ne hb] at q; exact R.sep b ob Ob q hq
  · have hne : cx.script ≠ a := fun z => by have := R.scr; rw [z, hf.2] at this; cases this
    rw [Hp.put_ne hne]; exact R.scr

theorem Rep.push (R : Rep cx P H h) {o : AObj} {O : Obj} (r : OR cx o O) (hf : O.isFreed = false) : Rep cx P (H.put h.objs.size o) (h.push O) :=
  R.put_new (get_size h) (fun _ _ q => Heap.get?_push_of_some _ q) (Heap.get?_push_size _ hf) r

/-- an object of the call's own has turned -/
theorem Rep.put_own (R : Rep cx P H h) {h' : Heap} {a : Addr} {o : AObj} {O : Obj} (hP : P a = none) (hs : a ≠ cx.script) (e : Heap.SameBut a h h') (hO : h'.get? a = some O) (r : OR cx o O) :
    Rep cx P (H.put a o) h' := by
  refine ⟨R.base, fun b ob q => ?_, fun b ob q => ?_, fun b ob Ob q hq => ?_, ?_⟩
  · have hb : b ≠ a := fun z => by rw [z, hP] at q; cases q
    exact (e.2 b hb).trans (R.ext b ob q)
  · by_cases hb : b = a
    · subst hb; rw [Hp.put_self] at q; cases q; exact ⟨O, hO, r⟩
    · rw [Hp.put_ne hb] at q; obtain ⟨O', hO', r'⟩ := R.obj b ob q; exact ⟨O', (e.2 b hb).trans hO', r'⟩
  · by_cases hb : b = a
    · subst hb; rw [hP] at hq; cases hq
    · rw [Hp.put_ne hb] at q; exact R.sep b ob Ob q hq
  · rw [Hp.put_ne (Ne.symm hs)]; exact R.scr

theorem Rep.own_free (R : Rep cx P H h) {a : Addr} {o : AObj} (ha : H a = some o) (hro : ∀ vs, o ≠ .list true vs) : P a = none ∧ a ≠ cx.script := by
  have hs : a ≠ cx.script := fun z => by rw [z, R.scr] at ha; cases ha; exact hro _ rfl
  refine ⟨?_, hs⟩
  cases q : P a with
  | none => rfl
  | some O => exact absurd (R.sep a o O ha q) hs

def addP (P : PH) (I : Addr) (O : Obj) : PH := fun a => if a = I then some O else P a
theorem Rep.add (R : Rep cx P H h) {I : Addr} {O : Obj} (hI : h.get? I = some O) (hP : P I = none) (hH : H I = none) : Rep cx (addP P I O) H h := by
  refine ⟨fun a o q => ?_, fun a o q => ?_, R.obj, fun a o O' q hq => ?_, R.scr⟩
  · have : a ≠ I := fun z => by have := R.base a o q; rw [z, hP] at this; cases this
    unfold addP; rw [if_neg this]; exact R.base a o q
  · unfold addP at q
    split at q
    · rename_i z; cases q; rw [z]; exact hI
    · exact R.ext a o q
  · unfold addP at hq
    split at hq
    · rename_i z; rw [z, hH] at q; cases q
    · exact R.sep a o O' q hq
theorem Rep.drop {I : Addr} {O : Obj} (R : Rep cx (addP P I O) H h) (hP : P I = none) (hb : ∀ a o, cx.base.get? a = some o → P a = some o) : Rep cx P H h ∧ h.get? I = some O ∧ H I = none := by
  have hI : h.get? I = some O := R.ext I O (by simp [addP])
  refine ⟨⟨hb, fun a o q => ?_, R.obj, fun a o O' q hq => ?_, R.scr⟩, hI, ?_⟩
  · have : a ≠ I := fun z => by rw [z, hP] at q; cases q
    exact R.ext a o (by unfold addP; rw [if_neg this]; exact q)
  · have : a ≠ I := fun z => by rw [z, hP] at hq; cases hq
    exact R.sep a o O' q (by unfold addP; rw [if_neg this]; exact hq)
  · cases q : H I with
    | none => rfl
    | some o =>
      have := R.sep I o O q (by simp [addP])
      obtain ⟨ob, hob⟩ := cx.scriptIn
      have h2 := hb _ _ hob
      rw [← this, hP] at h2; cases h2
end

theorem VRs.get' : ∀ {as : List AV} {vs : List Value} {i : Nat} {v : Value}, VRs as vs → vs[i]? = some v → ∃ a, as[i]? = some a ∧ VR a v
  | a :: _, _ :: _, 0, _, h, e => by cases e; exact ⟨a, rfl, h.1⟩
  | _ :: _, _ :: _, i + 1, _, h, e => VRs.get' (i := i) h.2 e
  | _, [], _, _, _, e => by simp at e
  | [], _ :: _, _, _, h, _ => h.elim

section
variable {cx : Cx} {d : Nat} {sc : Scope} {loc : Loc} {H : Hp} {Q : AV → Hp → Prop} {pos : Pos}

theorem EV_List {es : List Expr} (h : EVs cx d sc loc es H fun vs H' => vs.length ≤ 2 ^ 20 ∧ ∀ a, H' a = none → Q (.ref a) (H'.put a (.list false vs))) (hn : es.all notStar = true := by rfl) :
    EV cx d sc loc (.List es pos) H Q := by
  intro env A P s E Q' he hF hA R k
  refine wpAny_List (EVs.sound h hn he hF hA R fun vs Vs H' h' tk q hvs R' => ⟨?_, ?_⟩)
  · have := hvs.length; have := q.1; show Vs.length ≤ 2 ^ 24; omega
  · exact k _ _ _ _ _ (q.2 _ (R'.fresh (get_size _)).2) rfl (R'.push (o := .list false vs) ⟨_, _, rfl, by simpa using hvs⟩ rfl)
theorem EV_Tuple {es : List Expr} {n : Nat} (h : EVs cx d sc loc es H fun vs H' => vs.length ≤ 2 ^ 20 ∧ ∀ a, H' a = none → Q (.ref a) (H'.put a (.tuple vs))) (hn : es.all notStar = true := by rfl) :
    EV cx d sc loc (.Tuple es n pos) H Q := by
  intro env A P s E Q' he hF hA R k
  refine wpAny_Tuple (EVs.sound h hn he hF hA R fun vs Vs H' h' tk q hvs R' => ⟨?_, ?_⟩)
  · have := hvs.length; have := q.1; show Vs.length ≤ 2 ^ 24; omega
  · exact k _ _ _ _ _ (q.2 _ (R'.fresh (get_size _)).2) rfl (R'.push (o := .tuple vs) ⟨_, _, rfl, by simpa using hvs⟩ rfl)
end

/-! ## what may be iterated -/
/-- the nums of a range by ones -/
def spanZ (lo hi : Int) : List AV := (List.range (hi - lo).toNat).map fun (i : Nat) => AV.int (lo + i)

inductive Src (H : Hp) : AV → List AV → (Hp → Prop) → Prop where
  | list {a : Addr} {ro : Bool} {vs : List AV} : H a = some (.list ro vs) → Src H (.ref a) vs (fun H' => H' a = some (.list ro vs))
  | range {a : Addr} {lo hi : Int} : H a = some (.range lo hi) → -2 ^ 31 < lo → lo < 2 ^ 31 → hi < 2 ^ 31 → -2 ^ 31 < hi → Src H (.ref a) (spanZ lo hi) (fun _ => True)

structure ItP (cx : Cx) (I : Addr) (els : List AV) (keep : Hp → Prop) (St : Nat → Obj → Prop) : Prop where
  item : ∀ (i : Nat) (v : AV) (A : Around) (P : PH) (H : Hp) (s : Shared) (E : Value → Shared → Prop) (Q' : Option Value → Shared → Prop) (O : Obj), els[i]? = some v → keep H → Rep cx P H s.heap → H I = none →
    s.heap.get? I = some O → St i O → (∀ V h' O' tk, VR v V → Heap.SameBut I s.heap h' → h'.get? I = some O' → St (i + 1) O' → Q' (some V) { s with heap := h', toks := tk }) →
    wpAny (model cx.prog cx.w) A (pyNext (.ref I)) Q' E s
  done : ∀ (A : Around) (P : PH) (H : Hp) (s : Shared) (E : Value → Shared → Prop) (Q' : Option Value → Shared → Prop) (O : Obj), A.handled = none → keep H → Rep cx P H s.heap → H I = none →
    s.heap.get? I = some O → St els.length O → (∀ h' tk, Heap.ExtBut I s.heap h' → Q' none { s with heap := h', toks := tk }) → wpAny (model cx.prog cx.w) A (pyNext (.ref I)) Q' E s
  self : ∀ (i : Nat) (A : Around) (s : Shared) (E : Value → Shared → Prop) (Q' : Value → Shared → Prop) (O : Obj), s.heap.get? I = some O → St i O → Q' (.ref I) s → wpAny (model cx.prog cx.w) A (pyIter (.ref I)) Q' E s

theorem Rep.isList {cx : Cx} {P : PH} {H : Hp} {h : Heap} (R : Rep cx P H h) {a : Addr} {ro : Bool} {vs : List AV} (ha : H a = some (.list ro vs)) :
    ∃ items n, h.get? a = some { cls := .type "list", dict := none, data := .seq items n, slots := #[] } ∧ VRs vs items.toList := by
  obtain ⟨O, hO, items, n, rfl, hv⟩ := R.obj a _ ha
  exact ⟨items, n, hO, hv⟩

theorem spanZ_length (lo hi : Int) : (spanZ lo hi).length = (hi - lo).toNat := by simp [spanZ]
theorem spanZ_get {lo hi : Int} {i : Nat} {v : AV} (h : (spanZ lo hi)[i]? = some v) : i < (hi - lo).toNat ∧ v = .int (lo + i) := by
  have hlt : i < (spanZ lo hi).length := by
    rcases Nat.lt_or_ge i (spanZ lo hi).length with h1 | h1
    · exact h1
    · rw [List.getElem?_eq_none h1] at h; cases h
  rw [spanZ_length] at hlt
  simp [spanZ, hlt] at h
  exact ⟨hlt, h.symm⟩

theorem rangeSize_one (lo hi : Int) : Builtin.Range.rangeSize lo hi 1 = ((hi - lo).toNat : Int) := by
  unfold Builtin.Range.rangeSize
  simp
  omega

theorem iter_of {cx : Cx} {H : Hp} {v : AV} {els : List AV} {keep : Hp → Prop} (S : Src H v els keep) {A : Around} {P : PH} {s : Shared} {E : Value → Shared → Prop} {Q' : Value → Shared → Prop} {V : Value} (hv : VR v V)
    (R : Rep cx P H s.heap)
    (k : ∀ I O St, ItP cx I els keep St → s.heap.get? I = none → keep H → St 0 O → I = s.heap.objs.size → O.isFreed = false → Q' (.ref I) { s with heap := s.heap.push O }) :
    wpAny (model cx.prog cx.w) A (pyIter V) Q' E s := by
  cases S with
  | @list a ro vs ha =>
    cases hv
    obtain ⟨items, n, hO, hr⟩ := R.isList ha
    have hl : s.heap.IsList a items := ⟨_, hO, rfl, n, rfl⟩
    refine wpAny_pyIter_list hl (k _ _ (fun i O => O.cls = .type "list_iterator" ∧ O.data = .fields #[.ref a, .int i 0]) ⟨?_, ?_, ?_⟩ (get_size _) ha ⟨rfl, rfl⟩ rfl rfl)
    · intro i v A P H s₁ E Q' O hi hk R₁ hH hI hSt hQ
      obtain ⟨items₁, n₁, hO₁, hr₁⟩ := R₁.isList hk
      obtain ⟨V, hV, hvV⟩ := hr₁.get hi
      refine wpAny_pyNext_list_item (items := items₁) ⟨O, hI, hSt.1, hSt.2⟩ ⟨_, hO₁, rfl, n₁, rfl⟩ (by simpa using hV) fun h' hit hs => ?_
      obtain ⟨O', hO', hc, hd⟩ := hit
      exact hQ V h' O' s₁.toks hvV hs hO' ⟨hc, hd⟩
    · intro A P H s₁ E Q' O hh hk R₁ hH hI hSt hQ
      obtain ⟨items₁, n₁, hO₁, hr₁⟩ := R₁.isList hk
      refine wpAny_pyNext_list_end (items := items₁) hh ⟨O, hI, hSt.1, hSt.2⟩ ⟨_, hO₁, rfl, n₁, rfl⟩ ?_ fun h' e => hQ h' s₁.toks e
      have := hr₁.length
      simp only [Array.length_toList] at this
      rw [this]; simp
    · intro i A s₁ E Q' O hI hSt hQ
      exact wpAny_pyIter_listiter ⟨O, hI, hSt.1, hSt.2⟩ hQ
  | @range a lo hi ha h1 h2 h3 h4 =>
    cases hv
    obtain ⟨O, hO, t, u, v, rfl⟩ := R.obj a _ ha
    have hsm : Builtin.Range.small lo hi 1 = true := by
      unfold Builtin.Range.small
      rw [rangeSize_one]
      simp [Builtin.Range.rangeFitsLong]
      omega
    refine wpAny_pyIter_range hO hsm (k _ _ (fun i O => O = { cls := .type "range_iterator", dict := none, data := .fields #[rawInt (lo + i), rawInt ((hi - lo).toNat - i), rawInt 1], slots := #[] }) ⟨?_, ?_, ?_⟩ (get_size _) trivial ?_ rfl rfl)
    · rintro i v A P H s₁ E Q' O hget hk R₁ hH hI rfl hQ
      obtain ⟨hlt, rfl⟩ := spanZ_get hget
      refine wpAny_pyNext_range_item hI (by omega) fun h' hit hs => hQ _ h' _ _ ⟨_, rfl⟩ hs hit ?_
      have e1 : lo + (i : Int) + 1 = lo + ((i + 1 : Nat) : Int) := by omega
      have e2 : ((hi - lo).toNat : Int) - (i : Int) - 1 = ((hi - lo).toNat : Int) - ((i + 1 : Nat) : Int) := by omega
      rw [e1, e2]
    · rintro A P H s₁ E Q' O hh hk R₁ hH hI rfl hQ
      refine wpAny_pyNext_range_end hh hI ?_ fun h' e => hQ h' s₁.toks e
      rw [spanZ_length]; omega
    · rintro i A s₁ E Q' O hI rfl hQ
      exact wpAny_pyIter_rangeiter hI hQ
    · rw [rangeSize_one]; simp

/-! ## loops -/
def loopQ (J : Loc → Hp → Prop) (Q : AF → Loc → Hp → Prop) : AF → Loc → Hp → Prop
  | .next, l, H => J l H
  | .cont, l, H => J l H
  | .brk, l, H => Q .next l H
  | .ret v, l, H => Q (.ret v) l H

section
variable {cx : Cx} {d : Nat} {sc : Scope} {loc : Loc} {H : Hp} {Q : AF → Loc → Hp → Prop} {pos : Pos}

theorem EX_While {t : Expr} {b : List Stmt} (I : Nat → Loc → Hp → Prop) (n : Nat) (h0 : I n loc H)
    (turn : ∀ n loc H, I n loc H → TV cx d sc loc t H fun c H' => if c = true then EX cx d sc loc b H' (loopQ (fun l₂ H₂ => ∃ m, m < n ∧ I m l₂ H₂) Q) else Q .next loc H') :
    EX1 cx d sc loc (.While t b [] pos) H Q := by
  intro env A P s E Q' he F hA R k
  refine wpAny_While (codeAny_whileLoop (fun n s' => ∃ l₁ H₁ h₁ tk₁, s' = { s with heap := h₁, toks := tk₁ } ∧ I n l₁ H₁ ∧ FrameOwn env l₁ P H₁ h₁ ∧ Rep cx P H₁ h₁) ?_ n ⟨loc, H, s.heap, s.toks, rfl, h0, F, R⟩)
  rintro n s' ⟨l₁, H₁, h₁, tk₁, rfl, hI, F₁, R₁⟩
  refine (turn n l₁ H₁ hI).here he F₁ hA R₁ fun c H₂ h₂ tk₂ q F₂ R₂ => ?_
  cases c with
  | false => simp only [Bool.false_eq_true, if_false] at q ⊢; exact wpAny_execs_nil (k .next .next l₁ H₂ h₂ tk₂ q rfl F₂ R₂)
  | true =>
    simp only [if_true] at q ⊢
    refine q env A P _ _ _ he F₂ hA R₂ fun f Fl l₃ H₃ h₃ tk₃ q₃ hf F₃ R₃ => ?_
    cases f with
    | next => cases hf; obtain ⟨m, hm, hI⟩ := q₃; exact ⟨m, hm, l₃, H₃, h₃, tk₃, rfl, hI, F₃, R₃⟩
    | cont => cases hf; obtain ⟨m, hm, hI⟩ := q₃; exact ⟨m, hm, l₃, H₃, h₃, tk₃, rfl, hI, F₃, R₃⟩
    | brk => cases hf; exact k .next .next l₃ H₃ h₃ tk₃ q₃ rfl F₃ R₃
    | ret v => obtain ⟨V, rfl, hv⟩ := hf; exact k (.ret v) (.ret V) l₃ H₃ h₃ tk₃ q₃ ⟨V, rfl, hv⟩ F₃ R₃

theorem FrameW.add {W : Str → Prop} {env : Env} {P : PH} {h : Heap} {I : Addr} {O : Obj} (F : FrameW W env loc P H h) (hI : ¬ fp env I) : FrameW W env loc (addP P I O) H h :=
  ⟨F.at_, F.cellHas, F.apart, F.cellNe, by unfold addP; rw [if_neg (fun z => hI (.inl z.symm))]; exact F.locP,
    fun x c hW hc => by unfold addP; rw [if_neg (fun (z : c = I) => hI (.inr ⟨x, z ▸ hc⟩))]; exact F.cellP x c hW hc, F.offH⟩
theorem FrameW.drop {W : Str → Prop} {env : Env} {P : PH} {h : Heap} {I : Addr} {O : Obj} (F : FrameW W env loc (addP P I O) H h) : FrameW W env loc P H h :=
  have up : ∀ a, addP P I O a = none → P a = none := fun a e => by
    unfold addP at e
    split at e
    · cases e
    · exact e
  ⟨F.at_, F.cellHas, F.apart, F.cellNe, up _ F.locP, fun x c hW hc => up _ (F.cellP x c hW hc), F.offH⟩

theorem EX_For {x : Str} {px : Pos} {iter : Expr} {body : List Stmt}
    (h : EV cx d sc loc iter H fun v H₁ => ∃ els keep, Src H₁ v els keep ∧ ∃ J : Nat → Loc → Hp → Prop, J 0 loc H₁ ∧ (∀ i l₂ H₂, J i l₂ H₂ → keep H₂) ∧
      (∀ i w l₂ H₂, els[i]? = some w → J i l₂ H₂ → EX cx d sc (upd l₂ x w) body H₂ (loopQ (J (i + 1)) Q)) ∧ ∀ l₂ H₂, J els.length l₂ H₂ → Q .next l₂ H₂)
    (hx : storable sc x = true := by rfl) (hs : ∀ env v, foldedSetIterable iter env v = pure v := by intro _ _; rfl) : EX1 cx d sc loc (.For (.Name x px) iter body [] pos) H Q := by
  intro env A P s E Q' he F hA R k
  refine wpAny_For (h.here he F hA R fun v V H₁ h₁ tk₁ q hv F₁ R₁ => ?_) (hs env)
  obtain ⟨els, keep, S, J, hJ0, hkeep, turn, fin⟩ := q
  refine iter_of S hv R₁ fun I O St W hI hk hSt eI hfr => ?_
  have hIf : ¬ fp env I := fun z => by obtain ⟨o, ho⟩ := F₁.live I z; rw [show ({ s with heap := h₁, toks := tk₁ } : Shared).heap.get? I = h₁.get? I from rfl] at hI; rw [ho] at hI; cases hI
  have hfr₁ := R₁.fresh hI
  have hup : ∀ b o, h₁.get? b = some o → (h₁.push O).get? b = some o := fun b o e => Heap.get?_push_of_some _ e
  have hOI : (h₁.push O).get? I = some O := by rw [eI]; exact Heap.get?_push_size _ hfr
  obtain ⟨Inv, hInv⟩ : ∃ Inv : Nat → Shared → Prop, ∀ n s', Inv n s' ↔ (∃ i l₂ H₂ h₂ tk₂ O₂, s' = { s with heap := h₂, toks := tk₂ } ∧ J i l₂ H₂ ∧ FrameOwn env l₂ P H₂ h₂ ∧ Rep cx P H₂ h₂ ∧ h₂.get? I = some O₂ ∧ St i O₂ ∧ H₂ I = none ∧ i ≤ els.length ∧ n = els.length + 1 - i) := ⟨_, fun _ _ => Iff.rfl⟩
  refine codeAny_forLoop Inv ?_ (els.length + 1)
    ((hInv _ _).mpr ⟨0, loc, H₁, _, tk₁, O, rfl, hJ0, F₁.eq_on (fun a _ o e => hup a o e) F₁.offH, R₁.grow hup, hOI, hSt, hfr₁.2, Nat.zero_le _, rfl⟩) (by intro _; rfl)
  rintro n s' hInv0
  obtain ⟨i, l₂, H₂, h₂, tk₂, O₂, rfl, hJ, F₂, R₂, hO₂, hSt₂, hH₂, hi, rfl⟩ := (hInv _ _).mp hInv0
  cases hel : els[i]? with
  | none =>
    have hil : i = els.length := Nat.le_antisymm hi (by simpa using hel)
    subst hil
    refine W.done A P H₂ _ _ _ O₂ hA.handled (hkeep _ _ _ hJ) R₂ hH₂ hO₂ hSt₂ fun h₃ tk₃ e₃ => wpAny_execs_nil ?_
    exact k .next .next l₂ H₂ h₃ tk₃ (fin _ _ hJ) rfl (F₂.eq_on (fun a ha o e => e₃ a o (fun z => hIf (z ▸ ha)) e) F₂.offH) (R₂.ext_to hfr₁.1 hH₂ e₃)
  | some w =>
    have hlt : i < els.length := (List.getElem?_eq_some_iff.mp hel).1
    refine W.item i w A P H₂ _ _ _ O₂ hel (hkeep _ _ _ hJ) R₂ hH₂ hO₂ hSt₂ fun V' h₃ O₃ tk₃ hV e₃ hO₃ hSt₃ => ?_
    have F₃ : FrameOwn env l₂ P H₂ h₃ := F₂.eq_on (fun a ha o e => (e₃.2 a fun z => hIf (z ▸ ha)).trans e) F₂.offH
    have R₃ : Rep cx P H₂ h₃ := R₂.ext_to hfr₁.1 hH₂ e₃.extBut
    have F₃' := F₃.add (O := O₃) hIf
    have R₃' := R₃.add hO₃ hfr₁.1 hH₂
    refine wpAny_assign_Name (store_own he F₃' R₃' hx hV fun h₄ tk₄ F₄ R₄ => ?_)
    refine turn i w l₂ H₂ hel hJ env A (addP P I O₃) _ _ _ he F₄ hA R₄ fun f Fl l₅ H₅ h₅ tk₅ q₅ hf F₅ R₅ => ?_
    obtain ⟨R₆, hO₆, hH₆⟩ := R₅.drop hfr₁.1 R.base
    have F₆ := F₅.drop
    cases f with
    | next => cases hf; exact ⟨els.length + 1 - (i + 1), by omega, (hInv _ _).mpr ⟨i + 1, l₅, H₅, h₅, tk₅, O₃, rfl, q₅, F₆, R₆, hO₆, hSt₃, hH₆, hlt, rfl⟩⟩
    | cont => cases hf; exact ⟨els.length + 1 - (i + 1), by omega, (hInv _ _).mpr ⟨i + 1, l₅, H₅, h₅, tk₅, O₃, rfl, q₅, F₆, R₆, hO₆, hSt₃, hH₆, hlt, rfl⟩⟩
    | brk => cases hf; exact k .next .next l₅ H₅ h₅ tk₅ q₅ rfl F₆ R₆
    | ret v => obtain ⟨V, rfl, hv⟩ := hf; exact k (.ret v) (.ret V) l₅ H₅ h₅ tk₅ q₅ ⟨V, rfl, hv⟩ F₆ R₆
end
end Mine

-- Core5
namespace Mine
open PySem

/-! ## comprehensions -/
def clOf (cells : List (Str × Addr)) : List (Str × NameKind) → List (Str × Addr) → List (Str × Addr)
  | [], acc => acc
  | (n, k) :: r, acc => if k == .free then clOf cells r ((n, (cells.lookup n).getD 0) :: acc) else clOf cells r acc

theorem clOf_mem {cells : List (Str × Addr)} : ∀ (names : List (Str × NameKind)) (acc : List (Str × Addr)) {y : Str} {c : Addr}, (∀ x ∈ names, x.2 = .free → (cells.lookup x.1).isSome = true) →
    (y, c) ∈ clOf cells names acc → (y, c) ∈ acc ∨ cells.lookup y = some c
  | [], _, _, _, _, h => .inl h
  | (n, k) :: r, acc, y, c, hall, h => by
    unfold clOf at h
    split at h
    · rename_i hk
      rcases clOf_mem r _ (fun x hx => hall x (.tail _ hx)) h with h | h
      · rcases List.mem_cons.mp h with e | h
        · cases e
          obtain ⟨c, hc⟩ := Option.isSome_iff_exists.mp (hall (n, k) (.head _) (by simpa using hk))
          exact .inr (by simp only at hc; rw [hc]; rfl)
        · exact .inl h
      · exact .inr h
    · exact clOf_mem r acc (fun x hx => hall x (.tail _ hx)) h
theorem clOf_has {cells : List (Str × Addr)} : ∀ (names : List (Str × NameKind)) (acc : List (Str × Addr)) {y : Str}, ((y, NameKind.free) ∈ names ∨ ∃ c, (y, c) ∈ acc) → ∃ c, (y, c) ∈ clOf cells names acc
  | [], _, _, h => h.elim (fun h => by cases h) id
  | (n, k) :: r, acc, y, h => by
    unfold clOf
    split
    · refine clOf_has r _ ?_
      rcases h with h | ⟨c, h⟩
      · rcases List.mem_cons.mp h with e | h
        · cases e; exact .inr ⟨_, .head _⟩
        · exact .inl h
      · exact .inr ⟨c, .tail _ h⟩
    · rename_i hk
      refine clOf_has r _ ?_
      rcases h with h | h
      · rcases List.mem_cons.mp h with e | h
        · cases e; simp at hk
        · exact .inl h
      · exact .inr h

theorem lookup_some_of_mem {α : Type} : ∀ {l : List (Str × α)} {y : Str} {c : α}, (y, c) ∈ l → ∃ c', l.lookup y = some c'
  | (n, a) :: r, y, c, h => by
    rw [List.lookup_cons]
    cases hb : y == n with
    | true => exact ⟨a, rfl⟩
    | false =>
      rcases List.mem_cons.mp h with e | h
      · cases e; simp at hb
      · exact lookup_some_of_mem h

theorem closureFor_eq {scope : Scope} {env : Env} (h : ∀ x ∈ scope.names, x.2 = .free → (env.cells.lookup x.1).isSome = true) : closureFor scope env = pure (clOf env.cells scope.names []) := by
  unfold closureFor
  have key : ∀ (names : List (Str × NameKind)) (acc : List (Str × Addr)), (∀ x ∈ names, x.2 = .free → (env.cells.lookup x.1).isSome = true) →
      (forIn names acc fun x r => match x with
        | (name, kind) => if (kind == .free) = true then do let __do_lift ← cellOf env name; pure (ForInStep.yield ((name, __do_lift) :: r)) else pure (ForInStep.yield r) : Sem (List (Str × Addr))) = pure (clOf env.cells names acc) := by
    intro names
    induction names with
    | nil => intro acc _; rfl
    | cons x r ih =>
      intro acc hall
      obtain ⟨n, k⟩ := x
      rw [List.forIn_cons]
      have ih' := fun acc => ih acc fun x hx => hall x (.tail _ hx)
      unfold clOf
      by_cases hk : (k == .free) = true
      · obtain ⟨c, hc⟩ := Option.isSome_iff_exists.mp (hall (n, k) (.head _) (by simpa using hk))
        simp only at hc
        have e : cellOf env n = pure c := by unfold cellOf; rw [hc]
        simp only [hk, if_true, e, hc, Option.getD_some, pure_bind]
        exact ih' _
      · rw [if_neg hk]
        simp only [hk]
        exact ih' _
  have := key scope.names [] h
  refine Eq.trans (b := (forIn scope.names [] fun x r => match x with
        | (name, kind) => if (kind == .free) = true then do let __do_lift ← cellOf env name; pure (ForInStep.yield ((name, __do_lift) :: r)) else pure (ForInStep.yield r) : Sem (List (Str × Addr))) >>= pure) ?_ ?_
  · rfl
  · rw [this]; rfl

theorem cells_where : ∀ (names : List (Str × NameKind)) (h : Heap) (acc : List (Str × Addr)) {y : Str} {c : Addr}, (cellsFrom h.objs.size names acc).lookup y = some c →
    (h.objs.size ≤ c ∧ (pushCells h names).IsCell c none ∧ (y, NameKind.cell) ∈ names) ∨ (acc.lookup y = some c ∧ (y, NameKind.cell) ∉ names)
  | [], _, _, _, _, e => .inr ⟨e, by simp⟩
  | (n, k) :: r, h, acc, y, c, e => by
    unfold cellsFrom at e
    unfold pushCells
    split at e
    · rename_i hk
      rw [if_pos hk]
      have hk' : k = .cell := by simpa using hk
      subst hk'
      have := cells_where r (h.push { cls := .type "cell", data := .cell none }) ((n, h.objs.size) :: acc) (y := y) (c := c) (by rw [Heap.size_push]; exact e)
      rw [Heap.size_push] at this
      rcases this with ⟨h1, h2, h3⟩ | ⟨h1, h2⟩
      · exact .inl ⟨by omega, h2, .tail _ h3⟩
      · rw [List.lookup_cons] at h1
        cases hb : y == n with
        | true =>
          rw [hb] at h1; cases h1
          rw [beq_iff_eq.mp hb]
          exact .inl ⟨Nat.le_refl _, ⟨_, pushCells_keeps _ _ _ _ (Heap.get?_push_size _ rfl), rfl⟩, .head _⟩
        | false =>
          rw [hb] at h1
          refine .inr ⟨h1, fun hm => ?_⟩
          rcases List.mem_cons.mp hm with e' | hm
          · cases e'; simp at hb
          · exact h2 hm
    · rename_i hk
      rw [if_neg hk]
      rcases cells_where r h acc e with ⟨h1, h2, h3⟩ | ⟨h1, h2⟩
      · exact .inl ⟨h1, h2, .tail _ h3⟩
      · refine .inr ⟨h1, fun hm => ?_⟩
        rcases List.mem_cons.mp hm with e' | hm
        · cases e'; simp at hk
        · exact h2 hm
theorem cells_ge : ∀ (names : List (Str × NameKind)) (n : Nat) (acc : List (Str × Addr)) {y : Str} {c : Addr}, (y, c) ∈ cellsFrom n names acc → (y, c) ∈ acc ∨ n ≤ c
  | [], _, _, _, _, h => .inl h
  | (m, k) :: r, n, acc, y, c, h => by
    unfold cellsFrom at h
    split at h
    · rcases cells_ge r (n + 1) _ h with h | h
      · rcases List.mem_cons.mp h with e | h
        · cases e; exact .inr (Nat.le_refl _)
        · exact .inl h
      · exact .inr (by omega)
    · exact cells_ge r n acc h
theorem cells_apart : ∀ (names : List (Str × NameKind)) (n : Nat) (acc : List (Str × Addr)), (acc.Pairwise fun x y => x.2 ≠ y.2) → (∀ x ∈ acc, x.2 < n) → (cellsFrom n names acc).Pairwise fun x y => x.2 ≠ y.2
  | [], _, _, h, _ => h
  | (m, k) :: r, n, acc, h, hlt => by
    unfold cellsFrom
    split
    · refine cells_apart r (n + 1) _ (List.pairwise_cons.mpr ⟨fun y hy e => ?_, h⟩) fun x hx => ?_
      · have := hlt y hy
        simp only at e
        rw [← e] at this; exact absurd this (Nat.lt_irrefl _)
      · rcases List.mem_cons.mp hx with rfl | hx
        · exact Nat.lt_succ_self _
        · exact Nat.lt_succ_of_lt (hlt x hx)
    · exact cells_apart r n acc h hlt

theorem clOf_apart {cells : List (Str × Addr)} (hp : cells.Pairwise fun x y => x.2 ≠ y.2) : ∀ (names : List (Str × NameKind)) (acc : List (Str × Addr)), (∀ x ∈ names, x.2 = .free → (cells.lookup x.1).isSome = true) →
    (names.map (·.1)).Nodup → (∀ x ∈ acc, cells.lookup x.1 = some x.2) → (∀ x ∈ acc, x.1 ∉ names.map (·.1)) → (acc.Pairwise fun x y => x.2 ≠ y.2) → (clOf cells names acc).Pairwise fun x y => x.2 ≠ y.2
  | [], _, _, _, _, _, h => h
  | (n, k) :: r, acc, hall, hnd, ha, hn, h => by
    simp only [List.map_cons, List.nodup_cons] at hnd
    unfold clOf
    split
    · rename_i hk
      obtain ⟨c, hc⟩ := Option.isSome_iff_exists.mp (hall (n, k) (.head _) (by simpa using hk))
      simp only at hc
      rw [hc, Option.getD_some]
      refine clOf_apart hp r _ (fun x hx => hall x (.tail _ hx)) hnd.2 (fun x hx => ?_) (fun x hx => ?_) (List.pairwise_cons.mpr ⟨fun y hy e => ?_, h⟩)
      · rcases List.mem_cons.mp hx with rfl | hx
        · exact hc
        · exact ha x hx
      · rcases List.mem_cons.mp hx with rfl | hx
        · exact hnd.1
        · exact fun hm => hn x hx (.tail _ hm)
      · simp only at e
        have h1 := ha y hy
        rw [← e] at h1
        have := name_of_addr hp (mem_of_lookup hc) (mem_of_lookup h1)
        exact hn y hy (by rw [← this]; exact .head _)
    · exact clOf_apart hp r acc (fun x hx => hall x (.tail _ hx)) hnd.2 ha (fun x hx hm => hn x hx (.tail _ hm)) h

/-- the comprehension's scope as its frame has it -/
def relab (sc scope : Scope) : Scope :=
  { scope with names := scope.names.map fun (n, k) => if (k == .free && sc.kind == .function && sc.names.lookup n == some .cell) then (n, .cell) else (n, k) }

/-- the names that a comprehension takes from around -/
def capt (scope : Scope) (loc : Loc) : Loc := fun y => if scope.names.lookup y = some .free then loc y else none

def compOk (sc scope : Scope) (x : Str) : Bool :=
  scope.kind == .function && decide ((scope.names.map (·.1)).Nodup) && (scope.names.lookup x == some .local || scope.names.lookup x == some .cell) && plainName x &&
    scope.names.all fun y => y.2 != .free || sc.names.lookup y.1 == some .cell || sc.names.lookup y.1 == some .free

theorem relab_free {sc scope : Scope} {y : Str} (h : scope.names.lookup y = some .free) : (relab sc scope).names.lookup y = some .cell ∨ (relab sc scope).names.lookup y = some .free := by
  unfold relab
  dsimp only
  generalize scope.names = l at h
  induction l with
  | nil => cases h
  | cons p r ih =>
    obtain ⟨n, k⟩ := p
    rw [List.lookup_cons] at h
    simp only [List.map_cons]
    cases hb : y == n with
    | true =>
      rw [hb] at h; cases h
      split
      · left; simp [List.lookup_cons, hb]
      · right; simp [List.lookup_cons, hb]
    | false =>
      rw [hb] at h
      have ih' := ih h
      split <;> simp only [List.lookup_cons, hb] <;> exact ih'
theorem relab_own {sc scope : Scope} {y : Str} {k : NameKind} (hk : k ≠ .free) (h : scope.names.lookup y = some k) : (relab sc scope).names.lookup y = some k := by
  unfold relab
  dsimp only
  generalize scope.names = l at h
  induction l with
  | nil => cases h
  | cons p r ih =>
    obtain ⟨n, k'⟩ := p
    rw [List.lookup_cons] at h
    simp only [List.map_cons]
    cases hb : y == n with
    | true =>
      rw [hb] at h; cases h
      have : (k == NameKind.free) = false := by simpa using hk
      simp [List.lookup_cons, hb, this]
    | false =>
      rw [hb] at h
      have ih' := ih h
      split <;> simp only [List.lookup_cons, hb] <;> exact ih'
theorem relab_cell {sc scope : Scope} {y : Str} (h : (relab sc scope).names.lookup y = some .cell) : (y, NameKind.cell) ∈ scope.names ∨ (y, NameKind.free) ∈ scope.names := by
  unfold relab at h
  dsimp only at h
  generalize scope.names = l at h
  induction l with
  | nil => cases h
  | cons p r ih =>
    obtain ⟨n, k⟩ := p
    simp only [List.map_cons] at h
    cases hb : y == n with
    | true =>
      have e := beq_iff_eq.mp hb
      subst e
      split at h
      · rename_i hc
        simp only [Bool.and_eq_true, beq_iff_eq] at hc
        exact .inr (by rw [← hc.1.1]; exact .head _)
      · simp [List.lookup_cons] at h
        subst h; exact .inl (.head _)
    | false =>
      have : List.lookup y (r.map fun (n, k) => if (k == .free && sc.kind == .function && sc.names.lookup n == some .cell) then (n, NameKind.cell) else (n, k)) = some .cell := by
        split at h <;> simpa only [List.lookup_cons, hb] using h
      exact (ih this).imp (.tail _) (.tail _)

end Mine

-- Core6
namespace Mine
open PySem

theorem clOf_free {cells : List (Str × Addr)} : ∀ (names : List (Str × NameKind)) (acc : List (Str × Addr)) {y : Str} {c : Addr}, (y, c) ∈ clOf cells names acc → (y, c) ∈ acc ∨ (y, NameKind.free) ∈ names
  | [], _, _, _, h => .inl h
  | (n, k) :: r, acc, y, c, h => by
    unfold clOf at h
    split at h
    · rename_i hk
      rcases clOf_free r _ h with h | h
      · rcases List.mem_cons.mp h with e | h
        · cases e; exact .inr (by rw [show k = .free by simpa using hk]; exact .head _)
        · exact .inl h
      · exact .inr (.tail _ h)
    · exact (clOf_free r acc h).imp id (.tail _)

theorem nodup_kind : ∀ {l : List (Str × NameKind)} {y : Str} {k k' : NameKind}, (l.map (·.1)).Nodup → (y, k) ∈ l → (y, k') ∈ l → k = k'
  | (n, a) :: r, y, k, k', hnd, h, h' => by
    simp only [List.map_cons, List.nodup_cons] at hnd
    rcases List.mem_cons.mp h with e | h <;> rcases List.mem_cons.mp h' with e' | h'
    · cases e; cases e'; rfl
    · cases e; exact absurd (List.mem_map.mpr ⟨_, h', rfl⟩) hnd.1
    · cases e'; exact absurd (List.mem_map.mpr ⟨_, h, rfl⟩) hnd.1
    · exact nodup_kind hnd.2 h h'
theorem nodup_lookup {l : List (Str × NameKind)} {y : Str} {k : NameKind} (hnd : (l.map (·.1)).Nodup) (h : (y, k) ∈ l) : l.lookup y = some k := by
  obtain ⟨k', hk'⟩ := lookup_some_of_mem h
  rw [hk', nodup_kind hnd h (mem_of_lookup hk')]

theorem wpAny_newCompEnv {M : Model} {A : Around} {E : Value → Shared → Prop} {s : Shared} {scope : Scope} {cl : List (Str × Addr)} {env : Env} {Q : Env → Shared → Prop}
    (h : Q (newEnv scope s.heap.objs.size env.globals (cellsFrom (s.heap.objs.size + 1) scope.names cl) env.qual none .none (some env) builtinsNs)
      { s with heap := pushCells (s.heap.push { cls := .type "dict", data := .dict #[] }) scope.names }) :
    wpAny M A (newFunctionEnv scope env.globals cl [] env.qual none .none (some env)) Q E s := by
  simp only [newFunctionEnv, Option.isSome_some, if_true]
  refine wpAny_bind (wpAny_alloc ?_)
  refine wpAny_bind (wpAny_layCells _ (fun name kind cells => by cases hkc : kind == NameKind.cell <;> simp [hkc]) _ _ _ _ ?_)
  rw [show ({ s with heap := s.heap.push { cls := .type "dict", data := .dict #[] } } : Shared).heap.objs.size = s.heap.objs.size + 1 from Heap.size_push ..]
  exact wpAny_bind (wpAny_pure (wpAny_pure h))

/-- the tests of a comprehension: none or one -/
def Tests (cx : Cx) (d : Nat) (sc : Scope) (loc : Loc) : List Expr → Hp → (Bool → Hp → Prop) → Prop
  | [], H, QB => QB true H
  | [c], H, QB => TV cx d sc loc c H QB
  | _, _, _ => False

/-- what a comprehension does, item by item -/
def CompW (cx : Cx) (d : Nat) (sc scope : Scope) (loc : Loc) (x : Str) (ifs : List Expr) (elt : Expr) (els : List AV) (keep : Hp → Prop) (H : Hp) (Qf : List AV → Hp → Prop) : Prop :=
  ∃ J : Nat → List AV → Hp → Prop, J 0 [] H ∧ (∀ i ys H₂, J i ys H₂ → keep H₂) ∧
    (∀ i w ys H₂, els[i]? = some w → J i ys H₂ → Tests cx d (relab sc scope) (upd (capt scope loc) x w) ifs H₂ fun ok H₃ =>
      if ok = true then EV cx d (relab sc scope) (upd (capt scope loc) x w) elt H₃ fun y H₄ => J (i + 1) (ys ++ [y]) H₄ else J (i + 1) ys H₃) ∧
    ∀ ys H₂, J els.length ys H₂ → Qf ys H₂

theorem upd_upd (loc : Loc) (x : Str) (v w : AV) : upd (upd loc x v) x w = upd loc x w := by
  funext y; unfold upd; split <;> rfl

section
variable {cx : Cx} {d : Nat} {sc scope : Scope} {loc : Loc} {H : Hp} {x : Str} {ifs : List Expr} {elt : Expr}

theorem Rep.cell_off {P : PH} {h : Heap} (R : Rep cx P H h) {c : Addr} {ov : Option Value} (hc : CellG P c ov) : H c = none := by
  obtain ⟨o, ho, hd⟩ := hc
  cases q : H c with
  | none => rfl
  | some ob =>
    have := R.sep c ob o q ho
    subst this
    obtain ⟨O, hO, items, n, rfl, _⟩ := R.obj _ _ R.scr
    rw [R.ext _ _ ho] at hO
    cases hO
    cases hd

theorem comp_frame {env : Env} {P : PH} {h₃ : Heap} (he : EnvOk sc env) (hF : FrameP env loc P) (R : Rep cx P H h₃) (hok : compOk sc scope x = true) :
    let L := h₃.objs.size
    let cells := cellsFrom (L + 1) scope.names (clOf env.cells scope.names [])
    let cenv : Env := { newEnv scope L env.globals cells env.qual none .none (some env) builtinsNs with scope := relabel scope env }
    EnvOk (relab sc scope) cenv ∧ FrameW (· = x) cenv (capt scope loc) P H (pushCells (h₃.push { cls := .type "dict", data := .dict #[] }) scope.names) ∧ storable (relab sc scope) x = true ∧
      closureFor scope env = pure (clOf env.cells scope.names []) ∧ scope.kind = .function ∧ (∀ y ∈ scope.names, y.2 = .local → scope.names.lookup y.1 = some .local) ∧
      (∀ a, fp cenv a → P a = none → h₃.get? a = none) := by
  intro L cells cenv
  simp only [compOk, Bool.and_eq_true, beq_iff_eq, decide_eq_true_eq, Bool.or_eq_true] at hok
  obtain ⟨⟨⟨⟨hkind, hnd⟩, hx⟩, hpx⟩, hall⟩ := hok
  have hfree : ∀ y, (y, NameKind.free) ∈ scope.names → env.kindOf y = some .cell ∨ env.kindOf y = some .free := fun y hy => by
    have := List.all_eq_true.mp hall _ hy
    simp only [bne_self_eq_false, Bool.false_or, Bool.or_eq_true, beq_iff_eq] at this
    unfold Env.kindOf; rw [he.scope]; exact this
  have hgen : ∀ y ∈ scope.names, y.2 = .free → (env.cells.lookup y.1).isSome = true := fun y hy e => he.has y.1 (hfree y.1 (by rw [← e]; exact hy))
  have clm : ∀ y c, (y, c) ∈ clOf env.cells scope.names [] → env.cells.lookup y = some c ∧ (y, NameKind.free) ∈ scope.names := fun y c hm =>
    ⟨(clOf_mem scope.names [] hgen hm).elim (fun h => by cases h) id, (clOf_free scope.names [] hm).elim (fun h => by cases h) id⟩
  have lift : ∀ b o, h₃.get? b = some o → (pushCells (h₃.push { cls := .type "dict", data := .dict #[] }) scope.names).get? b = some o := fun b o e => pushCells_keeps _ _ b o (Heap.get?_push_of_some _ e)
  have hsz : (h₃.push ({ cls := .type "dict", data := .dict #[] } : Obj)).objs.size = L + 1 := Heap.size_push ..
  have wh : ∀ y c, cells.lookup y = some c → (L + 1 ≤ c ∧ (pushCells (h₃.push { cls := .type "dict", data := .dict #[] }) scope.names).IsCell c none ∧ (y, NameKind.cell) ∈ scope.names) ∨
      (env.cells.lookup y = some c ∧ (y, NameKind.free) ∈ scope.names) := fun y c hc => by
    have := cells_where scope.names (h₃.push { cls := .type "dict", data := .dict #[] }) (clOf env.cells scope.names []) (y := y) (c := c) (by rw [hsz]; exact hc)
    rw [hsz] at this
    exact this.imp id fun h => clm y c (mem_of_lookup h.1)
  have shared : ∀ y c, env.cells.lookup y = some c → ∃ ov, CellG P c ov := fun y c hc => hF.cellOk y c hc
  have newNone : ∀ a, L ≤ a → h₃.get? a = none := fun a ha => by
    cases q : h₃.get? a with
    | none => rfl
    | some o => exact absurd (Heap.lt_size q) (Nat.not_lt.mpr ha)
  have slt : ∀ y c, env.cells.lookup y = some c → c < L := fun y c hc => by
    obtain ⟨ov, o, ho, _⟩ := shared y c hc
    exact Heap.lt_size (R.ext c o ho)
  have hlk : ∀ y, (y, NameKind.free) ∈ scope.names → ∃ c, env.cells.lookup y = some c ∧ cells.lookup y = some c := fun y hy => by
    obtain ⟨c₀, hm⟩ := clOf_has (cells := env.cells) scope.names [] (y := y) (.inl hy)
    obtain ⟨c₁, hc₁⟩ := lookup_some_of_mem hm
    obtain ⟨c, hc⟩ := Option.isSome_iff_exists.mp (cells_some scope.names (L + 1) (clOf env.cells scope.names []) (x := y) (.inr (by rw [hc₁]; rfl)))
    rcases wh y c hc with ⟨_, _, h3⟩ | ⟨h1, _⟩
    · cases nodup_kind hnd h3 hy
    · exact ⟨c, h1, hc⟩
  have escope : cenv.scope = relab sc scope := by
    show relabel scope env = relab sc scope
    unfold relabel relab Env.kindOf
    rw [he.scope]
  have hst : storable (relab sc scope) x = true := by
    simp only [storable, Bool.and_eq_true, Bool.or_eq_true, beq_iff_eq]
    exact ⟨hx.imp (relab_own (by simp)) (relab_own (by simp)), hpx⟩
  have kd : ∀ y, cenv.kindOf y = (relab sc scope).names.lookup y := fun y => by unfold Env.kindOf; rw [escope]
  have hasC : ∀ y, cenv.kindOf y = some .cell → (cells.lookup y).isSome = true := fun y hy => by
    rw [kd] at hy
    rcases relab_cell hy with h | h
    · exact cells_some _ _ _ (.inl (nodup_lookup hnd h))
    · obtain ⟨c, _, hc⟩ := hlk y h; rw [hc]; rfl
  have hap : cells.Pairwise fun x y => x.2 ≠ y.2 := by
    refine cells_apart _ _ _ (clOf_apart he.apart scope.names [] hgen hnd (fun _ h => by cases h) (fun _ h => by cases h) .nil) fun z hz => ?_
    obtain ⟨y, c⟩ := z
    exact Nat.lt_succ_of_lt (slt y c (clm y c hz).1)
  have freeMem : ∀ y, scope.names.lookup y = some .free → (y, NameKind.free) ∈ scope.names := fun y h => mem_of_lookup h
  have hR := R.fresh (newNone L (Nat.le_refl _))
  refine ⟨⟨escope, by rw [escope]; exact hkind, he.glob, he.blt, hap, fun y hy => hy.elim (hasC y) fun e => ?_⟩, ⟨⟨⟨fun _ => none, ?_, ?_⟩, ?_, ?_, ?_⟩, hasC, hap, ?_, hR.1, ?_, ?_⟩, hst, closureFor_eq hgen, hkind, fun y hy e => ?_, ?_⟩
  · -- a free name of the frame is free in the scope
    rw [kd] at e
    have : (y, NameKind.free) ∈ scope.names := by
      unfold relab at e
      dsimp only at e
      have hm := mem_of_lookup e
      obtain ⟨⟨n, k⟩, hm', e'⟩ := List.mem_map.mp hm
      simp only at e'
      split at e'
      · cases e'
      · cases e'; exact hm'
    obtain ⟨c, _, hc⟩ := hlk y this
    show (cells.lookup y).isSome = true
    rw [hc]; rfl
  · exact (Heap.Ns.new h₃ (.type "dict")).keeps (pushCells_keeps _ _)
  · intro y v hy hl
    unfold capt at hy
    split at hy
    · rename_i hf
      rw [kd] at hl
      rcases relab_free (sc := sc) hf with e | e <;> (rw [e] at hl; cases hl)
    · cases hy
  · intro y v hy _
    unfold capt at hy
    split at hy
    · rename_i hf
      obtain ⟨c, hc, hc'⟩ := hlk y (freeMem y hf)
      obtain ⟨c₂, V, hc₂, ⟨o, ho, hd⟩, hr⟩ := hF.cells y v hy (hfree y (freeMem y hf))
      rw [hc] at hc₂; cases hc₂
      exact ⟨c, V, hc', ⟨o, lift c o (R.ext c o ho), hd⟩, hr⟩
    · cases hy
  · intro y v hy
    unfold capt at hy
    split at hy
    · rename_i hf
      exact ⟨by rw [kd]; exact .inr (relab_free hf), (hF.dom y v hy).2⟩
    · cases hy
  · intro y c hc
    rcases wh y c hc with ⟨_, h2, _⟩ | ⟨h1, _⟩
    · exact ⟨none, h2⟩
    · obtain ⟨ov, o, ho, hd⟩ := shared y c h1
      exact ⟨ov, o, lift c o (R.ext c o ho), hd⟩
  · intro y c hm e
    rcases cells_ge _ _ _ hm with h | h
    · have := slt y c (clm y c h).1
      rw [e] at this; exact Nat.lt_irrefl _ this
    · rw [e] at h; exact absurd h (Nat.not_succ_le_self _)
  · intro y c hy hc
    have hy' : y = x := hy
    subst hy'
    rcases wh y c hc with ⟨h1, _, _⟩ | ⟨_, h2⟩
    · exact (R.fresh (newNone c (Nat.le_of_succ_le h1))).1
    · exfalso
      rcases hx with e | e
      · cases nodup_kind hnd (mem_of_lookup e) h2
      · cases nodup_kind hnd (mem_of_lookup e) h2
  · intro a ha
    rcases ha with rfl | ⟨y, hc⟩
    · exact hR.2
    · rcases wh y a hc with ⟨h1, _, _⟩ | ⟨h1, _⟩
      · exact (R.fresh (newNone a (Nat.le_of_succ_le h1))).2
      · obtain ⟨ov, hcell⟩ := shared y a h1
        exact R.cell_off hcell
  · exact nodup_lookup hnd (by rw [← e]; exact hy)
  · intro a ha hPa
    rcases ha with rfl | ⟨y, hc⟩
    · exact newNone _ (Nat.le_refl _)
    · rcases wh y a hc with ⟨h1, _, _⟩ | ⟨h1, _⟩
      · exact newNone a (Nat.le_of_succ_le h1)
      · obtain ⟨ov, o, ho, _⟩ := shared y a h1
        rw [hPa] at ho; cases ho
end
end Mine

-- Core7
namespace Mine
open PySem

/-- an object that the heap bears and nobody tracks is taken over -/
theorem Rep.adopt {cx : Cx} {P : PH} {H : Hp} {h : Heap} (R : Rep cx P H h) {a : Addr} {o : AObj} {O : Obj} (hP : P a = none) (hH : H a = none) (hO : h.get? a = some O) (r : OR cx o O) : Rep cx P (H.put a o) h := by
  refine ⟨R.base, R.ext, fun b ob q => ?_, fun b ob Ob q hq => ?_, ?_⟩
  · by_cases hb : b = a
    · subst hb; rw [Hp.put_self] at q; cases q; exact ⟨O, hO, r⟩
    · rw [Hp.put_ne hb] at q; exact R.obj b ob q
  · by_cases hb : b = a
    · subst hb; rw [hP] at hq; cases hq
    · rw [Hp.put_ne hb] at q; exact R.sep b ob Ob q hq
  · have hne : cx.script ≠ a := fun z => by have := R.scr; rw [z, hH] at this; cases this
    rw [Hp.put_ne hne]; exact R.scr

section
variable {cx : Cx} {d : Nat} {sc scope : Scope} {loc : Loc} {H : Hp} {x : Str} {px : Pos} {ifs : List Expr} {elt iter : Expr} {pos : Pos}

theorem Tests.sound {csc : Scope} {cloc : Loc} {ifs : List Expr} {H : Hp} {QB : Bool → Hp → Prop} (h : Tests cx d csc cloc ifs H QB) {W : Str → Prop} {env : Env} {A : Around} {P : PH} {s : Shared} {E : Value → Shared → Prop}
    {Q' : Bool → Shared → Prop} (he : EnvOk csc env) (F : FrameW W env cloc P H s.heap) (hA : Room d A) (R : Rep cx P H s.heap)
    (k : ∀ v H' h' tk, QB v H' → FrameW W env cloc P H' h' → Rep cx P H' h' → Q' v { s with heap := h', toks := tk }) :
    wpAny (model cx.prog cx.w) A (forIn ifs true fun c r => if r = true then do let ok ← isTrue c env (eval c env); pure (ForInStep.yield ok) else pure (ForInStep.yield r)) Q' E s := by
  match ifs, h with
  | [], h => exact wpAny_tests_nil (k true H s.heap s.toks h F R)
  | [c], h => exact wpAny_tests_one (TV.here h he F hA R k)
  | _ :: _ :: _, h => exact h.elim

theorem comp_block {env : Env} {A : Around} {P : PH} {s : Shared} {E : Value → Shared → Prop} {els : List AV} {keep : Hp → Prop} {Qf : List AV → Hp → Prop} {I : Addr} {O : Obj} {St : Nat → Obj → Prop} {RR : Value → Addr → Result → Shared → Prop}
    (he : EnvOk sc env) (hF : FrameP env loc P) (hA : Room d A) (R : Rep cx P H s.heap) (hok : compOk sc scope x = true) (hlen : els.length ≤ 2 ^ 20) (W : ItP cx I els keep St) (hI : s.heap.get? I = some O) (hSt : St 0 O)
    (hPI : P I = none) (hHI : H I = none) (C : CompW cx d sc scope loc x ifs elt els keep H Qf)
    (hRR : ∀ D C h' tk m' ys H' items n, h'.Ns C m' → Rep cx P H' h' → P D = none → P C = none → H' D = none → H' C = none → D ≠ C → s.heap.get? D = none → s.heap.get? C = none →
      h'.get? D = some { cls := .type "list", dict := none, data := .seq items n, slots := #[] } → VRs ys items.toList → Qf ys H' → RR (.ref D) C (.ok .next) { s with heap := h', toks := tk }) :
    wpAny (model cx.prog cx.w) A (newList []) (fun acc s₃ => wpAny (model cx.prog cx.w) A (newFunctionEnv scope env.globals (clOf env.cells scope.names []) [] env.qual none .none (some env)) (fun cenv s₄ =>
      codeAny (model cx.prog cx.w) A (.compStart (.ListComp elt [⟨.Name x px, iter, ifs, 0⟩] scope pos) 0 (.ref I) acc { cenv with scope := relabel scope env }) (RR acc cenv.locals) s₄) E s₃) E s := by
  obtain ⟨J, hJ0, hkeep, turn, fin⟩ := C
  refine wpAny_newObj_type (wpAny_newCompEnv ?_)
  -- the list that is built, the frame
  generalize hD : s.heap.objs.size = D
  generalize hh₃ : s.heap.push { cls := .type "list", dict := none, data := .seq ([] : List Value).toArray } = h₃
  have hDs : s.heap.get? D = none := hD ▸ get_size _
  have fD := R.fresh hDs
  have up₃ : ∀ b o, s.heap.get? b = some o → h₃.get? b = some o := fun b o e => hh₃ ▸ Heap.get?_push_of_some _ e
  have hD₃ : h₃.get? D = some { cls := .type "list", dict := none, data := .seq ([] : List Value).toArray 0, slots := #[] } := by rw [← hh₃, ← hD]; exact Heap.get?_push_size _ rfl
  have R₃ : Rep cx P H h₃ := R.grow up₃
  obtain ⟨eok, F₄, hst, _, _, _, hfree⟩ := comp_frame he hF R₃ hok
  have up₄ : ∀ b o, h₃.get? b = some o → (pushCells (h₃.push { cls := .type "dict", data := .dict #[] }) scope.names).get? b = some o := fun b o e => pushCells_keeps _ _ b o (Heap.get?_push_of_some _ e)
  generalize hh₄ : pushCells (h₃.push { cls := .type "dict", data := .dict #[] }) scope.names = h₄ at F₄ up₄
  show codeAny _ A (.compStart _ 0 (.ref I) (.ref D) { newEnv scope h₃.objs.size env.globals (cellsFrom (h₃.objs.size + 1) scope.names (clOf env.cells scope.names [])) env.qual none .none (some env) builtinsNs with scope := relabel scope env })
    (RR (.ref D) h₃.objs.size) { s with heap := h₄ }
  generalize hcenv : ({ newEnv scope h₃.objs.size env.globals (cellsFrom (h₃.objs.size + 1) scope.names (clOf env.cells scope.names [])) env.qual none .none (some env) builtinsNs with scope := relabel scope env } : Env) = cenv at eok F₄ hfree
  have hL : cenv.locals = h₃.objs.size := by rw [← hcenv]; rfl
  rw [← hL]
  have R₄ : Rep cx P H h₄ := R₃.grow up₄
  have hI₄ : h₄.get? I = some O := up₄ I O (up₃ I O hI)
  have hD₄ := up₄ D _ hD₃
  have hID : I ≠ D := fun z => by rw [z, hDs] at hI; cases hI
  have offI : ¬ fp cenv I := fun z => by have := hfree I z hPI; rw [up₃ I O hI] at this; cases this
  have offD : ¬ fp cenv D := fun z => by have := hfree D z fD.1; rw [hD₃] at this; cases this
  have hCs : s.heap.get? cenv.locals = none := by
    cases q : s.heap.get? cenv.locals with
    | none => rfl
    | some o => have := hfree _ (.inl rfl) F₄.locP; rw [up₃ _ o q] at this; cases this
  have hDC : D ≠ cenv.locals := fun z => offD (.inl z)
  have loop : codeAny (model cx.prog cx.w) A (.compLoop (.ListComp elt [⟨.Name x px, iter, ifs, 0⟩] scope pos) 0 (.ref I) (.ref D) cenv) (RR (.ref D) cenv.locals) { s with heap := h₄ } := by
    obtain ⟨Inv, hInv⟩ : ∃ Inv : Nat → Shared → Prop, ∀ m s', Inv m s' ↔ (∃ i ys H₂ h₂ tk₂ O₂ items n lc, s' = { s with heap := h₂, toks := tk₂ } ∧ J i ys H₂ ∧ (lc = capt scope loc ∨ ∃ w, lc = upd (capt scope loc) x w) ∧ FrameW (· = x) cenv lc P H₂ h₂ ∧
      Rep cx P H₂ h₂ ∧ h₂.get? I = some O₂ ∧ St i O₂ ∧ H₂ I = none ∧ h₂.get? D = some { cls := .type "list", dict := none, data := .seq items n, slots := #[] } ∧ VRs ys items.toList ∧ H₂ D = none ∧ ys.length ≤ i ∧ i ≤ els.length ∧ m = els.length + 1 - i) := ⟨_, fun _ _ => Iff.rfl⟩
    refine codeAny_compLoop_tests Inv ?_ (els.length + 1)
      ((hInv _ _).mpr ⟨0, [], H, h₄, s.toks, O, #[], 0, capt scope loc, rfl, hJ0, .inl rfl, F₄, R₄, hI₄, hSt, hHI, hD₄, trivial, fD.2, Nat.le_refl _, Nat.zero_le _, rfl⟩) (by intro _; rfl)
    rintro m s' hInv0
    obtain ⟨i, ys, H₂, h₂, tk₂, O₂, items, n, lc, rfl, hJ, hlc, F₂, R₂, hI₂, hSt₂, hHI₂, hD₂, hys, hHD₂, hyl, hi, rfl⟩ := (hInv _ _).mp hInv0
    cases hel : els[i]? with
    | none =>
      have hil : i = els.length := Nat.le_antisymm hi (by simpa using hel)
      subst hil
      refine W.done A P H₂ _ _ _ O₂ hA.handled (hkeep _ _ _ hJ) R₂ hHI₂ hI₂ hSt₂ fun h₅ tk₅ e₅ => ?_
      obtain ⟨m', hn, _⟩ := F₂.at_.ns
      refine hRR D cenv.locals h₅ tk₅ m' ys H₂ items n (hn.heap.at' fun o e => e₅ _ o (fun z => offI (.inl z.symm)) e) (R₂.ext_to hPI hHI₂ e₅) fD.1 F₄.locP hHD₂ (F₂.offH _ (.inl rfl)) hDC hDs hCs (e₅ D _ (Ne.symm hID) hD₂) hys (fin _ _ hJ)
    | some w =>
      have hlt : i < els.length := (List.getElem?_eq_some_iff.mp hel).1
      refine W.item i w A P H₂ _ _ _ O₂ hel (hkeep _ _ _ hJ) R₂ hHI₂ hI₂ hSt₂ fun V h₅ O₅ tk₅ hV e₅ hI₅ hSt₅ => ?_
      have F₅ : FrameW (· = x) cenv lc P H₂ h₅ := F₂.eq_on (fun a ha o e => (e₅.2 a fun z => offI (z ▸ ha)).trans e) F₂.offH
      have R₅ : Rep cx P H₂ h₅ := R₂.ext_to hPI hHI₂ e₅.extBut
      have hD₅ := (e₅.2 D (Ne.symm hID)).trans hD₂
      -- the iterator and the list are laid aside
      have PD : addP P I O₅ D = none := by unfold addP; rw [if_neg (Ne.symm hID)]; exact fD.1
      have R₅' := (R₅.add hI₅ hPI hHI₂).add hD₅ PD hHD₂
      have F₅' := (F₅.add (O := O₅) offI).add (O := { cls := .type "list", dict := none, data := .seq items n, slots := #[] }) offD
      have hb : ∀ a o, cx.base.get? a = some o → addP P I O₅ a = some o := (R₅.add hI₅ hPI hHI₂).base
      refine wpAny_assign_Name (store_own eok F₅' R₅' hst hV (fun h₆ tk₆ F₆ R₆ => ?_) rfl)
      have elc : upd lc x w = upd (capt scope loc) x w := by
        rcases hlc with rfl | ⟨w', rfl⟩
        · rfl
        · exact upd_upd ..
      rw [elc] at F₆
      refine (turn i w ys H₂ hel hJ).sound eok F₆ hA R₆ fun ok H₇ h₇ tk₇ q₇ F₇ R₇ => ?_
      cases ok with
      | false =>
        simp only [Bool.false_eq_true, if_false] at q₇ ⊢
        obtain ⟨R₈, hD₈, hHD₈⟩ := R₇.drop PD hb
        obtain ⟨R₉, hI₉, hHI₉⟩ := R₈.drop hPI R.base
        exact ⟨els.length + 1 - (i + 1), by omega, (hInv _ _).mpr ⟨i + 1, ys, H₇, h₇, tk₇, O₅, items, n, _, rfl, q₇, .inr ⟨w, rfl⟩, F₇.drop.drop, R₉, hI₉, hSt₅, hHI₉, hD₈, hys, hHD₈, by omega, hlt, rfl⟩⟩
      | true =>
        simp only [if_true] at q₇ ⊢
        refine q₇.here eok F₇ hA R₇ fun y Y H₈ h₈ tk₈ q₈ hY F₈ R₈ => ?_
        obtain ⟨R₉, hD₉, hHD₉⟩ := R₈.drop PD hb
        obtain ⟨R₁₀, hI₁₀, hHI₁₀⟩ := R₉.drop hPI R.base
        have F₁₀ := F₈.drop.drop
        have hz : items.size ≤ sizeLine := by
          have := hys.length
          simp only [Array.length_toList] at this
          show items.size ≤ 2 ^ 24
          omega
        refine wpAny_list_append_plain (items := items) ⟨n, hD₉⟩ (fun h₁₁ hpl e₁₁ => ?_) hz
        obtain ⟨n', hD₁₁⟩ := hpl
        refine ⟨els.length + 1 - (i + 1), by omega, (hInv _ _).mpr ⟨i + 1, ys ++ [y], H₈, h₁₁, tk₈, O₅, items.push Y, n', _, rfl, q₈, .inr ⟨w, rfl⟩, F₁₀.eq_on (fun a ha o e => (e₁₁.2 a fun z => offD (z ▸ ha)).trans e) F₁₀.offH,
          R₁₀.ext_to fD.1 hHD₉ e₁₁.extBut, (e₁₁.2 I hID).trans hI₁₀, hSt₅, hHI₁₀, hD₁₁, ?_, hHD₉, by rw [List.length_append, List.length_singleton]; omega, hlt, rfl⟩⟩
        rw [Array.toList_push]
        exact hys.snoc hY
  exact codeAny_compStart_list loop (W.self 0 A _ _ _ O hI₄ hSt loop)

theorem EV_ListComp {Q : AV → Hp → Prop}
    (h : EV cx d sc loc iter H fun v H₁ => ∃ els keep, Src H₁ v els keep ∧ els.length ≤ 2 ^ 20 ∧ CompW cx d sc scope loc x ifs elt els keep H₁ fun ys H₂ => ∀ a, H₂ a = none → Q (.ref a) (H₂.put a (.list false ys)))
    (hok : compOk sc scope x = true := by rfl) (hs : ∀ env v, foldedSetIterable iter env v = pure v := by intro _ _; rfl) : EV cx d sc loc (.ListComp elt [⟨.Name x px, iter, ifs, 0⟩] scope pos) H Q := by
  intro env A P s E Q' he hF hA R k
  rw [eval_ListComp]
  obtain ⟨_, _, _, hcl, hkd, hnm, _⟩ := comp_frame he hF R hok
  refine wpAny_comprehension_free (use := none) rfl (hs env) hcl hkd hnm (h env A P s E _ he hF hA R fun v V H₁ h₁ tk₁ q hv R₁ => ?_)
  obtain ⟨els, keep, S, hlen, C⟩ := q
  refine iter_of S hv R₁ fun I O St W hI hk hSt eI hfr => ?_
  have f₁ := R₁.fresh hI
  have up : ∀ b o, h₁.get? b = some o → (h₁.push O).get? b = some o := fun b o e => Heap.get?_push_of_some _ e
  refine comp_block (RR := fun acc C => compPost (model cx.prog cx.w) A E none Q' acc C) he hF hA (R₁.grow up) hok hlen W (by show (h₁.push O).get? I = some O; rw [eI]; exact Heap.get?_push_size _ hfr) hSt f₁.1 f₁.2 C ?_
  intro D C' h' tk m' ys H' items n hn R' hPD hPC hHD hHC hDC hDs hCs hD' hys q'
  refine ⟨m', hn, fun h'' e'' => ?_⟩
  have R'' := R'.ext_to hPC hHC e''.extBut
  exact k (.ref D) (.ref D) _ h'' tk (q' D hHD) rfl (R''.adopt hPD hHD ((e''.2 D hDC).trans hD') ⟨items, n, rfl, hys⟩)

theorem EX_AssignComp {Q : AF → Loc → Hp → Prop} {y : Str} {py spos : Pos}
    (h : EV cx d sc loc iter H fun v H₁ => ∃ els keep, Src H₁ v els keep ∧ els.length ≤ 2 ^ 20 ∧ CompW cx d sc scope loc x ifs elt els keep H₁ fun ys H₂ => ∀ a, H₂ a = none → Q .next (upd loc y (.ref a)) (H₂.put a (.list false ys)))
    (hok : compOk sc scope x = true := by rfl) (hy : storable sc y = true := by rfl) (hs : ∀ env v, foldedSetIterable iter env v = pure v := by intro _ _; rfl) :
    EX1 cx d sc loc (.Assign [.Name y py] (.ListComp elt [⟨.Name x px, iter, ifs, 0⟩] scope pos) spos) H Q := by
  intro env A P s E Q' he F hA R k
  obtain ⟨b, hsw⟩ : ∃ b, swapsWith (.ListComp elt [⟨.Name x px, iter, ifs, 0⟩] scope pos) (some (.Name y py)) spos.line env = pure b := ⟨_, rfl⟩
  cases b with
  | false =>
    refine wpAny_Assign_Name (EV.here (EV_ListComp (Q := fun v H' => Q .next (upd loc y v) H') h hok hs) he F hA R fun v V H' h' tk q hv F' R' => ?_) hsw
    exact store_own he F' R' hy hv fun h₂ tk₂ F₂ R₂ => k .next .next _ H' h₂ tk₂ q rfl F₂ R₂
  | true =>
    rw [exec_Assign_Name_used _ _ _ _ hsw]
    have hF := aside_frame F
    have RA := aside_rep F R
    obtain ⟨_, _, _, hcl, hkd, hnm, _⟩ := comp_frame he hF RA hok
    refine wpAny_bind (wpAny_standAt (wpAny_bind ?_))
    show wpAny _ A (do let _ ← comprehension (.ListComp elt [⟨.Name x px, iter, ifs, 0⟩] scope pos) scope env _ (newList []) false (eval iter env) (some (assign (.Name y py) env))) _ _ s
    refine wpAny_bind (wpAny_mono (wpAny_comprehension_free (use := some (assign (.Name y py) env)) (Q := fun _ s' => Q' .next s') rfl (hs env) hcl hkd hnm
      (h env A _ s E _ he hF hA RA fun v V H₁ h₁ tk₁ q hv R₁ => ?_)) (fun _ s' hq => wpAny_pure (wpAny_pure hq)) fun _ _ e => e)
    obtain ⟨els, keep, S, hlen, C⟩ := q
    refine iter_of S hv R₁ fun I O St W hI hk hSt eI hfr => ?_
    have f₁ := R₁.fresh hI
    have up : ∀ b o, h₁.get? b = some o → (h₁.push O).get? b = some o := fun b o e => Heap.get?_push_of_some _ e
    refine comp_block (RR := fun acc C => compPost (model cx.prog cx.w) A E (some (assign (.Name y py) env)) (fun _ s' => Q' .next s') acc C) he hF hA (R₁.grow up) hok hlen W
      (by show (h₁.push O).get? I = some O; rw [eI]; exact Heap.get?_push_size _ hfr) hSt f₁.1 f₁.2 C ?_
    intro D C' h' tk m' ys H' items n hn R' hPD hPC hHD hHC hDC hDs hCs hD' hys q'
    show wpAny _ A (assign (.Name y py) env (.ref D)) _ _ _
    have RD := R'.adopt hPD hHD hD' (o := .list false ys) ⟨items, n, rfl, hys⟩
    obtain ⟨F₂, R₂⟩ := aside_back F R RD
    obtain ⟨oC, es, ep, hoC, hdC, hkC, hfC⟩ := id hn
    have offC : ¬ fp env C' := fun z => by
      obtain ⟨o, ho⟩ := F.live C' z
      have : aside P env s.heap C' = some o := by unfold aside; rw [if_pos z]; exact ho
      rw [hPC] at this; cases this
    have PC : P C' = none := by
      cases qq : P C' with
      | none => rfl
      | some o => have : aside P env s.heap C' = some o := by unfold aside; rw [if_neg offC]; exact qq
                  rw [hPC] at this; cases this
    have HC : (H'.put D (.list false ys)) C' = none := by rw [Hp.put_ne (Ne.symm hDC)]; exact hHC
    refine wpAny_assign_Name (store_own he (F₂.add (O := oC) offC) (R₂.add hoC PC HC) hy (v := .ref D) rfl fun h₃ tk₃ F₃ R₃ => ?_)
    obtain ⟨R₄, hC₄, hHC₄⟩ := R₃.drop PC R.base
    have F₄ := F₃.drop
    refine ⟨m', ⟨oC, es, ep, hC₄, hdC, hkC, hfC⟩, fun h₅ e₅ => ?_⟩
    exact k .next .next _ _ h₅ tk₃ (q' D hHD) rfl (F₄.eq_on (fun a ha o e => (e₅.2 a fun z => offC (z ▸ ha)).trans e) F₄.offH) (R₄.ext_to PC hHC₄ e₅.extBut)
end
end Mine

-- Core8
namespace Mine
open PySem

/-! ## methods of lists -/
section
variable {cx : Cx} {d : Nat} {sc : Scope} {loc : Loc} {H : Hp} {Q : AV → Hp → Prop} {pos : Pos}

theorem EV_Meth {o : Expr} {name : Str} {id : String} {apos : Pos} {args : List Expr} (slot : Slot "list" name id) (hty : typeOf (.builtin id) = pure (.type "method_descriptor"))
    (h : EV cx d sc loc o H fun v H₁ => ∃ a ro vs, v = .ref a ∧ H₁ a = some (.list ro vs) ∧ EVs cx d sc loc args H₁ fun ws H₂ => CW cx d (.builtin id) (.ref a :: ws) H₂ Q)
    (hn : args.all notStar = true := by rfl)
    (he : ∀ env, ∃ pl : Sem Bool, eval (.Call (.Attribute o name apos) args [] pos) env = (do
      let ov ← eval o env
      standAt apos.atName
      let (f, first) ← holding [ov] (getMethod ov name pl)
      callWith pos f first (backTo pos (starEach args env)) []) := by intro _; exact ⟨_, rfl⟩) : EV cx d sc loc (.Call (.Attribute o name apos) args [] pos) H Q := by
  intro env A P s E Q' hE hF hA R k
  obtain ⟨pl, he⟩ := he env
  refine PyProof.Rows.MethodCall_ (pl := pl) (h env A P s E _ hE hF hA R fun v V H₁ h₁ tk₁ q hv R₁ => ?_) he
  obtain ⟨a, ro, vs, rfl, ha, q⟩ := q
  cases hv
  obtain ⟨items, n, hO, hr⟩ := R₁.isList ha
  refine getMethod_builtin (T := "list") ⟨_, hO, rfl⟩ F.plainAttrs_list slot hty (fun b e => by cases e; exact ⟨_, hO, rfl⟩) ?_
  cases args with
  | nil => exact PyProof.Rows.callWith_method0 (q A P _ E Q' [.ref a] hA R₁ ⟨rfl, trivial⟩ fun v V H₂ h₂ tk₂ => k v V H₂ h₂ tk₂)
  | cons e r =>
    have hn1 : notStar e = true := by simp only [List.all_cons, Bool.and_eq_true] at hn; exact hn.1
    have hn2 : r.all notStar = true := by simp only [List.all_cons, Bool.and_eq_true] at hn; exact hn.2
    refine PyProof.Rows.callWith_method1 (EVs.sound q hn hE hF hA R₁ fun ws Ws H₂ h₂ tk₂ q₂ hw R₂ => ?_) (starEach_cons hn1) (backTo_plain hn2)
    exact q₂ A P _ E Q' (.ref a :: Ws) hA R₂ ⟨rfl, hw⟩ fun v V H₃ h₃ tk₃ => k v V H₃ h₃ tk₃

theorem own_list {P : PH} {s : Shared} {a : Addr} {vs : List AV} (R : Rep cx P H s.heap) (ha : H a = some (.list false vs)) :
    ∃ items n, s.heap.get? a = some { cls := .type "list", dict := none, data := .seq items n, slots := #[] } ∧ VRs vs items.toList ∧ P a = none ∧ a ≠ cx.script := by
  obtain ⟨items, n, hO, hr⟩ := R.isList ha
  obtain ⟨h1, h2⟩ := R.own_free ha (by intro _ e; cases e)
  exact ⟨items, n, hO, hr, h1, h2⟩

theorem VRs.size {vs : List AV} {items : Array Value} (h : VRs vs items.toList) : vs.length = items.size := by have := h.length; simpa using this

theorem set_list {P : PH} {s : Shared} {a : Addr} {vs : List AV} {items : Array Value} {n : Nat} {f : Array Value → Array Value} (R : Rep cx P H s.heap) (hO : s.heap.get? a = some { cls := .type "list", dict := none, data := .seq items n, slots := #[] })
    (hP : P a = none) (hs : a ≠ cx.script) (hv : VRs vs (f items).toList) : Rep cx P (H.put a (.list false vs)) (s.heap.update a (Obj.mapSeq f)) :=
  R.put_own hP hs (Heap.SameBut.update ..) (IsL.update hO f) ⟨_, _, rfl, hv⟩

theorem CW_append {a : Addr} {vs : List AV} {v : AV} (ha : H a = some (.list false vs)) (hl : vs.length ≤ 2 ^ 20) (hq : Q .none (H.put a (.list false (vs ++ [v])))) :
    CW cx d (.builtin "list.append") [.ref a, v] H Q := by
  rintro A P s E Q' (_ | ⟨V, _ | ⟨W, _ | ⟨_, _⟩⟩⟩) hA R hr k
  all_goals try exact hr.elim
  all_goals try exact hr.2.elim
  all_goals try exact hr.2.2.elim
  obtain ⟨h1, h2, _⟩ := hr
  cases h1
  obtain ⟨items, n, hO, hv, hP, hs⟩ := own_list R ha
  have hz : items.size ≤ sizeLine := by have := hv.size; show items.size ≤ 2 ^ 24; omega
  refine call_meets F.slot_list_append ⟨_, hO, rfl⟩ F.entry_list_append (F.args_list_append_2 _ _) (list_append a items n W hz) ⟨hO, ?_⟩
  exact k .none .none _ _ _ hq rfl (set_list R hO hP hs (by rw [Array.toList_push]; exact hv.snoc h2))

theorem CW_reverse {a : Addr} {vs : List AV} (ha : H a = some (.list false vs)) (hl : vs.length ≤ 2 ^ 20) (hq : Q .none (H.put a (.list false vs.reverse))) :
    CW cx d (.builtin "list.reverse") [.ref a] H Q := by
  rintro A P s E Q' (_ | ⟨V, _ | ⟨_, _⟩⟩) hA R hr k
  all_goals try exact hr.elim
  all_goals try exact hr.2.elim
  cases hr.1
  obtain ⟨items, n, hO, hv, hP, hs⟩ := own_list R ha
  have hz : items.size ≤ sizeLine := by have := hv.size; show items.size ≤ 2 ^ 24; omega
  refine call_meets F.slot_list_reverse ⟨_, hO, rfl⟩ F.entry_list_reverse (F.args_list_reverse_1 _) (AutoSeq1.list_reverse_list_0 a items n hz) ⟨hO, ?_⟩
  exact k .none .none _ _ _ hq rfl (set_list R hO hP hs (by rw [Array.toList_reverse]; exact hv.reverse))

theorem CW_pop {a : Addr} {vs : List AV} {i : Int} {v : AV} (ha : H a = some (.list false vs)) (hl : vs.length ≤ 2 ^ 20) (h0 : 0 ≤ i) (hv : vs[i.toNat]? = some v) (hq : Q v (H.put a (.list false (vs.eraseIdx i.toNat)))) :
    CW cx d (.builtin "list.pop") [.ref a, .int i] H Q := by
  rintro A P s E Q' (_ | ⟨V, _ | ⟨W, _ | ⟨_, _⟩⟩⟩) hA R hr k
  all_goals try exact hr.elim
  all_goals try exact hr.2.elim
  all_goals try exact hr.2.2.elim
  obtain ⟨h1, ⟨t, rfl⟩, _⟩ := hr
  cases h1
  obtain ⟨items, n, hO, hr, hP, hs⟩ := own_list R ha
  have hsz := hr.size
  have hz : items.size ≤ sizeLine := by show items.size ≤ 2 ^ 24; omega
  obtain ⟨Y, hY, hy⟩ := hr.get hv
  have hlt : i.toNat < items.size := by
    rcases Nat.lt_or_ge i.toNat items.size with h | h
    · exact h
    · rw [List.getElem?_eq_none (by rw [Array.length_toList]; exact h)] at hY; cases hY
  refine call_meets F.slot_list_pop ⟨_, hO, rfl⟩ F.entry_list_pop (F.args_list_pop_2 _ _) (MeetsSeq.list_pop_at a items n i t i.toNat Y (fitsIndex_of h0 (by omega)) (seqIndex_of h0 (by omega)) (by simpa using hY) hz) ⟨hO, ?_⟩
  refine k v Y _ _ _ hq hy (set_list R hO hP hs ?_)
  rw [Array.eraseIdxIfInBounds, dif_pos hlt, Array.toList_eraseIdx]
  exact hr.eraseIdx _

theorem CW_extend {a b : Addr} {vs ws : List AV} {ro : Bool} (ha : H a = some (.list false vs)) (hb : H b = some (.list ro ws)) (hl : vs.length ≤ 2 ^ 20) (hl' : ws.length ≤ 2 ^ 20) (hq : Q .none (H.put a (.list false (vs ++ ws)))) :
    CW cx d (.builtin "list.extend") [.ref a, .ref b] H Q := by
  rintro A P s E Q' (_ | ⟨V, _ | ⟨W, _ | ⟨_, _⟩⟩⟩) hA R hr k
  all_goals try exact hr.elim
  all_goals try exact hr.2.elim
  all_goals try exact hr.2.2.elim
  obtain ⟨h1, h2, _⟩ := hr
  cases h1; cases h2
  obtain ⟨items, n, hO, hv, hP, hs⟩ := own_list R ha
  obtain ⟨items2, n2, hO2, hv2⟩ := R.isList hb
  have hz := hv.size
  have hz2 := hv2.size
  refine call_meets F.slot_list_extend ⟨_, hO, rfl⟩ F.entry_list_extend (F.args_list_extend_2 _ _) (AutoSeq1.list_extend_list_list_0 a items n b items2 n2 ?_ (by show items.size ≤ 2 ^ 24; omega) (by show items.size + items2.size ≤ 2 ^ 24 + 1; omega)) ⟨hO, hO2, ?_⟩
  · intro hh
    simp only [Bool.and_eq_true] at hh
    have := hh.2
    unfold Builtin.List.listTooLong at this
    simp [sizeLine] at this
    omega
  · exact k .none .none _ _ _ hq rfl (set_list R hO hP hs (by rw [Array.toList_append]; exact hv.append hv2))
end
end Mine

-- Core9
namespace Mine
open PySem

section
variable {cx : Cx} {d : Nat} {sc : Scope} {loc : Loc} {H : Hp} {Q : AV → Hp → Prop} {pos : Pos}

/-! ## built-in names, calls of built-in types -/
theorem EV_BType {x : Str} {T : String} (hf : IsBuiltin cx x (.type T)) (hq : Q (.ty T) H) (hx : globalName sc x = true := by rfl) : EV cx d sc loc (.Name x pos) H Q :=
  fun _ _ _ s _ _ he _ _ R k => load_builtin he R hx hf.g hf.n hf.b (k (.ty T) (.type T) H s.heap s.toks hq rfl R)

theorem EV_CallT {f : Str} {T : String} {e : Expr} {r : List Expr} {p pos : Pos} (hf : IsBuiltin cx f (.type T))
    (h : EVs cx d sc loc (e :: r) H fun vs H' => CW cx d (.type T) vs H' Q) (hx : globalName sc f = true := by rfl) (hn : (e :: r).all notStar = true := by rfl) :
    EV cx d sc loc (.Call (.Name f p) (e :: r) [] pos) H Q := by
  intro env A P s E Q' he hF hA R k
  rw [eval_Call_Name]
  refine wpAny_bind (load_builtin he R hx hf.g hf.n hf.b (callWith_type (backTo_plain hn) ?_))
  have hn1 : notStar e = true := by simp only [List.all_cons, Bool.and_eq_true] at hn; exact hn.1
  have hs := EVs.sound (env := env) (A := A) (P := P) (s := s) (E := E) (pos := pos) h hn he hF hA R (Q' := fun vs s₁ => wpAny (model cx.prog cx.w) A (call (.type T) vs) Q' E s₁)
    (fun vs Vs H' h' tk q hvs R' => q A P _ E Q' Vs hA R' hvs fun v V H₂ h₂ tk₂ => k v V H₂ h₂ tk₂)
  rw [starEach_cons hn1] at hs ⊢
  exact Calls.evalArgs_plain hs

theorem vrs1 {a : AV} {vs : List Value} (h : VRs [a] vs) : ∃ V, vs = [V] ∧ VR a V := by
  match vs, h with
  | [V], h => exact ⟨V, rfl, h.1⟩
  | [], h => exact h.elim
  | _ :: _ :: _, h => exact h.2.elim
theorem vrs2 {a b : AV} {vs : List Value} (h : VRs [a, b] vs) : ∃ V W, vs = [V, W] ∧ VR a V ∧ VR b W := by
  match vs, h with
  | V :: vs, h => obtain ⟨W, rfl, h2⟩ := vrs1 h.2; exact ⟨V, W, rfl, h.1, h2⟩
  | [], h => exact h.elim

theorem CW_len {a : Addr} {ro : Bool} {vs : List AV} (ha : H a = some (.list ro vs)) (hl : vs.length ≤ 2 ^ 20) (hq : Q (.int vs.length) H) : CW cx d (.builtin "len") [.ref a] H Q := by
  intro A P s E Q' us hA R hr k
  obtain ⟨V, rfl, hv⟩ := vrs1 hr
  cases hv
  obtain ⟨items, n, hO, hr⟩ := R.isList ha
  have hz := hr.size
  refine Calls.call_len_list ⟨_, hO, rfl, n, rfl⟩ (by omega) ?_
  rw [← hz]
  exact k _ _ H s.heap _ hq ⟨_, rfl⟩ R

theorem CW_isinst_list {a : Addr} {ro : Bool} {vs : List AV} (ha : H a = some (.list ro vs)) (hq : Q (.bool true) H) : CW cx d (.builtin "isinstance") [.ref a, .ty "list"] H Q := by
  intro A P s E Q' us hA R hr k
  obtain ⟨V, W, rfl, hv, hw⟩ := vrs2 hr
  cases hv; cases hw
  obtain ⟨items, n, hO, _⟩ := R.isList ha
  exact IsiPair.list_list hO rfl (k _ _ H s.heap s.toks hq rfl R)
theorem CW_isinst_int_int {i : Int} (hq : Q (.bool true) H) : CW cx d (.builtin "isinstance") [.int i, .ty "int"] H Q := by
  intro A P s E Q' us hA R hr k
  obtain ⟨V, W, rfl, ⟨t, rfl⟩, hw⟩ := vrs2 hr
  cases hw
  exact IsiPair.int_int (k _ _ H s.heap s.toks hq rfl R)
theorem CW_isinst_int_bool {i : Int} (hq : Q (.bool false) H) : CW cx d (.builtin "isinstance") [.int i, .ty "bool"] H Q := by
  intro A P s E Q' us hA R hr k
  obtain ⟨V, W, rfl, ⟨t, rfl⟩, hw⟩ := vrs2 hr
  cases hw
  exact IsiPair.int_bool (k _ _ H s.heap _ hq rfl R)
theorem CW_isinst_bool_bool {b : Bool} (hq : Q (.bool true) H) : CW cx d (.builtin "isinstance") [.bool b, .ty "bool"] H Q := by
  intro A P s E Q' us hA R hr k
  obtain ⟨V, W, rfl, hv, hw⟩ := vrs2 hr
  cases hv; cases hw
  exact IsiPair.bool_bool (k _ _ H s.heap s.toks hq rfl R)

/-- list(xs) of a list -/
theorem CW_list_copy {a : Addr} {ro : Bool} {vs : List AV} (ha : H a = some (.list ro vs)) (hl : vs.length ≤ 2 ^ 20) (hq : ∀ b, H b = none → Q (.ref b) (H.put b (.list false vs))) : CW cx d (.type "list") [.ref a] H Q := by
  intro A P s E Q' us hA R hr k
  obtain ⟨V, rfl, hv⟩ := vrs1 hr
  cases hv
  obtain ⟨items, n, hO, hr⟩ := R.isList ha
  have hz := hr.size
  refine call_list_seq a (.inl rfl) hO rfl rfl (fun h' c' up hD => ?_) (by show items.size ≤ 2 ^ 24; omega)
  exact k _ _ _ h' s.toks (hq _ (R.fresh (get_size _)).2) rfl (R.put_new (get_size _) up hD ⟨items, c', rfl, hr⟩)

theorem CW_range1 {n : Int} (hq : ∀ b, H b = none → Q (.ref b) (H.put b (.range 0 n))) : CW cx d (.type "range") [.int n] H Q := by
  intro A P s E Q' us hA R hr k
  obtain ⟨V, rfl, ⟨t, rfl⟩⟩ := vrs1 hr
  exact call_range_1 (k _ _ _ _ _ (hq _ (R.fresh (get_size _)).2) rfl (R.push (o := .range 0 n) ⟨_, _, _, rfl⟩ rfl))
theorem vrs_of_get : ∀ {as : List AV} {vs : List Value}, as.length = vs.length → (∀ (j : Nat) (a : AV) (v : Value), as[j]? = some a → vs[j]? = some v → VR a v) → VRs as vs
  | [], [], _, _ => trivial
  | a :: as, v :: vs, hl, h => ⟨h 0 a v rfl rfl, vrs_of_get (by simpa using hl) fun j a v ha hv => h (j + 1) a v (by simpa using ha) (by simpa using hv)⟩
  | [], _ :: _, hl, _ => by simp at hl
  | _ :: _, [], hl, _ => by simp at hl
theorem items_span {lo : Int} {n : Nat} {acc : Array Value} (h : ItemsOf (fun i v => ∃ t, v = Value.int (lo + i * 1) t) acc n) : VRs ((List.range n).map fun (i : Nat) => AV.int (lo + i)) acc.toList := by
  obtain ⟨h1, h2⟩ := h
  refine vrs_of_get (by simp [h1]) fun j a v ha hv => ?_
  have hj : j < n := by
    rcases Nat.lt_or_ge j n with h | h
    · exact h
    · rw [List.getElem?_eq_none (by simpa using h)] at ha; cases ha
  obtain ⟨t, rfl⟩ := h2 j v (by simpa using hv)
  simp [hj] at ha
  subst ha
  exact ⟨t, by rw [Int.mul_one]⟩

/-- list(range(..)) -/
theorem CW_list_range {a : Addr} {lo hi : Int} (ha : H a = some (.range lo hi)) (h1 : -2 ^ 20 ≤ lo) (h2 : lo ≤ 2 ^ 20) (h3 : hi ≤ 2 ^ 20) (h4 : -2 ^ 20 ≤ hi) (hq : ∀ b, H b = none → Q (.ref b) (H.put b (.list false (spanZ lo hi)))) :
    CW cx d (.type "list") [.ref a] H Q := by
  intro A P s E Q' us hA R hr k
  obtain ⟨V, rfl, hv⟩ := vrs1 hr
  cases hv
  obtain ⟨O, hO, t, u, v, rfl⟩ := R.obj a _ ha
  have hsm : Builtin.Range.small lo hi 1 = true := by
    unfold Builtin.Range.small
    rw [rangeSize_one]
    simp [Builtin.Range.rangeFitsLong]
    omega
  refine call_list_range hA.handled hO hsm (rangeSize_one lo hi) (by omega) fun h' tk acc' c' up hD hit => ?_
  exact k _ _ _ h' tk (hq _ (R.fresh (get_size _)).2) rfl (R.put_new (get_size _) up hD ⟨acc', c', rfl, items_span hit⟩)

theorem Op_addList {a b : Addr} {ro ro' : Bool} {vs ws : List AV} (ha : H a = some (.list ro vs)) (hb : H b = some (.list ro' ws)) (h1 : vs.length ≤ 2 ^ 20) (h2 : ws.length ≤ 2 ^ 20)
    (hq : ∀ c, H c = none → Q (.ref c) (H.put c (.list false (vs ++ ws)))) : OpW cx d (binaryOp .Add) (.ref a) (.ref b) H Q := by
  intro A P s E Q' V W hA R hv hw k
  cases hv; cases hw
  obtain ⟨i1, n1, hO1, hr1⟩ := R.isList ha
  obtain ⟨i2, n2, hO2, hr2⟩ := R.isList hb
  have z1 := hr1.size
  have z2 := hr2.size
  refine PySem.P.add_list hO1 hO2 ?_ (by show i1.size + i2.size ≤ 2 ^ 24; omega)
  exact k _ _ _ _ s.toks (hq _ (R.fresh (get_size _)).2) rfl (R.push (o := .list false (vs ++ ws)) ⟨_, _, rfl, by rw [Array.toList_append]; exact hr1.append hr2⟩ rfl)

/-! ## comparison of data -/
mutual
def Is (H : Hp) : AV → PyData → Prop
  | v, .none => v = .none
  | v, .bool b => v = .bool b
  | v, .int i => v = .int i
  | v, .str x => v = .str x
  | v, .list ds => ∃ a ro vs, v = .ref a ∧ H a = some (.list ro vs) ∧ Iss H vs ds
  | v, .tuple ds => ∃ a vs, v = .ref a ∧ H a = some (.tuple vs) ∧ Iss H vs ds
  | _, .dict _ => False
def Iss (H : Hp) : List AV → List PyData → Prop
  | [], [] => True
  | v :: vs, d :: ds => Is H v d ∧ Iss H vs ds
  | _, _ => False
end

mutual
theorem Is.reads {P : PH} {h : Heap} (R : Rep cx P H h) : ∀ (d : PyData) (v : AV) (V : Value), Is H v d → VR v V → ∃ as, Reads h V d as
  | .none, v, V, hi, hv => by rw [Is] at hi; subst hi; cases hv; exact ⟨_, .none⟩
  | .bool b, v, V, hi, hv => by rw [Is] at hi; subst hi; cases hv; exact ⟨_, .bool b⟩
  | .int i, v, V, hi, hv => by rw [Is] at hi; subst hi; obtain ⟨t, rfl⟩ := hv; exact ⟨_, .int i t⟩
  | .str x, v, V, hi, hv => by rw [Is] at hi; subst hi; obtain ⟨t, rfl⟩ := hv; exact ⟨_, .str x t⟩
  | .list ds, v, V, hi, hv => by
    rw [Is] at hi
    obtain ⟨a, ro, vs, rfl, ha, hs⟩ := hi
    cases hv
    obtain ⟨items, n, hO, hr⟩ := R.isList ha
    obtain ⟨as, q⟩ := Iss.reads R ds vs items.toList hs hr
    exact ⟨_, .list hO rfl rfl q⟩
  | .tuple ds, v, V, hi, hv => by
    rw [Is] at hi
    obtain ⟨a, vs, rfl, ha, hs⟩ := hi
    cases hv
    obtain ⟨O, hO, items, n, rfl, hr⟩ := R.obj a _ ha
    obtain ⟨as, q⟩ := Iss.reads R ds vs items.toList hs hr
    exact ⟨_, .tuple hO rfl rfl q⟩
  | .dict _, v, V, hi, _ => by rw [Is] at hi; exact hi.elim
theorem Iss.reads {P : PH} {h : Heap} (R : Rep cx P H h) : ∀ (ds : List PyData) (vs : List AV) (Vs : List Value), Iss H vs ds → VRs vs Vs → ∃ as, ReadsAll h Vs ds as
  | [], [], [], _, _ => ⟨_, .nil⟩
  | d :: ds, v :: vs, V :: Vs, hi, hv => by
    rw [Iss] at hi
    obtain ⟨as, q⟩ := Is.reads R d v V hi.1 hv.1
    obtain ⟨bs, p⟩ := Iss.reads R ds vs Vs hi.2 hv.2
    exact ⟨_, .cons q p⟩
  | [], [], _ :: _, _, h => h.elim
  | _ :: _, _ :: _, [], _, h => h.elim
  | [], _ :: _, _, h, _ => by rw [Iss] at h; exact h.elim; all_goals intros; simp_all
  | _ :: _, [], _, h, _ => by rw [Iss] at h; exact h.elim; all_goals intros; simp_all
end

theorem Op_eqD {v w : AV} {x y : PyData} (hv : Is H v x) (hw : Is H w y) (hx : x.canLay0 = true) (hy : y.canLay0 = true) (hd : min x.depth y.depth ≤ 8) (hq : Q (.bool (PyData.eqv x y)) H) :
    OpW cx (d + 1) (compareOp .Eq) v w H Q := by
  intro A P s E Q' V W hA R h1 h2 k
  obtain ⟨as, ra⟩ := hv.reads R x v V h1
  obtain ⟨bs, rb⟩ := hw.reads R y w W h2
  exact SeqAt.compareEq_reads ra rb hx hy (by have := hA.units; omega) (k _ _ H s.heap s.toks hq rfl R)
/-! int in a list of nums -/
theorem in_ints {ns : List Int} {items : Array Value} {i : Int} (h : VRs (ns.map .int) items.toList) :
    (∀ y ∈ items, ∃ b t, y = Value.int b t) ∧ items.any (fun y => match y with | .int b _ => b == i | _ => false) = decide (i ∈ ns) := by
  have key : ∀ (ns : List Int) (l : List Value), VRs (ns.map .int) l → (∀ y ∈ l, ∃ b t, y = Value.int b t) ∧ l.any (fun y => match y with | .int b _ => b == i | _ => false) = decide (i ∈ ns) := by
    intro ns
    induction ns with
    | nil => intro l hl; match l, hl with | [], _ => exact ⟨by simp, by simp⟩ | _ :: _, hl => exact hl.elim
    | cons a r ih =>
      intro l hl
      match l, hl with
      | [], hl => exact hl.elim
      | V :: l, hl =>
        obtain ⟨⟨t, rfl⟩, hl⟩ := hl
        obtain ⟨h1, h2⟩ := ih l hl
        refine ⟨fun y hy => ?_, ?_⟩
        · rcases List.mem_cons.mp hy with rfl | hy
          · exact ⟨a, t, rfl⟩
          · exact h1 y hy
        · rw [List.any_cons, h2]
          simp only [List.mem_cons]
          by_cases e : a = i
          · subst e; simp
          · have e' : ¬ i = a := fun z => e z.symm
            have : (a == i) = false := by simpa using e
            simp [this, e']
  have := key ns items.toList h
  exact ⟨fun y hy => this.1 y (by simpa using hy), by rw [← Array.any_toList]; exact this.2⟩

theorem Op_in {a : Addr} {ro : Bool} {ns : List Int} {i : Int} (ha : H a = some (.list ro (ns.map .int))) (hq : Q (.bool (decide (i ∈ ns))) H) : OpW cx d (compareOp .In) (.int i) (.ref a) H Q := by
  intro A P s E Q' V W hA R hv hw k
  obtain ⟨t, rfl⟩ := hv
  cases hw
  obtain ⟨items, n, hO, hr⟩ := R.isList ha
  obtain ⟨h1, h2⟩ := in_ints (i := i) hr
  refine SeqAt.in_listAt (fun y => match y with | .int b _ => b == i | _ => false) ⟨_, hO, rfl, n, rfl⟩ (fun y hy => ?_) ?_
  · obtain ⟨b, u, rfl⟩ := h1 y hy; exact SeqAt.EqAt.int_int b u i t
  · rw [h2]; exact k _ _ H s.heap s.toks hq rfl R
theorem Op_notIn {a : Addr} {ro : Bool} {ns : List Int} {i : Int} (ha : H a = some (.list ro (ns.map .int))) (hq : Q (.bool (decide (i ∉ ns))) H) : OpW cx d (compareOp .NotIn) (.int i) (.ref a) H Q := by
  intro A P s E Q' V W hA R hv hw k
  obtain ⟨t, rfl⟩ := hv
  cases hw
  obtain ⟨items, n, hO, hr⟩ := R.isList ha
  obtain ⟨h1, h2⟩ := in_ints (i := i) hr
  refine SeqAt.notIn_listAt (fun y => match y with | .int b _ => b == i | _ => false) ⟨_, hO, rfl, n, rfl⟩ (fun y hy => ?_) ?_
  · obtain ⟨b, u, rfl⟩ := h1 y hy; exact SeqAt.EqAt.int_int b u i t
  · rw [h2]; exact k _ _ H s.heap s.toks hq (by simp [VR]) R

/-! ## subscripts -/
def GetW (cx : Cx) (d : Nat) (o i : AV) (H : Hp) (Q : AV → Hp → Prop) : Prop :=
  ∀ (A : Around) (P : PH) (s : Shared) (E : Value → Shared → Prop) (Q' : Value → Shared → Prop) (V W : Value), Room d A → Rep cx P H s.heap → VR o V → VR i W →
    (∀ v V H' h' tk, Q v H' → VR v V → Rep cx P H' h' → Q' V { s with heap := h', toks := tk }) →
    (∃ T id, s.TypeIs V T ∧ typeLookup (.type T) "__getitem__" = pure (some (.builtin id))) ∧ wpAny (model cx.prog cx.w) A (getItem V W) Q' E s

theorem EV_Sub {value slice : Expr} (h : EV cx d sc loc value H fun o H₁ => EV cx d sc loc slice H₁ fun i H₂ => GetW cx d o i H₂ Q)
    (hs : ∀ o i, subscripted slice false o i = operate [o, i] (getItem o i) := by intro _ _; rfl) : EV cx d sc loc (.Subscript value slice pos) H Q := by
  intro env A P s E Q' he hF hA R k
  refine PyProof.Rows.Subscript_ (h env A P s E _ he hF hA R fun o V H₁ h₁ tk₁ q₁ ho R₁ => ?_)
  refine q₁ env A P _ E _ he hF hA R₁ fun i W H₂ h₂ tk₂ q₂ hi R₂ => ?_
  obtain ⟨⟨T, id, hT, hl⟩, hg⟩ := q₂ A P { s with heap := h₂, toks := tk₂ } E Q' V W hA R₂ ho hi fun v V H₃ h₃ tk₃ => k v V H₃ h₃ tk₃
  exact PyProof.Rows.tail_any hT hl hg (hs V W)

theorem Get_list {a : Addr} {ro : Bool} {vs : List AV} {i : Int} {v : AV} (ha : H a = some (.list ro vs)) (h0 : 0 ≤ i) (hl : vs.length ≤ 2 ^ 20) (hv : vs[i.toNat]? = some v) (hq : Q v H) : GetW cx d (.ref a) (.int i) H Q := by
  intro A P s E Q' V W hA R ho hi k
  cases ho
  obtain ⟨t, rfl⟩ := hi
  obtain ⟨items, n, hO, hr⟩ := R.isList ha
  obtain ⟨X, hX, hx⟩ := hr.get hv
  have hlt : i.toNat < vs.length := (List.getElem?_eq_some_iff.mp hv).1
  refine ⟨⟨"list", _, ⟨_, hO, rfl⟩, list_getitem_lookup⟩, ?_⟩
  exact wpAny_getItem_list ⟨_, hO, rfl, n, rfl⟩ h0 (by omega) (by simpa using hX) (k v X H s.heap s.toks hq hx R)
end
end Mine

-- Core10
namespace Mine
open PySem

/-! ## slices -/
def bnd (n dflt : Nat) : Option Int → Nat
  | none => dflt
  | some i => (max 0 (min (if i < 0 then i + n else i) n)).toNat
def pySlice {α : Type} (vs : List α) (lo hi : Option Int) : List α := (vs.drop (bnd vs.length 0 lo)).take (bnd vs.length vs.length hi - bnd vs.length 0 lo)

theorem slicePick_eq (items : Array Value) (lo hi : Option Int) : slicePick items lo hi none = (pySlice items.toList lo hi).toArray := by
  unfold slicePick pySlice
  have e1 : (sliceBounds lo hi none items.size).1 = ((bnd items.size 0 lo : Nat) : Int) := by
    cases lo with
    | none => simp [sliceBounds, bnd]
    | some i => simp only [sliceBounds, bnd, Option.getD_none]; simp
  have e2 : (sliceBounds lo hi none items.size).2.1 = ((bnd items.size items.size hi : Nat) : Int) := by
    cases hi with
    | none => simp [sliceBounds, bnd]
    | some i => simp only [sliceBounds, bnd, Option.getD_none]; simp
  have e3 : (sliceBounds lo hi none items.size).2.2 = 1 := rfl
  rw [e1, e2, e3, sliceRange_one, pick_run, Array.length_toList]

theorem VRs.slice {as : List AV} {vs : List Value} (lo hi : Option Int) (h : VRs as vs) : VRs (pySlice as lo hi) (pySlice vs lo hi) := by
  unfold pySlice
  rw [h.length]
  exact (h.drop _).take _

def EVo (cx : Cx) (d : Nat) (sc : Scope) (loc : Loc) : Option Expr → Hp → (Option Int → Hp → Prop) → Prop
  | none, H, Q => Q none H
  | some e, H, Q => EV cx d sc loc e H fun v H' => ∃ k, v = .int k ∧ Q (some k) H'

section
variable {cx : Cx} {d : Nat} {sc : Scope} {loc : Loc} {H : Hp} {Q : AV → Hp → Prop} {pos : Pos}

theorem EVo.sound {o : Option Expr} {Qo : Option Int → Hp → Prop} (h : EVo cx d sc loc o H Qo) {env : Env} {A : Around} {P : PH} {s : Shared} {E : Value → Shared → Prop} {Q' : Value → Shared → Prop}
    (he : EnvOk sc env) (hF : FrameP env loc P) (hA : Room d A) (R : Rep cx P H s.heap)
    (k : ∀ x V H' h' tk, Qo x H' → IsPart V x → Rep cx P H' h' → Q' V { s with heap := h', toks := tk }) : wpAny (model cx.prog cx.w) A (evalPart o env) Q' E s := by
  cases o with
  | none => rw [evalPart_none]; exact wpAny_pure (k none .none H s.heap s.toks h .none R)
  | some e =>
    rw [evalPart_some]
    refine h env A P s E Q' he hF hA R fun v V H' h' tk q hv R' => ?_
    obtain ⟨i, rfl, q⟩ := q
    obtain ⟨t, rfl⟩ := hv
    exact k (some i) _ H' h' tk q (.int i t) R'

theorem EV_Slice {value : Expr} {lower upper : Option Expr} {p : Pos}
    (h : EV cx d sc loc value H fun o H₁ => EVo cx d sc loc lower H₁ fun lo H₂ => EVo cx d sc loc upper H₂ fun hi H₃ =>
      ∃ a ro vs, o = .ref a ∧ H₃ a = some (.list ro vs) ∧ vs.length ≤ 2 ^ 20 ∧ ∀ b, H₃ b = none → Q (.ref b) (H₃.put b (.list false (pySlice vs lo hi)))) :
    EV cx d sc loc (.Subscript value (.Slice lower upper none p) pos) H Q := by
  intro env A P s E Q' he hF hA R k
  refine PyProof.Rows.Subscript_ (h env A P s E _ he hF hA R fun o V H₁ h₁ tk₁ q₁ ho R₁ => ?_)
  refine wpAny_Slice (EVo.sound q₁ he hF hA R₁ fun lo VL H₂ h₂ tk₂ q₂ hlo R₂ => EVo.sound q₂ he hF hA R₂ fun hi VU H₃ h₃ tk₃ q₃ hhi R₃ => ?_)
  obtain ⟨a, ro, vs, rfl, ha, hl, q⟩ := q₃
  cases ho
  rw [evalPart_none]
  refine wpAny_pure ?_
  obtain ⟨items, n, hO, hr⟩ := R₃.isList ha
  have hz := hr.size
  have hl3 : h₃.IsList a items := ⟨_, hO, rfl, n, rfl⟩
  refine PyProof.Rows.tail_any (T := "list") (ops := [_, _]) (hl3.push _).typeIs list_getitem_lookup (wpAny_getItem_list_slice (hl3.push _) (Heap.IsSliceOf.new ..) hlo hhi .none (by simp) ?_ (by show items.size ≤ 2 ^ 24; omega)) rfl
  have R₄ : Rep cx P H₃ (h₃.push { cls := .type "slice", data := .fields #[VL, VU, .none] }) := R₃.grow fun b o e => Heap.get?_push_of_some _ e
  have hf := (R₄.fresh (get_size _)).2
  exact k _ _ _ _ tk₃ (q _ hf) rfl (R₄.push (o := .list false (pySlice vs lo hi)) ⟨_, _, rfl, by rw [slicePick_eq]; exact hr.slice lo hi⟩ rfl)

/-! ## all, any over a list of bools -/
theorem vrs_bools {bs : List Bool} {items : Array Value} (h : VRs (bs.map .bool) items.toList) : ∀ (i : Nat) (v : Value), items[i]? = some v → v = .bool (bs.getD i false) := by
  intro i v hv
  obtain ⟨a, ha, hr⟩ := h.get' (i := i) (by simpa using hv)
  simp only [List.getElem?_map, Option.map_eq_some_iff] at ha
  obtain ⟨b, hb, rfl⟩ := ha
  rw [List.getD_eq_getElem?_getD, hb]
  exact hr

theorem range_all (bs : List Bool) : (List.range bs.length).all (fun i => bs.getD i false) = bs.all id := by
  induction bs with
  | nil => rfl
  | cons b r ih =>
    rw [List.length_cons, List.range_succ_eq_map, List.all_cons, List.all_map]
    simp only [List.all_cons, id]
    rw [← ih]
    rfl
theorem CW_all {a : Addr} {ro : Bool} {bs : List Bool} (ha : H a = some (.list ro (bs.map .bool))) (hq : Q (.bool (bs.all id)) H) : CW cx d (.builtin "all") [.ref a] H Q := by
  intro A P s E Q' us hA R hr k
  obtain ⟨V, rfl, hv⟩ := vrs1 hr
  cases hv
  obtain ⟨items, n, hO, hr⟩ := R.isList ha
  have hz : bs.length = items.size := by have := hr.size; simpa using this
  have hl : s.heap.IsList a items := ⟨_, hO, rfl, n, rfl⟩
  have hne : a ≠ s.heap.objs.size := Nat.ne_of_lt (Heap.lt_size hO)
  refine call_all_walk (wpAny_pyIter_list hl ⟨s.heap.objs.size, _, _, _, _, _, fun i => bs.getD i false, rfl, Walks.list (A := A.in1) hA.handled s.heap.objs.size a hne items, ⟨⟨_, Heap.get?_push_size _ rfl, rfl, rfl⟩, hl.push _⟩, ?_, fun h' tk up => ?_⟩)
  · intro i v s' Q₂ E₂ hi hq₂
    rw [vrs_bools hr i v hi]
    exact wpAny_truthy_bool hq₂
  · rw [← hz, range_all]
    refine k _ _ H h' tk hq rfl (R.grow fun b o e => up b o ?_ (Heap.get?_push_of_some _ e))
    intro hm
    simp at hm
    exact absurd (Heap.lt_size e) (by rw [hm]; exact Nat.lt_irrefl _)
/-! ## more values -/
theorem EV_Neg {e : Expr} (h : EV cx d sc loc e H fun v H' => ∃ i, v = .int i ∧ Q (.int (-i)) H') : EV cx d sc loc (.UnaryOp .USub e pos) H Q := by
  intro env A P s E Q' he hF hA R k
  refine wpAny_UnaryOp (h env A P s E _ he hF hA R fun v V H' h' tk q hv R' => ?_)
  obtain ⟨i, rfl, q⟩ := q
  obtain ⟨t, rfl⟩ := hv
  exact PySem.P.neg_int (k _ _ H' h' _ q ⟨_, rfl⟩ R')
theorem Op_pow {a n : Int} (hn : 0 ≤ n) (hsz : (Builtin.Int.intBits a : Int) * n ≤ 2 ^ 27) (hq : Q (.int (a ^ n.toNat)) H) : OpW cx d (binaryOp .Pow) (.int a) (.int n) H Q := by
  rintro A P s E Q' V W hA R ⟨t, rfl⟩ ⟨u, rfl⟩ k
  exact PyProof.Rows.pow_int hn hsz (k _ _ H s.heap _ hq ⟨_, rfl⟩ R)
end
end Mine

-- Core11
namespace Mine
open PySem PySem.Calls PyProof.Rows

/-! ## the text's defs -/
structure FDef where
  name : Str
  params : Arguments
  body : List Stmt
  scope : Scope

def defAt (p : Program) (k : Nat) : FDef := match p.main.body[k]? with
  | some (.FunctionDef name args body _ _ _ scope _ _ _) => ⟨name, args, body, scope⟩
  | _ => ⟨⟨#[]⟩, ⟨[], [], none, [], [], none, []⟩, [], { kind := .function, names := [], isGenerator := false, isCoroutine := false, more := [] }⟩

/-- the def stands at fa as the text has it -/
def HasDef (cx : Cx) (D : FDef) (fa : Addr) : Prop := ∃ pm code doc, IsFn cx D.name fa (docDef D.name D.params D.body D.scope pm code doc)

def FDef.names (D : FDef) : List Str := D.params.args.map (·.arg)

section
variable {cx : Cx} {d : Nat} {sc : Scope} {loc : Loc} {H : Hp} {Q : AV → Hp → Prop} {pos : Pos}

theorem CW_fn {D : FDef} {fa : Addr} {args : List AV} (hf : HasDef cx D fa)
    (hbind : ∀ (pm code doc : Value) (vs : List Value), vs.length = args.length → bindArgs (docDef D.name D.params D.body D.scope pm code doc) ⟨vs, []⟩ = pure (D.names.zip vs))
    (h : EX cx d D.scope (bindA (D.names.zip args) fun _ => none) D.body H (retQ Q))
    (hnm : D.names.all (storable D.scope) = true := by rfl) (hnf : D.scope.names.all (fun y => y.2 != .free) = true := by rfl)
    (hco : D.scope.isCoroutine = false := by rfl) (hgen : D.scope.isGenerator = false := by rfl) (hk : D.scope.kind = .function := by rfl) : CW cx (d + 1) (.ref fa) args H Q := by
  obtain ⟨pm, code, doc, hf⟩ := hf
  exact CW_def hf rfl rfl (hbind pm code doc) hnm rfl rfl h hnf hco hgen hk

theorem EV_CallD {D : FDef} {f : Str} {fa : Addr} {e : Expr} {r : List Expr} {p pos : Pos} (hf : HasDef cx D fa) 
    (h : EVs cx d sc loc (e :: r) H fun vs H' => CW cx d (.ref fa) vs H' Q) (hn : D.name = f := by rfl) (hx : globalName sc f = true := by rfl) (hns : (e :: r).all notStar = true := by rfl) :
    EV cx d sc loc (.Call (.Name f p) (e :: r) [] pos) H Q := by
  obtain ⟨pm, code, doc, hf⟩ := hf
  subst hn
  exact EV_CallF hf h hx hns
end
end Mine

-- Core12
namespace Mine
open PySem

/-! ## small steps of the walk -/
section
variable {cx : Cx} {d : Nat} {sc : Scope} {loc : Loc} {H : Hp} {Q : AV → Hp → Prop} {QF : AF → Loc → Hp → Prop} {QB : Bool → Hp → Prop} {J : Loc → Hp → Prop}

theorem at_next {rest : List Stmt} (h : EX cx d sc loc rest H QF) : andThen cx d sc rest QF .next loc H := h
theorem at_ret {rest : List Stmt} {v : AV} (h : QF (.ret v) loc H) : andThen cx d sc rest QF (.ret v) loc H := h
theorem ret_ret {v : AV} (h : Q v H) : retQ Q (.ret v) loc H := h
theorem ret_next (h : Q .none H) : retQ Q .next loc H := h
theorem lp_next (h : J loc H) : loopQ J QF .next loc H := h
theorem lp_ret {v : AV} (h : QF (.ret v) loc H) : loopQ J QF (.ret v) loc H := h
theorem asB_b {b : Bool} (h : QB b H) : asB QB (.bool b) H := h
/-- only what goes on, not what leaves -/
def nextQ (Q₁ : Loc → Hp → Prop) : AF → Loc → Hp → Prop
  | .next, l, H => Q₁ l H
  | _, _, _ => False
theorem nxt {Q₁ : Loc → Hp → Prop} (h : Q₁ loc H) : nextQ Q₁ .next loc H := h
theorem EX_cut {st : Stmt} {rest : List Stmt} (Q₁ : Loc → Hp → Prop) (h1 : EX1 cx d sc loc st H (nextQ Q₁)) (h2 : ∀ l' H', Q₁ l' H' → EX cx d sc l' rest H' QF) : EX cx d sc loc (st :: rest) H QF :=
  EX_cons (h1.mono fun f l H' q => by cases f <;> first | exact h2 l H' q | exact q.elim)
theorem ite_dec {p : Prop} [Decidable p] {X Y : Prop} (h1 : p → X) (h2 : ¬ p → Y) : if decide p = true then X else Y := by
  by_cases h : p
  · simpa [h] using h1 h
  · simpa [h] using h2 h
theorem ite_ndec {p : Prop} [Decidable p] {X Y : Prop} (h1 : ¬ p → X) (h2 : p → Y) : if (!decide p) = true then X else Y := by
  by_cases h : p
  · simpa [h] using h2 h
  · simpa [h] using h1 h
theorem ite_bool {b : Bool} {X Y : Prop} (h1 : b = true → X) (h2 : b = false → Y) : if b = true then X else Y := by
  cases b
  · simpa using h2 rfl
  · simpa using h1 rfl
theorem ite_t {X Y : Prop} (h : X) : if true = true then X else Y := by simpa using h
theorem ite_f {X Y : Prop} (h : Y) : if false = true then X else Y := by simpa using h
theorem ite_nt {X Y : Prop} (h : Y) : if (!true) = true then X else Y := by simpa using h
theorem ite_nf {X Y : Prop} (h : X) : if (!false) = true then X else Y := by simpa using h
theorem evs_nil {QL : List AV → Hp → Prop} (h : QL [] H) : EVs cx d sc loc [] H QL := h
theorem evs_cons {e : Expr} {r : List Expr} {QL : List AV → Hp → Prop} (h : EV cx d sc loc e H fun v H₁ => EVs cx d sc loc r H₁ fun vs H₂ => QL (v :: vs) H₂) : EVs cx d sc loc (e :: r) H QL := h
theorem tand_nil (h : QB true H) : TAnd cx d sc loc [] H QB := h
theorem tand_cons {e : Expr} {r : List Expr} (h : TV cx d sc loc e H fun b H' => if b = true then TAnd cx d sc loc r H' QB else QB false H') : TAnd cx d sc loc (e :: r) H QB := h
theorem tor_nil (h : QB false H) : TOr cx d sc loc [] H QB := h
theorem tor_cons {e : Expr} {r : List Expr} (h : TV cx d sc loc e H fun b H' => if b = true then QB true H' else TOr cx d sc loc r H' QB) : TOr cx d sc loc (e :: r) H QB := h
theorem evo_none {Qo : Option Int → Hp → Prop} (h : Qo none H) : EVo cx d sc loc none H Qo := h
theorem evo_some {e : Expr} {Qo : Option Int → Hp → Prop} (h : EV cx d sc loc e H fun v H' => ∃ k, v = .int k ∧ Qo (some k) H') : EVo cx d sc loc (some e) H Qo := h
theorem int_ok {k : Int} {P : Int → Prop} (h : P k) : ∃ i, AV.int k = .int i ∧ P i := ⟨k, rfl, h⟩
end

/-- a new object does not stand where one stands already -/
theorem ne_of_new {H : Hp} {a b : Addr} {o : AObj} (ha : H a = none) (hb : H b = some o) : b ≠ a := fun e => by rw [e, ha] at hb; cases hb
/-- what stood stays: the abstract heap has only grown -/
def Ext (H H' : Hp) : Prop := ∀ a o, H a = some o → H' a = some o
theorem Ext.refl (H : Hp) : Ext H H := fun _ _ h => h
theorem Ext.trans {H₁ H₂ H₃ : Hp} (h : Ext H₁ H₂) (h' : Ext H₂ H₃) : Ext H₁ H₃ := fun a o e => h' a o (h a o e)
theorem Ext.put {H : Hp} {a : Addr} {o : AObj} (ha : H a = none) : Ext H (H.put a o) := fun b ob hb => by rw [Hp.put_ne (ne_of_new ha hb)]; exact hb
theorem Ext.put_r {H H' : Hp} {a : Addr} {o : AObj} (h : Ext H H') (ha : H' a = none) : Ext H (H'.put a o) := h.trans (.put ha)
/-- an object that is new since H may turn -/
theorem Ext.own {H H' : Hp} {a : Addr} {o : AObj} (h : Ext H H') (ha : H a = none) : Ext H (H'.put a o) := fun b ob hb => by rw [Hp.put_ne (ne_of_new ha hb)]; exact h b ob hb
theorem Ext.none {H H' : Hp} {a : Addr} (h : Ext H H') (ha : H' a = none) : H a = none := by
  cases q : H a with
  | none => rfl
  | some o => rw [h a o q] at ha; cases ha
end Mine

-- Core13
namespace Mine
open PySem

def bnames : List String := ["len", "range", "list", "isinstance", "all", "any", "int", "bool", "dict", "set", "tuple", "enumerate", "max", "min", "sorted"]
/-- the text binds none of the built-in names that it uses -/
def Bs (cx : Cx) : Prop := ∀ x ∈ bnames, cx.mg (Str.ofString x) = none

set_option maxRecDepth 100000
section
variable {cx : Cx} (hB : Bs cx)
theorem boot_len : bootBuiltins "len" = some (.builtin "len") := by decide +kernel
theorem boot_range : bootBuiltins "range" = some (.type "range") := by decide +kernel
theorem boot_list : bootBuiltins "list" = some (.type "list") := by decide +kernel
theorem boot_isinstance : bootBuiltins "isinstance" = some (.builtin "isinstance") := by decide +kernel
theorem boot_all : bootBuiltins "all" = some (.builtin "all") := by decide +kernel
theorem boot_int : bootBuiltins "int" = some (.type "int") := by decide +kernel
theorem boot_bool : bootBuiltins "bool" = some (.type "bool") := by decide +kernel
theorem boot_dict : bootBuiltins "dict" = some (.type "dict") := by decide +kernel
theorem boot_tuple : bootBuiltins "tuple" = some (.type "tuple") := by decide +kernel
theorem boot_enumerate : bootBuiltins "enumerate" = some (.type "enumerate") := by decide +kernel
theorem boot_max : bootBuiltins "max" = some (.builtin "max") := by decide +kernel
theorem boot_min : bootBuiltins "min" = some (.builtin "min") := by decide +kernel
theorem boot_sorted : bootBuiltins "sorted" = some (.builtin "sorted") := by decide +kernel
include hB
theorem b_len : IsBuiltin cx "len" (.builtin "len") := ⟨hB "len" (by decide), by decide, boot_len⟩
theorem b_range : IsBuiltin cx "range" (.type "range") := ⟨hB "range" (by decide), by decide, boot_range⟩
theorem b_list : IsBuiltin cx "list" (.type "list") := ⟨hB "list" (by decide), by decide, boot_list⟩
theorem b_isinstance : IsBuiltin cx "isinstance" (.builtin "isinstance") := ⟨hB "isinstance" (by decide), by decide, boot_isinstance⟩
theorem b_all : IsBuiltin cx "all" (.builtin "all") := ⟨hB "all" (by decide), by decide, boot_all⟩
theorem b_int : IsBuiltin cx "int" (.type "int") := ⟨hB "int" (by decide), by decide, boot_int⟩
theorem b_bool : IsBuiltin cx "bool" (.type "bool") := ⟨hB "bool" (by decide), by decide, boot_bool⟩
theorem b_dict : IsBuiltin cx "dict" (.type "dict") := ⟨hB "dict" (by decide), by decide, boot_dict⟩
theorem b_tuple : IsBuiltin cx "tuple" (.type "tuple") := ⟨hB "tuple" (by decide), by decide, boot_tuple⟩
theorem b_enumerate : IsBuiltin cx "enumerate" (.type "enumerate") := ⟨hB "enumerate" (by decide), by decide, boot_enumerate⟩
theorem b_max : IsBuiltin cx "max" (.builtin "max") := ⟨hB "max" (by decide), by decide, boot_max⟩
theorem b_min : IsBuiltin cx "min" (.builtin "min") := ⟨hB "min" (by decide), by decide, boot_min⟩
theorem b_sorted : IsBuiltin cx "sorted" (.builtin "sorted") := ⟨hB "sorted" (by decide), by decide, boot_sorted⟩
end

section
variable {cx : Cx} {d : Nat} {sc : Scope} {loc : Loc} {H : Hp} {Q : AV → Hp → Prop} {QF : AF → Loc → Hp → Prop}
theorem CW.scr {V : Value} {args : List AV} (h : H cx.script = some (.list true (cx.nums.map .int)) → CW cx d V args H Q) : CW cx d V args H Q :=
  fun A P s E Q' vs hA R hr k => h R.scr A P s E Q' vs hA R hr k
theorem EV.scr {e : Expr} (h : H cx.script = some (.list true (cx.nums.map .int)) → EV cx d sc loc e H Q) : EV cx d sc loc e H Q :=
  fun env A P s E Q' he F hA R k => h R.scr env A P s E Q' he F hA R k

/-- more room does no harm -/
theorem Room.le {d d' : Nat} {A : Around} (h : Room d A) (hd : d' ≤ d) : Room d' A := ⟨h.handled, by have := h.depth; omega, by have := h.units; omega⟩
theorem CW.le {V : Value} {args : List AV} {d d' : Nat} (h : CW cx d' V args H Q) (hd : d' ≤ d) : CW cx d V args H Q :=
  fun A P s E Q' vs hA R hr k => h A P s E Q' vs (hA.le hd) R hr k

end
end Mine

-- Core14
namespace Mine
open PySem

theorem capt_of {scope : Scope} {loc : Loc} {y : Str} {v : AV} (h : scope.names.lookup y = some .free) (hv : loc y = some v) : capt scope loc y = some v := by unfold capt; rw [if_pos h]; exact hv

section
variable {cx : Cx} {d : Nat} {sc scope : Scope} {loc : Loc} {H : Hp} {x : Str} {elt c : Expr} {keep : Hp → Prop} {Qf : List AV → Hp → Prop} {α : Type}

/-- a comprehension whose elements make nothing -/
theorem CompW_map (xs : List α) (g f : α → AV) (hk : keep H) (h : ∀ a ∈ xs, EV cx d (relab sc scope) (upd (capt scope loc) x (g a)) elt H fun y H' => y = f a ∧ H' = H) (hq : Qf (xs.map f) H) :
    CompW cx d sc scope loc x [] elt (xs.map g) keep H Qf := by
  refine ⟨fun i ys H' => H' = H ∧ ys = (xs.take i).map f, ⟨rfl, rfl⟩, ?_, ?_, ?_⟩
  · rintro i ys H' ⟨rfl, _⟩; exact hk
  · rintro i w ys H' hi ⟨rfl, rfl⟩
    simp only [List.getElem?_map, Option.map_eq_some_iff] at hi
    obtain ⟨a, ha, rfl⟩ := hi
    simp only [Tests, if_true]
    refine EV.mono (h a (List.mem_of_getElem? ha)) ?_
    rintro v H₂ ⟨rfl, rfl⟩
    exact ⟨rfl, by rw [List.take_add_one, ha, List.map_append]; rfl⟩
  · rintro ys H' ⟨rfl, rfl⟩
    rw [List.length_map, List.take_length]; exact hq

theorem CompW_filter (xs : List α) (g f : α → AV) (p : α → Bool) (hk : keep H) (h1 : ∀ a ∈ xs, TV cx d (relab sc scope) (upd (capt scope loc) x (g a)) c H fun b H' => b = p a ∧ H' = H)
    (h : ∀ a ∈ xs, p a = true → EV cx d (relab sc scope) (upd (capt scope loc) x (g a)) elt H fun y H' => y = f a ∧ H' = H) (hq : Qf ((xs.filter p).map f) H) :
    CompW cx d sc scope loc x [c] elt (xs.map g) keep H Qf := by
  refine ⟨fun i ys H' => H' = H ∧ ys = ((xs.take i).filter p).map f, ⟨rfl, rfl⟩, ?_, ?_, ?_⟩
  · rintro i ys H' ⟨rfl, _⟩; exact hk
  · rintro i w ys H' hi ⟨rfl, rfl⟩
    simp only [List.getElem?_map, Option.map_eq_some_iff] at hi
    obtain ⟨a, ha, rfl⟩ := hi
    have hm := List.mem_of_getElem? ha
    refine TV.mono (h1 a hm) ?_
    rintro b H₂ ⟨rfl, rfl⟩
    refine ite_bool (fun hp => ?_) (fun hp => ?_)
    · refine EV.mono (h a hm hp) ?_
      rintro v H₃ ⟨rfl, rfl⟩
      exact ⟨rfl, by rw [List.take_add_one, ha, List.filter_append]; simp [hp]⟩
    · exact ⟨rfl, by rw [List.take_add_one, ha, List.filter_append]; simp [hp]⟩
  · rintro ys H' ⟨rfl, rfl⟩
    rw [List.length_map, List.take_length]; exact hq

/-- a comprehension whose elements may make things: the heap grows, each element is told behind -/
theorem CompW_grow (xs : List α) (g : α → AV) (T : α → AV → Hp → Prop) (hT : ∀ a y H₁ H₂, Ext H₁ H₂ → T a y H₁ → T a y H₂) (hk : ∀ H', Ext H H' → keep H')
    (h : ∀ a H', a ∈ xs → Ext H H' → EV cx d (relab sc scope) (upd (capt scope loc) x (g a)) elt H' fun y H₂ => Ext H' H₂ ∧ T a y H₂)
    (hq : ∀ ys H', Ext H H' → ys.length = xs.length → (∀ (i : Nat) (a : α) (y : AV), xs[i]? = some a → ys[i]? = some y → T a y H') → Qf ys H') :
    CompW cx d sc scope loc x [] elt (xs.map g) keep H Qf := by
  refine ⟨fun i ys H' => Ext H H' ∧ ys.length = min i xs.length ∧ ∀ (j : Nat) (a : α) (y : AV), xs[j]? = some a → ys[j]? = some y → T a y H', ⟨.refl H, by simp, by simp⟩, ?_, ?_, ?_⟩
  · rintro i ys H' ⟨he, _⟩; exact hk H' he
  · rintro i w ys H' hi ⟨he, hl, ht⟩
    simp only [List.getElem?_map, Option.map_eq_some_iff] at hi
    obtain ⟨a, ha, rfl⟩ := hi
    have hlt : i < xs.length := (List.getElem?_eq_some_iff.mp ha).1
    simp only [Tests, if_true]
    refine EV.mono (h a H' (List.mem_of_getElem? ha) he) ?_
    rintro v H₂ ⟨he₂, htv⟩
    refine ⟨he.trans he₂, by rw [List.length_append, List.length_singleton, hl]; omega, fun j b y hb hy => ?_⟩
    rcases Nat.lt_trichotomy j ys.length with h1 | h1 | h1
    · exact hT _ _ _ _ he₂ (ht j b y hb (by rwa [List.getElem?_append_left h1] at hy))
    · have hji : j = i := by omega
      subst hji
      rw [ha] at hb; cases hb
      rw [List.getElem?_append_right (by omega), h1, Nat.sub_self] at hy
      cases hy; exact htv
    · rw [List.getElem?_eq_none (by rw [List.length_append, List.length_singleton]; omega)] at hy; cases hy
  · rintro ys H' ⟨he, hl, ht⟩
    rw [List.length_map, Nat.min_self] at hl
    exact hq ys H' he hl ht
end
end Mine

-- Core15
namespace Mine
open PySem PySem.W PyProof.Rows

/-! ## the way in -/
def mkCx (prog : Program) (w : World) (base : Heap) (a : Addr) (ns : List Int) (mg mb : Str → Option Value) (g : base.Ns mainGlobals mg) (b : base.Ns builtinsNs mb) (nl : base.NoLimit) (hs : ∃ o, base.get? a = some o)
    (hb : ∀ x : Str, x ≠ "__name__" → mb x = bootBuiltins x) : Cx := ⟨prog, w, base, a, ns, mg, mb, g, b, nl, hs, hb⟩

theorem ints_vrs : ∀ {vs : List Value} {ns : List Int}, IntsAre vs ns → VRs (ns.map .int) vs := by
  intro vs ns h
  induction h with
  | nil => exact trivial
  | cons n t _ ih => exact ⟨⟨t, rfl⟩, ih⟩

theorem hasDef_of {p : Program} {loose : List Str} {mean : ExcName → Option Value} {mg mb : Str → Option Value} {h : Heap} (T : Top p loose mean mg mb h) {cx : Cx} (hb : cx.base = h) (hm : cx.mg = mg) (D : FDef) (pos : Pos)
    (hr : (⟨D.name, D.params, D.body, D.scope, pos⟩ : DefRec) ∈ recsOf p) : ∃ fa, HasDef cx D fa ∧ mg D.name = some (.ref fa) := by
  obtain ⟨a, o, pm, code, doc, h1, h2, h3, h4⟩ := T.fn _ hr
  subst hb hm
  exact ⟨a, ⟨pm, code, doc, ⟨h1, ⟨o, h2, h3⟩, h4⟩⟩, h1⟩

theorem law_end {l : OpenLaw} {cl : Str → Option Addr} {mean : ExcName → Option Value} {args : List WData} {s₁ s' : Shared} (hk : ∀ b o, s₁.heap.get? b = some o → s'.heap.get? b = some o) (hos : s'.os = s₁.os) (hg : s'.gens = #[]) :
    GoodW l.row.claim cl mean args s₁ (.ok (.ret (.bool true))) s' :=
  ⟨.inl ⟨.bool true, .bool true, [], rfl, fun _ => rfl, .bool true, by (show (WShape.has [] (.bool true) .bool && WTm.holds [] (.eq .res (.lit (.bool true))) _) = true); rw [Bool.and_eq_true]; exact ⟨by unfold WShape.has; simp [WShape.arms], by unfold WTm.holds; simp [WTm.value, same]⟩, fun _ => ⟨.nil, fun _ h => by cases h⟩⟩, hk, hos, hg⟩

theorem well_get {P : Params} {h : Heap} {l : Addr} {vs : List Value} {ns : List Int} (W : Well P h (.ref l) (ofPy (.list (ns.map .int)))) (hl : h.IsList l vs.toArray) : h.get? l = some { cls := .type "list", data := .seq vs.toArray } := by
  have W' : Well P h (.ref l) (.list (ofPys (ns.map .int))) := W
  cases W' with
  | list ha wa =>
    obtain ⟨o, ho, _, n, hd⟩ := hl
    rw [ha] at ho; cases ho
    obtain ⟨e, _⟩ := Data.seq.inj hd
    obtain rfl := List.toArray_inj e
    exact ha

def posAt (p : Program) (k : Nat) : Pos := match p.main.body[k]? with
  | some (.FunctionDef _ _ _ _ _ _ _ _ _ pos) => pos
  | _ => ⟨0, 0, 0, 0⟩

def freeB (p : Program) (loose : List Str) (x : Str) : Bool :=
  !(startupNames.contains x) && !(loose.contains x) && !(((recsOf p).map (·.name)).contains x) && !(((litsOf p).map (·.1)).contains x) && !(((clssOf p loose).map (·.name)).contains x)
theorem bs_of {p : Program} {loose : List Str} {mean : ExcName → Option Value} {mg mb : Str → Option Value} {h : Heap} (T : Top p loose mean mg mb h) {cx : Cx} (hm : cx.mg = mg) (hf : bnames.all (fun x => freeB p loose (Str.ofString x)) = true) : Bs cx := by
  intro x hx
  have := List.all_eq_true.mp hf x hx
  simp only [freeB, Bool.and_eq_true, Bool.not_eq_true', List.contains_eq_mem, decide_eq_false_iff_not] at this
  rw [hm]
  exact T.free _ this.1.1.1.1 this.1.1.1.2 this.1.1.2 this.1.2 this.2

theorem const_of {p : Program} {loose : List Str} {mean : ExcName → Option Value} {mg mb : Str → Option Value} {h : Heap} (T : Top p loose mean mg mb h) {cx : Cx} {x : Str} {i : Int} (hm : cx.mg = mg) (hv : (match valOf p x with | some (.int j) => decide (j = i) | _ => false) = true) :
    ∃ t, cx.mg x = some (.int i t) := by
  cases q : valOf p x with
  | none => rw [q] at hv; cases hv
  | some d =>
    rw [q] at hv
    cases d with
    | int j =>
      have e : j = i := of_decide_eq_true hv
      subst e
      obtain ⟨v, h1, h2⟩ := T.const x _ q
      have := h2 h
      cases this with
      | int t => exact ⟨_, by rw [hm]; exact h1⟩
    | _ => cases hv
end Mine

-- Core16
namespace Mine
open PySem PySem.Calls PyProof.Rows

section
variable {cx : Cx} {d : Nat} {sc : Scope} {loc : Loc} {H : Hp} {Q : AV → Hp → Prop} {QF : AF → Loc → Hp → Prop} {pos : Pos}

/-! ## stores -/
set_option maxRecDepth 100000 in
/-- l[k] = v, the list's own object kept to the sign -/
theorem setAt_list {prog : Program} {w : World} {A : Around} {E : Value → Shared → Prop} {s : Shared} {l : Addr} {items : Array Value} {n : Nat} {k : Int} {t : Tok} {v : Value} {Q' : Unit → Shared → Prop}
    (ho : s.heap.get? l = some { cls := .type "list", dict := none, data := .seq items n, slots := #[] }) (h0 : 0 ≤ k) (hfit : k < 2 ^ 63) (hn : k < items.size)
    (hQ : Q' () { s with heap := s.heap.update l (Obj.mapSeq (·.setIfInBounds k.toNat v)) }) : wpAny (model prog w) A (setItem (.ref l) (.int k t) v) Q' E s := by
  have hl : s.heap.IsList l items := ⟨_, ho, rfl, n, rfl⟩
  unfold setItem
  try with_reducible refine wpAny_holding ?_
  first | refine wpAny_bind (wpAny_pure ?_) | skip
  refine wpAny_bind (wpAny_sequenceKey hl.typeIs (by decide) ?_)
  refine wpAny_bind (wpAny_callSpecial?_slot (name := Str.ofString "__setitem__") hl.typeIs slot_list_setitem
    (wpAny_call_entry slot_list_setitem hl.typeIs entry_list_setitem ?_ (args_list_setitem _ _ _)))
  show wpAny _ _ (Builtin.List.listSubscript? (.int k t) >>= _) _ _ s
  refine wpAny_bind (wpAny_listSubscript_int (fitsIndex_of h0 hfit) ?_)
  clear hfit
  obtain ⟨j, rfl⟩ := Int.eq_ofNat_of_zero_le h0
  have hj : j < items.size := by omega
  show wpAny _ _ ((seqItemAt l j >>= fun r => pure (r.map (j, ·))) >>= _) _ _ s
  refine wpAny_bind (wpAny_bind (wpAny_seqItemAt ho rfl (wpAny_pure ?_)))
  rw [Array.getElem?_eq_getElem hj]
  show wpAny _ _ (setSeqItemAt l j v >>= _) _ _ s
  refine wpAny_bind (wpAny_setSeqItemAt ho rfl ?_)
  first
    | exact wpAny_bind (wpAny_pure (wpAny_pure ⟨.none, rfl, wpAny_pure hQ⟩))
    | exact wpAny_pure ⟨.none, rfl, wpAny_pure hQ⟩

def SetW (cx : Cx) (d : Nat) (o i v : AV) (H : Hp) (Q : Hp → Prop) : Prop :=
  ∀ (A : Around) (P : PH) (s : Shared) (E : Value → Shared → Prop) (Q' : Unit → Shared → Prop) (V W X : Value), Room d A → Rep cx P H s.heap → VR o V → VR i W → VR v X →
    (∀ H' h' tk, Q H' → Rep cx P H' h' → Q' () { s with heap := h', toks := tk }) → wpAny (model cx.prog cx.w) A (setItem V W X) Q' E s

theorem EX_AssignSub {o i value : Expr} {p pos : Pos} (h : EV cx d sc loc value H fun v H₁ => EV cx d sc loc o H₁ fun ov H₂ => EV cx d sc loc i H₂ fun iv H₃ => SetW cx d ov iv v H₃ fun H₄ => QF .next loc H₄)
    (hs : ∀ env, swapsWith value (some (.Subscript o i p)) pos.line env = pure false := by intro _; rfl) : EX1 cx d sc loc (.Assign [.Subscript o i p] value pos) H QF := by
  intro env A P s E Q' he F hA R k
  refine wpAny_Assign_Subscript (h.here he F hA R fun v X H₁ h₁ tk₁ q₁ hv F₁ R₁ => ?_) (hs env)
  refine q₁.here he F₁ hA R₁ fun ov V H₂ h₂ tk₂ q₂ ho F₂ R₂ => ?_
  refine q₂.here he F₂ hA R₂ fun iv W H₃ h₃ tk₃ q₃ hi F₃ R₃ => ?_
  refine q₃ A _ { s with heap := h₃, toks := tk₃ } E _ V W X hA (aside_rep F₃ R₃) ho hi hv fun H₄ h₄ tk₄ q₄ R₄ => ?_
  obtain ⟨F₅, R₅⟩ := aside_back F₃ R₃ R₄
  exact k .next .next loc H₄ h₄ tk₄ q₄ rfl F₅ R₅

theorem Set_list {a : Addr} {vs : List AV} {i : Int} {v : AV} {Q : Hp → Prop} (ha : H a = some (.list false vs)) (h0 : 0 ≤ i) (hn : i < vs.length) (hl : vs.length ≤ 2 ^ 20) (hq : Q (H.put a (.list false (vs.set i.toNat v)))) : SetW cx d (.ref a) (.int i) v H Q := by
  intro A P s E Q' V W X hA R ho hi hv k
  cases ho
  obtain ⟨t, rfl⟩ := hi
  obtain ⟨items, n, hO, hr, hP, hs⟩ := own_list R ha
  have hz := hr.size
  refine setAt_list hO h0 (by omega) (by omega) (k _ _ s.toks hq ?_)
  exact set_list R hO hP hs (by simpa using hr.set i.toNat hv)

/-! ## dicts -/
def dget (kvs : List (Int × AV)) (k : Int) : Option AV := (kvs.find? fun kv => kv.1 = k).map (·.2)
def dset (kvs : List (Int × AV)) (k : Int) (v : AV) : List (Int × AV) := if kvs.any (fun kv => kv.1 = k) then kvs.map (fun kv => if kv.1 = k then (kv.1, v) else kv) else kvs ++ [(k, v)]

theorem KVs.get : ∀ {as : List (Int × AV)} {vs : List (Int × Value)} (k : Int), KVs as vs → (∀ a, dget as k = some a → ∃ V, valueAt vs k = some V ∧ VR a V) ∧ (dget as k = none → valueAt vs k = none)
  | [], [], _, _ => ⟨fun _ h => by simp [dget] at h, fun _ => rfl⟩
  | a :: as, v :: vs, k, h => by
    have ih := KVs.get k h.2
    obtain ⟨⟨h1, h2⟩, h3⟩ := h
    simp only [dget, valueAt, List.find?_cons, h1] at ih ⊢
    by_cases hk : v.1 = k
    · simp only [decide_eq_true hk]
      refine ⟨fun b hb => ?_, fun hb => by cases hb⟩
      cases hb; exact ⟨_, rfl, h2⟩
    · simp only [decide_eq_false hk]; exact ih
  | [], _ :: _, _, h => h.elim
  | _ :: _, [], _, h => h.elim
theorem KVs.any : ∀ {as : List (Int × AV)} {vs : List (Int × Value)} (k : Int), KVs as vs → (as.any fun kv => kv.1 = k) = vs.any fun kv => kv.1 = k
  | [], [], _, _ => rfl
  | _ :: _, _ :: _, k, h => by simp only [List.any_cons, h.1.1, KVs.any k h.2]
  | [], _ :: _, _, h => h.elim
  | _ :: _, [], _, h => h.elim
theorem KVs.append : ∀ {as bs : List (Int × AV)} {vs ws : List (Int × Value)}, KVs as vs → KVs bs ws → KVs (as ++ bs) (vs ++ ws)
  | [], _, [], _, _, h => h
  | _ :: _, _, _ :: _, _, h, h' => ⟨h.1, KVs.append h.2 h'⟩
  | [], _, _ :: _, _, h, _ => h.elim
  | _ :: _, _, [], _, h, _ => h.elim
theorem KVs.put : ∀ {as : List (Int × AV)} {vs : List (Int × Value)} {a : AV} {v : Value} (k : Int), KVs as vs → VR a v → KVs (as.map fun kv => if kv.1 = k then (kv.1, a) else kv) (vs.map fun kv => if kv.1 = k then (kv.1, v) else kv)
  | [], [], _, _, _, _, _ => trivial
  | x :: _, y :: _, _, _, k, h, h' => by
    refine ⟨?_, KVs.put k h.2 h'⟩
    have e1 := h.1.1
    by_cases e : y.1 = k
    · have e' : x.1 = k := e1.trans e
      simp only [if_pos e, if_pos e']; exact ⟨e1, h'⟩
    · have e' : ¬ x.1 = k := fun z => e (e1.symm.trans z)
      simp only [if_neg e, if_neg e']; exact h.1
  | [], _ :: _, _, _, _, h, _ => h.elim
  | _ :: _, [], _, _, _, h, _ => h.elim
theorem KVs.set {as : List (Int × AV)} {vs : List (Int × Value)} {a : AV} {v : Value} (k : Int) (h : KVs as vs) (h' : VR a v) : KVs (dset as k a) (stored vs k v) := by
  unfold dset stored
  rw [h.any k]
  split
  · exact h.put k h'
  · exact h.append ⟨⟨rfl, h'⟩, trivial⟩
theorem KVs.length : ∀ {as : List (Int × AV)} {vs : List (Int × Value)}, KVs as vs → as.length = vs.length
  | [], [], _ => rfl
  | _ :: _, _ :: _, h => by simp [KVs.length h.2]
  | [], _ :: _, h => h.elim
  | _ :: _, [], h => h.elim

theorem Rep.dict {P : PH} {h : Heap} (R : Rep cx P H h) {a : Addr} {kvs : List (Int × AV)} (ha : H a = some (.dict kvs)) : ∃ vs, h.DictOf (intKind cx.prog cx.w) a vs ∧ KVs kvs vs ∧ P a = none ∧ a ≠ cx.script := by
  obtain ⟨O, hO, es, ep, vs, h1, h2, h3, h4, h5, h6⟩ := R.obj a _ ha
  obtain ⟨h7, h8⟩ := R.own_free ha (by intro _ e; cases e)
  exact ⟨vs, ⟨O, es, ep, hO, h1, h2, h3, h4, h5⟩, h6, h7, h8⟩

theorem notModules {P : PH} {h : Heap} (R : Rep cx P H h) : (h.objs.size == sysModules) = false := by
  have h1 := modules_low cx.nolimit
  obtain ⟨_, hn, _⟩ := cx.nolimit
  obtain ⟨o, _, _, ho, _⟩ := hn
  have h2 := Heap.lt_size (R.ext _ _ (R.base _ _ ho))
  refine beq_eq_false_iff_ne.mpr (Nat.ne_of_gt (Nat.lt_trans (by decide) h2))

theorem EV_Dict0 (hq : ∀ a, H a = none → (a == sysModules) = false → Q (.ref a) (H.put a (.dict []))) : EV cx d sc loc (.Dict [] [] pos) H Q := by
  intro env A P s E Q' he hF hA R k
  refine wpAny_Dict_empty (k _ _ _ _ s.toks (hq _ (R.fresh (get_size _)).2 (notModules R)) rfl (R.push (o := .dict []) ?_ rfl))
  exact ⟨#[], 0, [], ⟨rfl, rfl, rfl⟩, rfl, fun _ he => by simp at he, .nil, by simp, trivial⟩

theorem Op_inDict {a : Addr} {kvs : List (Int × AV)} {i : Int} (ha : H a = some (.dict kvs)) (hm : (a == sysModules) = false) (hq : Q (.bool (dget kvs i).isSome) H) : OpW cx d (compareOp .In) (.int i) (.ref a) H Q := by
  intro A P s E Q' V W hA R hv hw k
  obtain ⟨t, rfl⟩ := hv
  cases hw
  obtain ⟨vs, hD, hk, _⟩ := R.dict ha
  obtain ⟨g1, g2⟩ := hk.get i
  refine wpAny_in_of (intKind_is _ _ i t) hm hD.mapOf ?_
  have e : (valueAt vs i).isSome = (dget kvs i).isSome := by
    cases q : dget kvs i with
    | none => rw [g2 q]; rfl
    | some b => obtain ⟨V, hV, _⟩ := g1 b q; rw [hV]; rfl
  rw [e]
  exact k _ _ _ _ _ hq rfl R
theorem Op_notInDict {a : Addr} {kvs : List (Int × AV)} {i : Int} (ha : H a = some (.dict kvs)) (hm : (a == sysModules) = false) (hq : Q (.bool (!(dget kvs i).isSome)) H) : OpW cx d (compareOp .NotIn) (.int i) (.ref a) H Q := by
  intro A P s E Q' V W hA R hv hw k
  obtain ⟨t, rfl⟩ := hv
  cases hw
  obtain ⟨vs, hD, hk, _⟩ := R.dict ha
  obtain ⟨g1, g2⟩ := hk.get i
  refine wpAny_notIn_of (intKind_is _ _ i t) hm hD.mapOf ?_
  have e : (valueAt vs i).isSome = (dget kvs i).isSome := by
    cases q : dget kvs i with
    | none => rw [g2 q]; rfl
    | some b => obtain ⟨V, hV, _⟩ := g1 b q; rw [hV]; rfl
  rw [e]
  exact k _ _ _ _ _ hq rfl R

theorem Set_dict {a : Addr} {kvs : List (Int × AV)} {i : Int} {v : AV} {Q : Hp → Prop} (ha : H a = some (.dict kvs)) (hl : kvs.length ≤ 2 ^ 20) (hq : Q (H.put a (.dict (dset kvs i v)))) : SetW cx d (.ref a) (.int i) v H Q := by
  intro A P s E Q' V W X hA R ho hi hv k
  cases ho
  obtain ⟨t, rfl⟩ := hi
  obtain ⟨vs, hD, hk, hP, hs⟩ := R.dict ha
  refine wpAny_setItem_pairs (intKind_is _ _ i t) hD (fun h' hD' hsame => ?_) (by rw [← hk.length]; show _ ≤ 2 ^ 24; omega)
  obtain ⟨o, es, ep, ho, r1, r2, r3, r4, r5⟩ := hD'
  exact k _ h' _ hq (R.put_own hP hs hsame ho ⟨es, ep, _, r1, r2, r3, r4, r5, hk.set i hv⟩)

theorem Get_dict {a : Addr} {kvs : List (Int × AV)} {i : Int} {v : AV} (ha : H a = some (.dict kvs)) (hv : dget kvs i = some v) (hq : Q v H) : GetW cx d (.ref a) (.int i) H Q := by
  intro A P s E Q' V W hA R ho hi k
  cases ho
  obtain ⟨t, rfl⟩ := hi
  obtain ⟨vs, hD, hk, _⟩ := R.dict ha
  obtain ⟨V, hV, hr⟩ := (hk.get i).1 v hv
  exact ⟨⟨"dict", _, hD.mapOf.typeIs, slot_dict_getitem.lookup⟩, wpAny_getItem_of (intKind_is _ _ i t) hD.mapOf hV (k v V H s.heap _ hq hr R)⟩

theorem dget_dset (kvs : List (Int × AV)) (k : Int) (v : AV) (x : Int) : dget (dset kvs k v) x = if x = k then some v else dget kvs x := by
  have key : ∀ kvs : List (Int × AV), dget (kvs.map fun kv => if kv.1 = k then (kv.1, v) else kv) x = if x = k then (if kvs.any (fun kv => kv.1 = k) then some v else none) else dget kvs x := by
    intro kvs
    induction kvs with
    | nil => simp [dget]
    | cons kv r ih =>
      simp only [dget, List.map_cons, List.find?_cons, List.any_cons] at ih ⊢
      by_cases e : kv.1 = k
      · simp only [if_pos e]
        by_cases e2 : x = k
        · simp [e, e2]
        · have e3 : ¬ k = x := fun z => e2 z.symm
          simp only [e, e3, if_neg e2, decide_false] at ih ⊢
          exact ih
      · simp only [if_neg e]
        by_cases e4 : kv.1 = x
        · have : ¬ x = k := fun z => e (e4.trans z)
          simp [e4, this]
        · simp only [decide_eq_false e4, decide_eq_false e, Bool.false_or]; exact ih
  unfold dset
  split
  · rename_i h; rw [key, h, if_pos rfl]
  · rename_i h
    unfold dget
    rw [List.find?_append]
    by_cases e : x = k
    · have hn : kvs.find? (fun kv => decide (kv.1 = x)) = none := by
        simp only [List.find?_eq_none, decide_eq_true_eq]
        intro kv hm z
        exact h (List.any_eq_true.mpr ⟨kv, hm, by simp [z, e]⟩)
      rw [hn, if_pos e]; simp [e]
    · rw [if_neg e]
      have : ¬ k = x := fun z => e z.symm
      simp [this]

/-! ## list * n -/
theorem foldl_flat (vs : List Value) : ∀ (n : Nat) (acc : Array Value), (List.foldl (fun x1 x2 => x1 ++ x2) acc (List.replicate n vs.toArray)).toList = acc.toList ++ (List.replicate n vs).flatten
  | 0, acc => by simp
  | n + 1, acc => by rw [List.replicate_succ, List.foldl_cons, foldl_flat vs n]; simp [List.replicate_succ]
theorem VRs.flat {as : List AV} {vs : List Value} (h : VRs as vs) : ∀ n : Nat, VRs (List.replicate n as).flatten (List.replicate n vs).flatten
  | 0 => trivial
  | n + 1 => by rw [List.replicate_succ, List.replicate_succ, List.flatten_cons, List.flatten_cons]; exact h.append (VRs.flat h n)

theorem Op_mulList {a : Addr} {ro : Bool} {vs : List AV} {n : Int} (ha : H a = some (.list ro vs)) (h1 : -2 ^ 20 ≤ n) (h2 : n ≤ 2 ^ 20) (h3 : vs.length ≤ 4) (hq : ∀ c, H c = none → Q (.ref c) (H.put c (.list false (List.replicate n.toNat vs).flatten))) :
    OpW cx d (binaryOp .Mult) (.ref a) (.int n) H Q := by
  intro A P s E Q' V W hA R hv hw k
  cases hv
  obtain ⟨u, rfl⟩ := hw
  obtain ⟨items, m, hl, hr⟩ := R.isList ha
  have hz := hr.size
  have hsz : items.size * n.toNat ≤ 2 ^ 24 := by
    have : items.size * n.toNat ≤ 4 * 2 ^ 20 := Nat.mul_le_mul (by omega) (by omega)
    omega
  have hlist : items = items.toList.toArray := rfl
  refine wpAny_binaryOp_repeat_ref (T := "list") (U := "int") (by decide) ⟨_, hl, rfl⟩ (fun s' => typeIs_int s' n u) noFill_list_mul F.fills_int_mul F.slot_int_rmul repeat_list F.slot_int_index.lookup
    (call_meets F.slot_int_rmul (typeIs_int s n u) F.entry_int_rmul (F.args_int_rmul_2 _ _) (int___rmul___int_list n u a items m)
      ⟨hl, rfl, ⟨_, hl, rfl⟩, call_meets F.slot_list_mul ⟨_, hl, rfl⟩ F.entry_list_mul (F.args_list_mul_2 _ _)
        (AutoListH.list___mul___list_int_3 a items m n u (by simp [Builtin.List.listFitsIndex]; omega) (by omega) (by simp [Builtin.List.listTooLong, sizeLine]; omega))
        ⟨hl, ?_⟩⟩)
  refine k _ _ _ _ s.toks (hq _ (R.fresh (get_size _)).2) rfl (R.push (o := .list false _) ⟨_, _, rfl, ?_⟩ rfl)
  by_cases e : items.isEmpty = true
  · have e0 : items.toList = [] := by simpa using e
    have e1 : vs = [] := by cases vs with
      | nil => rfl
      | cons x r => rw [e0] at hr; exact hr.elim
    rw [if_pos e, e1]; simp [VRs]
  · rw [if_neg e, hlist, foldl_flat]
    simpa using hr.flat n.toNat
end
end Mine

-- Core17
namespace Mine
open PySem PySem.Calls PyProof.Rows

section
variable {cx : Cx} {d : Nat} {sc : Scope} {loc : Loc} {H : Hp} {Q : AV → Hp → Prop} {QF : AF → Loc → Hp → Prop} {pos : Pos}

theorem callT_here {f : Str} {T : String} {e : Expr} {p pos : Pos} {Q₁ : AV → Hp → Prop} (hf : IsBuiltin cx f (.type T)) (h : EV cx d sc loc e H Q₁) (hx : globalName sc f = true) (hn : notStar e = true)
    {W : Str → Prop} {env : Env} {A : Around} {P : PH} {s : Shared} {E : Value → Shared → Prop} {Q' : Value → Shared → Prop} (he : EnvOk sc env) (F : FrameW W env loc P H s.heap) (hA : Room d A) (R : Rep cx P H s.heap)
    (k : ∀ v V H' h' tk, Q₁ v H' → VR v V → FrameW W env loc P H' h' → Rep cx P H' h' → wpAny (model cx.prog cx.w) A (call (.type T) [V]) Q' E { s with heap := h', toks := tk }) :
    wpAny (model cx.prog cx.w) A (eval (.Call (.Name f p) [e] [] pos) env) Q' E s := by
  rw [eval_Call_Name]
  refine wpAny_bind (load_builtin he (aside_rep F R) hx hf.g hf.n hf.b (PyProof.Rows.callWith_type (backTo_plain (by simp [hn])) ?_))
  have h' : EVs cx d sc loc [e] H fun vs H' => ∃ v, vs = [v] ∧ Q₁ v H' := evs_cons (h.mono fun v H' q => evs_nil ⟨v, rfl, q⟩)
  have hs := EVs.sound (env := env) (A := A) (P := aside P env s.heap) (s := s) (E := E) (pos := pos) h' (by simp [hn]) he (aside_frame F) hA (aside_rep F R) (Q' := fun vs s₁ => wpAny (model cx.prog cx.w) A (call (.type T) vs) Q' E s₁)
    (fun vs Vs H' h' tk q hvs R' => by
      obtain ⟨v, rfl, q⟩ := q
      obtain ⟨V, rfl, hv⟩ := vrs1 hvs
      obtain ⟨F', R''⟩ := aside_back F R R'
      exact k v V H' h' tk q hv F' R'')
  rw [starEach_cons hn] at hs ⊢
  exact Calls.evalArgs_plain hs

theorem Rep.off {P : PH} {h h' : Heap} (R : Rep cx P H h) (bad : Addr → Prop) (hb : ∀ b, bad b → P b = none ∧ H b = none) (e : ∀ b o, ¬ bad b → h.get? b = some o → h'.get? b = some o) : Rep cx P H h' :=
  ⟨R.base, fun a o q => e a o (fun z => by rw [(hb a z).1] at q; cases q) (R.ext a o q), fun a o q => by
    obtain ⟨O, hO, r⟩ := R.obj a o q
    exact ⟨O, e a O (fun z => by rw [(hb a z).2] at q; cases q) hO, r⟩, R.sep, R.scr⟩

theorem EX_ForEnum (hB : Bs cx) {xi xv : Str} {pi pv pt p pos pos' : Pos} {n : Nat} {e : Expr} {body : List Stmt}
    (h : EV cx d sc loc e H fun v H₁ => ∃ a ro vs, v = .ref a ∧ H₁ a = some (.list ro vs) ∧ ∃ J : Nat → Loc → Hp → Prop, J 0 loc H₁ ∧ (∀ i l₂ H₂, J i l₂ H₂ → H₂ a = some (.list ro vs)) ∧
      (∀ i w l₂ H₂, vs[i]? = some w → J i l₂ H₂ → EX cx d sc (upd (upd l₂ xi (.int i)) xv w) body H₂ (loopQ (J (i + 1)) QF)) ∧ ∀ l₂ H₂, J vs.length l₂ H₂ → QF .next l₂ H₂)
    (hxi : storable sc xi = true := by rfl) (hxv : storable sc xv = true := by rfl) (hx : globalName sc "enumerate" = true := by rfl) (hn : notStar e = true := by rfl)
    (hs : ∀ env v, foldedSetIterable (.Call (.Name "enumerate" p) [e] [] pos') env v = pure v := by intro _ _; rfl) :
    EX1 cx d sc loc (.For (.Tuple [.Name xi pi, .Name xv pv] n pt) (.Call (.Name "enumerate" p) [e] [] pos') body [] pos) H QF := by
  intro env A P s E Q' he F hA R k
  refine wpAny_For (callT_here (b_enumerate hB) h hx hn he F hA R fun v V H₁ h₁ tk₁ q hv F₁ R₁ => ?_) (hs env)
  obtain ⟨a, ro, vs, rfl, ha, J, hJ0, hkeep, turn, fin⟩ := q
  cases hv
  obtain ⟨items₁, n₁, hO₁, hr₁⟩ := R₁.isList ha
  refine call_enumerate_1 hO₁ fun h₂ he₂ hit₂ hz₂ hk₂ => ?_
  refine wpAny_pyIter_enum he₂ ?_
  replace he₂ : IsEnum h₂ (h₁.objs.size + 1) h₁.objs.size 0 .none := he₂
  replace hit₂ : h₂.IsListIter h₁.objs.size a 0 := hit₂
  replace hk₂ : ∀ b o, h₁.get? b = some o → h₂.get? b = some o := hk₂
  have hnI : h₁.get? h₁.objs.size = none := get_size _
  have hnE : h₁.get? (h₁.objs.size + 1) = none := by
    cases q : h₁.get? (h₁.objs.size + 1) with
    | none => rfl
    | some o => exact absurd (Heap.lt_size q) (Nat.not_lt.mpr (Nat.le_succ _))
  generalize hI : h₁.objs.size = I at he₂ hit₂ hz₂ hnI hnE ⊢
  generalize hEn : I + 1 = Er at he₂ hnE ⊢
  have hne : Er ≠ I := by omega
  have fI := R₁.fresh hnI
  have fE := R₁.fresh hnE
  have pI : ¬ fp env I := fun z => by obtain ⟨o, ho⟩ := F₁.live I z; rw [show ({ s with heap := h₁, toks := tk₁ } : Shared).heap.get? I = h₁.get? I from rfl, hnI] at ho; cases ho
  have pE : ¬ fp env Er := fun z => by obtain ⟨o, ho⟩ := F₁.live Er z; rw [show ({ s with heap := h₁, toks := tk₁ } : Shared).heap.get? Er = h₁.get? Er from rfl, hnE] at ho; cases ho
  have hIE : ∀ a o (H₂ : Hp), H₂ a = some o → H₂ I = none → a ≠ I := fun a o H₂ q z w => by rw [w, z] at q; cases q
  obtain ⟨Inv, hInv⟩ : ∃ Inv : Nat → Shared → Prop, ∀ n s', Inv n s' ↔ (∃ i l₂ H₂ h₂ tk₂ old OI, s' = { s with heap := h₂, toks := tk₂ } ∧ J i l₂ H₂ ∧ FrameOwn env l₂ P H₂ h₂ ∧ Rep cx P H₂ h₂ ∧ IsEnum h₂ Er I ((i : Nat) : Int) old ∧
      h₂.get? I = some OI ∧ OI.cls = .type "list_iterator" ∧ OI.data = .fields #[.ref a, .int i 0] ∧ H₂ I = none ∧ H₂ Er = none ∧ i ≤ vs.length ∧ n = vs.length + 1 - i) := ⟨_, fun _ _ => Iff.rfl⟩
  refine codeAny_forLoop_any Inv ?_ (vs.length + 1)
    (by
      obtain ⟨OI, hOI, hc, hd⟩ := hit₂
      exact (hInv _ _).mpr ⟨0, loc, H₁, h₂, tk₁, .none, OI, rfl, hJ0, F₁.eq_on (fun a _ o e => hk₂ a o e) F₁.offH, R₁.grow hk₂, he₂, hOI, hc, hd, fI.2, fE.2, Nat.zero_le _, rfl⟩)
  rintro m s' hInv0
  obtain ⟨i, l₂, H₂, h₂, tk₂, old, OI, rfl, hJ, F₂, R₂, he₂, hO₂, hc₂, hd₂, hHI, hHE, hi, rfl⟩ := (hInv _ _).mp hInv0
  obtain ⟨items, n', hO, hr⟩ := R₂.isList (hkeep _ _ _ hJ)
  have hl : h₂.IsList a items := ⟨_, hO, rfl, n', rfl⟩
  have hit : h₂.IsListIter I a i := ⟨OI, hO₂, hc₂, hd₂⟩
  have hsz := hr.size
  cases hel : vs[i]? with
  | none =>
    have hil : i = vs.length := Nat.le_antisymm hi (by simpa using hel)
    subst hil
    refine wpAny_pyNext_enum_end hA.handled he₂ hit hl (by rw [hsz]; simp) fun h₃ e₃ => wpAny_execs_nil ?_
    replace e₃ : Heap.ExtBut I h₂ h₃ := e₃
    exact k .next .next l₂ H₂ h₃ tk₂ (fin _ _ hJ) rfl (F₂.eq_on (fun a ha o e => e₃ a o (fun z => pI (z ▸ ha)) e) F₂.offH) (R₂.ext_to fI.1 hHI e₃)
  | some w =>
    have hlt : i < vs.length := (List.getElem?_eq_some_iff.mp hel).1
    obtain ⟨V', hV', hv'⟩ := hr.get hel
    have hx : items[i]? = some V' := by simpa using hV'
    refine wpAny_pyNext_enum_item he₂ hit hl hx hne fun h₃ heo hit₃ ht₃ hz₃ hk₃ => ?_
    replace hz₃ : h₃.objs.size = h₂.objs.size + 1 := hz₃
    replace hk₃ : ∀ b o, b ≠ Er → b ≠ I → h₂.get? b = some o → h₃.get? b = some o := hk₃
    have hEl : Er < h₂.objs.size := Heap.lt_size he₂
    have hIl : I < h₂.objs.size := Heap.lt_size hO₂
    refine wpAny_letOwnedTupleGo_enum heo fun h₄ he₄ hs₄ => ?_
    replace hs₄ : Heap.SameBut Er h₃ h₄ := hs₄
    replace he₄ : IsEnum h₄ Er I ((i : Int) + 1) V' := he₄
    have ht₄ : h₄.IsTuple h₂.objs.size #[.int i tk₂, V'] := ⟨_, (hs₄.2 _ (Nat.ne_of_gt hEl)).trans ht₃, rfl, _, rfl⟩
    have hz₄ : h₄.objs.size = h₂.objs.size + 1 := hs₄.1.trans hz₃
    refine wpAny_assign_Tuple hA.handled ht₄ rfl rfl fun h₅ hx₅ => ?_
    replace hx₅ : Heap.ExtBut h₄.objs.size h₄ h₅ := hx₅
    have old₅ : ∀ b o, b < h₂.objs.size → h₄.get? b = some o → h₅.get? b = some o := fun b o hb x => hx₅ b o (by rw [hz₄]; exact Nat.ne_of_lt (Nat.lt_succ_of_lt hb)) x
    have up : ∀ b o, ¬ (b = Er ∨ b = I) → h₂.get? b = some o → h₅.get? b = some o := fun b o hb q => by
      have hlb := Heap.lt_size q
      exact old₅ b o hlb ((hs₄.2 b fun z => hb (.inl z)).trans (hk₃ b o (fun z => hb (.inl z)) (fun z => hb (.inr z)) q))
    have R₅ : Rep cx P H₂ h₅ := R₂.off (fun b => b = Er ∨ b = I) (by rintro b (rfl | rfl); exact ⟨fE.1, hHE⟩; exact ⟨fI.1, hHI⟩) up
    have F₅ : FrameOwn env l₂ P H₂ h₅ := F₂.eq_on (fun a ha o e => up a o (by rintro (rfl | rfl); exact pE ha; exact pI ha) e) F₂.offH
    obtain ⟨OI₃, hOI₃, hc₃, hd₃⟩ := hit₃
    have hOI₅ : h₅.get? I = some OI₃ := old₅ I _ hIl ((hs₄.2 I (Ne.symm hne)).trans hOI₃)
    have hOE₅ := old₅ Er _ hEl he₄
    have F₆ := (F₅.add (O := OI₃) pI).add (O := { cls := .type "enumerate", dict := none, data := .fields #[.none, .bool false, .ref I, rawInt ((i : Int) + 1), .none, V'], slots := #[] }) pE
    have R₆ := (R₅.add hOI₅ fI.1 hHI).add hOE₅ (by unfold addP; rw [if_neg hne]; exact fE.1) hHE
    show wpAny _ A (do holding [V'] (assign (.Name xi pi) env (.int i tk₂)); do holding [] (assign (.Name xv pv) env V'); pure ()) _ _ _
    refine wpAny_bind (wpAny_holding (wpAny_assign_Name (store_own he F₆ R₆ hxi (v := .int i) ⟨_, rfl⟩ fun h₇ tk₇ F₇ R₇ => ?_)))
    refine wpAny_bind (wpAny_holding (wpAny_assign_Name (store_own he F₇ R₇ hxv hv' fun h₈ tk₈ F₈ R₈ => wpAny_pure ?_)))
    refine turn i w l₂ H₂ hel hJ env A _ _ _ _ he F₈ hA R₈ fun f Fl l₉ H₉ h₉ tk₉ q₉ hf F₉ R₉ => ?_
    have hbI : ∀ a o, cx.base.get? a = some o → addP P I OI₃ a = some o := fun a o q => by
      have := R.base a o q
      unfold addP; rw [if_neg (fun z => by rw [z, fI.1] at this; cases this)]; exact this
    obtain ⟨R₁₀, hO₁₀, hH₁₀⟩ := R₉.drop (by unfold addP; rw [if_neg hne]; exact fE.1) hbI
    obtain ⟨R₁₁, hO₁₁, hH₁₁⟩ := R₁₀.drop fI.1 R.base
    have F₁₁ := F₉.drop.drop
    cases f with
    | next => cases hf; exact ⟨vs.length + 1 - (i + 1), by omega, (hInv _ _).mpr ⟨i + 1, l₉, H₉, h₉, tk₉, V', OI₃, rfl, q₉, F₁₁, R₁₁, hO₁₀, hO₁₁, hc₃, hd₃, hH₁₁, hH₁₀, hlt, rfl⟩⟩
    | cont => cases hf; exact ⟨vs.length + 1 - (i + 1), by omega, (hInv _ _).mpr ⟨i + 1, l₉, H₉, h₉, tk₉, V', OI₃, rfl, q₉, F₁₁, R₁₁, hO₁₀, hO₁₁, hc₃, hd₃, hH₁₁, hH₁₀, hlt, rfl⟩⟩
    | brk => cases hf; exact k .next .next l₉ H₉ h₉ tk₉ q₉ rfl F₁₁ R₁₁
    | ret v => obtain ⟨V, rfl, hv⟩ := hf; exact k (.ret v) (.ret V) l₉ H₉ h₉ tk₉ q₉ ⟨V, rfl, hv⟩ F₁₁ R₁₁
end
end Mine

-- Core18
namespace Mine
open PySem

/-! ## webs -/
def rowV (ns : List Nat) : List AV := ns.map fun (n : Nat) => AV.int (n : Int)
@[simp] theorem rowV_length (ns : List Nat) : (rowV ns).length = ns.length := by simp [rowV]
theorem rowV_eq (ns : List Nat) : rowV ns = (ns.map fun (n : Nat) => (n : Int)).map AV.int := by simp [rowV]
theorem rowV_get {ns : List Nat} {i : Nat} {w : AV} (h : (rowV ns)[i]? = some w) : ∃ n, ns[i]? = some n ∧ w = .int (n : Int) := by
  simp only [rowV, List.getElem?_map, Option.map_eq_some_iff] at h
  obtain ⟨n, h, rfl⟩ := h; exact ⟨n, h, rfl⟩
theorem lek {a k d : Nat} (h : Nat.ble a k = true) : a ≤ d + k := Nat.le_trans (Nat.le_of_ble_eq_true h) (Nat.le_add_left k d)
theorem lenOk {α β : Type} {f : α → β} {l : List α} {n k : Nat} (h : l.length = n) (h2 : n ≤ k) (hk : Nat.ble k 1048576 = true) : (l.map f).length ≤ 2 ^ 20 := by
  rw [List.length_map, h]; exact Nat.le_trans h2 (Nat.le_of_ble_eq_true hk)
theorem lenRow {ns : List Nat} {k : Nat} (h2 : ns.length ≤ k) (hk : Nat.ble k 1048576 = true) : (rowV ns).length ≤ 2 ^ 20 := by
  rw [rowV_length]; exact Nat.le_trans h2 (Nat.le_of_ble_eq_true hk)
theorem rowV_append (ns ms : List Nat) : rowV (ns ++ ms) = rowV ns ++ rowV ms := by simp [rowV]

structure WebAt (H : Hp) (a : Addr) (rs : List Addr) (web : List (List Nat)) : Prop where
  top : H a = some (.list false (rs.map .ref))
  len : rs.length = web.length
  row : ∀ (i : Nat) (r : Addr) (ns : List Nat), rs[i]? = some r → web[i]? = some ns → H r = some (.list false (rowV ns))
  nodup : rs.Nodup
  apart : a ∉ rs
def IsWeb (H : Hp) (a : Addr) (web : List (List Nat)) : Prop := ∃ rs, WebAt H a rs web

theorem WebAt.ext {H H' : Hp} {a : Addr} {rs : List Addr} {web : List (List Nat)} (W : WebAt H a rs web) (e : Ext H H') : WebAt H' a rs web :=
  ⟨e _ _ W.top, W.len, fun i r ns h1 h2 => e _ _ (W.row i r ns h1 h2), W.nodup, W.apart⟩
theorem IsWeb.ext {H H' : Hp} {a : Addr} {web : List (List Nat)} (W : IsWeb H a web) (e : Ext H H') : IsWeb H' a web := let ⟨rs, w⟩ := W; ⟨rs, w.ext e⟩

theorem WebAt.at {H : Hp} {a : Addr} {rs : List Addr} {web : List (List Nat)} (W : WebAt H a rs web) {i : Nat} (hi : i < web.length) : ∃ r, rs[i]? = some r ∧ (rs.map AV.ref)[i]? = some (.ref r) ∧ H r = some (.list false (rowV (web.getD i []))) := by
  have h1 : i < rs.length := by rw [W.len]; exact hi
  refine ⟨rs[i], by simp [h1], by simp [h1], W.row i _ _ (by simp [h1]) ?_⟩
  simp [hi]
theorem WebAt.mem {H : Hp} {a : Addr} {rs : List Addr} {web : List (List Nat)} (W : WebAt H a rs web) {r : Addr} (hr : r ∈ rs) : ∃ ns, ns ∈ web ∧ H r = some (.list false (rowV ns)) := by
  obtain ⟨i, hi, rfl⟩ := List.mem_iff_getElem.mp hr
  have h1 : i < web.length := by rw [← W.len]; exact hi
  exact ⟨web[i], List.getElem_mem h1, W.row i _ _ (by simp [hi]) (by simp [h1])⟩

/-- row i turned -/
theorem WebAt.set {H : Hp} {a : Addr} {rs : List Addr} {web : List (List Nat)} (W : WebAt H a rs web) {i : Nat} {r : Addr} (hr : rs[i]? = some r) (ns : List Nat) : WebAt (H.put r (.list false (rowV ns))) a rs (web.set i ns) := by
  have hm : r ∈ rs := List.mem_of_getElem? hr
  have hi : i < rs.length := (List.getElem?_eq_some_iff.mp hr).1
  refine ⟨?_, by simp [W.len], fun j r' ms h1 h2 => ?_, W.nodup, W.apart⟩
  · rw [Hp.put_ne (fun e => W.apart (by rw [e]; exact hm))]; exact W.top
  · by_cases e : r' = r
    · subst e
      have hj : j < rs.length := (List.getElem?_eq_some_iff.mp h1).1
      have : i = j := by
        have e1 := (List.getElem?_eq_some_iff.mp hr).2
        have e2 := (List.getElem?_eq_some_iff.mp h1).2
        have := List.pairwise_iff_getElem.mp W.nodup
        rcases Nat.lt_trichotomy i j with z | z | z
        · exact absurd (e1.trans e2.symm) (this i j hi hj z)
        · exact z
        · exact absurd (e2.trans e1.symm) (this j i hj hi z)
      subst this
      have hw : i < web.length := by rw [← W.len]; exact hi
      rw [List.getElem?_set_self hw] at h2; cases h2
      exact Hp.put_self ..
    · rw [Hp.put_ne e]
      have : j ≠ i := fun z => by subst z; rw [hr] at h1; cases h1; exact e rfl
      rw [List.getElem?_set_ne (Ne.symm this)] at h2
      exact W.row j r' ms h1 h2

structure GoodWeb (web : List (List Nat)) : Prop where
  pos : 1 ≤ web.length
  most : web.length ≤ 200
  nodup : ∀ ns ∈ web, ns.Nodup
  lt : ∀ ns ∈ web, ∀ g ∈ ns, g < web.length

theorem GoodWeb.row {web : List (List Nat)} (g : GoodWeb web) (i : Nat) : (web.getD i []).Nodup ∧ (∀ x ∈ web.getD i [], x < web.length) := by
  by_cases h : i < web.length
  · have : web.getD i [] = web[i] := by simp [h]
    rw [this]; exact ⟨g.nodup _ (List.getElem_mem h), g.lt _ (List.getElem_mem h)⟩
  · have : web.getD i [] = [] := by simp [Nat.not_lt.mp h]
    rw [this]; exact ⟨.nil, by simp⟩
theorem nodup_length {n : Nat} : ∀ {l : List Nat}, l.Nodup → (∀ x ∈ l, x < n) → l.length ≤ n := by
  induction n with
  | zero => intro l _ h; cases l with
    | nil => simp
    | cons a r => exact absurd (h a (.head _)) (Nat.not_lt_zero _)
  | succ n ih =>
    intro l hn h
    have h1 : (l.erase n).length ≤ n := ih (hn.erase n) fun x hx => by
      have h2 := h x (List.mem_of_mem_erase hx)
      have h3 : x ≠ n := fun e => by rw [e] at hx; exact (hn.not_mem_erase) hx
      omega
    have h2 := List.length_erase (a := n) (l := l)
    split at h2 <;> omega
theorem GoodWeb.rowLen {web : List (List Nat)} (g : GoodWeb web) (i : Nat) : (web.getD i []).length ≤ web.length := nodup_length (g.row i).1 (g.row i).2

/-- a list over all spots -/
def tabV (n : Nat) (f : Nat → AV) : List AV := (List.range n).map f
@[simp] theorem tabV_length (n : Nat) (f : Nat → AV) : (tabV n f).length = n := by simp [tabV]
theorem tabV_get {n : Nat} {f : Nat → AV} {i : Nat} (h : i < n) : (tabV n f)[i]? = some (f i) := by simp [tabV, h]
theorem tabV_set {n : Nat} {f : Nat → AV} {i : Nat} {v : AV} : (tabV n f).set i v = tabV n fun s => if s = i then v else f s := by
  apply List.ext_getElem
  · simp
  · intro j h1 h2
    simp [tabV, List.getElem_set]
    by_cases e : i = j
    · simp [e]
    · simp [e, Ne.symm e]
theorem tabV_congr {n : Nat} {f g : Nat → AV} (h : ∀ s, s < n → f s = g s) : tabV n f = tabV n g := List.map_congr_left fun s hs => h s (List.mem_range.mp hs)
theorem tabV_replicate (n : Nat) (v : AV) : (List.replicate n [v]).flatten = tabV n fun _ => v := by
  induction n with
  | zero => rfl
  | succ n ih =>
    rw [List.replicate_succ', List.flatten_append, ih]
    simp [tabV, List.range_succ]
end Mine

-- Core19
namespace Mine
open PySem

/-! ## the order in which the spots come -/
def wantN (web : List (List Nat)) (fs : List Nat) (s : Nat) : Nat := (web.getD s []).countP fun g => decide (g ∉ fs)

theorem want_zero {web : List (List Nat)} {fs : List Nat} {s : Nat} : wantN web fs s = 0 ↔ ∀ g ∈ web.getD s [], g ∈ fs := by
  unfold wantN
  rw [List.countP_eq_zero]
  simp

theorem count_in {f : Nat} {fs : List Nat} (hf : f ∉ fs) : ∀ {row : List Nat}, row.Nodup → f ∈ row → row.countP (fun g => decide (g ∉ fs)) = row.countP (fun g => decide (g ∉ fs ++ [f])) + 1
  | [], _, h => by cases h
  | x :: r, hn, h => by
    rw [List.nodup_cons] at hn
    simp only [List.countP_cons]
    rcases List.mem_cons.mp h with e | h'
    · subst e
      have e1 : r.countP (fun g => decide (g ∉ fs)) = r.countP (fun g => decide (g ∉ fs ++ [f])) := by
        apply List.countP_congr
        intro g hg
        have : g ≠ f := fun z => hn.1 (z ▸ hg)
        simp [this]
      rw [e1]; simp [hf]
    · have hx : x ≠ f := fun z => hn.1 (z ▸ h')
      rw [count_in hf hn.2 h']
      simp [hx]; omega
theorem count_out {f : Nat} {fs row : List Nat} (h : f ∉ row) : row.countP (fun g => decide (g ∉ fs)) = row.countP (fun g => decide (g ∉ fs ++ [f])) := by
  apply List.countP_congr
  intro g hg
  have : g ≠ f := fun z => h (z ▸ hg)
  simp [this]

theorem nodup_take_not {l : List Nat} (hn : l.Nodup) {i x : Nat} (h : l[i]? = some x) : x ∉ l.take i := by
  obtain ⟨hi, rfl⟩ := List.getElem?_eq_some_iff.mp h
  intro hm
  obtain ⟨j, hj, e⟩ := List.mem_iff_getElem.mp hm
  rw [List.getElem_take] at e
  have hj' : j < i := by rw [List.length_take] at hj; omega
  exact (List.pairwise_iff_getElem.mp hn j i (by omega) hi hj') e

theorem nodup_sub_length : ∀ {l m : List Nat}, l.Nodup → (∀ x ∈ l, x ∈ m) → l.length ≤ m.length
  | [], _, _, _ => by simp
  | a :: r, m, hn, h => by
    rw [List.nodup_cons] at hn
    have h1 := nodup_sub_length (m := m.erase a) hn.2 fun x hx => (List.mem_erase_of_ne (fun (e : x = a) => hn.1 (by rw [← e]; exact hx))).mpr (h x (.tail _ hx))
    have h2 := List.length_erase_of_mem (h a (.head _))
    have h3 := List.length_pos_of_mem (h a (.head _))
    simp only [List.length_cons]; omega

/-- the state between two turns -/
structure KInv (web : List (List Nat)) (at_ : Nat) (found : List Nat) (w : Nat → Nat) : Prop where
  nodup : found.Nodup
  lt : ∀ x ∈ found, x < web.length
  le : at_ ≤ found.length
  want : ∀ s, s < web.length → w s = wantN web (found.take at_) s
  zero : ∀ s, s < web.length → (s ∈ found ↔ w s = 0)
  topo : ∀ i x, found[i]? = some x → ∀ g ∈ web.getD x [], g ∈ found.take i

/-- the state within a turn -/
structure KIn (web : List (List Nat)) (at_ f : Nat) (cs found : List Nat) (w : Nat → Nat) : Prop where
  nodup : found.Nodup
  lt : ∀ x ∈ found, x < web.length
  here : found[at_]? = some f
  want : ∀ s, s < web.length → w s = if s ∈ cs then wantN web (found.take (at_ + 1)) s else wantN web (found.take at_) s
  zero : ∀ s, s < web.length → (s ∈ found ↔ w s = 0)
  topo : ∀ i x, found[i]? = some x → ∀ g ∈ web.getD x [], g ∈ found.take i

theorem KInv.open_ {web : List (List Nat)} {at_ f : Nat} {found : List Nat} {w : Nat → Nat} (K : KInv web at_ found w) (h : found[at_]? = some f) : KIn web at_ f [] found w :=
  ⟨K.nodup, K.lt, h, fun s hs => by simp [K.want s hs], K.zero, K.topo⟩

theorem KIn.close {web : List (List Nat)} {at_ f : Nat} {cs found : List Nat} {w : Nat → Nat} (K : KIn web at_ f cs found w) (hc : ∀ s, s < web.length → (s ∈ cs ↔ f ∈ web.getD s [])) : KInv web (at_ + 1) found w := by
  have hlt := (List.getElem?_eq_some_iff.mp K.here).1
  refine ⟨K.nodup, K.lt, hlt, fun s hs => ?_, K.zero, K.topo⟩
  rw [K.want s hs]
  split
  · rfl
  · rename_i h
    rw [hc s hs] at h
    unfold wantN
    rw [List.take_add_one, K.here]
    exact count_out h

/-- one comer -/
theorem KIn.turn {web : List (List Nat)} {at_ f c : Nat} {cs found : List Nat} {w : Nat → Nat} (G : GoodWeb web) (K : KIn web at_ f cs found w) (hc : c < web.length) (hf : f ∈ web.getD c []) (hn : c ∉ cs) :
    1 ≤ w c ∧ KIn web at_ f (cs ++ [c]) (if w c - 1 = 0 then found ++ [c] else found) (fun s => if s = c then w c - 1 else w s) := by
  have hlt := (List.getElem?_eq_some_iff.mp K.here).1
  have e1 : w c = wantN web (found.take at_) c := by rw [K.want c hc, if_neg hn]
  have e2 : wantN web (found.take at_) c = wantN web (found.take (at_ + 1)) c + 1 := by
    unfold wantN
    rw [List.take_add_one, K.here]
    exact count_in (nodup_take_not K.nodup K.here) (G.row c).1 hf
  have h1 : 1 ≤ w c := by omega
  have hcn : c ∉ found := fun h => by have := (K.zero c hc).mp h; omega
  have tk : ∀ i ≤ found.length, (if w c - 1 = 0 then found ++ [c] else found).take i = found.take i := fun i hi => by
    split
    · rw [List.take_append_of_le_length hi]
    · rfl
  refine ⟨h1, ?_, fun x hx => ?_, ?_, fun s hs => ?_, fun s hs => ?_, fun i x hx g hg => ?_⟩
  · split
    · rw [List.nodup_append]
      refine ⟨K.nodup, by simp, fun a ha b hb => ?_⟩
      rw [List.mem_singleton] at hb
      exact fun e => hcn (by rw [← hb, ← e]; exact ha)
    · exact K.nodup
  · split at hx
    · rcases List.mem_append.mp hx with h | h
      · exact K.lt x h
      · rw [List.mem_singleton.mp h]; exact hc
    · exact K.lt x hx
  · split
    · rw [List.getElem?_append_left hlt]; exact K.here
    · exact K.here
  · rw [tk _ (by omega), tk _ (by omega)]
    by_cases e : s = c
    · subst e
      rw [if_pos rfl, if_pos (by simp)]; omega
    · rw [if_neg e, K.want s hs]
      simp [e]
  · by_cases e : s = c
    · subst e
      rw [if_pos rfl]
      split
      · rename_i h; simp [h]
      · rename_i h; simp [h, hcn]
    · rw [if_neg e, ← K.zero s hs]
      split
      · simp [e]
      · rfl
  · split at hx
    · rename_i h0
      by_cases hi : i < found.length
      · rw [List.getElem?_append_left hi] at hx
        rw [if_pos h0, List.take_append_of_le_length (by omega)]
        exact K.topo i x hx g hg
      · have hi' : i = found.length := by
          have := (List.getElem?_eq_some_iff.mp hx).1
          rw [List.length_append, List.length_singleton] at this; omega
        subst hi'
        rw [List.getElem?_append_right (Nat.le_refl _)] at hx
        simp at hx
        subst hx
        have hz : wantN web (found.take (at_ + 1)) c = 0 := by omega
        have := want_zero.mp hz g hg
        rw [if_pos h0, List.take_append_of_le_length (Nat.le_refl _), List.take_length]
        exact List.mem_of_mem_take this
    · rename_i h0
      rw [if_neg h0]; exact K.topo i x hx g hg

theorem KInv.start (web : List (List Nat)) : KInv web 0 ((List.range web.length).filter fun s => decide ((web.getD s []).length = 0)) (fun s => (web.getD s []).length) := by
  refine ⟨List.nodup_range.filter _, fun x hx => by simpa using (List.mem_filter.mp hx).1, by omega, fun s hs => ?_, fun s hs => ?_, fun i x hx g hg => ?_⟩
  · unfold wantN; simp
  · simp [hs]
  · have hm := List.mem_of_getElem? hx
    have := (List.mem_filter.mp hm).2
    rw [decide_eq_true_eq] at this
    rw [List.length_eq_zero_iff.mp this] at hg; cases hg

/-- what the walk finds -/
structure Found (web : List (List Nat)) (found : List Nat) : Prop where
  nodup : found.Nodup
  lt : ∀ x ∈ found, x < web.length
  topo : ∀ i x, found[i]? = some x → ∀ g ∈ web.getD x [], g ∈ found.take i
  all : ∀ s, s < web.length → (∀ g ∈ web.getD s [], g ∈ found) → s ∈ found
theorem KInv.found {web : List (List Nat)} {found : List Nat} {w : Nat → Nat} (K : KInv web found.length found w) : Found web found :=
  ⟨K.nodup, K.lt, K.topo, fun s hs h => (K.zero s hs).mpr (by rw [K.want s hs, List.take_length]; exact want_zero.mpr h)⟩

/-- no ring: the spots have ranks -/
def Calm (web : List (List Nat)) : Prop := ∃ rank : Nat → Nat, ∀ s < web.length, ∀ g ∈ web.getD s [], rank g < rank s
theorem Found.whole {web : List (List Nat)} {found : List Nat} (F : Found web found) (G : GoodWeb web) (C : Calm web) : found.length = web.length ∧ ∀ s < web.length, s ∈ found := by
  obtain ⟨rank, hr⟩ := C
  have all : ∀ k s, rank s ≤ k → s < web.length → s ∈ found := by
    intro k
    induction k with
    | zero => intro s hk hs; exact F.all s hs fun g hg => absurd (hr s hs g hg) (by omega)
    | succ k ih => intro s hk hs; exact F.all s hs fun g hg => ih g (by have := hr s hs g hg; omega) ((G.row s).2 g hg)
  have hall : ∀ s < web.length, s ∈ found := fun s hs => all (rank s) s (Nat.le_refl _) hs
  refine ⟨Nat.le_antisymm (nodup_length F.nodup F.lt) ?_, hall⟩
  have hsub : (List.range web.length).length ≤ found.length := nodup_sub_length List.nodup_range fun x hx => hall x (List.mem_range.mp hx)
  simpa using hsub

/-! ## the comers -/
def comersTo (web : List (List Nat)) (i g : Nat) : List Nat := (List.range i).filter fun s => decide (g ∈ web.getD s [])
def comersWeb (web : List (List Nat)) (i : Nat) : List (List Nat) := (List.range web.length).map (comersTo web i)
theorem mem_comersTo {web : List (List Nat)} {i g s : Nat} : s ∈ comersTo web i g ↔ s < i ∧ g ∈ web.getD s [] := by simp [comersTo]
theorem comersTo_nodup (web : List (List Nat)) (i g : Nat) : (comersTo web i g).Nodup := List.nodup_range.filter _
theorem comersTo_succ (web : List (List Nat)) (i g : Nat) : comersTo web (i + 1) g = comersTo web i g ++ (if g ∈ web.getD i [] then [i] else []) := by
  unfold comersTo
  rw [List.range_succ, List.filter_append]
  congr 1
  simp only [List.filter_cons, List.filter_nil, decide_eq_true_eq]
def comersIn (web : List (List Nat)) (i j : Nat) : List (List Nat) := (List.range web.length).map fun g => comersTo web i g ++ (if g ∈ (web.getD i []).take j then [i] else [])
theorem comersIn_zero (web : List (List Nat)) (i : Nat) : comersIn web i 0 = comersWeb web i := by simp [comersIn, comersWeb]
theorem comersIn_all (web : List (List Nat)) (i : Nat) : comersIn web i (web.getD i []).length = comersWeb web (i + 1) := by
  unfold comersIn comersWeb
  apply List.map_congr_left
  intro g _
  rw [comersTo_succ, List.take_length]
theorem comersIn_step {web : List (List Nat)} (G : GoodWeb web) {i j g : Nat} (h : (web.getD i [])[j]? = some g) :
    (comersIn web i j)[g]? = some (comersTo web i g) ∧ (comersIn web i j).set g (comersTo web i g ++ [i]) = comersIn web i (j + 1) := by
  have hg : g < web.length := (G.row i).2 g (List.mem_of_getElem? h)
  have hn := nodup_take_not (G.row i).1 h
  refine ⟨?_, ?_⟩
  · unfold comersIn
    rw [List.getElem?_map, List.getElem?_range hg]
    simp only [Option.map_some, if_neg hn, List.append_nil]
  · apply List.ext_getElem
    · simp [comersIn]
    · intro k h1 h2
      simp only [comersIn, List.length_map, List.length_range, List.length_set] at h1 h2
      by_cases e : g = k
      · subst e
        simp only [List.getElem_set_self]
        simp only [comersIn, List.getElem_map, List.getElem_range, List.take_add_one, h]
        simp
      · rw [List.getElem_set_ne e]
        simp only [comersIn, List.getElem_map, List.getElem_range, List.take_add_one, h]
        have : k ≠ g := Ne.symm e
        simp [this]

/-! ## lists made anew -/
theorem refs_eq (rs : List Addr) : rs.map AV.ref = (List.range rs.length).map fun i => AV.ref (rs.getD i 0) := by
  apply List.ext_getElem
  · simp
  · intro i h1 h2
    simp at h1
    simp [h1]
theorem spanZ0 (n : Nat) : spanZ 0 (n : Int) = (List.range n).map fun (i : Nat) => AV.int (i : Int) := by simp [spanZ]

section
variable {cx : Cx} {d : Nat} {sc scope : Scope} {loc : Loc} {x : Str} {elt : Expr} {keep : Hp → Prop} {H : Hp} {Qf : List AV → Hp → Prop} {α : Type}
theorem CompW_rows (xs : List α) (g : α → AV) (c : α → List AV) (hk : ∀ H', Ext H H' → keep H')
    (h : ∀ a H' (Q : AV → Hp → Prop), a ∈ xs → Ext H H' → (∀ b, H' b = none → Q (.ref b) (H'.put b (.list false (c a)))) → EV cx d (relab sc scope) (upd (capt scope loc) x (g a)) elt H' Q)
    (hq : ∀ (rs : List Addr) H', Ext H H' → rs.length = xs.length → rs.Nodup → (∀ r ∈ rs, H r = none) → (∀ (i : Nat) (a : α) (r : Addr), xs[i]? = some a → rs[i]? = some r → H' r = some (.list false (c a))) → Qf (rs.map .ref) H') :
    CompW cx d sc scope loc x [] elt (xs.map g) keep H Qf := by
  refine ⟨fun i ys H' => ∃ rs : List Addr, ys = rs.map .ref ∧ Ext H H' ∧ rs.length = min i xs.length ∧ rs.Nodup ∧ (∀ r ∈ rs, H r = none) ∧ (∀ (i : Nat) (a : α) (r : Addr), xs[i]? = some a → rs[i]? = some r → H' r = some (.list false (c a))),
    ⟨[], rfl, .refl H, by simp, .nil, by simp, by simp⟩, ?_, ?_, ?_⟩
  · rintro i ys H' ⟨rs, _, he, _⟩; exact hk H' he
  · rintro i w ys H' hi ⟨rs, rfl, he, hl, hn, hf, ht⟩
    simp only [List.getElem?_map, Option.map_eq_some_iff] at hi
    obtain ⟨a, ha, rfl⟩ := hi
    have hlt : i < xs.length := (List.getElem?_eq_some_iff.mp ha).1
    simp only [Tests, if_true]
    refine h a H' _ (List.mem_of_getElem? ha) he fun b hb => ?_
    have hnb : b ∉ rs := fun hm => by
      obtain ⟨k, hk', e⟩ := List.mem_iff_getElem.mp hm
      have hkx : k < xs.length := by omega
      have := ht k xs[k] b (by simp [hkx]) (by rw [← e]; simp [hk'])
      rw [hb] at this; cases this
    refine ⟨rs ++ [b], by simp, he.put_r hb, by rw [List.length_append, List.length_singleton, hl]; omega, ?_, fun r hr => ?_, fun k a' r hk1 hk2 => ?_⟩
    · rw [List.nodup_append]
      refine ⟨hn, by simp, fun p hp q hq => ?_⟩
      rw [List.mem_singleton] at hq
      exact fun e => hnb (by rw [← hq, ← e]; exact hp)
    · rcases List.mem_append.mp hr with h1 | h1
      · exact hf r h1
      · rw [List.mem_singleton.mp h1]; exact he.none hb
    · rcases Nat.lt_trichotomy k rs.length with h1 | h1 | h1
      · rw [List.getElem?_append_left h1] at hk2
        have hr := ht k a' r hk1 hk2
        rw [Hp.put_ne (fun e => hnb (by rw [← e]; exact List.mem_of_getElem? hk2))]; exact hr
      · have hki : k = i := by omega
        subst hki
        rw [ha] at hk1; cases hk1
        rw [List.getElem?_append_right (by omega), h1, Nat.sub_self] at hk2
        cases hk2; exact Hp.put_self ..
      · rw [List.getElem?_eq_none (by rw [List.length_append, List.length_singleton]; omega)] at hk2; cases hk2
  · rintro ys H' ⟨rs, rfl, he, hl, hn, hf, ht⟩
    rw [List.length_map, Nat.min_self] at hl
    exact hq rs H' he hl hn hf ht
end

/-- a web that was made anew -/
def NewWeb (H H' : Hp) (f : Addr) (web : List (List Nat)) : Prop := ∃ rs, WebAt H' f rs web ∧ H f = none ∧ ∀ r ∈ rs, H r = none
theorem NewWeb.isWeb {H H' : Hp} {f : Addr} {web : List (List Nat)} (N : NewWeb H H' f web) : IsWeb H' f web := let ⟨rs, W, _⟩ := N; ⟨rs, W⟩
end Mine

-- Core20
namespace Mine
open PySem

theorem mulR {a b : Int} (h : b.natAbs < 2 ^ 64) : IntMulOk a b := .of_right (PyProof.Rows.intBits_le h)
theorem mulL {a b : Int} (h : a.natAbs < 2 ^ 64) : IntMulOk a b := .of_left (PyProof.Rows.intBits_le h)

/-! ## the law's own numbers -/
def mixed (c k : Int) : Int := ((c % 1000000007 + 17) * 48271 % 2147483647 + k) * (k * k + 16807) % 2147483629 * 69621 % 2147483647 / 7
theorem mixed_nonneg (c k : Int) : 0 ≤ mixed c k := by
  unfold mixed
  generalize ((c % 1000000007 + 17) * 48271 % 2147483647 + k) * (k * k + 16807) % 2147483629 * 69621 = z
  omega

theorem perm_eraseIdx {α : Type} : ∀ {l : List α} {i : Nat} {x : α}, l[i]? = some x → (x :: l.eraseIdx i).Perm l
  | a :: r, 0, x, h => by cases h; simp
  | a :: r, i + 1, x, h => by
    simp only [List.getElem?_cons_succ] at h
    rw [List.eraseIdx_cons_succ]
    exact (List.Perm.swap a x _).trans ((perm_eraseIdx h).cons a)
  | [], _, _, h => by simp at h

theorem perm_turn {order left all : List Nat} {i x : Nat} (h : (order ++ left).Perm all) (hx : left[i]? = some x) : (order ++ [x] ++ left.eraseIdx i).Perm all := by
  refine List.Perm.trans ?_ h
  rw [List.append_assoc]
  exact (perm_eraseIdx hx).append_left order

theorem rowV_eraseIdx : ∀ (l : List Nat) (i : Nat), (rowV l).eraseIdx i = rowV (l.eraseIdx i)
  | [], _ => by simp [rowV]
  | a :: r, 0 => by simp [rowV]
  | a :: r, i + 1 => by
    have := rowV_eraseIdx r i
    simp only [rowV, List.map_cons, List.eraseIdx_cons_succ] at this ⊢
    rw [this]

/-- a web as it is being made -/
structure WB (order : List Nat) (b : Nat → Nat) (web : List (List Nat)) : Prop where
  len : web.length = order.length
  row : ∀ i x, order[i]? = some x → (web.getD x []).Nodup ∧ ∀ g ∈ web.getD x [], g ∈ order.take (b i)

theorem getD_set_ne {web : List (List Nat)} {i j : Nat} {ns : List Nat} (h : i ≠ j) : (web.set i ns).getD j [] = web.getD j [] := by
  simp [List.getD_eq_getElem?_getD, List.getElem?_set_ne h]
theorem getD_set_self {web : List (List Nat)} {i : Nat} {ns : List Nat} (h : i < web.length) : (web.set i ns).getD i [] = ns := by
  simp [List.getD_eq_getElem?_getD, h]

theorem nodup_idx {l : List Nat} (hn : l.Nodup) {i j x : Nat} (h : l[i]? = some x) (h' : l[j]? = some x) : i = j := by
  obtain ⟨hi, e1⟩ := List.getElem?_eq_some_iff.mp h
  obtain ⟨hj, e2⟩ := List.getElem?_eq_some_iff.mp h'
  have := List.pairwise_iff_getElem.mp hn
  rcases Nat.lt_trichotomy i j with z | z | z
  · exact absurd (e1.trans e2.symm) (this i j hi hj z)
  · exact z
  · exact absurd (e2.trans e1.symm) (this j i hj hi z)

theorem WB.mono {order : List Nat} {b b' : Nat → Nat} {web : List (List Nat)} (h : WB order b web) (hb : ∀ i, b i ≤ b' i) : WB order b' web :=
  ⟨h.len, fun i x hx => ⟨(h.row i x hx).1, fun g hg => by
    have := (h.row i x hx).2 g hg
    have e : (order.take (b' i)).take (b i) = order.take (b i) := by rw [List.take_take, Nat.min_eq_left (hb i)]
    rw [← e] at this
    exact List.mem_of_mem_take this⟩⟩
theorem WB.set {order : List Nat} {b b' : Nat → Nat} {web : List (List Nat)} (hn : order.Nodup) (hlt : ∀ x ∈ order, x < order.length) (h : WB order b web) {k x : Nat} (hk : order[k]? = some x) {ns : List Nat} (h1 : ns.Nodup) (h2 : ∀ g ∈ ns, g ∈ order.take (b' k))
    (hb : ∀ i, i ≠ k → b i ≤ b' i) : WB order b' (web.set x ns) := by
  have hxl : x < web.length := by rw [h.len]; exact hlt x (List.mem_of_getElem? hk)
  refine ⟨by simp [h.len], fun i y hy => ?_⟩
  by_cases e : y = x
  · subst e
    have : i = k := nodup_idx hn hy hk
    subst this
    rw [getD_set_self hxl]; exact ⟨h1, h2⟩
  · have hik : i ≠ k := fun z => by subst z; rw [hk] at hy; cases hy; exact e rfl
    rw [getD_set_ne (Ne.symm e)]
    refine ⟨(h.row i y hy).1, fun g hg => ?_⟩
    have := (h.row i y hy).2 g hg
    have e' : (order.take (b' i)).take (b i) = order.take (b i) := by rw [List.take_take, Nat.min_eq_left (hb i hik)]
    rw [← e'] at this
    exact List.mem_of_mem_take this
theorem WB.finish {order : List Nat} {web : List (List Nat)} {n : Nat} (hp : order.Perm (List.range n)) (h1 : 1 ≤ n) (h2 : n ≤ 200) (h : WB order (fun i => i) web) : web.length = n ∧ GoodWeb web ∧ Calm web := by
  have hn : order.Nodup := hp.nodup_iff.mpr List.nodup_range
  have hl : order.length = n := by rw [hp.length_eq, List.length_range]
  have hw : web.length = n := by rw [h.len, hl]
  have lt : ∀ x ∈ order, x < n := fun x hx => List.mem_range.mp (hp.mem_iff.mp hx)
  have idx : ∀ s, s < n → ∃ i, order[i]? = some s := fun s hs => by
    have := hp.mem_iff.mpr (List.mem_range.mpr hs)
    obtain ⟨i, hi, e⟩ := List.mem_iff_getElem.mp this
    exact ⟨i, by rw [← e]; exact List.getElem?_eq_getElem hi⟩
  have rows : ∀ ns ∈ web, ns.Nodup ∧ ∀ g ∈ ns, g < n := fun ns hns => by
    obtain ⟨s, hs, e⟩ := List.mem_iff_getElem.mp hns
    obtain ⟨i, hi⟩ := idx s (by omega)
    have := h.row i s hi
    have e' : web.getD s [] = ns := by simp [hs, e]
    rw [e'] at this
    exact ⟨this.1, fun g hg => lt g (List.mem_of_mem_take (this.2 g hg))⟩
  refine ⟨hw, ⟨by omega, by omega, fun ns hns => (rows ns hns).1, fun ns hns g hg => by rw [hw]; exact (rows ns hns).2 g hg⟩, fun s => order.idxOf s, fun s hs g hg => ?_⟩
  obtain ⟨i, hi⟩ := idx s (by omega)
  obtain ⟨hil, e⟩ := List.getElem?_eq_some_iff.mp hi
  have hg' := (h.row i s hi).2 g hg
  obtain ⟨j, hj, ej⟩ := List.mem_iff_getElem.mp hg'
  rw [List.getElem_take] at ej
  rw [List.length_take] at hj
  have e1 : order.idxOf s = i := by rw [← e]; exact hn.idxOf_getElem i hil
  have e2 : order.idxOf g = j := by rw [← ej]; exact hn.idxOf_getElem j (by omega)
  show order.idxOf g < order.idxOf s
  rw [e1, e2]; omega
theorem WB.start (order : List Nat) : WB order (fun _ => 0) (order.map fun _ => []) := by
  refine ⟨by simp, fun i x hx => ?_⟩
  have : (order.map fun _ => ([] : List Nat)).getD x [] = [] := by
    rw [List.getD_eq_getElem?_getD, List.getElem?_map]
    cases order[x]? <;> rfl
  rw [this]; exact ⟨.nil, by simp⟩
end Mine

-- Core21
namespace Mine
open PySem PySem.Calls PyProof.Rows

theorem keys_miss : typeLookup (.type "list") (Str.ofString "keys") = pure none := by rw [typeLookup_type, builtinLookup_eq_fast]; kernel_rfl

theorem getAttrQ_keys {prog : Program} {w : World} {A : Around} {E : Value → Shared → Prop} {s : Shared} {a : Addr} {xs : Array Value} {k : Nat} {Q : Option Value → Shared → Prop}
    (hx : s.heap.get? a = some { cls := .type "list", dict := none, data := .seq xs k, slots := #[] }) (hA : A.handled = none)
    (h : ∀ h' tk, (∀ b o, s.heap.get? b = some o → h'.get? b = some o) → Q none { s with heap := h', toks := tk }) :
    wpAny (model prog w) A (getAttr? (.ref a) (Str.ofString "keys")) Q E s := by
  obtain ⟨hp, g, d, tk, os⟩ := s
  have hT : ∀ tk', (⟨hp, g, d, tk', os⟩ : Shared).TypeIs (.ref a) "list" := fun _ => ⟨_, hx, rfl⟩
  have f1 := sub_AttributeError
  have f3 := F.slot_list_getattribute.lookup
  have f4 := F.slot_list_getattribute.bind (.ref a)
  have f5 := am_list_getattr_none
  unfold getAttr? getAttrBy? getAttrBy
  repeat (any_goals (first | assumption | exact hT _ | ((with_reducible show wpAny _ _ (call (Value.builtin "list.__getattribute__") _ _) _ _ _); refine call_meets F.slot_list_getattribute (hT _) am_entry_list_getattribute (F.args_list_getattribute_2 _ _) (meets_getattribute_miss_list a xs k #[] (Str.ofString "keys") _ keys_miss (by decide) (by decide)) ⟨hx, hA, fun h' tk' e hx' => ?_⟩) | wp_step))
  obtain ⟨t', u', he⟩ := hx'.there
  show wpAny _ _ (getattributeRaised _ _ _ _ _ _ _) _ _ _
  unfold getattributeRaised
  repeat (any_goals (first | assumption | wp_step))
  exact h _ _ hx'.keeps

theorem entry_update_loop : entryFor table "dict.update.loop" = some Builtin.«dict.update.loop» := entryFor_of_tree (by kernel_rfl)
theorem plain_update_loop : plainId "dict.update.loop" = true := by decide +kernel

def mkDict (ks : List (Int × AV)) : List (Int × AV) := ks.foldl (fun m kv => dset m kv.1 kv.2) []
theorem mkDict_snoc (ks : List (Int × AV)) (kv : Int × AV) : mkDict (ks ++ [kv]) = dset (mkDict ks) kv.1 kv.2 := by simp [mkDict]
theorem dset_length (m : List (Int × AV)) (k : Int) (v : AV) : (dset m k v).length ≤ m.length + 1 := by
  unfold dset; split
  · rw [List.length_map]; omega
  · simp
theorem mkDict_length (ks : List (Int × AV)) : (mkDict ks).length ≤ ks.length := by
  have : ∀ (ks m : List (Int × AV)), (ks.foldl (fun m kv => dset m kv.1 kv.2) m).length ≤ m.length + ks.length := by
    intro ks
    induction ks with
    | nil => intro m; simp
    | cons kv r ih => intro m; have := ih (dset m kv.1 kv.2); have := dset_length m kv.1 kv.2; simp only [List.foldl_cons, List.length_cons]; omega
  unfold mkDict
  simpa using this ks []
theorem mkDict_has (ks : List (Int × AV)) (x : Int) : (dget (mkDict ks) x).isSome = decide (x ∈ ks.map (·.1)) := by
  have : ∀ (ks m : List (Int × AV)), (dget (ks.foldl (fun m kv => dset m kv.1 kv.2) m) x).isSome = ((dget m x).isSome || decide (x ∈ ks.map (·.1))) := by
    intro ks
    induction ks with
    | nil => intro m; simp
    | cons kv r ih =>
      intro m
      rw [List.foldl_cons, ih, dget_dset]
      by_cases e : x = kv.1
      · simp [e]
      · have e2 : (x ∈ (kv :: r).map (·.1)) ↔ x ∈ r.map (·.1) := by rw [List.map_cons, List.mem_cons]; simp [e]
        rw [if_neg e, decide_eq_decide.mpr e2]
  rw [mkDict, this]; simp [dget]

theorem put_put (H : Hp) (a : Addr) (o o' : AObj) : (H.put a o).put a o' = H.put a o' := by
  funext b; unfold Hp.put; split <;> rfl

theorem dict_loop {cx : Cx} {A : Around} (hh : A.handled = none) {I D l : Addr} {ro : Bool} {ts : List Addr} {ks : List (Int × AV)} {H : Hp} {P : PH} {s : Shared} {St : Nat → Obj → Prop} {R : Result → Shared → Prop}
    (W : ItP cx I (ts.map .ref) (fun H' => H' l = some (.list ro (ts.map .ref))) St) (hl : H l = some (.list ro (ts.map .ref))) (hlen : ts.length = ks.length) (hsz : ks.length ≤ 2 ^ 20)
    (ht : ∀ (i : Nat) (t : Addr) (kv : Int × AV), ts[i]? = some t → ks[i]? = some kv → H t = some (.tuple [.int kv.1, kv.2]))
    (hP : P I = none) (hH : H I = none) (hDI : D ≠ I) (hD : H D = none) (hk : ∀ h' tk', Rep cx P (H.put D (.dict (mkDict ks))) h' → R (.ok (.ret .none)) { s with heap := h', toks := tk' }) :
    ∀ (n i : Nat) (h : Heap) (tk : Nat) (O : Obj), n + i = ts.length → Rep cx P (H.put D (.dict (mkDict (ks.take i)))) h → h.get? I = some O → St i O →
      codeAny (model cx.prog cx.w) A (.builtin "dict.update.loop" ⟨[.ref D, .ref I, rawInt i, .none], []⟩) R { s with heap := h, toks := tk } := by
  have hlD : l ≠ D := ne_of_new hD hl
  intro n
  induction n with
  | zero =>
    intro i h tk O hn Rr hO hSt
    have hi : i = (ts.map AV.ref).length := by rw [List.length_map]; omega
    refine codeAny_builtin entry_update_loop ?_
    rw [Around.under_plainId plain_update_loop _]
    show wpAny _ A.in1 (pyNext (.ref I) >>= _) _ _ _
    refine wpAny_bind (W.done A.in1 P _ _ _ _ O hh ((Hp.put_ne hlD).trans hl) Rr ((Hp.put_ne (Ne.symm hDI)).trans hH) hO (hi ▸ hSt) fun h' tk' e => ?_)
    show wpAny _ A.in1 (Builtin.Dict.addKeywords D [] >>= _) _ _ _
    have e1 : ks.take i = ks := List.take_of_length_le (by rw [List.length_map] at hi; omega)
    rw [e1] at Rr
    exact wpAny_bind (wpAny_pure (wpAny_pure (hk h' tk' (Rr.ext_to hP ((Hp.put_ne (Ne.symm hDI)).trans hH) e))))
  | succ n ih =>
    intro i h tk O hn Rr hO hSt
    have hi : i < ts.length := by omega
    have hik : i < ks.length := by omega
    have hti : ts[i]? = some ts[i] := by simp [hi]
    have hT := ht i ts[i] ks[i] hti (by simp [hik])
    have hTD : ts[i] ≠ D := ne_of_new hD hT
    refine codeAny_builtin entry_update_loop ?_
    rw [Around.under_plainId plain_update_loop _]
    show wpAny _ A.in1 (pyNext (.ref I) >>= _) _ _ _
    refine wpAny_bind (W.item i (.ref ts[i]) A.in1 P _ _ _ _ O (by simp [hi]) ((Hp.put_ne hlD).trans hl) Rr ((Hp.put_ne (Ne.symm hDI)).trans hH) hO hSt fun V h' O' tk' hV e hO' hSt' => ?_)
    cases hV
    have R' := Rr.ext_to hP ((Hp.put_ne (Ne.symm hDI)).trans hH) e.extBut
    obtain ⟨OT, hOT, items, m, rfl, hr⟩ := R'.obj ts[i] _ ((Hp.put_ne hTD).trans hT)
    obtain ⟨K, V, hKV, hK, hV⟩ := vrs2 hr
    obtain ⟨u, rfl⟩ := hK
    obtain ⟨vs, hDof, hkv, hPD, hDs⟩ := R'.dict (Hp.put_self ..)
    have hTy : ({ s with heap := h', toks := tk' } : Shared).TypeIs (.ref ts[i]) "tuple" := ⟨_, hOT, rfl⟩
    refine wpAny_bind (wpAny_holding (wpAny_bind (wpAny_tryCatch ?_)))
    show wpAny _ A.in1 (Builtin.Dict.pairItems (.ref ts[i])) _ _ _
    unfold Builtin.Dict.pairItems
    refine wpAny_bind (wpAny_typeOf hTy ?_)
    rw [if_pos (by decide)]
    refine wpAny_bind (wpAny_seqItems hOT rfl (wpAny_pure ?_))
    show wpAny _ A.in1 (match items.toList with | [k, v] => _ | _ => _) _ _ _
    rw [hKV]
    show wpAny _ A.in1 (holding _ (dictSet D _ _)) _ _ _
    have hlk : (mkDict (ks.take i)).length ≤ 2 ^ 20 := by have := mkDict_length (ks.take i); rw [List.length_take] at this; omega
    refine wpAny_holding (wpAny_dictSet_pairs (intKind_is _ _ _ u) hDof (fun h₂ hD₂ hs₂ => ?_) (by rw [← hkv.length]; show _ ≤ 2 ^ 24; omega))
    obtain ⟨o, es, ep, ho, r1, r2, r3, r4, r5⟩ := hD₂
    have R₂ := R'.put_own (o := .dict (dset (mkDict (ks.take i)) ks[i].1 ks[i].2)) hPD hDs hs₂ ho ⟨es, ep, _, r1, r2, r3, r4, r5, hkv.set _ hV⟩
    rw [put_put, ← mkDict_snoc] at R₂
    have e1 : ks.take i ++ [ks[i]] = ks.take (i + 1) := by rw [List.take_add_one]; simp [hik]
    rw [e1] at R₂
    have hO₂ : h₂.get? I = some O' := (hs₂.2 I (Ne.symm hDI)).trans hO'
    refine wpAny_pure ⟨plainId_quiet plain_update_loop _, ?_⟩
    exact ih (i + 1) h₂ _ O' (by omega) R₂ hO₂ hSt'

theorem CW_dictPairs {cx : Cx} {d : Nat} {H : Hp} {Q : AV → Hp → Prop} {l : Addr} {ro : Bool} {ts : List Addr} {ks : List (Int × AV)} (hl : H l = some (.list ro (ts.map .ref))) (hlen : ts.length = ks.length) (hsz : ks.length ≤ 2 ^ 20)
    (ht : ∀ (i : Nat) (t : Addr) (kv : Int × AV), ts[i]? = some t → ks[i]? = some kv → H t = some (.tuple [.int kv.1, kv.2]))
    (hq : ∀ D, H D = none → (D == sysModules) = false → Q (.ref D) (H.put D (.dict (mkDict ks)))) : CW cx d (.type "dict") [.ref l] H Q := by
  intro A P s E Q' vs hA Rr hv k
  obtain ⟨V, rfl, hV⟩ := vrs1 hv
  cases hV
  refine callType_codes (Q₁ := fun obj s₁ => obj = .ref s.heap.objs.size ∧ s₁ = { s with heap := s.heap.push { cls := .type "dict", data := .dict #[] } }) F.kt_called_dict (F.kt_typeCall_dict_1 _) F.entry_dict_init (kt_code_dict_new _ ⟨rfl, rfl⟩) ?_
  rintro obj s₁ ⟨rfl, rfl⟩
  have hD := (Rr.fresh (get_size _)).2
  have hm := notModules Rr
  have R₁ : Rep cx P (H.put s.heap.objs.size (.dict [])) (s.heap.push { cls := .type "dict", data := .dict #[] }) := Rr.push (o := .dict []) ⟨#[], 0, [], ⟨rfl, rfl, rfl⟩, rfl, fun _ he => by simp at he, .nil, by simp, trivial⟩ rfl
  have hq' := hq _ hD hm
  generalize hDe : s.heap.objs.size = D at hD hm R₁ hq' ⊢
  generalize s.heap.push { cls := .type "dict", data := .dict #[] } = h₁ at R₁ ⊢
  have hlD : l ≠ D := ne_of_new hD hl
  obtain ⟨OD, hOD, es, ep, vs', hx1, hx2⟩ := R₁.obj D _ (Hp.put_self ..)
  have hTD : ({ s with heap := h₁ } : Shared).TypeIs (.ref D) "dict" := ⟨_, hOD, hx1.1⟩
  refine ⟨hTD, F.args_dict_init_2 _ _, ?_⟩
  obtain ⟨items, n, hO, hr⟩ := R₁.isList ((Hp.put_ne hlD).trans hl)
  unfold Builtin.«dict.__init__»
  refine wpAny_bind ?_
  unfold Builtin.Dict.selfAndRest
  refine wpAny_bind (wpAny_notOrdered_dict hTD ?_)
  show wpAny _ _ (pure (D, [Value.ref l])) _ _ _
  refine wpAny_pure ?_
  show wpAny _ _ (Builtin.Dict.updateFrom "dict.__init__" D (.ref l) [] .none) _ _ _
  unfold Builtin.Dict.updateFrom
  refine wpAny_bind (wpAny_typeOf (T := "list") ⟨_, hO, rfl⟩ ?_)
  rw [if_pos (by decide)]
  refine wpAny_bind (getAttrQ_keys hO hA.handled fun h₂ tk₂ e₂ => ?_)
  replace e₂ : ∀ b o, h₁.get? b = some o → h₂.get? b = some o := e₂
  have R₂ := R₁.grow e₂
  rw [if_pos (by rfl)]
  refine wpAny_bind (wpAny_rule ?_)
  refine wpAny_bind (iter_of (.list ((Hp.put_ne hlD).trans hl)) rfl R₂ fun I O St W hI hkeep hSt eI hfr => ?_)
  have hI' : h₂.get? I = none := hI
  have fI := R₂.fresh hI'
  have hDI : D ≠ I := fun e => by rw [← e, Hp.put_self] at fI; cases fI.2
  have hHI : H I = none := by have := fI.2; rwa [Hp.put_ne (Ne.symm hDI)] at this
  have R₃ : Rep cx P (H.put D (.dict [])) (h₂.push O) := R₂.grow fun b o e => Heap.get?_push_of_some _ e
  have hOI : (h₂.push O).get? I = some O := by rw [eI]; exact Heap.get?_push_size _ hfr
  refine wpAny_pure ⟨plainId_quiet plain_update_loop _, ?_⟩
  refine dict_loop (s := s) (A := A.in1) hA.handled W hl hlen hsz ht fI.1 hHI hDI hD (fun h' tk' R' => ?_) ts.length 0 (h₂.push O) tk₂ O (by omega) (by simpa [mkDict] using R₃) hOI hSt
  exact ⟨rfl, k _ _ _ _ _ hq' rfl R'⟩
end Mine

-- Core22
namespace Mine
open PySem

/-! ## the numbers -/
structure IsMex (ns : List Nat) (m : Nat) : Prop where
  out : m ∉ ns
  low : ∀ j < m, j ∈ ns
theorem IsMex.uniq {ns : List Nat} {a b : Nat} (h : IsMex ns a) (h' : IsMex ns b) : a = b := by
  rcases Nat.lt_trichotomy a b with z | z | z
  · exact absurd (h'.low a z) h.out
  · exact z
  · exact absurd (h.low b z) h'.out
theorem low_le {ns : List Nat} {m : Nat} (h : ∀ j < m, j ∈ ns) : m ≤ ns.length := by
  have := nodup_sub_length (l := List.range m) (m := ns) List.nodup_range fun x hx => h x (List.mem_range.mp hx)
  simpa using this
theorem IsMex.le {ns : List Nat} {m : Nat} (h : IsMex ns m) : m ≤ ns.length := low_le h.low

def Nums (web : List (List Nat)) (f : Nat → Nat) : Prop := ∀ s < web.length, IsMex ((web.getD s []).map f) (f s)
theorem Nums.le {web : List (List Nat)} {f : Nat → Nat} (G : GoodWeb web) (h : Nums web f) {s : Nat} (hs : s < web.length) : f s ≤ web.length := by
  have := (h s hs).le
  rw [List.length_map] at this
  exact Nat.le_trans this (G.rowLen s)
theorem Nums.uniq {web : List (List Nat)} {f g : Nat → Nat} (G : GoodWeb web) (C : Calm web) (hf : Nums web f) (hg : Nums web g) : ∀ s < web.length, f s = g s := by
  obtain ⟨rank, hr⟩ := C
  have : ∀ k s, rank s ≤ k → s < web.length → f s = g s := by
    intro k
    induction k with
    | zero =>
      intro s hk hs
      have e : web.getD s [] = [] := by
        cases q : web.getD s [] with
        | nil => rfl
        | cons x r => have := hr s hs x (by rw [q]; exact .head _); omega
      have h1 := hf s hs; have h2 := hg s hs
      rw [e] at h1 h2
      exact h1.uniq h2
    | succ k ih =>
      intro s hk hs
      have e : (web.getD s []).map f = (web.getD s []).map g := List.map_congr_left fun x hx => ih x (by have := hr s hs x hx; omega) ((G.row s).2 x hx)
      have h1 := hf s hs; have h2 := hg s hs
      rw [e] at h1
      exact h1.uniq h2
  exact fun s hs => this (rank s) s (Nat.le_refl _) hs

/-- numbers of the first spots of an order -/
theorem nums_turn {web : List (List Nat)} {order : List Nat} {f : Nat → Nat} {i x m : Nat} (F : Found web order) (hx : order[i]? = some x)
    (hI : ∀ s ∈ order.take i, IsMex ((web.getD s []).map f) (f s)) (hm : IsMex ((web.getD x []).map f) m) :
    ∀ s ∈ order.take (i + 1), IsMex ((web.getD s []).map fun t => if t = x then m else f t) (if s = x then m else f s) := by
  have hn := nodup_take_not F.nodup hx
  have same : ∀ row : List Nat, (∀ g ∈ row, g ∈ order.take i) → (row.map fun t => if t = x then m else f t) = row.map f := fun row h =>
    List.map_congr_left fun g hg => if_neg fun (e : g = x) => hn (by rw [← e]; exact h g hg)
  intro s hs
  rw [List.take_add_one, hx] at hs
  rcases List.mem_append.mp hs with h | h
  · obtain ⟨j, hj, e⟩ := List.mem_iff_getElem.mp h
    rw [List.getElem_take] at e
    rw [List.length_take] at hj
    have hg : ∀ g ∈ web.getD s [], g ∈ order.take i := fun g hg => by
      have := F.topo j s (by rw [← e]; exact List.getElem?_eq_getElem (by omega)) g hg
      have e2 : (order.take i).take j = order.take j := by rw [List.take_take, Nat.min_eq_left (by omega)]
      rw [← e2] at this; exact List.mem_of_mem_take this
    rw [same _ hg, if_neg (fun (e : s = x) => hn (by rw [← e]; exact h))]
    exact hI s h
  · have : s = x := by simpa using h
    subst this
    rw [same _ (F.topo i s hx), if_pos rfl]; exact hm

/-! ## data to be compared -/
def dInts (ns : List Int) : PyData := .list (ns.map .int)
theorem iss_ints (H : Hp) : ∀ ns : List Int, Iss H (ns.map .int) (ns.map .int)
  | [] => by simp [Iss]
  | n :: r => by rw [List.map_cons, List.map_cons, Iss]; exact ⟨by rw [Is], iss_ints H r⟩
theorem is_ints {H : Hp} {a : Addr} {ro : Bool} {ns : List Int} (h : H a = some (.list ro (ns.map .int))) : Is H (.ref a) (dInts ns) := by
  unfold dInts; rw [Is]; exact ⟨a, ro, _, rfl, h, iss_ints H ns⟩
theorem lay_ints : ∀ ns : List Int, PyData.canLayAll0 (ns.map .int) = true
  | [] => by simp [PyData.canLayAll0]
  | n :: r => by simp only [List.map_cons, PyData.canLayAll0, PyData.canLay0, lay_ints r, Bool.and_self]
theorem lay_dInts (ns : List Int) : (dInts ns).canLay0 = true := by unfold dInts; rw [PyData.canLay0]; exact lay_ints ns
theorem depth_ints : ∀ ns : List Int, PyData.depthAll (ns.map .int) = 0
  | [] => by simp [PyData.depthAll]
  | n :: r => by simp only [List.map_cons, PyData.depthAll, PyData.depth, depth_ints r]; rfl
theorem depth_dInts (ns : List Int) : (dInts ns).depth = 1 := by unfold dInts; rw [PyData.depth, depth_ints]
theorem eqv_ints : ∀ ns ms : List Int, PyData.eqvAll (ns.map .int) (ms.map .int) = decide (ns = ms)
  | [], [] => by simp [PyData.eqvAll]
  | [], _ :: _ => by simp [PyData.eqvAll]
  | _ :: _, [] => by simp [PyData.eqvAll]
  | n :: r, m :: q => by
    simp only [List.map_cons, PyData.eqvAll, PyData.eqv, eqv_ints r q]
    by_cases h1 : n = m <;> by_cases h2 : r = q <;> simp [h1, h2]
theorem eqv_dInts (ns ms : List Int) : PyData.eqv (dInts ns) (dInts ms) = decide (ns = ms) := by unfold dInts; rw [PyData.eqv]; exact eqv_ints ns ms

def castN (ns : List Nat) : List Int := ns.map fun (n : Nat) => (n : Int)
theorem castN_inj {a b : List Nat} (h : castN a = castN b) : a = b := by
  unfold castN at h
  exact (List.map_inj_right (fun (x y : Nat) (e : (x : Int) = (y : Int)) => by omega)).mp h
theorem mem_castN {ns : List Nat} {i : Nat} : (i : Int) ∈ castN ns ↔ i ∈ ns := by
  unfold castN
  rw [List.mem_map]
  exact ⟨fun ⟨a, h, e⟩ => by rw [← show a = i by omega]; exact h, fun h => ⟨i, h, rfl⟩⟩
def dWeb (web : List (List Nat)) : PyData := .list (web.map fun ns => dInts (castN ns))
theorem eqv_rows : ∀ v w : List (List Nat), PyData.eqvAll (v.map fun ns => dInts (castN ns)) (w.map fun ns => dInts (castN ns)) = decide (v = w)
  | [], [] => by simp [PyData.eqvAll]
  | [], _ :: _ => by simp [PyData.eqvAll]
  | _ :: _, [] => by simp [PyData.eqvAll]
  | a :: r, b :: q => by
    simp only [List.map_cons, PyData.eqvAll, eqv_dInts, eqv_rows r q]
    by_cases h1 : a = b
    · subst h1; by_cases h2 : r = q <;> simp [h2]
    · have : castN a ≠ castN b := fun e => h1 (castN_inj e)
      simp [h1, this]
theorem eqv_dWeb (v w : List (List Nat)) : PyData.eqv (dWeb v) (dWeb w) = decide (v = w) := by unfold dWeb; rw [PyData.eqv]; exact eqv_rows v w
theorem lay_rows : ∀ v : List (List Nat), PyData.canLayAll0 (v.map fun ns => dInts (castN ns)) = true
  | [] => by simp [PyData.canLayAll0]
  | n :: r => by simp only [List.map_cons, PyData.canLayAll0, lay_dInts, lay_rows r, Bool.and_self]
theorem lay_dWeb (v : List (List Nat)) : (dWeb v).canLay0 = true := by unfold dWeb; rw [PyData.canLay0]; exact lay_rows v
theorem depth_rows : ∀ v : List (List Nat), PyData.depthAll (v.map fun ns => dInts (castN ns)) ≤ 1
  | [] => by simp [PyData.depthAll]
  | n :: r => by simp only [List.map_cons, PyData.depthAll, depth_dInts]; have := depth_rows r; omega
theorem depth_dWeb (v : List (List Nat)) : (dWeb v).depth ≤ 2 := by unfold dWeb; rw [PyData.depth]; have := depth_rows v; omega
theorem iss_rows {H : Hp} : ∀ {rs : List Addr} {web : List (List Nat)}, rs.length = web.length → (∀ (i : Nat) (r : Addr) (ns : List Nat), rs[i]? = some r → web[i]? = some ns → H r = some (.list false (rowV ns))) → Iss H (rs.map .ref) (web.map fun ns => dInts (castN ns))
  | [], [], _, _ => by simp [Iss]
  | r :: rs, ns :: web, hl, h => by
    simp only [List.map_cons, Iss]
    refine ⟨is_ints (ro := false) (by have := h 0 r ns rfl rfl; rw [rowV_eq] at this; exact this), iss_rows (by simpa using hl) fun i r' ns' h1 h2 => h (i + 1) r' ns' (by simpa using h1) (by simpa using h2)⟩
  | [], _ :: _, hl, _ => by simp at hl
  | _ :: _, [], hl, _ => by simp at hl
theorem IsWeb.is {H : Hp} {a : Addr} {web : List (List Nat)} (W : IsWeb H a web) : Is H (.ref a) (dWeb web) := by
  obtain ⟨rs, W⟩ := W
  unfold dWeb; rw [Is]
  exact ⟨a, false, _, rfl, W.top, iss_rows W.len W.row⟩
theorem is_row {H : Hp} {a : Addr} {ro : Bool} {ns : List Nat} (h : H a = some (.list ro (rowV ns))) : Is H (.ref a) (dInts (castN ns)) := is_ints (ro := ro) (by rw [rowV_eq] at h; exact h)
theorem tabV_row (n : Nat) (f : Nat → Nat) : (tabV n fun s => AV.int (f s)) = rowV ((List.range n).map f) := by simp [tabV, rowV]

section
variable {cx : Cx} {d : Nat} {H : Hp} {Q : AV → Hp → Prop}
theorem Op_eqRow {a b : Addr} {ro ro' : Bool} {v w : List Nat} (hv : H a = some (.list ro (rowV v))) (hw : H b = some (.list ro' (rowV w))) (hq : Q (.bool (decide (v = w))) H) : OpW cx (d + 1) (compareOp .Eq) (.ref a) (.ref b) H Q :=
  Op_eqD (is_row hv) (is_row hw) (lay_dInts _) (lay_dInts _) (by rw [depth_dInts, depth_dInts]; decide) (by
    rw [eqv_dInts]
    have : decide (castN v = castN w) = decide (v = w) := decide_eq_decide.mpr ⟨castN_inj, fun e => by rw [e]⟩
    rw [this]; exact hq)
theorem Op_notInRow {a : Addr} {ro : Bool} {ns : List Nat} {i : Nat} (ha : H a = some (.list ro (rowV ns))) (hq : Q (.bool (decide (i ∉ ns))) H) : OpW cx d (compareOp .NotIn) (.int i) (.ref a) H Q :=
  Op_notIn (ns := castN ns) (by rw [rowV_eq] at ha; exact ha) (by
    have : decide ((i : Int) ∉ castN ns) = decide (i ∉ ns) := decide_eq_decide.mpr (not_congr mem_castN)
    rw [this]; exact hq)
end

theorem refs_of {p : Addr → Prop} : ∀ {ys : List AV}, (∀ y ∈ ys, ∃ t, y = AV.ref t ∧ p t) → ∃ ts : List Addr, ys = ts.map .ref
  | [], _ => ⟨[], rfl⟩
  | y :: r, h => by
    obtain ⟨t, e, _⟩ := h y (.head _)
    obtain ⟨ts, e'⟩ := refs_of fun z hz => h z (.tail _ hz)
    exact ⟨t :: ts, by rw [e, e']; rfl⟩
end Mine

-- Core23
namespace Mine
open PySem PySem.Calls PyProof.Rows

section
variable {cx : Cx} {d : Nat} {sc : Scope} {loc : Loc} {H : Hp} {Q : AV → Hp → Prop} {pos : Pos}

/-- a builtin's own tree, called with names of arguments -/
theorem tree_call {prog : Program} {w : World} {A : Around} {E : Value → Shared → Prop} {s : Shared} {id : String} {b : Builtin} {args : List Value} {kw : List (Str × Value)} {Q' : Value → Shared → Prop} (hk : builtinKind id = none) (hp : plainId id = true) (hb : entryFor table id = some b) (ha : argsOk id ⟨args, kw⟩)
    (hc : wpAny (model prog w) A.in1 (b ⟨args, kw⟩) (fun fin s' => match fin with
      | .done f => (match (Except.ok f : Result) with | .ok (.ret v) => Q' v s' | .ok _ => False | .error e => E e s')
      | .again c' => c'.quiet = true ∧ codeAny (model prog w) A c' (fun r s' => match r with | .ok (.ret v) => Q' v s' | .ok _ => False | .error e => E e s') s') E s) :
    wpAny (model prog w) A (call (.builtin id) args kw) Q' E s := by
  refine wpAny_call (codeAny_call_builtin hp hb ?_)
  simp only [checkBuiltinCall, hk]
  split
  · rename_i sig hsig
    have hz : Bind.checkArgs id sig ⟨args, kw⟩ = pure () := by simpa only [argsOk, hsig] using ha
    rw [hz]
    exact wpAny_pure hc
  · exact wpAny_pure hc

theorem CW_max2 {a b : Int} (hq : Q (.int (max a b)) H) : CW cx d (.builtin "max") [.int a, .int b] H Q := by
  intro A P s E Q' vs hA R hr k
  obtain ⟨V, W, rfl, ⟨t, rfl⟩, ⟨u, rfl⟩⟩ := vrs2 hr
  refine max_two_ints hA.handled fun h' tk e => ?_
  refine k (.int (max a b)) _ H h' tk hq ?_ (R.grow e)
  split
  · rename_i h; rw [Int.max_eq_right (by omega)]; exact ⟨_, rfl⟩
  · rename_i h; rw [Int.max_eq_left (by omega)]; exact ⟨_, rfl⟩
theorem CW_min2 {a b : Int} (hq : Q (.int (min a b)) H) : CW cx d (.builtin "min") [.int a, .int b] H Q := by
  intro A P s E Q' vs hA R hr k
  obtain ⟨V, W, rfl, ⟨t, rfl⟩, ⟨u, rfl⟩⟩ := vrs2 hr
  refine min_two_ints hA.handled fun h' tk e => ?_
  refine k (.int (min a b)) _ H h' tk hq ?_ (R.grow e)
  split
  · rename_i h; rw [Int.min_eq_right (by omega)]; exact ⟨_, rfl⟩
  · rename_i h; rw [Int.min_eq_left (by omega)]; exact ⟨_, rfl⟩

def IsMax (ns : List Int) (m : Int) : Prop := m ∈ ns ∧ ∀ x ∈ ns, x ≤ m

theorem max_loop {A : Around} (hh : A.handled = none) {I S : Addr} {ns : List Int} {keep : Hp → Prop} {P : PH} {s : Shared} {St : Nat → Obj → Prop} {R : Result → Shared → Prop} {kw : List (Str × Value)}
    (W : ItP cx I (ns.map .int) keep St) (hkeep : keep H) (hP : P I = none) (hH : H I = none) (hPS : P S = none) (hHS : H S = none) (hSI : S ≠ I)
    (hk : ∀ h' tk' m t, IsMax ns m → Rep cx P H h' → R (.ok (.ret (.int m t))) { s with heap := h', toks := tk' }) :
    ∀ (n i : Nat) (h : Heap) (tk : Nat) (O : Obj) (vb : Int) (tb : Tok) (c : Nat), n + i = ns.length → Rep cx P H h → h.get? I = some O → St i O → h.get? S = some { cls := .type "list", dict := none, data := .seq #[.int vb tb, .int vb tb] c, slots := #[] } →
      IsMax (ns.take i) vb → codeAny (model cx.prog cx.w) A (.builtin "max.loop" ⟨[.ref I, .none, .ref S], kw⟩) R { s with heap := h, toks := tk } := by
  have hname : (toString "max" ++ toString ".loop" : String) = "max.loop" := by decide
  intro n
  induction n with
  | zero =>
    intro i h tk O vb tb c hn Rr hO hSt hS hm
    have hi : i = (ns.map AV.int).length := by rw [List.length_map]; omega
    refine codeAny_builtin PySem.F.entry_max_loop ?_
    rw [Around.under_plainId PySem.F.plain_max_loop _]
    show wpAny _ A.in1 (seqItems? (.ref S) >>= _) _ _ _
    refine wpAny_bind (wpAny_seqItems hS rfl ?_)
    show wpAny _ A.in1 (tryCatch (pyNext (.ref I)) _ >>= _) _ _ _
    refine wpAny_bind (wpAny_tryCatch (W.done A.in1 P H _ _ _ O hh hkeep Rr hH hO (hi ▸ hSt) fun h' tk' e => ?_))
    replace e : Heap.ExtBut I h h' := e
    have hS' := e S _ hSI hS
    have R' := Rr.ext_to hP hH e
    show wpAny _ A.in1 (updateSeq S (fun _ => #[]) >>= _) _ _ _
    refine wpAny_bind (wpAny_updateSeq hS' rfl (wpAny_bind (wpAny_letGo (wpAny_pure ?_))))
    have e1 : ns.take i = ns := List.take_of_length_le (by rw [List.length_map] at hi; omega)
    rw [e1] at hm
    exact hk _ _ _ _ hm (R'.ext_to hPS hHS (Heap.SameBut.update ..).extBut)
  | succ n ih =>
    intro i h tk O vb tb c hn Rr hO hSt hS hm
    have hi : i < ns.length := by omega
    have hni : ns[i]? = some ns[i] := by simp [hi]
    refine codeAny_builtin PySem.F.entry_max_loop ?_
    rw [Around.under_plainId PySem.F.plain_max_loop _]
    show wpAny _ A.in1 (seqItems? (.ref S) >>= _) _ _ _
    refine wpAny_bind (wpAny_seqItems hS rfl ?_)
    show wpAny _ A.in1 (tryCatch (pyNext (.ref I)) _ >>= _) _ _ _
    refine wpAny_bind (wpAny_tryCatch (W.item i (.int ns[i]) A.in1 P H _ _ _ O (by simp [hi]) hkeep Rr hH hO hSt fun V h' O' tk' hV e hO' hSt' => ?_))
    obtain ⟨t, rfl⟩ := hV
    replace e : Heap.SameBut I h h' := e
    have hS' := (e.2 S hSI).trans hS
    have R' := Rr.ext_to hP hH e.extBut
    show wpAny _ A.in1 (tryCatch (holding [Value.int ns[i] t, Value.int ns[i] t] (richCompare .Gt (Value.int ns[i] t) (.int vb tb) >>= _)) _ >>= _) _ _ _
    refine wpAny_bind (wpAny_tryCatch (wpAny_holding (wpAny_bind (richCompare_gives (op := .Gt) (typeIs_int _ _ t) (typeIs_int _ _ tb) F.slot_int_gt F.entry_int_gt (F.args_int_gt_2 _ _) (gives_int_gt _ _ t tb) (fun x => nomatch x) ?_))))
    refine wpAny_bind (wpAny_holding (wpAny_truthy_bool ?_))
    refine wpAny_bind (wpAny_letGo (wpAny_pure ?_))
    have htk : ∀ x, x ∈ ns.take (i + 1) ↔ x ∈ ns.take i ∨ x = ns[i] := fun x => by rw [List.take_add_one, hni, List.mem_append]; exact or_congr Iff.rfl (by simp)
    by_cases hb : ns[i] > vb
    · simp only [decide_eq_true hb, if_true]
      refine wpAny_bind (wpAny_updateSeq hS' rfl (wpAny_bind (wpAny_letGo ?_)))
      rw [hname]
      have sb : Heap.SameBut S h' (h'.update S (Obj.mapSeq fun _ => #[.int ns[i] t, .int ns[i] t])) := Heap.SameBut.update ..
      refine wpAny_pure ⟨plainId_quiet PySem.F.plain_max_loop _, ih (i + 1) _ _ O' ns[i] t _ (by omega) (R'.ext_to hPS hHS sb.extBut) ((sb.2 I (Ne.symm hSI)).trans hO') hSt' (Heap.get?_update_self _ hS' rfl) ⟨(htk _).mpr (.inr rfl), fun x hx => ?_⟩⟩
      rcases (htk x).mp hx with h1 | h1
      · have := hm.2 x h1; omega
      · omega
    · simp only [decide_eq_false hb, Bool.false_eq_true, if_false]
      refine wpAny_bind (wpAny_letGo ?_)
      rw [hname]
      refine wpAny_pure ⟨plainId_quiet PySem.F.plain_max_loop _, ih (i + 1) _ _ O' vb tb c (by omega) R' hO' hSt' hS' ⟨(htk _).mpr (.inl hm.1), fun x hx => ?_⟩⟩
      rcases (htk x).mp hx with h1 | h1
      · exact hm.2 x h1
      · omega

theorem max_default_args (a v : Value) : argsOk "max" ⟨[a], [(Str.ofString "default", v)]⟩ := by unfold argsOk; kernel_rfl

theorem max_first {A : Around} (hh : A.handled = none) {I S : Addr} {ns : List Int} {keep : Hp → Prop} {P : PH} {s : Shared} {St : Nat → Obj → Prop} {R : Result → Shared → Prop} {dv : Value} {nm : Str} {h : Heap} {tk : Nat} {O : Obj} {c : Nat}
    (W : ItP cx I (ns.map .int) keep St) (hkeep : keep H) (hP : P I = none) (hH : H I = none) (hPS : P S = none) (hHS : H S = none) (hSI : S ≠ I) (Rr : Rep cx P H h) (hO : h.get? I = some O) (hSt : St 0 O)
    (hS : h.get? S = some { cls := .type "list", dict := none, data := .seq #[] c, slots := #[] })
    (h0 : ∀ h' tk', ns = [] → Rep cx P H h' → R (.ok (.ret dv)) { s with heap := h', toks := tk' })
    (hk : ∀ h' tk' m t, IsMax ns m → Rep cx P H h' → R (.ok (.ret (.int m t))) { s with heap := h', toks := tk' }) :
    codeAny (model cx.prog cx.w) A (.builtin "max.loop" ⟨[.ref I, .none, .ref S], [(nm, dv)]⟩) R { s with heap := h, toks := tk } := by
  have hname : (toString "max" ++ toString ".loop" : String) = "max.loop" := by decide
  refine codeAny_builtin PySem.F.entry_max_loop ?_
  rw [Around.under_plainId PySem.F.plain_max_loop _]
  show wpAny _ A.in1 (seqItems? (.ref S) >>= _) _ _ _
  refine wpAny_bind (wpAny_seqItems hS rfl ?_)
  show wpAny _ A.in1 (tryCatch (pyNext (.ref I)) _ >>= _) _ _ _
  cases ns with
  | nil =>
    refine wpAny_bind (wpAny_tryCatch (W.done A.in1 P H _ _ _ O hh hkeep Rr hH hO hSt fun h' tk' e => ?_))
    refine wpAny_bind (wpAny_rule (wpAny_pure ?_))
    exact h0 _ _ rfl (Rr.ext_to hP hH e)
  | cons x r =>
    refine wpAny_bind (wpAny_tryCatch (W.item 0 (.int x) A.in1 P H _ _ _ O rfl hkeep Rr hH hO hSt fun V h' O' tk' hV e hO' hSt' => ?_))
    obtain ⟨t, rfl⟩ := hV
    replace e : Heap.SameBut I h h' := e
    have hS' := (e.2 S hSI).trans hS
    have R' := Rr.ext_to hP hH e.extBut
    show wpAny _ A.in1 (updateSeq S (fun _ => #[Value.int x t, Value.int x t]) >>= _) _ _ _
    refine wpAny_bind (wpAny_updateSeq hS' rfl ?_)
    rw [hname]
    have sb : Heap.SameBut S h' (h'.update S (Obj.mapSeq fun _ => #[.int x t, .int x t])) := Heap.SameBut.update ..
    exact wpAny_pure ⟨plainId_quiet PySem.F.plain_max_loop _, max_loop (s := s) hh W hkeep hP hH hPS hHS hSI hk r.length 1 _ _ O' x t _ (by simp) (R'.ext_to hPS hHS sb.extBut) ((sb.2 I (Ne.symm hSI)).trans hO') hSt' (Heap.get?_update_self _ hS' rfl) ⟨by simp, by simp⟩⟩

theorem call_maxDef {A : Around} {P : PH} {s : Shared} {E : Value → Shared → Prop} {Q' : Value → Shared → Prop} {a : Addr} {ro : Bool} {ns : List Int} {dv : Value} (hh : A.handled = none) (Rr : Rep cx P H s.heap) (ha : H a = some (.list ro (ns.map .int)))
    (h0 : ∀ h' tk', ns = [] → Rep cx P H h' → Q' dv { s with heap := h', toks := tk' }) (hk : ∀ h' tk' m t, IsMax ns m → Rep cx P H h' → Q' (.int m t) { s with heap := h', toks := tk' }) :
    wpAny (model cx.prog cx.w) A (call (.builtin "max") [.ref a] [(Str.ofString "default", dv)]) Q' E s := by
  have hname : (toString "max" ++ toString ".loop" : String) = "max.loop" := by decide
  refine tree_call PySem.F.kind_max PySem.F.plain_max PySem.F.entry_max (max_default_args _ _) ?_
  show wpAny _ A.in1 (Builtin.Builtins.bindParams "max" ["key", "default"] 0 ⟨[], [(Str.ofString "default", dv)]⟩ >>= _) _ _ s
  refine wpAny_bind (wpAny_of_eq (show Builtin.Builtins.bindParams "max" ["key", "default"] 0 ⟨[], [(Str.ofString "default", dv)]⟩ = pure [none, some dv] from rfl) ?_)
  refine wpAny_bind (wpAny_pure ?_)
  refine wpAny_bind (iter_of (.list ha) rfl Rr fun I O St W hI hkeep hSt eI hfr => ?_)
  have fI := Rr.fresh hI
  have R₁ : Rep cx P H (s.heap.push O) := Rr.grow fun b o e => Heap.get?_push_of_some _ e
  have hO : (s.heap.push O).get? I = some O := by rw [eI]; exact Heap.get?_push_size _ hfr
  refine wpAny_bind (wpAny_newList ?_ (Nat.zero_le _))
  rw [hname]
  have hS0 : (s.heap.push O).get? (s.heap.push O).objs.size = none := get_size _
  have fS := R₁.fresh hS0
  have hSI : (s.heap.push O).objs.size ≠ I := fun e => by rw [e, hO] at hS0; cases hS0
  have R₂ : Rep cx P H ((s.heap.push O).push (seqObj "list" #[] 0)) := R₁.grow fun b o e => Heap.get?_push_of_some _ e
  have hO2 : ((s.heap.push O).push (seqObj "list" #[] 0)).get? I = some O := Heap.get?_push_of_some _ hO
  have hS2 : ((s.heap.push O).push (seqObj "list" #[] 0)).get? (s.heap.push O).objs.size = some (seqObj "list" #[] 0) := Heap.get?_push_size _ rfl
  refine wpAny_pure ⟨plainId_quiet PySem.F.plain_max_loop _, ?_⟩
  exact max_first (s := s) (A := A) hh W hkeep fI.1 fI.2 fS.1 fS.2 hSI R₂ hO2 hSt hS2 h0 hk

theorem EV_MaxDef (hB : Bs cx) {e e2 : Expr} {p kp pos : Pos}
    (h : EV cx d sc loc e H fun v H₁ => EV cx d sc loc e2 H₁ fun dv H₂ => ∃ a ro ns dflt, v = .ref a ∧ dv = .int dflt ∧ H₂ a = some (.list ro (ns.map .int)) ∧ (ns = [] → Q (.int dflt) H₂) ∧ ∀ m, IsMax ns m → Q (.int m) H₂)
    (hx : globalName sc "max" = true := by rfl) (hn : notStar e = true := by rfl) :
    EV cx d sc loc (.Call (.Name "max" p) [e] [⟨some "default", e2, kp⟩] pos) H Q := by
  intro env A P s E Q' he hF hA R k
  rw [eval_Call_Name]
  have hf := b_max hB
  have h' : EVs cx d sc loc [e] H fun vs H' => ∃ v, vs = [v] ∧ EV cx d sc loc e2 H' fun dv H₂ => ∃ a ro ns dflt, v = .ref a ∧ dv = .int dflt ∧ H₂ a = some (.list ro (ns.map .int)) ∧ (ns = [] → Q (.int dflt) H₂) ∧ ∀ m, IsMax ns m → Q (.int m) H₂ :=
    evs_cons (h.mono fun v H' q => evs_nil ⟨v, rfl, q⟩)
  have hs := EVs.sound (env := env) (A := A) (P := P) (s := s) (E := E) (pos := pos) h' (by simp [hn]) he hF hA R (Q' := fun vs s₁ => wpAny (model cx.prog cx.w) A (evalAll ((backToKw pos (keywordEach [⟨some "default", e2, kp⟩] env)).map (·.2)))
      (fun kvs s₂ => wpAny (model cx.prog cx.w) A (call (.builtin "max") vs (((backToKw pos (keywordEach [⟨some "default", e2, kp⟩] env)).filterMap (·.1)).zip kvs)) Q' E s₂) E s₁)
    (fun vs Vs H' h' tk q hvs R' => by
      obtain ⟨v, rfl, q⟩ := q
      obtain ⟨V, rfl, hv⟩ := vrs1 hvs
      refine kws_cons (q env A P _ E _ he hF hA R' fun dv DV H₂ h₂ tk₂ q₂ hdv R₂ => kws_nil ?_)
      obtain ⟨a, ro, ns, dflt, rfl, rfl, ha, q0, q1⟩ := q₂
      cases hv
      show wpAny _ A (call (.builtin "max") [.ref a] [(Str.ofString "default", DV)]) Q' E _
      exact call_maxDef hA.handled R₂ ha (fun h' tk' e R' => k _ _ _ _ _ (q0 e) hdv R') (fun h' tk' m t hm R' => k (.int m) _ _ _ _ (q1 m hm) ⟨t, rfl⟩ R'))
  refine wpAny_bind (load_builtin he R hx hf.g hf.n hf.b ?_)
  refine callWith_builtin_kwB (backTo_plain (by simp [hn])) rfl ?_
  rw [starEach_cons hn] at hs ⊢
  obtain ⟨t', ht'⟩ := backTo_cons pos (eval e env) (starEach [] env)
  rw [ht'] at hs ⊢
  exact evalArgs_kwB rfl hs
end

/-! ## the lengths -/
def lenL (ns : List Nat) : List Int := ns.map fun (n : Nat) => 1 + (n : Int)
def IsLen (ns : List Nat) (m : Nat) : Prop := IsMax (0 :: lenL ns) m
theorem isLen_nil : IsLen [] 0 := ⟨by simp, by simp [lenL]⟩
theorem isLen_of {ns : List Nat} {m : Int} (h : IsMax (lenL ns) m) : ∃ k : Nat, m = k ∧ IsLen ns k := by
  obtain ⟨n, hn, e⟩ := List.mem_map.mp h.1
  refine ⟨1 + n, by omega, ?_⟩
  exact ⟨.tail _ (by rw [show ((1 + n : Nat) : Int) = m by omega]; exact h.1), fun x hx => by
    rcases List.mem_cons.mp hx with rfl | hx
    · omega
    · have := h.2 x hx; omega⟩

def Ruled (R : List Nat → Nat → Prop) (web : List (List Nat)) (f : Nat → Nat) : Prop := ∀ s < web.length, R ((web.getD s []).map f) (f s)
theorem ruled_turn {R : List Nat → Nat → Prop} {web : List (List Nat)} {order : List Nat} {f : Nat → Nat} {i x m : Nat} (F : Found web order) (hx : order[i]? = some x)
    (hI : ∀ s ∈ order.take i, R ((web.getD s []).map f) (f s)) (hm : R ((web.getD x []).map f) m) :
    ∀ s ∈ order.take (i + 1), R ((web.getD s []).map fun t => if t = x then m else f t) (if s = x then m else f s) := by
  have hn := nodup_take_not F.nodup hx
  have same : ∀ row : List Nat, (∀ g ∈ row, g ∈ order.take i) → (row.map fun t => if t = x then m else f t) = row.map f := fun row h =>
    List.map_congr_left fun g hg => if_neg fun (e : g = x) => hn (by rw [← e]; exact h g hg)
  intro s hs
  rw [List.take_add_one, hx] at hs
  rcases List.mem_append.mp hs with h | h
  · obtain ⟨j, hj, e⟩ := List.mem_iff_getElem.mp h
    rw [List.getElem_take] at e
    rw [List.length_take] at hj
    have hg : ∀ g ∈ web.getD s [], g ∈ order.take i := fun g hg => by
      have := F.topo j s (by rw [← e]; exact List.getElem?_eq_getElem (by omega)) g hg
      have e2 : (order.take i).take j = order.take j := by rw [List.take_take, Nat.min_eq_left (by omega)]
      rw [← e2] at this; exact List.mem_of_mem_take this
    rw [same _ hg, if_neg (fun (e : s = x) => hn (by rw [← e]; exact h))]
    exact hI s h
  · have : s = x := by simpa using h
    subst this
    rw [same _ (F.topo i s hx), if_pos rfl]; exact hm
theorem SetW.mono {cx : Cx} {d : Nat} {o i v : AV} {H : Hp} {Q Q' : Hp → Prop} (h : SetW cx d o i v H Q) (hq : ∀ H', Q H' → Q' H') : SetW cx d o i v H Q' :=
  fun A P s E Q'' V W X hA R ho hi hv k => h A P s E Q'' V W X hA R ho hi hv fun H' h' tk q => k H' h' tk (hq H' q)
theorem row_set {n : Nat} {f : Nat → Nat} {x m : Nat} : (tabV n fun s => AV.int (f s)).set ((x : Int)).toNat (.int (m : Int)) = tabV n fun s => AV.int ((if s = x then m else f s : Nat) : Int) := by
  rw [Int.toNat_natCast, tabV_set]
  apply tabV_congr
  intro s _
  by_cases es : s = x
  · rw [if_pos es, if_pos es]
  · rw [if_neg es, if_neg es]
end Mine

-- Core24
set_option linter.unusedVariables false
set_option linter.unusedSimpArgs false
namespace Mine
open PySem PyProof.Rows

/-! ## sets of nums, only their length -/
theorem intsAre_of : ∀ {ns : List Int} {vs : List Value}, VRs (ns.map .int) vs → IntsAre vs ns
  | [], [], _ => .nil
  | n :: ns, v :: vs, h => by
    obtain ⟨⟨t, rfl⟩, h2⟩ := h
    exact .cons n t (intsAre_of h2)
  | [], _ :: _, h => h.elim
  | _ :: _, [], h => h.elim

section
variable {cx : Cx} {d : Nat} {H : Hp} {Q : AV → Hp → Prop}
end

section
variable {cx : Cx} {d : Nat} {sc scope : Scope} {loc : Loc} {H : Hp} {x : Str} {elt c : Expr} {keep : Hp → Prop} {Qf : List AV → Hp → Prop} {α : Type}
end

/-! ## rings -/
structure IsRing (web : List (List Nat)) (ring : List Nat) : Prop where
  pos : 0 < ring.length
  nodup : ring.Nodup
  lt : ∀ x ∈ ring, x < web.length
  step : ∀ k x y, ring[k]? = some x → ring[(k + 1) % ring.length]? = some y → y ∈ web.getD x []

structure OnWay (web : List (List Nat)) (found row : List Nat) (spot : Nat) : Prop where
  nodup : row.Nodup
  lt : ∀ x ∈ row, x < web.length
  sl : spot < web.length
  so : spot ∉ found
  chain : ∀ i x y, row[i]? = some x → (row ++ [spot])[i + 1]? = some y → y ∈ web.getD x []

theorem Found.next {web : List (List Nat)} {found : List Nat} (F : Found web found) {s : Nat} (hs : s < web.length) (hn : s ∉ found) : ∃ g ∈ web.getD s [], g ∉ found := by
  apply Classical.byContradiction
  intro h
  exact hn (F.all s hs fun g hg => Classical.byContradiction fun z => h ⟨g, hg, z⟩)

theorem OnWay.turn {web : List (List Nat)} {found row : List Nat} {spot g : Nat} (G : GoodWeb web) (O : OnWay web found row spot) (hn : spot ∉ row) (hg : g ∈ web.getD spot []) (hf : g ∉ found) : OnWay web found (row ++ [spot]) g := by
  refine ⟨?_, fun x hx => ?_, (G.row spot).2 g hg, hf, fun i x y hx hy => ?_⟩
  · rw [List.nodup_append]
    refine ⟨O.nodup, by simp, fun p hp q hq => ?_⟩
    rw [List.mem_singleton] at hq
    exact fun e => hn (by rw [← hq, ← e]; exact hp)
  · rcases List.mem_append.mp hx with h | h
    · exact O.lt x h
    · rw [List.mem_singleton.mp h]; exact O.sl
  · rcases Nat.lt_trichotomy i row.length with z | z | z
    · rw [List.getElem?_append_left z] at hx
      rw [List.getElem?_append_left (by simp; omega)] at hy
      exact O.chain i x y hx hy
    · subst z
      rw [List.getElem?_append_right (Nat.le_refl _), Nat.sub_self] at hx
      rw [List.getElem?_append_right (by simp)] at hy
      simp at hx hy
      subst hx; subst hy; exact hg
    · rw [List.getElem?_eq_none (by simp; omega)] at hx; cases hx

theorem OnWay.ring {web : List (List Nat)} {found row : List Nat} {spot p : Nat} (O : OnWay web found row spot) (hp : row[p]? = some spot) : IsRing web (row.drop p) := by
  have hpl := (List.getElem?_eq_some_iff.mp hp).1
  refine ⟨by rw [List.length_drop]; omega, O.nodup.sublist (List.drop_sublist ..), fun x hx => O.lt x (List.mem_of_mem_drop hx), fun k x y hx hy => ?_⟩
  rw [List.getElem?_drop] at hx hy
  have hk := (List.getElem?_eq_some_iff.mp hx).1
  rw [List.length_drop] at hy
  refine O.chain (p + k) x y hx ?_
  by_cases h : k + 1 < row.length - p
  · rw [Nat.mod_eq_of_lt h] at hy
    rw [List.getElem?_append_left (by omega), ← hy]; congr 1
  · have e : k + 1 = row.length - p := by omega
    rw [e, Nat.mod_self] at hy
    rw [Nat.add_zero, hp] at hy
    cases hy
    have : p + k + 1 = row.length := by omega
    rw [this, List.getElem?_append_right (Nat.le_refl _), Nat.sub_self]; rfl

theorem goodWeb_add {web : List (List Nat)} (G : GoodWeb web) {i g : Nat} (hi : i < web.length) (hg : g < web.length) (hn : g ∉ web.getD i []) : GoodWeb (web.set i (web.getD i [] ++ [g])) := by
  refine ⟨by simp; exact G.pos, by simp; exact G.most, fun ns hns => ?_, fun ns hns x hx => ?_⟩
  · rcases List.mem_or_eq_of_mem_set hns with h | h
    · exact G.nodup ns h
    · subst h
      rw [List.nodup_append]
      refine ⟨(G.row i).1, by simp, fun p hp q hq => ?_⟩
      rw [List.mem_singleton] at hq
      exact fun e => hn (by rw [← hq, ← e]; exact hp)
  · rw [List.length_set]
    rcases List.mem_or_eq_of_mem_set hns with h | h
    · exact G.lt ns h x hx
    · subst h
      rcases List.mem_append.mp hx with h | h
      · exact (G.row i).2 x h
      · rw [List.mem_singleton.mp h]; exact hg

/-! ## slices with plain bounds -/
theorem bnd_nat (n dflt p : Nat) : bnd n dflt (some (p : Int)) = min p n := by
  show (max 0 (min (if (p : Int) < 0 then (p : Int) + n else p) n)).toNat = min p n
  rw [if_neg (Int.not_lt.mpr (Int.natCast_nonneg p))]
  rcases Nat.le_total p n with h | h
  · rw [Int.min_eq_left (Int.ofNat_le.mpr h), Nat.min_eq_left h, Int.max_eq_right (Int.natCast_nonneg p), Int.toNat_natCast]
  · rw [Int.min_eq_right (Int.ofNat_le.mpr h), Nat.min_eq_right h, Int.max_eq_right (Int.natCast_nonneg n), Int.toNat_natCast]
theorem pySlice_map {α β : Type} (f : α → β) (vs : List α) (lo hi : Option Int) : pySlice (vs.map f) lo hi = (pySlice vs lo hi).map f := by
  unfold pySlice; rw [List.length_map, List.map_take, List.map_drop]
theorem pySlice_from {α : Type} (vs : List α) {p : Nat} (h : p ≤ vs.length) : pySlice vs (some (p : Int)) none = vs.drop p := by
  unfold pySlice
  rw [bnd_nat, Nat.min_eq_left h]
  show (vs.drop p).take (vs.length - p) = vs.drop p
  rw [List.take_of_length_le (by rw [List.length_drop]; omega)]
theorem pySlice_to {α : Type} (vs : List α) (p : Nat) : pySlice vs none (some (p : Int)) = vs.take p := by
  unfold pySlice
  rw [bnd_nat]
  show (vs.drop 0).take (min p vs.length - 0) = vs.take p
  rw [List.drop_zero, Nat.sub_zero]
  rcases Nat.le_total p vs.length with h | h
  · rw [Nat.min_eq_left h]
  · rw [Nat.min_eq_right h, List.take_length, List.take_of_length_le h]
theorem pySlice_mid_length {α : Type} (vs : List α) (p q : Nat) : (pySlice vs (some (p : Int)) (some (q : Int))).length ≤ q - p := by
  unfold pySlice
  rw [bnd_nat, bnd_nat, List.length_take]
  refine Nat.le_trans (Nat.min_le_left ..) ?_
  rcases Nat.le_total p vs.length with h | h
  · rw [Nat.min_eq_left h]; exact Nat.sub_le_sub_right (Nat.min_le_left ..) p
  · rw [Nat.min_eq_right h]; exact Nat.le_trans (Nat.le_of_eq (Nat.sub_eq_zero_of_le (Nat.min_le_right ..))) (Nat.zero_le _)

theorem modN (c : Int) {n : Nat} (h : 1 ≤ n) : ∃ k : Nat, c % (n : Int) = k ∧ k < n := ⟨(c % (n : Int)).toNat, by
    rw [Int.toNat_of_nonneg (Int.emod_nonneg _ (by omega))], by
    have := Int.emod_lt_of_pos c (show (0 : Int) < n by omega)
    have := Int.emod_nonneg c (show (n : Int) ≠ 0 by omega)
    omega⟩
end Mine

-- MXor
namespace Mine

/-! ## numbers laid over one another -/
end Mine

-- Core25
set_option linter.unusedVariables false
set_option linter.unusedSimpArgs false
namespace Mine
open PySem PyProof.Rows

section
variable {cx : Cx} {d : Nat} {H : Hp} {Q : AV → Hp → Prop}
end

section
variable {cx : Cx} {d : Nat} {sc scope : Scope} {loc : Loc} {x : Str} {elt : Expr} {keep : Hp → Prop} {H : Hp} {Qf : List AV → Hp → Prop} {α : Type}
end

/-- rows told behind make a web -/
theorem webOf_rows {H H' : Hp} {n : Nat} {c : Nat → List Nat} {rs : List Addr} {f : Addr} (he : Ext H H') (hlen : rs.length = (List.range n).length) (hn : rs.Nodup) (hfr : ∀ r ∈ rs, H r = none)
    (hrow : ∀ (i : Nat) (a : Nat) (r : Addr), (List.range n)[i]? = some a → rs[i]? = some r → H' r = some (.list false (rowV (c a)))) (hf : H' f = none) :
    NewWeb H (H'.put f (.list false (rs.map .ref))) f ((List.range n).map c) := by
  refine ⟨rs, ⟨Hp.put_self .., by simpa using hlen, fun i r ns h1 h2 => ?_, hn, fun hmem => ?_⟩, he.none hf, hfr⟩
  · simp only [List.getElem?_map, Option.map_eq_some_iff] at h2
    obtain ⟨j, hj, rfl⟩ := h2
    have hr := hrow i j r hj h1
    rw [Hp.put_ne (ne_of_new hf hr), hr]
  · obtain ⟨k, hk, e⟩ := List.mem_iff_getElem.mp hmem
    have hkx : k < n := by rw [List.length_range] at hlen; omega
    have := hrow k k f (by simp [hkx]) (by rw [← e]; simp [hk])
    rw [hf] at this; cases this

/-! ## the number of a row -/
/-! ## heaps -/
end Mine

-- Core26
set_option linter.unusedVariables false
set_option linter.unusedSimpArgs false
namespace Mine
open PySem PyProof.Rows

/-! ## one, other = (other, one) -/
section
variable {cx : Cx} {d : Nat} {sc : Scope} {loc : Loc} {H : Hp} {QF : AF → Loc → Hp → Prop}
end

/-! ## a list of webs and rows against its like -/
theorem eqvAll_self : ∀ {ds : List PyData}, (∀ x ∈ ds, PyData.eqv x x = true) → PyData.eqvAll ds ds = true
  | [], _ => by simp [PyData.eqvAll]
  | x :: r, h => by
    rw [PyData.eqvAll, h x (.head _), eqvAll_self fun y hy => h y (.tail _ hy)]; rfl
theorem eqv_webSelf (w : List (List Nat)) : PyData.eqv (dWeb w) (dWeb w) = true := by rw [eqv_dWeb, decide_eq_true rfl]
theorem eqv_rowSelf (w : List Nat) : PyData.eqv (dInts (castN w)) (dInts (castN w)) = true := by rw [eqv_dInts, decide_eq_true rfl]

section
variable {cx : Cx} {d : Nat} {H : Hp} {Q : AV → Hp → Prop}
theorem Op_eqHand {a b : Addr} {ro ro' : Bool} {vs ws : List AV} {ds : List PyData} (ha : H a = some (.list ro vs)) (hb : H b = some (.list ro' ws)) (hv : Iss H vs ds) (hw : Iss H ws ds)
    (hl : PyData.canLayAll0 ds = true) (hd : PyData.depthAll ds ≤ 7) (he : ∀ x ∈ ds, PyData.eqv x x = true) (hq : Q (.bool true) H) : OpW cx (d + 1) (compareOp .Eq) (.ref a) (.ref b) H Q := by
  refine Op_eqD (x := .list ds) (y := .list ds) (by rw [Is]; exact ⟨a, ro, vs, rfl, ha, hv⟩) (by rw [Is]; exact ⟨b, ro', ws, rfl, hb, hw⟩) (by rw [PyData.canLay0]; exact hl) (by rw [PyData.canLay0]; exact hl) (by rw [PyData.depth]; omega) ?_
  rw [PyData.eqv, eqvAll_self he]; exact hq

end

/-! ## the numbers stand of themselves -/
theorem mex_exist (ns : List Nat) : ∃ m, IsMex ns m := by
  apply Classical.byContradiction
  intro h
  have all : ∀ m, ∀ j < m, j ∈ ns := by
    intro m
    induction m with
    | zero => intro j hj; omega
    | succ m ih =>
      intro j hj
      rcases Nat.lt_or_ge j m with z | z
      · exact ih j z
      · have : j = m := by omega
        subst this
        exact Classical.byContradiction fun hn => h ⟨j, hn, ih⟩
  have := low_le (all (ns.length + 1))
  omega
theorem rank_bound (rank : Nat → Nat) : ∀ n : Nat, ∃ K, ∀ s < n, rank s < K
  | 0 => ⟨0, fun s h => by omega⟩
  | n + 1 => by
    obtain ⟨K, h⟩ := rank_bound rank n
    refine ⟨max K (rank n + 1), fun s hs => ?_⟩
    rcases Nat.lt_or_ge s n with z | z
    · have := h s z; omega
    · have : s = n := by omega
      subst this; omega
open Classical in
theorem nums_exist {web : List (List Nat)} (G : GoodWeb web) (C : Calm web) : ∃ f, Nums web f := by
  obtain ⟨rank, hr⟩ := C
  have key : ∀ k, ∃ f : Nat → Nat, ∀ s < web.length, rank s < k → IsMex ((web.getD s []).map f) (f s) := by
    intro k
    induction k with
    | zero => exact ⟨fun _ => 0, fun s _ h => by omega⟩
    | succ k ih =>
      obtain ⟨f, hf⟩ := ih
      refine ⟨fun s => if rank s = k then (mex_exist ((web.getD s []).map f)).choose else f s, fun s hs hk => ?_⟩
      have hrow : (web.getD s []).map (fun s => if rank s = k then (mex_exist ((web.getD s []).map f)).choose else f s) = (web.getD s []).map f := by
        apply List.map_congr_left
        intro g hg
        have := hr s hs g hg
        rw [if_neg (by omega)]
      rw [hrow]
      by_cases e : rank s = k
      · simp only [e, if_true]
        exact (mex_exist ((web.getD s []).map f)).choose_spec
      · simp only [e, if_false]
        exact hf s hs (by omega)
  obtain ⟨K, hK⟩ := rank_bound rank web.length
  obtain ⟨f, hf⟩ := key K
  exact ⟨f, fun s hs => hf s hs (hK s hs)⟩
end Mine

-- MNim
namespace Mine

end Mine

-- Core27
set_option linter.unusedVariables false
set_option linter.unusedSimpArgs false
namespace Mine
open PySem

/-! ## play in a row -/
/-! ## cut webs -/
end Mine

-- Core28
set_option linter.unusedVariables false
set_option linter.unusedSimpArgs false
namespace Mine
open PySem

/-! ## joined -/
/-! ## paired -/
end Mine

-- Core29
set_option linter.unusedVariables false
set_option linter.unusedSimpArgs false
namespace Mine
open PySem PyProof.Rows

/-! only some places have turned -/
section
variable {cx : Cx} {d : Nat} {H : Hp} {Q : AV → Hp → Prop}
end

/-! lengths stand of themselves -/
/-! tables -/
end Mine

-- Core30
set_option linter.unusedVariables false
set_option linter.unusedSimpArgs false
namespace Mine
open PySem PyProof.Rows

theorem vrs_of_ints : ∀ {ns : List Int} {vs : List Value}, IntsAre vs ns → VRs (ns.map .int) vs
  | _, _, .nil => trivial
  | _, _, .cons n t h => ⟨⟨t, rfl⟩, vrs_of_ints h⟩
theorem get_size1 (h : Heap) : h.get? (h.objs.size + 1) = none := by
  cases q : h.get? (h.objs.size + 1) with
  | none => rfl
  | some o => exact absurd (Heap.lt_size q) (Nat.not_lt.mpr (Nat.le_succ _))

section
variable {cx : Cx} {d : Nat} {H : Hp} {Q : AV → Hp → Prop}
theorem CW_sorted {a : Addr} {ro : Bool} {ns : List Int} (ha : H a = some (.list ro (ns.map .int))) (h64 : ns.length < 64)
    (hq : ∀ b (ns' : List Int), H b = none → ns'.Perm ns → ns'.Pairwise (· ≤ ·) → Q (.ref b) (H.put b (.list false (ns'.map .int)))) : CW cx d (.builtin "sorted") [.ref a] H Q := by
  intro A P s E Q' us hA R hr k
  obtain ⟨V, rfl, hv⟩ := vrs1 hr
  cases hv
  obtain ⟨items, n, hO, hr⟩ := R.isList ha
  have hz := hr.size
  rw [List.length_map] at hz
  refine sorted_ints (vs := items.toList) (ns := ns) ⟨_, hO, rfl, n, rfl⟩ (intsAre_of hr) (by simp; omega) fun out ns' a1 a2 a3 => ?_
  obtain ⟨e, he⟩ := sortedAll_at s.heap items.toList out
  exact k _ _ _ _ s.toks (hq _ ns' (R.fresh (get_size1 _)).2 a2 a3) rfl (R.put_new (get_size1 _) (fun _ _ q => sortedAll_old q) he ⟨out, e, rfl, vrs_of_ints a1⟩)

theorem Rep.isTup {P : PH} {h : Heap} (R : Rep cx P H h) {a : Addr} {vs : List AV} (ha : H a = some (.tuple vs)) : ∃ items n, h.get? a = some { cls := .type "tuple", dict := none, data := .seq items n, slots := #[] } ∧ VRs vs items.toList := by
  obtain ⟨O, hO, items, n, rfl, hv⟩ := R.obj a _ ha
  exact ⟨items, n, hO, hv⟩
theorem CW_isinst_tuple {a : Addr} {vs : List AV} (ha : H a = some (.tuple vs)) (hq : Q (.bool true) H) : CW cx d (.builtin "isinstance") [.ref a, .ty "tuple"] H Q := by
  intro A P s E Q' us hA R hr k
  obtain ⟨V, W, rfl, hv, hw⟩ := vrs2 hr
  cases hv; cases hw
  obtain ⟨items, n, hO, _⟩ := R.isTup ha
  exact IsiPair.tuple_tuple hO rfl (k _ _ H s.heap s.toks hq rfl R)
theorem CW_lenTuple {a : Addr} {vs : List AV} (ha : H a = some (.tuple vs)) (hl : vs.length ≤ 2 ^ 20) (hq : Q (.int vs.length) H) : CW cx d (.builtin "len") [.ref a] H Q := by
  intro A P s E Q' us hA R hr k
  obtain ⟨V, rfl, hv⟩ := vrs1 hr
  cases hv
  obtain ⟨items, n, hO, hv⟩ := R.isTup ha
  have hz := hv.size
  refine len_tuple (items := items) ⟨_, hO, rfl, n, rfl⟩ (by omega) ?_
  rw [← hz]
  exact k _ _ H s.heap _ hq ⟨_, rfl⟩ R
theorem Get_tuple {a : Addr} {vs : List AV} {i : Int} {v : AV} (ha : H a = some (.tuple vs)) (h0 : 0 ≤ i) (hl : vs.length ≤ 2 ^ 20) (hv : vs[i.toNat]? = some v) (hq : Q v H) : GetW cx d (.ref a) (.int i) H Q := by
  intro A P s E Q' V W hA R ho hi k
  cases ho
  obtain ⟨t, rfl⟩ := hi
  obtain ⟨items, n, hO, hr⟩ := R.isTup ha
  obtain ⟨V, hV, hvV⟩ := hr.get hv
  have hz := hr.size
  have hlt : i.toNat < vs.length := (List.getElem?_eq_some_iff.mp hv).1
  exact ⟨⟨"tuple", _, ⟨_, hO, rfl⟩, slot_tuple_getitem.lookup⟩, getItem_tuple (items := items) ⟨_, hO, rfl, n, rfl⟩ (by omega) (by omega) (seqIndex_of h0 (by omega)) (by simpa using hV) (k _ _ H s.heap s.toks hq hvV R)⟩
theorem Op_isNotBool {a b : Bool} (hq : Q (.bool (a != b)) H) : OpW cx d (compareOp .IsNot) (.bool a) (.bool b) H Q := by
  intro A P s E Q' V W hA R hv hw k
  cases hv; cases hw
  have h := k (.bool (a != b)) (.bool (a != b)) H s.heap s.toks hq rfl R
  cases a <;> cases b <;> exact wpAny_pure h
end

theorem iter_list {cx : Cx} {H : Hp} {a : Addr} {ro : Bool} {vs : List AV} (ha : H a = some (.list ro vs)) {A : Around} {P : PH} {s : Shared} {E : Value → Shared → Prop} {Q' : Value → Shared → Prop}
    (R : Rep cx P H s.heap)
    (k : ∀ I O, ItP cx I vs (fun H' => H' a = some (.list ro vs)) (fun i O => O.cls = .type "list_iterator" ∧ O.data = .fields #[.ref a, .int i 0]) → s.heap.get? I = none → (O.cls = .type "list_iterator" ∧ O.data = .fields #[.ref a, .int 0 0]) → I = s.heap.objs.size → O.isFreed = false → Q' (.ref I) { s with heap := s.heap.push O }) :
    wpAny (model cx.prog cx.w) A (pyIter (.ref a)) Q' E s := by
  obtain ⟨items, n, hO, hr⟩ := R.isList ha
  have hl : s.heap.IsList a items := ⟨_, hO, rfl, n, rfl⟩
  refine wpAny_pyIter_list hl (k _ _ ⟨?_, ?_, ?_⟩ (get_size _) ⟨rfl, rfl⟩ rfl rfl)
  · intro i v A P H s₁ E Q' O hi hk R₁ hH hI hSt hQ
    obtain ⟨items₁, n₁, hO₁, hr₁⟩ := R₁.isList hk
    obtain ⟨V, hV, hvV⟩ := hr₁.get hi
    refine wpAny_pyNext_list_item (items := items₁) ⟨O, hI, hSt.1, hSt.2⟩ ⟨_, hO₁, rfl, n₁, rfl⟩ (by simpa using hV) fun h' hit hs => ?_
    obtain ⟨O', hO', hc, hd⟩ := hit
    exact hQ V h' O' s₁.toks hvV hs hO' ⟨hc, hd⟩
  · intro A P H s₁ E Q' O hh hk R₁ hH hI hSt hQ
    obtain ⟨items₁, n₁, hO₁, hr₁⟩ := R₁.isList hk
    refine wpAny_pyNext_list_end (items := items₁) hh ⟨O, hI, hSt.1, hSt.2⟩ ⟨_, hO₁, rfl, n₁, rfl⟩ ?_ fun h' e => hQ h' s₁.toks e
    have := hr₁.length
    simp only [Array.length_toList] at this
    rw [this]; simp
  · intro i A s₁ E Q' O hI hSt hQ
    exact wpAny_pyIter_listiter ⟨O, hI, hSt.1, hSt.2⟩ hQ

theorem letTup {cx : Cx} {A : Around} {E : Value → Shared → Prop} {s : Shared} {elts : List Expr} {x1 : Nat} {pos : Pos} {I t a : Addr} {i : Nat} {O : Obj} {Q : Unit → Shared → Prop} (hO : s.heap.get? I = some O) (hSt : O.cls = .type "list_iterator" ∧ O.data = .fields #[.ref a, .int i 0]) (hQ : Q () s) :
    wpAny (model cx.prog cx.w) A (letOwnedTupleGo (.Tuple elts x1 pos) (.ref I) (.ref t)) Q E s := by
  obtain ⟨cls, dict, data, slots⟩ := O
  obtain ⟨h1, h2⟩ := hSt
  simp only at h1 h2
  subst h1; subst h2
  unfold letOwnedTupleGo
  refine wpAny_bind (wpAny_load hO ?_)
  show wpAny _ A (if (["enumerate", "zip", "dict_itemiterator", "dict_reverseitemiterator", "odict_iterator", "itertools.zip_longest", "itertools.pairwise"].contains "list_iterator" &&
      (#[.ref a, .int i 0] : Array Value)[0]? == some (rawInt t)) = true then _ else _) Q E s
  rw [if_neg (by simp)]
  exact wpAny_pure hQ

section
variable {cx : Cx} {d : Nat} {sc : Scope} {loc : Loc} {H : Hp} {QF : AF → Loc → Hp → Prop}
theorem EX_ForPair {x y : Str} {px py pt pos : Pos} {n : Nat} {iter : Expr} {body : List Stmt}
    (h : EV cx d sc loc iter H fun v H₁ => ∃ (a : Addr) (ro : Bool) (ts : List Addr), v = .ref a ∧ H₁ a = some (.list ro (ts.map .ref)) ∧ ∃ ms : List (AV × AV), ts.length = ms.length ∧ ∃ J : Nat → Loc → Hp → Prop, J 0 loc H₁ ∧
      (∀ i l₂ H₂, J i l₂ H₂ → H₂ a = some (.list ro (ts.map .ref)) ∧ ∀ (k : Nat) (t : Addr) (m : AV × AV), ts[k]? = some t → ms[k]? = some m → H₂ t = some (.tuple [m.1, m.2])) ∧
      (∀ i m l₂ H₂, ms[i]? = some m → J i l₂ H₂ → EX cx d sc (upd (upd l₂ x m.1) y m.2) body H₂ (loopQ (J (i + 1)) QF)) ∧ ∀ l₂ H₂, J ms.length l₂ H₂ → QF .next l₂ H₂)
    (hx : storable sc x = true := by rfl) (hy : storable sc y = true := by rfl) (hs : ∀ env v, foldedSetIterable iter env v = pure v := by intro _ _; rfl) :
    EX1 cx d sc loc (.For (.Tuple [.Name x px, .Name y py] n pt) iter body [] pos) H QF := by
  intro env A P s E Q' he F hA R k
  refine wpAny_For (h.here he F hA R fun v V H₁ h₁ tk₁ q hv F₁ R₁ => ?_) (hs env)
  obtain ⟨a, ro, ts, rfl, ha, ms, hlen, J, hJ0, hkeep, turn, fin⟩ := q
  cases hv
  refine iter_list ha R₁ fun I O W hI hSt eI hfr => ?_
  have hIf : ¬ fp env I := fun z => by obtain ⟨o, ho⟩ := F₁.live I z; rw [show ({ s with heap := h₁, toks := tk₁ } : Shared).heap.get? I = h₁.get? I from rfl] at hI; rw [ho] at hI; cases hI
  have hfr₁ := R₁.fresh hI
  have hup : ∀ b o, h₁.get? b = some o → (h₁.push O).get? b = some o := fun b o e => Heap.get?_push_of_some _ e
  have hOI : (h₁.push O).get? I = some O := by rw [eI]; exact Heap.get?_push_size _ hfr
  obtain ⟨Inv, hInv⟩ : ∃ Inv : Nat → Shared → Prop, ∀ n s', Inv n s' ↔ (∃ i l₂ H₂ h₂ tk₂ O₂, s' = { s with heap := h₂, toks := tk₂ } ∧ J i l₂ H₂ ∧ FrameOwn env l₂ P H₂ h₂ ∧ Rep cx P H₂ h₂ ∧ h₂.get? I = some O₂ ∧ (O₂.cls = .type "list_iterator" ∧ O₂.data = .fields #[.ref a, .int i 0]) ∧ H₂ I = none ∧ i ≤ ts.length ∧ n = ts.length + 1 - i) := ⟨_, fun _ _ => Iff.rfl⟩
  refine codeAny_forLoop_any Inv ?_ (ts.length + 1)
    ((hInv _ _).mpr ⟨0, loc, H₁, _, tk₁, O, rfl, hJ0, F₁.eq_on (fun a _ o e => hup a o e) F₁.offH, R₁.grow hup, hOI, hSt, hfr₁.2, Nat.zero_le _, rfl⟩)
  rintro n s' hInv0
  obtain ⟨i, l₂, H₂, h₂, tk₂, O₂, rfl, hJ, F₂, R₂, hO₂, hSt₂, hH₂, hi, rfl⟩ := (hInv _ _).mp hInv0
  obtain ⟨hk1, hk2⟩ := hkeep _ _ _ hJ
  cases hel : ts[i]? with
  | none =>
    have hil : i = ts.length := Nat.le_antisymm hi (by simpa using hel)
    subst hil
    refine W.done A P H₂ _ _ _ O₂ hA.handled hk1 R₂ hH₂ hO₂ (by rw [List.length_map]; exact hSt₂) fun h₃ tk₃ e₃ => wpAny_execs_nil ?_
    exact k .next .next l₂ H₂ h₃ tk₃ (fin _ _ (hlen ▸ hJ)) rfl (F₂.eq_on (fun a ha o e => e₃ a o (fun z => hIf (z ▸ ha)) e) F₂.offH) (R₂.ext_to hfr₁.1 hH₂ e₃)
  | some t =>
    have hlt : i < ts.length := (List.getElem?_eq_some_iff.mp hel).1
    have hm : ms[i]? = some ms[i] := List.getElem?_eq_getElem (by omega)
    have ht₂ := hk2 i t ms[i] hel hm
    refine W.item i (.ref t) A P H₂ _ _ _ O₂ (by rw [List.getElem?_map, hel]; rfl) hk1 R₂ hH₂ hO₂ hSt₂ fun V' h₃ O₃ tk₃ hV e₃ hO₃ hSt₃ => ?_
    cases hV
    refine letTup hO₃ hSt₃ ?_
    have F₃ : FrameOwn env l₂ P H₂ h₃ := F₂.eq_on (fun a ha o e => (e₃.2 a fun z => hIf (z ▸ ha)).trans e) F₂.offH
    have R₃ : Rep cx P H₂ h₃ := R₂.ext_to hfr₁.1 hH₂ e₃.extBut
    obtain ⟨⟨its⟩, m, hOt, hr⟩ := R₃.isTup ht₂
    obtain ⟨V1, V2, hit, hv1, hv2⟩ := vrs2 hr
    replace hit : its = [V1, V2] := hit
    subst hit
    refine wpAny_assign_Tuple hA.handled (items := #[V1, V2]) ⟨_, hOt, rfl, m, rfl⟩ rfl rfl fun h₅ hx₅ => ?_
    replace hx₅ : Heap.ExtBut h₃.objs.size h₃ h₅ := hx₅
    have up : ∀ b o, h₃.get? b = some o → h₅.get? b = some o := fun b o e => hx₅ b o (Nat.ne_of_lt (Heap.lt_size e)) e
    have F₅ : FrameOwn env l₂ P H₂ h₅ := F₃.eq_on (fun a _ o e => up a o e) F₃.offH
    have R₅ : Rep cx P H₂ h₅ := R₃.grow up
    have F₆ := F₅.add (O := O₃) hIf
    have R₆ := R₅.add (up _ _ hO₃) hfr₁.1 hH₂
    show wpAny _ A (do holding [V2] (assign (.Name x px) env V1); do holding [] (assign (.Name y py) env V2); pure ()) _ _ _
    refine wpAny_bind (wpAny_holding (wpAny_assign_Name (store_own he F₆ R₆ hx hv1 fun h₇ tk₇ F₇ R₇ => ?_)))
    refine wpAny_bind (wpAny_holding (wpAny_assign_Name (store_own he F₇ R₇ hy hv2 fun h₈ tk₈ F₈ R₈ => wpAny_pure ?_)))
    refine turn i ms[i] l₂ H₂ hm hJ env A _ _ _ _ he F₈ hA R₈ fun f Fl l₉ H₉ h₉ tk₉ q₉ hf F₉ R₉ => ?_
    obtain ⟨R₁₀, hO₁₀, hH₁₀⟩ := R₉.drop hfr₁.1 R.base
    have F₁₀ := F₉.drop
    cases f with
    | next => cases hf; exact ⟨ts.length + 1 - (i + 1), by omega, (hInv _ _).mpr ⟨i + 1, l₉, H₉, h₉, tk₉, O₃, rfl, q₉, F₁₀, R₁₀, hO₁₀, hSt₃, hH₁₀, hlt, rfl⟩⟩
    | cont => cases hf; exact ⟨ts.length + 1 - (i + 1), by omega, (hInv _ _).mpr ⟨i + 1, l₉, H₉, h₉, tk₉, O₃, rfl, q₉, F₁₀, R₁₀, hO₁₀, hSt₃, hH₁₀, hlt, rfl⟩⟩
    | brk => cases hf; exact k .next .next l₉ H₉ h₉ tk₉ q₉ rfl F₁₀ R₁₀
    | ret v => obtain ⟨V, rfl, hv⟩ := hf; exact k (.ret v) (.ret V) l₉ H₉ h₉ tk₉ q₉ ⟨V, rfl, hv⟩ F₁₀ R₁₀
end

/-! ## moves: tuples of place and goal -/
abbrev Mv := Nat × Nat
def mvV (m : Mv) : List AV := [.int (m.1 : Int), .int (m.2 : Int)]
structure MovesAt (H : Hp) (a : Addr) (ts : List Addr) (ms : List Mv) : Prop where
  top : H a = some (.list false (ts.map .ref))
  len : ts.length = ms.length
  mv : ∀ (i : Nat) (t : Addr) (m : Mv), ts[i]? = some t → ms[i]? = some m → H t = some (.tuple (mvV m))
theorem MovesAt.ext {H H' : Hp} {a : Addr} {ts : List Addr} {ms : List Mv} (M : MovesAt H a ts ms) (e : Ext H H') : MovesAt H' a ts ms :=
  ⟨e _ _ M.top, M.len, fun i t m h1 h2 => e _ _ (M.mv i t m h1 h2)⟩
def IsMoves (H : Hp) (a : Addr) (ms : List Mv) : Prop := ∃ ts, MovesAt H a ts ms
section
variable {cx : Cx} {d : Nat} {H : Hp} {Q : AV → Hp → Prop}
end

/-- the sorted row -/
def sortN (n : Nat) (ns : List Nat) : List Nat := (List.range n).filter fun g => decide (g ∈ ns)
theorem mem_sortN {n : Nat} {ns : List Nat} {g : Nat} : g ∈ sortN n ns ↔ g < n ∧ g ∈ ns := by simp [sortN]
theorem sortN_eq {n : Nat} {ns : List Nat} (hn : ns.Nodup) (hlt : ∀ g ∈ ns, g < n) {zs : List Int} (hp : zs.Perm (castN ns)) (hs : zs.Pairwise (· ≤ ·)) : zs = castN (sortN n ns) := by
  have hperm : (sortN n ns).Perm ns := by
    refine (List.perm_ext_iff_of_nodup (List.nodup_range.filter _) hn).mpr fun g => ?_
    show g ∈ sortN n ns ↔ g ∈ ns
    rw [mem_sortN]
    exact ⟨fun h => h.2, fun h => ⟨hlt g h, h⟩⟩
  have hp' : zs.Perm (castN (sortN n ns)) := hp.trans ((hperm.map _).symm)
  refine List.Perm.eq_of_pairwise (le := fun a b => a ≤ b) (fun a b _ _ h1 h2 => Int.le_antisymm h1 h2) hs ?_ hp'
  unfold castN sortN
  rw [List.pairwise_map]
  refine List.Pairwise.imp (fun h => ?_) (List.pairwise_lt_range.filter _)
  omega

/-! ## the moves of a row -/
def placeMoves (web : List (List Nat)) (row : List Nat) (k : Nat) : List Mv := (sortN web.length (web.getD (row.getD k 0) [])).map fun g => (k, g)
def movesTo (web : List (List Nat)) (row : List Nat) (i : Nat) : List Mv := ((List.range i).map (placeMoves web row)).flatten
def rowMoves (web : List (List Nat)) (row : List Nat) : List Mv := movesTo web row row.length
theorem movesTo_succ (web : List (List Nat)) (row : List Nat) (i : Nat) : movesTo web row (i + 1) = movesTo web row i ++ placeMoves web row i := by
  unfold movesTo; rw [List.range_succ, List.map_append, List.flatten_append]; simp
theorem mem_movesTo {web : List (List Nat)} {row : List Nat} {i : Nat} {m : Mv} : m ∈ movesTo web row i ↔ m.1 < i ∧ m.2 < web.length ∧ m.2 ∈ web.getD (row.getD m.1 0) [] := by
  obtain ⟨k, g⟩ := m
  simp only [movesTo, placeMoves, List.mem_flatten, List.mem_map, List.mem_range]
  constructor
  · rintro ⟨l, ⟨j, hj, rfl⟩, hm⟩
    obtain ⟨x, hx, e⟩ := List.mem_map.mp hm
    cases e
    exact ⟨hj, mem_sortN.mp hx⟩
  · rintro ⟨h1, h2⟩
    exact ⟨_, ⟨k, h1, rfl⟩, List.mem_map.mpr ⟨g, mem_sortN.mpr h2, rfl⟩⟩
theorem MovesAt.app {H : Hp} {f : Addr} {ts us : List Addr} {ms ks : List Mv} (M : MovesAt H f ts ms) (hl : us.length = ks.length) (hu : ∀ (i : Nat) (t : Addr) (m : Mv), us[i]? = some t → ks[i]? = some m → H t = some (.tuple (mvV m))) (hf : ∀ t ∈ ts ++ us, t ≠ f) :
    MovesAt (H.put f (.list false (ts.map .ref ++ us.map .ref))) f (ts ++ us) (ms ++ ks) := by
  have h0 := M.len
  refine ⟨by rw [Hp.put_self, List.map_append], by simp [h0, hl], fun i t m k1 k2 => ?_⟩
  rw [Hp.put_ne (hf t (List.mem_of_getElem? k1))]
  rcases Nat.lt_or_ge i ts.length with z | z
  · rw [List.getElem?_append_left z] at k1
    rw [List.getElem?_append_left (by omega)] at k2
    exact M.mv i t m k1 k2
  · rw [List.getElem?_append_right z] at k1
    rw [List.getElem?_append_right (by omega), ← h0] at k2
    exact hu _ t m k1 k2
theorem MovesAt.mem {H : Hp} {f : Addr} {ts : List Addr} {ms : List Mv} (M : MovesAt H f ts ms) {t : Addr} (ht : t ∈ ts) : ∃ m ∈ ms, H t = some (.tuple (mvV m)) := by
  obtain ⟨i, hi, rfl⟩ := List.mem_iff_getElem.mp ht
  have hj : i < ms.length := by rw [← M.len]; exact hi
  exact ⟨ms[i], List.getElem_mem hj, M.mv i _ _ (List.getElem?_eq_getElem hi) (List.getElem?_eq_getElem hj)⟩
theorem MovesAt.ne {H : Hp} {f : Addr} {ts : List Addr} {ms : List Mv} (M : MovesAt H f ts ms) {t : Addr} (ht : t ∈ ts) : t ≠ f := fun e => by
  obtain ⟨m, _, h⟩ := M.mem ht
  rw [e, M.top] at h; cases h
theorem getD_some {row : List Nat} {i : Nat} (h : i < row.length) : row[i]? = some (row.getD i 0) := by simp [h]
section
variable {cx : Cx} {d : Nat} {H : Hp} {Q : AV → Hp → Prop}
theorem is_handWR {w o : Addr} {ro : Bool} {web : List (List Nat)} {one : List Nat} (hw : IsWeb H w web) (ho : H o = some (.list ro (rowV one))) : Iss H [.ref w, .ref o] [dWeb web, dInts (castN one)] := by
  rw [Iss]; refine ⟨hw.is, ?_⟩
  rw [Iss]; refine ⟨is_row ho, ?_⟩
  simp [Iss]
theorem handWR_ok (web : List (List Nat)) (one : List Nat) : PyData.canLayAll0 [dWeb web, dInts (castN one)] = true ∧ PyData.depthAll [dWeb web, dInts (castN one)] ≤ 7 ∧ ∀ x ∈ [dWeb web, dInts (castN one)], PyData.eqv x x = true := by
  refine ⟨?_, ?_, ?_⟩
  · simp [PyData.canLayAll0, lay_dWeb, lay_dInts]
  · have := depth_dWeb web
    simp only [PyData.depthAll, depth_dInts]
    omega
  · intro x hx
    simp only [List.mem_cons, List.not_mem_nil, or_false] at hx
    rcases hx with rfl | rfl
    · exact eqv_webSelf _
    · exact eqv_rowSelf _
theorem Op_eqHandWR {a b w o w' o' : Addr} {ro ro' r1 r3 : Bool} {web : List (List Nat)} {one : List Nat} (ha : H a = some (.list ro [.ref w, .ref o])) (hb : H b = some (.list ro' [.ref w', .ref o']))
    (hw : IsWeb H w web) (ho : H o = some (.list r1 (rowV one))) (hw' : IsWeb H w' web) (ho' : H o' = some (.list r3 (rowV one))) (hq : Q (.bool true) H) :
    OpW cx (d + 1) (compareOp .Eq) (.ref a) (.ref b) H Q :=
  Op_eqHand ha hb (is_handWR hw ho) (is_handWR hw' ho') (handWR_ok ..).1 (handWR_ok ..).2.1 (handWR_ok ..).2.2 hq
end

theorem EX_ExprAny {cx : Cx} {d : Nat} {sc : Scope} {loc : Loc} {H : Hp} {Q : AF → Loc → Hp → Prop} {e : Expr} {pos : Pos} (h : EV cx d sc loc e H fun _ H' => Q .next loc H') (hs : ∀ env, swapsWith e none pos.line env = pure false := by intro _; rfl) : EX1 cx d sc loc (.Expr e pos) H Q := by
  intro env A P s E Q' he F hA R k
  exact wpAny_Expr_any (h.here he F hA R fun v V H' h' tk q hv F' R' => k .next .next _ H' h' tk q rfl F' R') (by unfold interactive; rw [he.kind]; rfl) (hs env)
theorem rowMoves_length {web : List (List Nat)} {row : List Nat} (h40 : web.length ≤ 40) (hn : row.length ≤ 24) : (rowMoves web row).length ≤ 2 ^ 20 := by
  have : ∀ i, (movesTo web row i).length ≤ i * 40 := by
    intro i
    induction i with
    | zero => simp [movesTo]
    | succ i ih =>
      rw [movesTo_succ, List.length_append]
      have : (placeMoves web row i).length ≤ 40 := by
        unfold placeMoves sortN
        rw [List.length_map]
        exact Nat.le_trans (List.length_filter_le ..) (by simp; omega)
      omega
  have := this row.length
  unfold rowMoves
  omega
end Mine

-- Core31
set_option linter.unusedVariables false
set_option linter.unusedSimpArgs false
namespace Mine
open PySem PyProof.Rows

/-! ## a dict with tuples of nums as its keys, bools as its values -/
abbrev TKey := List Int × Addr × Bool
section
variable {cx : Cx} {d : Nat} {sc : Scope} {loc : Loc} {H : Hp} {Q : AV → Hp → Prop} {pos : Pos}
theorem CW_tuple {a : Addr} {ro : Bool} {vs : List AV} (ha : H a = some (.list ro vs)) (hl : vs.length ≤ 2 ^ 20) (hq : ∀ b, H b = none → Q (.ref b) (H.put b (.tuple vs))) : CW cx d (.type "tuple") [.ref a] H Q := by
  intro A P s E Q' us hA R hr k
  obtain ⟨V, rfl, hv⟩ := vrs1 hr
  cases hv
  obtain ⟨items, n, hO, hr⟩ := R.isList ha
  have hz := hr.size
  refine call_tuple_list (items := items) ⟨_, hO, rfl, n, rfl⟩ (fun h' up => ?_) (by show items.size ≤ 2 ^ 24; omega)
  have R' := R.grow up
  exact k _ _ _ _ s.toks (hq _ (R'.fresh (get_size _)).2) rfl (R'.push (o := .tuple vs) ⟨items, _, rfl, hr⟩ rfl)
end

/-! ## rows up to three -/
end Mine

-- Core32
set_option linter.unusedVariables false
set_option linter.unusedSimpArgs false
namespace Mine
open PySem PySem.W PySem.Calls PyProof.Rows

/-! ## the law's own frame, the only one on the stack -/
structure Fr1 (A : Around) (env : Env) : Prop where
  frames : A.frames = some [env]
  here : env.frame = some env.locals
def EX1f (cx : Cx) (d : Nat) (sc : Scope) (loc : Loc) (st : Stmt) (H : Hp) (Q : AF → Loc → Hp → Prop) : Prop :=
  ∀ (env : Env) (A : Around) (P : PH) (s : Shared) (E : Value → Shared → Prop) (Q' : Flow → Shared → Prop), EnvOk sc env → FrameOwn env loc P H s.heap → Room d A → Fr1 A env → Rep cx P H s.heap →
    (∀ f F loc' H' h' tk, Q f loc' H' → FR f F → FrameOwn env loc' P H' h' → Rep cx P H' h' → Q' F { s with heap := h', toks := tk }) →
    wpAny (model cx.prog cx.w) A (exec st env) Q' E s
def EXf (cx : Cx) (d : Nat) (sc : Scope) (loc : Loc) (ss : List Stmt) (H : Hp) (Q : AF → Loc → Hp → Prop) : Prop :=
  ∀ (env : Env) (A : Around) (P : PH) (s : Shared) (E : Value → Shared → Prop) (Q' : Flow → Shared → Prop), EnvOk sc env → FrameOwn env loc P H s.heap → Room d A → Fr1 A env → Rep cx P H s.heap →
    (∀ f F loc' H' h' tk, Q f loc' H' → FR f F → FrameOwn env loc' P H' h' → Rep cx P H' h' → Q' F { s with heap := h', toks := tk }) →
    wpAny (model cx.prog cx.w) A (execs ss env) Q' E s
section
variable {cx : Cx} {d : Nat} {sc : Scope} {loc : Loc} {H : Hp} {Q : AF → Loc → Hp → Prop}
theorem EX1.toF {st : Stmt} (h : EX1 cx d sc loc st H Q) : EX1f cx d sc loc st H Q := fun env A P s E Q' he F hA _ R k => h env A P s E Q' he F hA R k
theorem EX.toF {ss : List Stmt} (h : EX cx d sc loc ss H Q) : EXf cx d sc loc ss H Q := fun env A P s E Q' he F hA _ R k => h env A P s E Q' he F hA R k
theorem EX1f.mono {e : Stmt} {Q₁ : AF → Loc → Hp → Prop} (h : EX1f cx d sc loc e H Q₁) (hq : ∀ f l H', Q₁ f l H' → Q f l H') : EX1f cx d sc loc e H Q :=
  fun env A P s E Q' he hF hA hf R k => h env A P s E Q' he hF hA hf R fun f F l H' h' tk q => k f F l H' h' tk (hq f l H' q)
def andThenF (cx : Cx) (d : Nat) (sc : Scope) (rest : List Stmt) (Q : AF → Loc → Hp → Prop) : AF → Loc → Hp → Prop
  | .next, loc, H => EXf cx d sc loc rest H Q
  | f, loc, H => Q f loc H
theorem EXf_cons {st : Stmt} {rest : List Stmt} (h : EX1f cx d sc loc st H (andThenF cx d sc rest Q)) : EXf cx d sc loc (st :: rest) H Q := by
  intro env A P s E Q' he F hA hf1 R k
  refine wpAny_execs_cons (h env A P s E _ he F hA hf1 R fun f Fl loc' H' h' tk q hf F' R' => ?_)
  cases f with
  | next => cases hf; exact q env A P _ E Q' he F' hA hf1 R' fun f₂ Fl₂ l₂ H₂ h₂ tk₂ => k f₂ Fl₂ l₂ H₂ h₂ tk₂
  | brk => cases hf; exact k .brk _ _ _ _ _ q rfl F' R'
  | cont => cases hf; exact k .cont _ _ _ _ _ q rfl F' R'
  | ret v => obtain ⟨V, rfl, hv⟩ := hf; exact k (.ret v) _ _ _ _ _ q ⟨V, rfl, hv⟩ F' R'
theorem atF {rest : List Stmt} (h : EXf cx d sc loc rest H Q) : andThenF cx d sc rest Q .next loc H := h
theorem EXf_cut {st : Stmt} {rest : List Stmt} (Q₁ : Loc → Hp → Prop) (h1 : EX1f cx d sc loc st H (nextQ Q₁)) (h2 : ∀ l' H', Q₁ l' H' → EXf cx d sc l' rest H' Q) : EXf cx d sc loc (st :: rest) H Q :=
  EXf_cons (EX1f.mono h1 fun f l' H' q => by
    cases f with
    | next => exact h2 l' H' q
    | brk => exact q.elim
    | cont => exact q.elim
    | ret v => exact q.elim)
theorem callName_raw {f : Str} {fa : Addr} {fd : FuncData} {e : Expr} {r : List Expr} {p pos : Pos} {G : List AV → Hp → Prop} {env : Env} {A : Around} {P : PH} {s : Shared} {E : Value → Shared → Prop} {Q' : Value → Shared → Prop} (hf : IsFn cx f fa fd) (q : EVs cx d sc loc (e :: r) H G)
    (he : EnvOk sc env) (hF : FrameP env loc P) (hA : Room d A) (R : Rep cx P H s.heap) (hk : ∀ vs Vs H' h' tk, G vs H' → VRs vs Vs → Rep cx P H' h' → wpAny (model cx.prog cx.w) A (call (.ref fa) Vs) Q' E { s with heap := h', toks := tk })
    (hx : globalName sc f = true) (hn : (e :: r).all notStar = true) : wpAny (model cx.prog cx.w) A (eval (.Call (.Name f p) (e :: r) [] pos) env) Q' E s := by
  obtain ⟨o, ho, hd⟩ := hf.o
  rw [eval_Call_Name]
  refine wpAny_bind (load_global he R hx hf.g (Calls.callWith_function (o := o) (fd := fd) ?_))
  have hn1 : notStar e = true := by simp only [List.all_cons, Bool.and_eq_true] at hn; exact hn.1
  have hs := EVs.sound (env := env) (A := A) (P := P) (s := s) (E := E) (pos := pos) q hn he hF hA R (Q' := fun vs s₁ => (s₁.heap.get? fa = some o ∧ o.data = .func fd) ∧ wpAny (model cx.prog cx.w) A (call (.ref fa) vs) Q' E s₁)
    (fun vs Vs H' h' tk q hvs R' => ⟨⟨R'.keeps _ _ ho, hd⟩, hk vs Vs H' h' tk q hvs R'⟩)
  rw [starEach_cons hn1] at hs ⊢
  exact Calls.evalArgs_plain hs

end
section
variable {cx : Cx} {d : Nat} {H : Hp} {Q : AV → Hp → Prop}
def CWt (cx : Cx) (d : Nat) (V : Value) (args : List AV) (H : Hp) (Q : AV → Hp → Prop) : Prop :=
  ∀ (P : PH) (s : Shared) (E : Value → Shared → Prop) (Q' : Value → Shared → Prop) (vs : List Value), Room d callerA → Rep cx P H s.heap → VRs args vs →
    (∀ v V H' h' tk, Q v H' → VR v V → Rep cx P H' h' → Q' V { s with heap := h', toks := tk }) → wpAny (model cx.prog cx.w) callerA (call V vs) Q' E s
theorem CWt_def {f : Str} {fa : Addr} {fd : FuncData} {body : List Stmt} {names : List Str} {args : List AV} (hf : IsFn cx f fa fd) (hb : fd.body = .stmts body) (hc : fd.closure = [])
    (hbind : ∀ vs : List Value, vs.length = args.length → bindArgs fd ⟨vs, []⟩ = pure (names.zip vs)) (hnm : names.all (storable fd.scope) = true)
    (hgl : fd.globals = mainGlobals) (hbl : fd.builtins = builtinsNs)
    (h : EXf cx d fd.scope (bindA (names.zip args) fun _ => none) body H (retQ Q)) (hnf : fd.scope.names.all (fun y => y.2 != .free) = true := by rfl)
    (hco : fd.scope.isCoroutine = false := by rfl) (hgen : fd.scope.isGenerator = false := by rfl) (hk : fd.scope.kind = .function := by rfl) :
    CWt cx (d + 1) (.ref fa) args H Q := by
  intro P s E Q' vs hA R hvs k
  generalize hAe : callerA = A at hA ⊢
  obtain ⟨o, ho, hd⟩ := hf.o
  have hroom : A.depth < recursionLimit := Nat.lt_of_le_of_lt (Nat.le_add_right _ _) hA.depth
  refine wpAny_call (codeAny_call_cells (fd := fd) (body := body) (binds := names.zip vs) hroom (R.keeps _ _ ho) hd (cx.nolimit.keeps R.keeps) (hf.code.keeps R.keeps) hb (hbind vs hvs.length.symm) hc ?_ ?_ hco hgen hk)
  · intro x hx
    have hx1 : x.1 ∈ names := (List.of_mem_zip hx).1
    have := (storable_of (List.all_eq_true.mp hnm x.1 hx1)).1
    exact this.imp id fun e => ⟨e, cells_some _ _ _ (.inl e)⟩
  · intro s₁ X
    obtain ⟨h₁, tk₁, rfl⟩ := X.toInCall.same
    have hup := X.toInCall.keep
    have R₁ : Rep cx P H h₁ := ⟨R.base, fun a o e => hup a o (R.ext a o e), fun a o e => by obtain ⟨O, hO, r⟩ := R.obj a o e; exact ⟨O, hup a O hO, r⟩, R.sep, R.scr⟩
    have hL : (callEnvC fd s.heap.objs.size fa).locals = s.heap.objs.size := rfl
    have big : ∀ a, fp (callEnvC fd s.heap.objs.size fa) a → s.heap.objs.size ≤ a := by
      intro a ha
      rcases ha with rfl | ⟨x, hm⟩
      · exact Nat.le_refl _
      · exact Nat.le_of_lt (X.above x a (mem_of_lookup hm))
    have none_of : ∀ a, s.heap.objs.size ≤ a → s.heap.get? a = none := fun a ha => by
      cases q : s.heap.get? a with
      | none => rfl
      | some o => exact absurd (Heap.lt_size q) (Nat.not_lt.mpr ha)
    have bf := bind_frame (kd := (callEnvC fd s.heap.objs.size fa).kindOf) names args vs (fun _ => none) (fun _ => none) (fun _ => none) hvs (fun _ _ e => by cases e) (fun _ _ e => by cases e)
    have hdom : ∀ x v, bindA (names.zip args) (fun _ => none) x = some v → storable fd.scope x = true := fun x v hx => by
      rcases bindA_dom names args _ x v hx with hm | e
      · exact List.all_eq_true.mp hnm x hm
      · cases e
    have offP : ∀ a, fp (callEnvC fd s.heap.objs.size fa) a → P a = none := fun a ha => by
      cases q : P a with
      | none => rfl
      | some o => have := R.ext a o q; rw [none_of a (big a ha)] at this; cases this
    have F : FrameOwn (callEnvC fd s.heap.objs.size fa) (bindA (names.zip args) fun _ => none) P H h₁ := by
      refine ⟨⟨⟨_, X.toInCall.ns, bf.1⟩, fun x v hx hc' => ?_, fun x v hx => ?_, fun x c hm => ?_⟩, fun x hx => cells_some _ _ _ (.inl hx), X.apart, fun x c hm => Nat.ne_of_gt (X.above x c hm), offP _ (.inl rfl), fun x c _ hc => offP c (.inr ⟨x, hc⟩), fun a ha => ?_⟩
      · have hnl : (callEnvC fd s.heap.objs.size fa).kindOf x ≠ some .local := by rcases hc' with e | e <;> rw [e] <;> simp
        have hcell : (callEnvC fd s.heap.objs.size fa).kindOf x = some .cell := (storable_of (hdom x v hx)).1.elim (fun e => absurd e hnl) id
        obtain ⟨c, hcl⟩ := Option.isSome_iff_exists.mp (cells_some fd.scope.names (s.heap.objs.size + 1) [] (.inl hcell))
        obtain ⟨V, hV, hv⟩ := bf.2 x v hx hnl
        have hcc := X.cell x c hcl
        rw [hV] at hcc
        exact ⟨c, V, hcl, hcc, hv⟩
      · obtain ⟨hk', hp⟩ := storable_of (hdom x v hx)
        exact ⟨hk'.imp id .inl, hp⟩
      · exact ⟨_, X.cell x c hm⟩
      · cases q : H a with
        | none => rfl
        | some o => obtain ⟨O, hO, _⟩ := R.obj a o q; rw [none_of a (big a ha)] at hO; cases hO
    have hA' : Room d (A.deeper (callEnvC fd s.heap.objs.size fa)) := ⟨hA.handled, by have := hA.depth; show A.depth + 1 + d < recursionLimit; omega, by have := hA.units; show A.units + 3 + 8 * d < cLine; omega⟩
    have hnofree : ∀ x, fd.scope.names.lookup x ≠ some .free := fun x e => by
      have := List.all_eq_true.mp hnf _ (mem_of_lookup e)
      simp at this
    refine h _ _ P _ _ _ ⟨rfl, hk, hgl, hbl, X.apart, fun x hx => cells_some _ _ _ (.inl (hx.elim id fun e => absurd e (hnofree x)))⟩ F hA' ⟨by rw [← hAe]; rfl, rfl⟩ R₁ fun fl Fl loc' H' h' tk q hfl F' R' => ?_
    · cases fl with
      | next => cases hfl; exact k .none .none H' h' tk q rfl R'
      | brk => exact q.elim
      | cont => exact q.elim
      | ret v => obtain ⟨V, rfl, hv⟩ := hfl; exact k v V H' h' tk q hv R'

theorem CWt_fn {D : FDef} {fa : Addr} {args : List AV} (hf : HasDef cx D fa)
    (hbind : ∀ (pm code doc : Value) (vs : List Value), vs.length = args.length → bindArgs (docDef D.name D.params D.body D.scope pm code doc) ⟨vs, []⟩ = pure (D.names.zip vs))
    (h : EXf cx d D.scope (bindA (D.names.zip args) fun _ => none) D.body H (retQ Q))
    (hnm : D.names.all (storable D.scope) = true := by rfl) (hnf : D.scope.names.all (fun y => y.2 != .free) = true := by rfl)
    (hco : D.scope.isCoroutine = false := by rfl) (hgen : D.scope.isGenerator = false := by rfl) (hk : D.scope.kind = .function := by rfl) : CWt cx (d + 1) (.ref fa) args H Q := by
  obtain ⟨pm, code, doc, hf⟩ := hf
  exact CWt_def hf rfl rfl (hbind pm code doc) hnm rfl rfl h hnf hco hgen hk
end
end Mine

-- Core34
set_option linter.unusedVariables false
set_option linter.unusedSimpArgs false
set_option maxRecDepth 100000
namespace Mine
open PySem PySem.W PySem.Calls PyProof.Rows

/-! ## the class of an error, isinstance(error, X) -/
section
variable {h : Heap}
theorem lookupAlong_calm {tl : List Value} {n : Str} {y : Option Value} {M : Model} {A : Around} {E : Value → Shared → Prop} {g : Array GenState} {d : Drawn} {t : Nat} {os : OsState} {Q : Option Value → Shared → Prop} {G : Addr} (hn : n ∈ calmNames) (hG : XC h G bmV)
    (hrest : lookupAlong bmV n = pure y) (htl : tl = bmV ∨ tl = .ref G :: bmV) (hq : Q y ⟨h, g, d, t, os⟩) : wpAny M A (lookupAlong tl n) Q E ⟨h, g, d, t, os⟩ := by
  rcases htl with rfl | rfl
  · rw [hrest]; exact wpAny_pure hq
  · obtain ⟨N, nm, q, bs, hdct, sn, sub, ab, col, dd, k0, k1, k2, k3, k5, mN, hC, hN, hc⟩ := hG
    rw [lookupAlong_cons]
    refine wpAny_bind (wpAny_classOwn_exc hC hN ?_)
    rw [hc n hn]
    show wpAny _ _ (lookupAlong bmV n) _ _ _
    rw [hrest]; exact wpAny_pure hq
end
/-- a class of the errors: GameError itself or one right under it -/
structure Err (h : Heap) (C G : Addr) (up : List Value) : Prop where
  c : XC h C up
  g : XC h G bmV
  up : up = bmV ∨ up = .ref G :: bmV
theorem Err.keeps {h h' : Heap} {C G : Addr} {up : List Value} (x : Err h C G up) (k : ∀ b o, h.get? b = some o → h'.get? b = some o) : Err h' C G up := ⟨x.c.keeps k, x.g.keeps k, x.up⟩
theorem Err.has {h : Heap} {C G : Addr} {up : List Value} {T : Value} (x : Err h C G up) (hT : bmV.contains T = true) : up.contains T = true := by
  rcases x.up with e | e
  · rw [e]; exact hT
  · rw [e, List.contains_cons, hT, Bool.or_true]
theorem Err.tailQ {h : Heap} {C G : Addr} {up : List Value} (x : Err h C G up) : OwnTailQ h bmV up := by
  obtain ⟨N, nm, q, bs, hdct, sn, sub, ab, col, dd, k0, k1, k2, k3, k5, mN, hC, hN, hc⟩ := x.g
  rcases x.up with e | e
  · rw [e]; exact .base
  · rw [e]; exact .own hC hN (fun n hn => hc n (by unfold quietNames at hn; unfold calmNames; simp only [List.mem_cons, List.not_mem_nil, or_false] at hn ⊢; rcases hn with h | h | h | h <;> simp [h])) .base
section
variable {prog : Program} {w : World} {A : Around} {E : Value → Shared → Prop} {h : Heap} {g : Array GenState} {d : Drawn} {t : Nat} {os : OsState} {a C G : Addr} {o : Obj} {up : List Value}
theorem class_lookup_err {M : Model} {Q : Option Value → Shared → Prop} {n : Str} {y : Option Value} (hn : n ∈ calmNames) (X : Err h C G up) (hB : typeLookup (.type "ValueError") n = pure y) (hq : Q y ⟨h, g, d, t, os⟩) :
    wpAny M A (typeLookup (.ref C) n) Q E ⟨h, g, d, t, os⟩ := by
  have hrest : lookupAlong bmV n = pure y := by rw [typeLookup_eq, F.attrBase_ValueError.mro] at hB; exact hB
  obtain ⟨N, nm, q, bs, hdct, sn, sub, ab, col, dd, k0, k1, k2, k3, k5, mN, hC, hN, hc⟩ := X.c
  rw [typeLookup_eq]
  refine wpAny_bind (wpAny_mroOf_exc hC ?_)
  rw [lookupAlong_cons]
  refine wpAny_bind (wpAny_classOwn_exc hC hN ?_)
  rw [hc n hn]
  exact lookupAlong_calm hn X.g hrest X.up hq
theorem lk_ve_class : typeLookup (.type "ValueError") "__class__" = pure (some (.builtin "object.__class__")) := by rw [typeLookup_type, builtinLookup_eq_fast]; kernel_rfl

theorem class_get_err {R : Result → Shared → Prop} (X : Err h C G up) (hx : h.get? a = some o) (hc : o.cls = .ref C) (hq : R (.ok (.ret (.ref C))) ⟨h, g, d, t, os⟩) :
    codeAny (model prog w) A (.call (.builtin "getset_descriptor.__get__") ⟨[.builtin "object.__class__", .ref a, .ref C], []⟩) R ⟨h, g, d, t, os⟩ := by
  have hT5 : (⟨h, g, d, t, os⟩ : Shared).TypeIs (.builtin "object.__class__") "getset_descriptor" := F.typeOf_object_class
  obtain ⟨N, nm, q, bs, hdct, sn, sub, ab, col, dd, k0, k1, k2, k3, k5, mN, hC, hN, hcal⟩ := X.c
  have hcB : (Value.ref C :: up).contains (.type (".".intercalate ("object.__class__".cutAt '.').dropLast)) = true := by
    rw [F.owner_object_class, List.contains_cons, X.has (by decide)]; rfl
  refine codeAny_call_builtin F.slot_gs_get.plain F.entry_gs_get (F.slot_gs_get.check _ _ _ _ _ _ _ _ hT5 (F.args_gs_get _ _ _) ?_)
  repeat (any_goals (first | assumption | (with_reducible refine wpAny_loadPart_at hx ?_; rw [hc]) | (with_reducible refine wpAny_isSubtype_exc hC ?_; rw [hcB]) | wp_step))
  refine ⟨Code.quiet_builtin _ (by decide +kernel), codeAny_builtin F.entry_object_class ?_⟩
  repeat (any_goals (first | assumption | (with_reducible refine wpAny_loadPart_at hx ?_; rw [hc]) | wp_step))

theorem class_entry_err {tk : Tok} {Q : Fin → Shared → Prop} (X : Err h C G up) (hx : h.get? a = some o) (hc : o.cls = .ref C) (hq : Q (.done (.ret (.ref C))) ⟨h, g, d, t, os⟩) :
    wpAny (model prog w) A (Builtin.«object.__getattribute__» ⟨[.ref a, .str "__class__" tk], []⟩) Q E ⟨h, g, d, t, os⟩ := by
  have hT5 : (⟨h, g, d, t, os⟩ : Shared).TypeIs (.builtin "object.__class__") "getset_descriptor" := F.typeOf_object_class
  have f5 := F.typeOf_object_class
  have f6 := F.slot_gs_get.lookup
  have f7 := F.slot_gs_set.lookup
  have hmA : ("__class__" : Str) ∈ calmNames := by decide
  repeat (any_goals (first | assumption | (with_reducible refine wpAny_loadPart_at hx ?_; rw [hc]) | with_reducible refine class_lookup_err hmA X lk_ve_class ?_ | wp_step))
  refine class_get_err X hx hc ?_
  repeat (any_goals (first | assumption | wp_step))

theorem class_by_err {tk : Tok} {Q : Value → Shared → Prop} (X : Err h C G up) (hx : h.get? a = some o) (hc : o.cls = .ref C) (hq : Q (.ref C) ⟨h, g, d, t, os⟩) : wpAny (model prog w) A (getAttrBy (.ref a) (.str "__class__" tk) false) Q E ⟨h, g, d, t, os⟩ := by
  have f3 := F.attrBase_ValueError.ga.bind (.ref a)
  have hx0 : (false && onTheHeap (Value.builtin "BaseException.__getattribute__")) = false := rfl
  have hx2 : (Value.builtin "BaseException.__getattribute__" == Value.builtin "object.__getattribute__") = false := by decide +kernel
  have hx1 : (onTheHeap (Value.ref C) && Value.builtin "BaseException.__getattribute__" == Value.builtin "object.__getattribute__") = false := by rw [hx2]; rfl
  have hm1 : ("__getattribute__" : Str) ∈ calmNames := by decide
  have hm2 : ("__getattr__" : Str) ∈ calmNames := by decide
  have hXc := X.c
  obtain ⟨N, nm, q, bs, hdct, sn, sub, ab, col, dd, k0, k1, k2, k3, k5, mN, hC, hN, hcal⟩ := hXc
  repeat (any_goals (first | assumption | (with_reducible refine wpAny_loadPart_at hx ?_; rw [hc]) | with_reducible refine class_lookup_err hm1 X F.attrBase_ValueError.ga.lookup ?_ | with_reducible refine class_lookup_err hm2 X F.attrBase_ValueError.noGetattr ?_ | wp_step))
  refine codeAny_call_builtin F.attrBase_ValueError.ga.plain F.entry_bexc_ga (wpAny_check_ga_own F.attrBase_ValueError hC X.tailQ hx hc (class_entry_err X hx hc ?_))
  repeat (any_goals (first | assumption | wp_step))

theorem class_attr_err {Q : Option Value → Shared → Prop} (X : Err h C G up) (hx : h.get? a = some o) (hc : o.cls = .ref C) (hq : Q (some (.ref C)) ⟨h, g, d, t + 1, os⟩) : wpAny (model prog w) A (getAttr? (.ref a) "__class__") Q E ⟨h, g, d, t, os⟩ := by
  unfold getAttr? getAttrBy?
  repeat (any_goals (first | assumption | with_reducible apply class_by_err X hx hc | wp_step))
end
end Mine

-- Core35
set_option linter.unusedVariables false
set_option linter.unusedSimpArgs false
set_option maxRecDepth 100000
namespace Mine
open PySem PySem.W PySem.Calls PyProof.Rows

/-! ## an error on its way through the frames -/
theorem heap_without (h : Heap) (l : List Addr) : ∃ B : Heap, ∀ a o, B.get? a = some o ↔ a ∉ l ∧ h.get? a = some o := by
  refine ⟨{ h with objs := h.objs.mapIdx fun i o => if i ∈ l then { o with data := .freed } else o }, fun a o => ?_⟩
  rw [Heap.get?_some_iff, Heap.get?_some_iff]
  simp only [Array.getElem?_mapIdx]
  by_cases ha : a ∈ l
  · simp only [ha, if_true, not_true_eq_false, false_and, iff_false]
    rintro ⟨h1, h2⟩
    obtain ⟨x, hx, e⟩ := Option.map_eq_some_iff.mp h1
    subst e
    cases h2
  · simp [ha]

def fadr (fs : List Env) : List Addr := fs.map (·.locals)
def lo (P : PH) (fs : List Env) : PH := fun a => if a ∈ fadr fs then none else P a
theorem lo_some {P : PH} {fs : List Env} {a : Addr} {o : Obj} (h : lo P fs a = some o) : a ∉ fadr fs ∧ P a = some o := by
  unfold lo at h
  split at h
  · cases h
  · rename_i z; exact ⟨z, h⟩
theorem lo_of {P : PH} {fs : List Env} {a : Addr} {o : Obj} (h1 : a ∉ fadr fs) (h2 : P a = some o) : lo P fs a = some o := by unfold lo; rw [if_neg h1]; exact h2
structure FrsOk (cx : Cx) (fs : List Env) (P : PH) : Prop where
  ok : ∀ env ∈ fs, env.scope.kind = .function ∧ env.frame = some env.locals ∧ cx.base.get? env.locals = none ∧ ∃ o es ep, P env.locals = some o ∧ o.data = .dict es ep
def Kept (fs : List Env) (P : PH) (h : Heap) : Prop := ∀ env ∈ fs, ∀ o, P env.locals = some o → ∃ sl, h.get? env.locals = some { o with slots := sl }
structure Thr (cx : Cx) (fs : List Env) (P : PH) (H : Hp) (C e : Addr) (h : Heap) : Prop where
  ex : ∃ B a0, Heap.FlyingW B fs e (.ref C) a0 h ∧ Rep cx (lo P fs) H B ∧ Kept fs P h
theorem FrsOk.off {cx : Cx} {fs : List Env} {P : PH} (x : FrsOk cx fs P) {a : Addr} {o : Obj} (h : cx.base.get? a = some o) : a ∉ fadr fs := fun hm => by
  obtain ⟨env, he, rfl⟩ := List.mem_map.mp hm
  rw [(x.ok env he).2.2.1] at h; cases h
theorem funFrames_of {h B : Heap} : ∀ {l : List Env}, (∀ env ∈ l, env.scope.kind = .function ∧ ∃ L o, env.frame = some L ∧ B.get? L = none ∧ h.get? L = some o ∧ ∀ vs, o.data ≠ .fields vs) → h.FunFrames B l
  | [], _ => trivial
  | env :: l, x => ⟨by rw [(x env (List.mem_cons_self ..)).1]; decide, (x env (List.mem_cons_self ..)).2, funFrames_of fun e he => x e (List.mem_cons_of_mem _ he)⟩
theorem none_of_iff {B h : Heap} {l : List Addr} (hB : ∀ a o, B.get? a = some o ↔ a ∉ l ∧ h.get? a = some o) {a : Addr} (ha : a ∈ l) : B.get? a = none := by
  cases q : B.get? a with
  | none => rfl
  | some o => exact absurd ha ((hB a o).mp q).1
theorem not_fields_of_dict {o : Obj} {es ep} (hd : o.data = .dict es ep) : ∀ vs, o.data ≠ .fields vs := fun vs q => by rw [hd] at q; cases q

section
variable {cx : Cx} {sc : Scope} {loc : Loc} {H : Hp} {P : PH} {env : Env} {fs : List Env} {C e : Addr} {A : Around} {s : Shared}
theorem leaves_made {h : Heap} {args : List Value} {Q : Unit → Shared → Prop} {E : Value → Shared → Prop} {M : Model} (he : EnvOk sc env) (hfr : A.frames = some (env :: fs)) (hf : env.frame = some env.locals) (F : FrameOwn env loc P H h) (R : Rep cx P H h) (Fs : FrsOk cx fs P)
    (hm : Heap.MadeExcOf h s.heap e (.ref C) args) (hq : ∀ h', Thr cx fs P H C e h' → Q () { s with heap := h' }) : wpAny M A (leaving env (.ref e)) Q E s := by
  obtain ⟨B, hB⟩ := heap_without h (fadr (env :: fs))
  obtain ⟨m, ⟨oL, es, ep, hoL, hdL, _⟩, _⟩ := F.at_.ns
  have hin : ∀ env' ∈ fs, env'.locals ∈ fadr (env :: fs) := fun env' h' => List.mem_map.mpr ⟨env', List.mem_cons_of_mem _ h', rfl⟩
  refine wpAny_leaves_madeW (base := B) hfr hf (fun b o q => ((hB b o).mp q).2) (funFrames_of fun env' h' => ?_) hm fun h' t hfl _ _ up => hq h' ⟨B, _, hfl, ⟨fun a o q => ?_, fun a o q => ?_, fun a o q => ?_, fun a o O q q' => ?_, R.scr⟩, fun env' h'' o ho => ?_⟩
  · rcases List.mem_cons.mp h' with rfl | h'
    · exact ⟨he.kind, _, oL, hf, none_of_iff hB (by simp [fadr]), hoL, not_fields_of_dict hdL⟩
    · obtain ⟨k1, k2, k3, o, es', ep', k4, k5⟩ := Fs.ok env' h'
      exact ⟨k1, _, o, k2, none_of_iff hB (hin _ h'), R.ext _ _ k4, not_fields_of_dict k5⟩
  · exact lo_of (Fs.off q) (R.base a o q)
  · obtain ⟨q1, q2⟩ := lo_some q
    refine (hB a o).mpr ⟨fun z => ?_, R.ext a o q2⟩
    rcases List.mem_cons.mp (show a ∈ env.locals :: fadr fs from z) with z | z
    · rw [z, F.locP] at q2; cases q2
    · exact q1 z
  · obtain ⟨O, hO, r⟩ := R.obj a o q
    refine ⟨O, (hB a O).mpr ⟨fun z => ?_, hO⟩, r⟩
    rcases List.mem_cons.mp (show a ∈ env.locals :: fadr fs from z) with z | z
    · rw [z, F.offH _ (.inl rfl)] at q; cases q
    · obtain ⟨env', h', rfl⟩ := List.mem_map.mp z
      obtain ⟨k1, k2, k3, o', es', ep', k4, k5⟩ := Fs.ok env' h'
      have := R.sep _ _ _ q k4
      obtain ⟨os, hos⟩ := cx.scriptIn
      rw [this, hos] at k3; cases k3
  · exact R.sep a o O q (lo_some q').2
  · obtain ⟨k1, k2, k3, o', es', ep', k4, k5⟩ := Fs.ok env' h''
    rw [k4] at ho; cases ho
    exact up _ _ (hm.keeps _ _ (R.ext _ _ k4)) (not_fields_of_dict k5)

theorem off_fp {h₀ : Heap} {H₀ : Hp} (F : FrameOwn env loc P H₀ h₀) {a : Addr} {o : Obj} (q : P a = some o) : ¬ fp env a := by
  rintro (z | ⟨x, z⟩)
  · rw [z, F.locP] at q; cases q
  · rw [F.cellP x a trivial z] at q; cases q
theorem aside_of {h₀ : Heap} {H₀ : Hp} (F : FrameOwn env loc P H₀ h₀) {a : Addr} {o : Obj} (q : P a = some o) : aside P env h₀ a = some o := by
  unfold aside; rw [if_neg (off_fp F q)]; exact q
theorem rep_back {h₀ B : Heap} {H₀ : Hp} (F : FrameOwn env loc P H₀ h₀) (R₀ : Rep cx P H₀ h₀) (Fs : FrsOk cx fs P) (R : Rep cx (lo (aside P env h₀) (env :: fs)) H B) : Rep cx (lo P fs) H B := by
  have up : ∀ a o, lo P fs a = some o → lo (aside P env h₀) (env :: fs) a = some o := fun a o q => by
    obtain ⟨q1, q2⟩ := lo_some q
    refine lo_of (fun z => ?_) (aside_of F q2)
    rcases List.mem_cons.mp (show a ∈ env.locals :: fadr fs from z) with z | z
    · rw [z, F.locP] at q2; cases q2
    · exact q1 z
  exact ⟨fun a o q => lo_of (Fs.off q) (R₀.base a o q), fun a o q => R.ext a o (up a o q), R.obj, fun a o O q q' => R.sep a o O q (up a O q'), R.scr⟩

/-- an error that came into this frame from a call -/
def ThrAt (cx : Cx) (env : Env) (fs : List Env) (P : PH) (H : Hp) (C e : Addr) (h : Heap) : Prop :=
  ∃ loc₀ H₀ h₀, FrameOwn env loc₀ P H₀ h₀ ∧ Rep cx P H₀ h₀ ∧ Thr cx (env :: fs) (aside P env h₀) H C e h
theorem leaves_thr {Q : Unit → Shared → Prop} {E : Value → Shared → Prop} {M : Model} (hfr : A.frames = some (env :: fs)) (hf : env.frame = some env.locals) (Fs : FrsOk cx fs P)
    (ht : ThrAt cx env fs P H C e s.heap) (hq : ∀ h', Thr cx fs P H C e h' → Q () { s with heap := h' }) : wpAny M A (leaving env (.ref e)) Q E s := by
  obtain ⟨loc₀, H₀, h₀, F, R₀, B, a0, hfl, R, K⟩ := ht
  refine wpAny_leaves_onW hfr hf hfl fun h' hfl' up => hq h' ⟨B, a0, hfl', rep_back F R₀ Fs R, fun env' h'' o ho => ?_⟩
  obtain ⟨sl, hsl⟩ := K env' (List.mem_cons_of_mem _ h'') o (aside_of F ho)
  obtain ⟨k1, k2, k3, o', es', ep', k4, k5⟩ := Fs.ok env' h''
  rw [k4] at ho; cases ho
  obtain ⟨sl', hsl'⟩ := up _ _ hsl (not_fields_of_dict (es := es') (ep := ep') k5)
  exact ⟨sl', hsl'⟩
end

def Lv (cx : Cx) (env : Env) (fs : List Env) (P : PH) (H : Hp) (C e : Addr) (s : Shared) : Prop :=
  ∀ (A : Around) (Q : Unit → Shared → Prop) (E : Value → Shared → Prop), A.frames = some (env :: fs) → (∀ h', Thr cx fs P H C e h' → Q () { s with heap := h' }) → wpAny (model cx.prog cx.w) A (leaving env (.ref e)) Q E s
structure TopF (A : Around) (env : Env) (fs : List Env) : Prop where
  frames : A.frames = some (env :: fs)
  here : env.frame = some env.locals
/-- a call that raises an error of the class C -/
def CR (cx : Cx) (d : Nat) (V : Value) (args : List AV) (H : Hp) (C : Addr) (K : Hp → Prop) : Prop :=
  ∀ (A : Around) (P : PH) (s : Shared) (E : Value → Shared → Prop) (Q' : Value → Shared → Prop) (vs : List Value) (fs : List Env), Room d A → A.frames = some fs → FrsOk cx fs P → Rep cx P H s.heap → VRs args vs →
    (∀ e H' h' tk, K H' → Thr cx fs P H' C e h' → E (.ref e) { s with heap := h', toks := tk }) → wpAny (model cx.prog cx.w) A (call V vs) Q' E s
def EVr (cx : Cx) (d : Nat) (sc : Scope) (loc : Loc) (x : Expr) (H : Hp) (C : Addr) (K : Hp → Prop) : Prop :=
  ∀ (env : Env) (A : Around) (P : PH) (s : Shared) (E : Value → Shared → Prop) (Q' : Value → Shared → Prop) (fs : List Env), EnvOk sc env → FrameOwn env loc P H s.heap → Room d A → TopF A env fs → FrsOk cx fs P → Rep cx P H s.heap →
    (∀ e H' h' tk, K H' → ThrAt cx env fs P H' C e h' → E (.ref e) { s with heap := h', toks := tk }) → wpAny (model cx.prog cx.w) A (eval x env) Q' E s
def EX1r (cx : Cx) (d : Nat) (sc : Scope) (loc : Loc) (st : Stmt) (H : Hp) (C : Addr) (K : Hp → Prop) : Prop :=
  ∀ (env : Env) (A : Around) (P : PH) (s : Shared) (E : Value → Shared → Prop) (Q' : Flow → Shared → Prop) (fs : List Env), EnvOk sc env → FrameOwn env loc P H s.heap → Room d A → TopF A env fs → FrsOk cx fs P → Rep cx P H s.heap →
    (∀ e H' h' tk, K H' → Lv cx env fs P H' C e { s with heap := h', toks := tk } → E (.ref e) { s with heap := h', toks := tk }) → wpAny (model cx.prog cx.w) A (exec st env) Q' E s
def EXr (cx : Cx) (d : Nat) (sc : Scope) (loc : Loc) (ss : List Stmt) (H : Hp) (C : Addr) (K : Hp → Prop) : Prop :=
  ∀ (env : Env) (A : Around) (P : PH) (s : Shared) (E : Value → Shared → Prop) (Q' : Flow → Shared → Prop) (fs : List Env), EnvOk sc env → FrameOwn env loc P H s.heap → Room d A → TopF A env fs → FrsOk cx fs P → Rep cx P H s.heap →
    (∀ e H' h' tk, K H' → Lv cx env fs P H' C e { s with heap := h', toks := tk } → E (.ref e) { s with heap := h', toks := tk }) → wpAny (model cx.prog cx.w) A (execs ss env) Q' E s
section
variable {cx : Cx} {d : Nat} {sc : Scope} {loc : Loc} {H : Hp} {C : Addr} {K : Hp → Prop}
def thenR (cx : Cx) (d : Nat) (sc : Scope) (rest : List Stmt) (C : Addr) (K : Hp → Prop) : AF → Loc → Hp → Prop
  | .next, loc, H => EXr cx d sc loc rest H C K
  | _, _, _ => False
theorem thenR_at {rest : List Stmt} (h : EXr cx d sc loc rest H C K) : thenR cx d sc rest C K .next loc H := h
theorem EXr_next {st : Stmt} {rest : List Stmt} (h : EX1 cx d sc loc st H (thenR cx d sc rest C K)) : EXr cx d sc loc (st :: rest) H C K := by
  intro env A P s E Q' fs he F hA hT Fs R k
  refine wpAny_execs_cons (h env A P s E _ he F hA R fun f Fl loc' H' h' tk q hf F' R' => ?_)
  cases f with
  | next => cases hf; exact q env A P _ E Q' fs he F' hA hT Fs R' fun e H₂ h₂ tk₂ => k e H₂ h₂ tk₂
  | brk => exact q.elim
  | cont => exact q.elim
  | ret v => exact q.elim
theorem EXr_here {st : Stmt} {rest : List Stmt} (h : EX1r cx d sc loc st H C K) : EXr cx d sc loc (st :: rest) H C K := by
  intro env A P s E Q' fs he F hA hT Fs R k
  exact wpAny_execs_cons (h env A P s E _ fs he F hA hT Fs R k)
theorem EX1r_If {t : Expr} {b o : List Stmt} {pos : Pos} (h : TV cx d sc loc t H fun c H' => if c = true then EXr cx d sc loc b H' C K else EXr cx d sc loc o H' C K) : EX1r cx d sc loc (.If t b o pos) H C K := by
  intro env A P s E Q' fs he F hA hT Fs R k
  refine wpAny_If (h.here he F hA R fun c H' h' tk q F' R' => ?_)
  cases c with
  | true => simp only [if_true] at q ⊢; exact q env A P _ E Q' fs he F' hA hT Fs R' fun e H₂ h₂ tk₂ => k e H₂ h₂ tk₂
  | false => simp only [Bool.false_eq_true, if_false] at q ⊢; exact q env A P _ E Q' fs he F' hA hT Fs R' fun e H₂ h₂ tk₂ => k e H₂ h₂ tk₂
theorem lv_of {env : Env} {fs : List Env} {P : PH} {e : Addr} {s : Shared} {A : Around} (hT : TopF A env fs) (Fs : FrsOk cx fs P) (ht : ThrAt cx env fs P H C e s.heap) : Lv cx env fs P H C e s :=
  fun A' Q E hfr hq => leaves_thr hfr hT.here Fs ht hq
theorem EX1r_Expr {x : Expr} {pos : Pos} (h : EVr cx d sc loc x H C K) (hs : ∀ env, swapsWith x none pos.line env = pure false := by intro _; rfl) : EX1r cx d sc loc (.Expr x pos) H C K := by
  intro env A P s E Q' fs he F hA hT Fs R k
  exact wpAny_Expr_any (h env A P s E _ fs he F hA hT Fs R fun e H' h' tk q ht => k e H' h' tk q (lv_of hT Fs ht)) (by unfold interactive; rw [he.kind]; rfl) (hs env)
theorem EX1r_Assign {x : Str} {px pos : Pos} {e : Expr} (h : EVr cx d sc loc e H C K) (hs : ∀ env, swapsWith e (some (.Name x px)) pos.line env = pure false := by intro _; rfl) : EX1r cx d sc loc (.Assign [.Name x px] e pos) H C K := by
  intro env A P s E Q' fs he F hA hT Fs R k
  exact wpAny_Assign_Name (h env A P s E _ fs he F hA hT Fs R fun e H' h' tk q ht => k e H' h' tk q (lv_of hT Fs ht)) (hs env)
theorem frs_cons {env : Env} {fs : List Env} {P : PH} {h : Heap} {A : Around} (he : EnvOk sc env) (F : FrameOwn env loc P H h) (hT : TopF A env fs) (Fs : FrsOk cx fs P) (R : Rep cx P H h) : FrsOk cx (env :: fs) (aside P env h) := by
  refine ⟨fun env' h' => ?_⟩
  rcases List.mem_cons.mp h' with rfl | h'
  · obtain ⟨m, ⟨oL, es, ep, hoL, hdL, _⟩, _⟩ := F.at_.ns
    refine ⟨he.kind, hT.here, ?_, oL, es, ep, by unfold aside; rw [if_pos (.inl rfl)]; exact hoL, hdL⟩
    cases q : cx.base.get? env'.locals with
    | none => rfl
    | some o => have := R.base _ _ q; rw [F.locP] at this; cases this
  · obtain ⟨k1, k2, k3, o', es', ep', k4, k5⟩ := Fs.ok env' h'
    exact ⟨k1, k2, k3, o', es', ep', aside_of F k4, k5⟩
theorem EVr_Call {f : Str} {fa : Addr} {fd : FuncData} {e : Expr} {r : List Expr} {p pos : Pos} (hf : IsFn cx f fa fd) (q : EVs cx d sc loc (e :: r) H fun vs H₁ => CR cx d (.ref fa) vs H₁ C K)
    (hx : globalName sc f = true) (hn : (e :: r).all notStar = true) : EVr cx d sc loc (.Call (.Name f p) (e :: r) [] pos) H C K := by
  intro env A P s E Q' fs he F hA hT Fs R k
  refine callName_raw hf q he (aside_frame F) hA (aside_rep F R) (fun vs Vs H' h' tk q' hvs R' => ?_) hx hn
  obtain ⟨F₂, R₂⟩ := aside_back F R R'
  refine q' A (aside P env h') { s with heap := h', toks := tk } E Q' Vs (env :: fs) hA hT.frames (frs_cons he F₂ hT Fs R₂) (aside_rep F₂ R₂) hvs fun e₁ H₁ h₁ tk₁ q₁ ht => k e₁ H₁ h₁ tk₁ q₁ ⟨_, _, _, F₂, R₂, ht⟩
theorem EVr_CallD {D : FDef} {f : Str} {fa : Addr} {e : Expr} {r : List Expr} {p pos : Pos} (hf : HasDef cx D fa) (q : EVs cx d sc loc (e :: r) H fun vs H₁ => CR cx d (.ref fa) vs H₁ C K)
    (hn : D.name = f := by rfl) (hx : globalName sc f = true := by rfl) (hns : (e :: r).all notStar = true := by rfl) : EVr cx d sc loc (.Call (.Name f p) (e :: r) [] pos) H C K := by
  obtain ⟨pm, code, doc, hf⟩ := hf
  subst hn
  exact EVr_Call hf q hx hns

theorem EX1r_Raise {x : Str} {t : Str} {k : Nat} {np cp cpos pos : Pos} {G : Addr} {up : List Value} (X : Err cx.base C G up) (hg : cx.mg x = some (.ref C)) (hK : K H) (hx : globalName sc x = true := by rfl) :
    EX1r cx d sc loc (.Raise (some (.Call (.Name x np) [.Constant (.str t) k cp] [] cpos)) none pos) H C K := by
  intro env A P s E Q' fs he F hA hT Fs R kk
  obtain ⟨N, nm, q, bs, hdct, sn, sub, ab, col, dd, k0, k1, k2, k3, k5, mN, hC, hN, hcalm⟩ := X.c
  have hT' := X.tailQ.tail
  refine wpAny_Raise_call_subU (C := C) (nm := nm) (q := q) (N := N) (bs := bs) (bm := up) (hdct := hdct) (sn := sn) (sub := sub) (ab := ab) (col := col) (dd := dd) (k0 := k0) (k1 := k1) (k2 := k2) (k3 := k3) (k5 := k5)
    PySem.F.excBase_ValueError (by decide) PySem.F.excBase_ValueError (mN := mN) (hT'.hasType PySem.F.excBase_ValueError.hasBase) hA.handled rfl (hcalm _ (by decide)) (load_global he R hx hg ⟨rfl, ?_⟩)
  have hs := EVs.sound (cx := cx) (d := d) (sc := sc) (loc := loc) (es := [.Constant (.str t) k cp]) (H := H) (QL := fun vs H' => H' = H ∧ vs = [.str t]) (env := env) (A := A) (P := aside P env s.heap) (s := s) (E := E) (pos := cpos)
    (EV_str ⟨rfl, rfl⟩) rfl he (aside_frame F) hA (aside_rep F R) (Q' := fun vs s₂ => vs.length ≤ sizeLine ∧ ∃ h₂ tk₂, s₂ = { s with heap := h₂, toks := tk₂ } ∧ FrameOwn env loc P H h₂ ∧ Rep cx P H h₂)
    (fun vs Vs H' h' tk q' hvs R' => by
      obtain ⟨rfl, rfl⟩ := q'
      obtain ⟨F₂, R₂⟩ := aside_back F R R'
      refine ⟨?_, h', tk, rfl, F₂, R₂⟩
      rw [← hvs.length]; (show 1 ≤ sizeLine); decide)
  rw [starEach_cons (by rfl)] at hs ⊢
  refine Calls.evalArgs_plain (wpAny_mono hs (fun vs s₂ h₂ => ?_) fun _ _ y => y)
  obtain ⟨hl, h₂, tk₂, rfl, F₂, R₂⟩ := h₂
  refine ⟨rfl, hl, R₂.keeps _ _ hC, hN.keeps R₂.keeps, hT'.keeps R₂.keeps, fun h' e hm => ?_⟩
  exact kk e H h' tk₂ hK fun A' Q E hfr hq => leaves_made he hfr hT.here F₂ R₂ Fs hm hq
end
end Mine

-- Core36
set_option linter.unusedVariables false
set_option linter.unusedSimpArgs false
set_option maxRecDepth 100000
namespace Mine
open PySem PySem.W PySem.Calls PyProof.Rows

section
variable {cx : Cx} {d : Nat} {H : Hp}
theorem enter_def {f : Str} {fa : Addr} {fd : FuncData} {body : List Stmt} {names : List Str} {args : List AV} {A : Around} {P : PH} {s : Shared} {E : Value → Shared → Prop} {Q' : Value → Shared → Prop} {vs : List Value} (hf : IsFn cx f fa fd) (hb : fd.body = .stmts body) (hc : fd.closure = [])
    (hbind : ∀ vs : List Value, vs.length = args.length → bindArgs fd ⟨vs, []⟩ = pure (names.zip vs)) (hnm : names.all (storable fd.scope) = true)
    (hgl : fd.globals = mainGlobals) (hbl : fd.builtins = builtinsNs) (hnf : fd.scope.names.all (fun y => y.2 != .free) = true)
    (hco : fd.scope.isCoroutine = false) (hgen : fd.scope.isGenerator = false) (hk : fd.scope.kind = .function) (hA : Room (d + 1) A) (R : Rep cx P H s.heap) (hvs : VRs args vs)
    (h : ∀ env h₁ tk₁, EnvOk fd.scope env → FrameOwn env (bindA (names.zip args) fun _ => none) P H h₁ → Room d (A.deeper env) → env.frame = some env.locals → Rep cx P H h₁ →
      wpAny (model cx.prog cx.w) (A.deeper env) (execs body env) (fun f s' => Q' (match f with | .ret v => v | _ => .none) s') (fun e s' => wpAny (model cx.prog cx.w) (A.deeper env) (leaving env e) (fun _ s'' => E e s'') (fun e' s'' => E e' s'') s') { s with heap := h₁, toks := tk₁ }) :
    wpAny (model cx.prog cx.w) A (call (.ref fa) vs) Q' E s := by
  obtain ⟨o, ho, hd⟩ := hf.o
  have hroom : A.depth < recursionLimit := Nat.lt_of_le_of_lt (Nat.le_add_right _ _) hA.depth
  refine wpAny_call (codeAny_call_cells (fd := fd) (body := body) (binds := names.zip vs) hroom (R.keeps _ _ ho) hd (cx.nolimit.keeps R.keeps) (hf.code.keeps R.keeps) hb (hbind vs hvs.length.symm) hc ?_ ?_ hco hgen hk)
  · intro x hx
    have hx1 : x.1 ∈ names := (List.of_mem_zip hx).1
    have := (storable_of (List.all_eq_true.mp hnm x.1 hx1)).1
    exact this.imp id fun e => ⟨e, cells_some _ _ _ (.inl e)⟩
  · intro s₁ X
    obtain ⟨h₁, tk₁, rfl⟩ := X.toInCall.same
    have hup := X.toInCall.keep
    have R₁ : Rep cx P H h₁ := R.grow hup
    have big : ∀ a, fp (callEnvC fd s.heap.objs.size fa) a → s.heap.objs.size ≤ a := by
      intro a ha
      rcases ha with rfl | ⟨x, hm⟩
      · exact Nat.le_refl _
      · exact Nat.le_of_lt (X.above x a (mem_of_lookup hm))
    have none_of : ∀ a, s.heap.objs.size ≤ a → s.heap.get? a = none := fun a ha => by
      cases q : s.heap.get? a with
      | none => rfl
      | some o => exact absurd (Heap.lt_size q) (Nat.not_lt.mpr ha)
    have bf := bind_frame (kd := (callEnvC fd s.heap.objs.size fa).kindOf) names args vs (fun _ => none) (fun _ => none) (fun _ => none) hvs (fun _ _ e => by cases e) (fun _ _ e => by cases e)
    have hdom : ∀ x v, bindA (names.zip args) (fun _ => none) x = some v → storable fd.scope x = true := fun x v hx => by
      rcases bindA_dom names args _ x v hx with hm | e
      · exact List.all_eq_true.mp hnm x hm
      · cases e
    have offP : ∀ a, fp (callEnvC fd s.heap.objs.size fa) a → P a = none := fun a ha => (R.fresh (none_of a (big a ha))).1
    have F : FrameOwn (callEnvC fd s.heap.objs.size fa) (bindA (names.zip args) fun _ => none) P H h₁ := by
      refine ⟨⟨⟨_, X.toInCall.ns, bf.1⟩, fun x v hx hc' => ?_, fun x v hx => ?_, fun x c hm => ?_⟩, fun x hx => cells_some _ _ _ (.inl hx), X.apart, fun x c hm => Nat.ne_of_gt (X.above x c hm), offP _ (.inl rfl), fun x c _ hc => offP c (.inr ⟨x, hc⟩), fun a ha => (R.fresh (none_of a (big a ha))).2⟩
      · have hnl : (callEnvC fd s.heap.objs.size fa).kindOf x ≠ some .local := by rcases hc' with e | e <;> rw [e] <;> simp
        have hcell : (callEnvC fd s.heap.objs.size fa).kindOf x = some .cell := (storable_of (hdom x v hx)).1.elim (fun e => absurd e hnl) id
        obtain ⟨c, hcl⟩ := Option.isSome_iff_exists.mp (cells_some fd.scope.names (s.heap.objs.size + 1) [] (.inl hcell))
        obtain ⟨V, hV, hv⟩ := bf.2 x v hx hnl
        have hcc := X.cell x c hcl
        rw [hV] at hcc
        exact ⟨c, V, hcl, hcc, hv⟩
      · obtain ⟨hk', hp⟩ := storable_of (hdom x v hx)
        exact ⟨hk'.imp id .inl, hp⟩
      · exact ⟨_, X.cell x c hm⟩
    have hA' : Room d (A.deeper (callEnvC fd s.heap.objs.size fa)) := ⟨hA.handled, by have := hA.depth; show A.depth + 1 + d < recursionLimit; omega, by have := hA.units; show A.units + 3 + 8 * d < cLine; omega⟩
    have hnofree : ∀ x, fd.scope.names.lookup x ≠ some .free := fun x e => by
      have := List.all_eq_true.mp hnf _ (mem_of_lookup e)
      simp at this
    exact h _ h₁ tk₁ ⟨rfl, hk, hgl, hbl, X.apart, fun x hx => cells_some _ _ _ (.inl (hx.elim id fun e => absurd e (hnofree x)))⟩ F hA' rfl R₁

theorem CR_fn {D : FDef} {fa : Addr} {args : List AV} {C : Addr} {K : Hp → Prop} (hf : HasDef cx D fa)
    (hbind : ∀ (pm code doc : Value) (vs : List Value), vs.length = args.length → bindArgs (docDef D.name D.params D.body D.scope pm code doc) ⟨vs, []⟩ = pure (D.names.zip vs))
    (h : EXr cx d D.scope (bindA (D.names.zip args) fun _ => none) D.body H C K)
    (hnm : D.names.all (storable D.scope) = true := by rfl) (hnf : D.scope.names.all (fun y => y.2 != .free) = true := by rfl)
    (hco : D.scope.isCoroutine = false := by rfl) (hgen : D.scope.isGenerator = false := by rfl) (hk : D.scope.kind = .function := by rfl) : CR cx (d + 1) (.ref fa) args H C K := by
  obtain ⟨pm, code, doc, hf⟩ := hf
  intro A P s E Q' vs fs hA hfr Fs R hvs k
  refine enter_def hf rfl rfl (hbind pm code doc) hnm rfl rfl hnf hco hgen hk hA R hvs fun env h₁ tk₁ he F hA' hhere R₁ => ?_
  have hfr' : (A.deeper env).frames = some (env :: fs) := by show A.frames.map _ = _; rw [hfr]; rfl
  exact h env _ P _ _ _ fs he F hA' ⟨hfr', hhere⟩ Fs R₁ fun e H' h' tk q hL => hL _ _ _ hfr' fun h'' ht => k e H' h'' tk q ht
theorem CR.le {V : Value} {args : List AV} {C : Addr} {K : Hp → Prop} {d' : Nat} (h : CR cx d' V args H C K) (hd : d' ≤ d) : CR cx d V args H C K :=
  fun A P s E Q' vs fs hA hfr Fs R hvs k => h A P s E Q' vs fs ⟨hA.handled, by have := hA.depth; omega, by have := hA.units; omega⟩ hfr Fs R hvs k

/-! ## behind the catch -/
theorem frame_back {loc : Loc} {H₀ : Hp} {P : PH} {env : Env} {fs : List Env} {h₀ B h : Heap} (F : FrameOwn env loc P H₀ h₀) (R₀ : Rep cx P H₀ h₀) (Fs : FrsOk cx fs P) (RB : Rep cx (lo (aside P env h₀) (env :: fs)) H B) (hB : B.StaysIn h)
    (KB : Kept (env :: fs) (aside P env h₀) h) (hH : H env.locals = none) : FrameOwn env loc (lo P fs) H h := by
  have loN : ∀ a, P a = none → lo P fs a = none := fun a e => by unfold lo; split <;> first | rfl | exact e
  have cellIn : ∀ x c o, env.cells.lookup x = some c → h₀.get? c = some o → lo (aside P env h₀) (env :: fs) c = some o := fun x c o hc ho => by
    refine lo_of (fun z => ?_) (by unfold aside; rw [if_pos (.inr ⟨x, hc⟩)]; exact ho)
    rcases List.mem_cons.mp (show c ∈ env.locals :: fadr fs from z) with z | z
    · exact F.cellNe x c (mem_of_lookup hc) z
    · obtain ⟨env', h', rfl⟩ := List.mem_map.mp z
      obtain ⟨k1, k2, k3, o', es', ep', k4, k5⟩ := Fs.ok env' h'
      rw [F.cellP x _ trivial hc] at k4; cases k4
  have cellKeep : ∀ x c o, env.cells.lookup x = some c → h₀.get? c = some o → h.get? c = some o := fun x c o hc ho => hB _ _ (RB.ext _ _ (cellIn x c o hc ho))
  refine ⟨⟨?_, fun x v hx hk => ?_, F.at_.dom, fun x c hm => ?_⟩, F.cellHas, F.apart, F.cellNe, loN _ F.locP, fun x c _ hc => loN _ (F.cellP x c trivial hc), fun a ha => ?_⟩
  · obtain ⟨m, ⟨o, es, ep, ho, hd, hr⟩, hm⟩ := F.at_.ns
    obtain ⟨sl, hs⟩ := KB env (List.mem_cons_self ..) o (by unfold aside; rw [if_pos (.inl rfl)]; exact ho)
    exact ⟨m, ⟨_, es, ep, hs, hd, hr⟩, hm⟩
  · obtain ⟨c, V, hc, ⟨o, ho, hd⟩, hr⟩ := F.at_.cells x v hx hk
    exact ⟨c, V, hc, ⟨o, cellKeep x c o hc ho, hd⟩, hr⟩
  · obtain ⟨ov, o, ho, hd⟩ := F.at_.cellOk x c hm
    exact ⟨ov, o, cellKeep x c o hm ho, hd⟩
  · rcases ha with rfl | ⟨x, hc⟩
    · exact hH
    · cases q : H a with
      | none => rfl
      | some o =>
        obtain ⟨O, hO⟩ := F.live a (.inr ⟨x, hc⟩)
        have := RB.sep _ _ _ q (cellIn x a O hc hO)
        obtain ⟨os, hos⟩ := cx.scriptIn
        have hP := R₀.base _ _ hos
        rw [← this, F.cellP x a trivial hc] at hP; cases hP
theorem lo_nil (P : PH) : lo P [] = P := by funext a; simp [lo, fadr]
end

section
variable {prog : Program} {w : World} {A : Around} {E : Value → Shared → Prop} {s : Shared} {env : Env}
theorem excMatches_up {M : Model} {h : Heap} {g : Array GenState} {d : Drawn} {t : Nat} {os : OsState} {e C G : Addr} {oe : Obj} {Q : Bool → Shared → Prop} (X : Err h C G (.ref G :: bmV)) (he : h.get? e = some oe) (hcls : oe.cls = .ref C) (hq : Q true ⟨h, g, d, t, os⟩) :
    wpAny M A (excMatches (.ref e) (.ref G)) Q E ⟨h, g, d, t, os⟩ := by
  obtain ⟨N, nm, q, bs, hdct, sn, sub, ab, col, dd, k0, k1, k2, k3, k5, mN, hC, hN, hcalm⟩ := X.c
  obtain ⟨N', nm', q', bs', hdct', sn', sub', ab', col', dd', k0', k1', k2', k3', k5', mN', hG, hN', hcalm'⟩ := X.g
  have hcB : (Value.ref G :: bmV).contains (.type "BaseException") = true := by rw [List.contains_cons, show bmV.contains (.type "BaseException") = true from by decide, Bool.or_true]
  have hcC : (Value.ref C :: .ref G :: bmV).contains (.ref G) = true := by simp
  have f := tc_notTuple
  unfold excMatches
  repeat (first | (with_reducible refine wpAny_loadPart_at he ?_; rw [hcls]) | with_reducible refine wpAny_loadPart_at hG ?_ | (with_reducible refine wpAny_isSubtype_exc hG ?_; rw [hcB]) | (with_reducible refine wpAny_isSubtype_exc hC ?_; rw [hcC]) | wp_step)
  exact hq

theorem handleBy_up {e C G : Addr} {t : Expr} {n : Str} {b₀ : Stmt} {suite : List Stmt} {pos : Pos} {rest : List ExceptHandler} {Q : Flow → Shared → Prop}
    (h : wpAny (model prog w) (A.mark (some (.ref e))) (eval t env) (fun c s₁ => c = .ref G ∧ Err s₁.heap C G (.ref G :: bmV) ∧ (∃ oe, s₁.heap.get? e = some oe ∧ oe.cls = .ref C) ∧
      wpAny (model prog w) (A.mark (some (.ref e))) (setFlight (.ref e) none) (fun _ s₂ =>
          wpAny (model prog w) (A.mark (some (.ref e))) (storeName env n (.ref e)) (fun _ s₃ =>
            wpAny (model prog w) (A.mark (some (.ref e))) (execs (b₀ :: suite) env)
              (fun f s₄ => wpAny (model prog w) A (do bindName env n .none; unbindBehindTheSuite env n pos) (fun _ s₅ => Q f s₅) E s₄)
              (AsSuiteRaised (model prog w) (A.mark (some (.ref e))) env n pos (notedBy (model prog w) (A.mark (some (.ref e))) env (cameBackBy (model prog w) A env E))) s₃) (notedBy (model prog w) (A.mark (some (.ref e))) env (cameBackBy (model prog w) A env E)) s₂) (notedBy (model prog w) (A.mark (some (.ref e))) env (cameBackBy (model prog w) A env E)) s₁) (notedBy (model prog w) (A.mark (some (.ref e))) env (cameBackBy (model prog w) A env E)) s) :
    wpAny (model prog w) A (handleBy (.ref e) env (.ExceptHandler (some t) (some n) (b₀ :: suite) pos :: rest)) Q E s := by
  refine wpAny_handleBy_cons (codeAny_handlers_test (wpAny_mono h (fun c s₁ h₁ => ?_) fun _ _ y => y)) (by intro q; cases q)
  obtain ⟨rfl, O, ⟨oe, he, hcls⟩, hk⟩ := h₁
  obtain ⟨hh, g, d, tk, os⟩ := s₁
  exact excMatches_up O he hcls (codeAny_handlers_suite_as hk)

/-! isinstance(error, X) -/
theorem nested_err {h : Heap} {g : Array GenState} {d : Drawn} {t : Nat} {os : OsState} {a C G D GD : Addr} {o : Obj} {up upD : List Value} {k : Value} {dep : Int} {tk : Tok} {Q : Fin → Shared → Prop} (X : Err h C G up) (hx : h.get? a = some o) (hc : o.cls = .ref C) (Y : Err h D GD upD) {b : Bool}
    (hb : (Value.ref C :: up).contains (.ref D) = b) (hk : k = .int dep tk) (hq : ∀ t', Q (.done (.ret (.bool b))) ⟨h, g, d, t', os⟩) : wpAny (model prog w) A (Builtin.«isinstance.nested» ⟨[.ref a, .ref D, k], []⟩) Q E ⟨h, g, d, t, os⟩ := by
  subst hk
  obtain ⟨N, nm, q, bs, hdct, sn, sub, ab, col, dd, k0, k1, k2, k3, k5, mN, hC, hN, hcalm⟩ := id X.c
  obtain ⟨N', nm', q', bs', hdct', sn', sub', ab', col', dd', k0', k1', k2', k3', k5', mN', hD, hN', hcalm'⟩ := id Y.c
  by_cases he : C = D
  · subst he
    obtain rfl : b = true := by rw [← hb]; simp
    have he' : (Value.ref C == Value.ref C) = true := by simp
    have hq' := hq t
    repeat (any_goals (first | assumption | (with_reducible refine wpAny_loadPart_at hx ?_; rw [hc]) | wp_step))
  · have he' : (Value.ref C == Value.ref D) = false := by simpa using he
    cases b with
    | true =>
      have hq' := hq t
      repeat (any_goals (first | assumption | (with_reducible refine wpAny_loadPart_at hx ?_; rw [hc]) | with_reducible refine wpAny_loadPart_at hD ?_ | (with_reducible refine wpAny_isSubtype_exc hC ?_; rw [hb]) | wp_step))
    | false =>
      have hq' := hq (t + 1)
      repeat (any_goals (first | assumption | (with_reducible refine wpAny_loadPart_at hx ?_; rw [hc]) | with_reducible refine wpAny_loadPart_at hD ?_ | with_reducible refine wpAny_loadPart_at hC ?_ | (with_reducible refine wpAny_isSubtype_exc hC ?_; rw [hb]) | with_reducible apply class_attr_err X hx hc | wp_step))
end
end Mine

-- Core37
set_option linter.unusedVariables false
set_option linter.unusedSimpArgs false
set_option maxRecDepth 100000
namespace Mine
open PySem PySem.W PySem.Calls PyProof.Rows

section
variable {prog : Program} {w : World} {A : Around} {E : Value → Shared → Prop} {s : Shared} {env : Env}
theorem ty_ve : typeOf (.type "ValueError") = pure (.type "type") := by kernel_rfl
theorem nested_ve {h : Heap} {g : Array GenState} {d : Drawn} {t : Nat} {os : OsState} {a C G : Addr} {o : Obj} {up : List Value} {k : Value} {dep : Int} {tk : Tok} {Q : Fin → Shared → Prop} (X : Err h C G up) (hx : h.get? a = some o) (hc : o.cls = .ref C)
    (hk : k = .int dep tk) (hq : Q (.done (.ret (.bool true))) ⟨h, g, d, t, os⟩) : wpAny (model prog w) A (Builtin.«isinstance.nested» ⟨[.ref a, .type "ValueError", k], []⟩) Q E ⟨h, g, d, t, os⟩ := by
  subst hk
  have hb : (Value.ref C :: up).contains (.type "ValueError") = true := by rw [List.contains_cons, X.has (by decide), Bool.or_true]
  obtain ⟨N, nm, q, bs, hdct, sn, sub, ab, col, dd, k0, k1, k2, k3, k5, mN, hC, hN, hcalm⟩ := id X.c
  have f := ty_ve
  have he' : (Value.ref C == Value.type "ValueError") = false := rfl
  repeat (any_goals (first | assumption | (with_reducible refine wpAny_loadPart_at hx ?_; rw [hc]) | (with_reducible refine wpAny_isSubtype_exc hC ?_; rw [hb]) | wp_step))
theorem isi_err {a C G D GD : Addr} {o : Obj} {up upD : List Value} {Q : Value → Shared → Prop} {b : Bool} (X : Err s.heap C G up) (hx : s.heap.get? a = some o) (hc : o.cls = .ref C) (Y : Err s.heap D GD upD)
    (hb : (Value.ref C :: up).contains (.ref D) = b) (hq : ∀ t', Q (.bool b) { s with toks := t' }) : wpAny (model prog w) A (call (.builtin "isinstance") [.ref a, .ref D]) Q E s := by
  refine call_isinstance_of ?_ (by intro q; cases q)
  obtain ⟨h, g, d, t, os⟩ := s
  exact nested_err X hx hc Y hb rfl hq
theorem isi_ve {a C G : Addr} {o : Obj} {up : List Value} {Q : Value → Shared → Prop} (X : Err s.heap C G up) (hx : s.heap.get? a = some o) (hc : o.cls = .ref C)
    (hq : Q (.bool true) s) : wpAny (model prog w) A (call (.builtin "isinstance") [.ref a, .type "ValueError"]) Q E s := by
  refine call_isinstance_of ?_ (by intro q; cases q)
  obtain ⟨h, g, d, t, os⟩ := s
  exact nested_ve X hx hc rfl hq
end

section
variable {cx : Cx} {sc : Scope} {loc : Loc} {H : Hp} {P : PH} {env : Env} {A : Around} {s : Shared} {E : Value → Shared → Prop}
/-- the class behind a global name -/
def ClsAt (cx : Cx) (X : Str) (V : Value) : Prop := cx.mg X = some V ∨ (cx.mg X = none ∧ X ≠ "__name__" ∧ bootBuiltins X = some V)
end

/-! ## try: f(..) except GameError as n: suite (that returns) -/
/-- what the suite of the handler does: it gives v back -/
def Suite (cx : Cx) (sc : Scope) (n : Str) (C : Addr) (ss : List Stmt) (H : Hp) (v : AV) (K : Hp → Prop) : Prop :=
  ∀ (env : Env) (A : Around) (P : PH) (s : Shared) (E : Value → Shared → Prop) (Q' : Flow → Shared → Prop) (loc : Loc) (e : Addr) (oe : Obj), EnvOk sc env → FrameOwn env loc P H s.heap → Rep cx P H s.heap → loc n = some (.ref e) → P e = some oe → oe.cls = .ref C →
    (∀ V loc' H' h' tk, VR v V → K H' → FrameOwn env loc' P H' h' → Rep cx P H' h' → Q' (.ret V) { s with heap := h', toks := tk }) → wpAny (model cx.prog cx.w) A (execs ss env) Q' E s
def CallV (cx : Cx) (d : Nat) (sc : Scope) (loc : Loc) (fa : Addr) (vs : List AV) (H : Hp) (v : AV) (K : Hp → Prop) : Prop :=
  ∀ (env : Env) (A : Around) (P : PH) (s : Shared) (E : Value → Shared → Prop) (Q' : Value → Shared → Prop) (Vs : List Value), EnvOk sc env → FrameOwn env loc P H s.heap → Room d A → Fr1 A env → Rep cx P H s.heap → VRs vs Vs →
    (∀ V H' h' tk, VR v V → K H' → FrameOwn env loc P H' h' → Rep cx P H' h' → Q' V { s with heap := h', toks := tk }) →
    wpAny (model cx.prog cx.w) A (call (.ref fa) Vs) Q' E s
theorem CallV_try {cx : Cx} {d : Nat} {sc : Scope} {loc : Loc} {H : Hp} {v : AV} {K K₁ : Hp → Prop} {D : FDef} {fa C G : Addr} {args : List AV} {x : Expr} {n : Str} {epos gp hpos tpos : Pos} {b₀ : Stmt} {suite rest : List Stmt} (hf : HasDef cx D fa)
    (hbody : D.body = .Try [.Expr x epos] [.ExceptHandler (some (.Name "GameError" gp)) (some n) (b₀ :: suite) hpos] [] [] tpos :: rest)
    (hbind : ∀ (pm code doc : Value) (vs : List Value), vs.length = args.length → bindArgs (docDef D.name D.params D.body D.scope pm code doc) ⟨vs, []⟩ = pure (D.names.zip vs))
    (X : Err cx.base C G (.ref G :: bmV)) (hG : cx.mg "GameError" = some (.ref G))
    (hx : EVr cx d D.scope (bindA (D.names.zip args) fun _ => none) x H C K₁) (hsu : ∀ H', K₁ H' → Suite cx D.scope n C (b₀ :: suite) H' v K)
    (hloc : D.scope.names.lookup n = some .local := by rfl) (hst : storable D.scope n = true := by rfl) (hgn : globalName D.scope "GameError" = true := by rfl) (hs : ∀ env, swapsWith x none epos.line env = pure false := by intro _; rfl)
    (hnm : D.names.all (storable D.scope) = true := by rfl) (hnf : D.scope.names.all (fun y => y.2 != .free) = true := by rfl)
    (hco : D.scope.isCoroutine = false := by rfl) (hgen : D.scope.isGenerator = false := by rfl) (hk : D.scope.kind = .function := by rfl) : CallV cx (d + 1) sc loc fa args H v K := by
  obtain ⟨pm, code, doc, hf⟩ := hf
  intro env₀ A P s E Q' Vs he₀ F₀ hA hfr1 R₀ hvs k
  refine enter_def hf rfl rfl (hbind pm code doc) hnm rfl rfl hnf hco hgen hk hA (aside_rep F₀ R₀) hvs fun env h₁ tk₁ he F₁ hA' hhere R₁ => ?_
  have hT₀ : TopF A env₀ [] := ⟨hfr1.frames, hfr1.here⟩
  have Fs0 : FrsOk cx [] P := ⟨fun _ h => by cases h⟩
  have Fs : FrsOk cx [env₀] (aside P env₀ s.heap) := frs_cons he₀ F₀ hT₀ Fs0 R₀
  have hT : TopF (A.deeper env) env [env₀] := ⟨by show A.frames.map _ = _; rw [hfr1.frames]; rfl, hhere⟩
  show wpAny _ _ (execs D.body env) _ _ _
  rw [hbody]
  refine wpAny_execs_cons (wpAny_Try_except (wpAny_execs_cons (wpAny_Expr_any (hx env _ _ _ _ _ [env₀] he F₁ hA' hT Fs R₁ fun e H' h' tk q ht => ?_) (by unfold interactive; rw [he.kind]; rfl) (hs env))))
  obtain ⟨loc₁, H₁, h₂, F₂, R₂, B, a0, hfl, RB, KB⟩ := ht
  obtain ⟨_, _, ⟨_, ⟨L, oL, hL, hBL, _⟩, ⟨_, ⟨L₀, oL₀, hL₀, hBL₀, _⟩, _⟩⟩, _⟩ := id hfl
  rw [hhere] at hL; cases hL
  rw [hfr1.here] at hL₀; cases hL₀
  have up : ∀ {ha hb : Heap}, ha.UpToSlots hb → Kept [env, env₀] (aside (aside P env₀ s.heap) env h₂) ha → Kept [env, env₀] (aside (aside P env₀ s.heap) env h₂) hb := by
    intro ha hb u K env' h' o ho
    obtain ⟨sl, hsl⟩ := K env' h' o ho
    have hd : ∃ es ep, o.data = .dict es ep := by
      rcases List.mem_cons.mp h' with rfl | h'
      · obtain ⟨m, ⟨o', es, ep, ho', hd', _⟩, _⟩ := F₂.at_.ns
        have : aside (aside P env₀ s.heap) env' h₂ env'.locals = some o' := by unfold aside; rw [if_pos (.inl rfl)]; exact ho'
        rw [this] at ho; cases ho; exact ⟨es, ep, hd'⟩
      · obtain ⟨k1, k2, k3, o', es', ep', k4, k5⟩ := Fs.ok env' h'
        rw [aside_of F₂ k4] at ho; cases ho; exact ⟨es', ep', k5⟩
    obtain ⟨es, ep, hd⟩ := hd
    obtain ⟨sl', hsl'⟩ := u _ _ hsl (not_fields_of_dict (es := es) (ep := ep) hd)
    exact ⟨sl', hsl'⟩
  refine wpAny_looks_onW hT.frames hhere hfl fun h₃ hheld up₃ => ?_
  refine wpAny_landsW hheld fun h₄ hfl₄ up₄ => ?_
  have KB₄ := up up₄ (up up₃ KB)
  have RB' := rep_back F₂ R₂ Fs RB
  have nH : ∀ a, B.get? a = none → H' a = none := fun a ha => (RB'.fresh ha).2
  have nP : ∀ a, B.get? a = none → lo (aside P env₀ s.heap) [env₀] a = none := fun a ha => (RB'.fresh ha).1
  have R₄ := RB'.grow hfl₄.1
  refine handleBy_up (C := C) (G := G) (load_global (cx := cx) (H := H') (P := lo (aside P env₀ s.heap) [env₀]) he R₄ hgn hG ⟨rfl, X.keeps R₄.keeps, hfl₄.there, ?_⟩)
  refine wpAny_setFlight_noneW hfl₄.1 hfl₄.2.2.1 hfl₄.2.2.2 fun h₅ k1 k2 k3 k4 => ?_
  have KB₅ := up (fun b o hb hn => ⟨o.slots, k4 b o hb hn⟩) KB₄
  have R₅ := RB'.grow k1
  have F₅ : FrameOwn env loc₁ (lo (aside P env₀ s.heap) [env₀]) H' h₅ := frame_back F₂ R₂ Fs RB k1 KB₅ (nH _ hBL)
  obtain ⟨oe, vs, T, oT, ts, hee, ⟨hcls, _⟩, hde, _⟩ := k3
  have hBe := hfl₄.2.1
  -- the law's own frame, as it stands now
  obtain ⟨k1', k2', k3', o₀, es₀, ep₀, k4', k5'⟩ := Fs.ok env₀ (List.mem_cons_self ..)
  obtain ⟨sl₀, hsl₀⟩ := KB₅ env₀ (by simp) o₀ (aside_of F₂ k4')
  have hne₀ : e ≠ env₀.locals := fun z => by rw [z, hsl₀] at hee; cases hee; exact not_fields_of_dict (es := es₀) (ep := ep₀) k5' _ hde
  have hf0 : ¬ fp env env₀.locals := off_fp F₂ k4'
  have hfe : ¬ fp env e := by
    rintro (z | ⟨y, z⟩)
    · obtain ⟨m, ⟨o', es, ep, ho', hd', _⟩, _⟩ := F₅.at_.ns
      rw [← z, hee] at ho'; cases ho'; exact not_fields_of_dict hd' _ hde
    · obtain ⟨ov, o', ho', hd'⟩ := F₅.at_.cellOk y e z
      rw [hee] at ho'; cases ho'; rw [hd'] at hde; cases hde
  have nP0 : lo (aside P env₀ s.heap) [env₀] env₀.locals = none := by unfold lo; rw [if_pos (by simp [fadr])]
  have R₆ := R₅.add hsl₀ nP0 (nH _ hBL₀)
  have nPe : addP (lo (aside P env₀ s.heap) [env₀]) env₀.locals { o₀ with slots := sl₀ } e = none := by unfold addP; rw [if_neg hne₀]; exact nP _ hBe
  have R₇ := R₆.add hee nPe (nH _ hBe)
  have F₇ := (F₅.add (O := { o₀ with slots := sl₀ }) hf0).add (O := oe) hfe
  refine store_own (cx := cx) (v := .ref e) he F₇ R₇ hst rfl fun h₈ tk₈ F₈ R₈ => ?_
  refine hsu H' q env _ _ _ _ _ (upd loc₁ n (.ref e)) e oe he F₈ R₈ (upd_self ..) (by simp [addP]) hcls fun V loc₉ H₉ h₉ tk₉ hv q₉ F₉ R₉ => ?_
  obtain ⟨m₉, hn₉, _⟩ := F₉.at_.ns
  have hkl : env.kindOf n = some .local := by show env.scope.names.lookup n = _; rw [he.scope]; exact hloc
  refine wpAny_nameGoes hkl hn₉.heap (by rw [he.kind]; rfl) fun h₁₀ m₁₀ hn₁₀ hs₁₀ => ?_
  have R₁₀ := R₉.ext_to (I := env.locals) (h' := h₁₀) F₉.locP (F₉.offH _ (.inl rfl)) fun b o hb hq => (hs₁₀.2 b hb).trans hq
  obtain ⟨R₁₁, _, _⟩ := R₁₀.drop nPe R₆.base
  obtain ⟨R₁₂, hsl₁₂, hH₁₂⟩ := R₁₁.drop nP0 R₅.base
  have K₁₂ : Kept [env₀] (aside P env₀ s.heap) h₁₀ := fun env' h' o ho => by
    obtain rfl := List.mem_singleton.mp h'
    rw [k4'] at ho; cases ho
    exact ⟨sl₀, hsl₁₂⟩
  have F₁₃ := frame_back F₀ R₀ Fs0 R₁₂ (fun _ _ x => x) K₁₂ hH₁₂
  have R₁₃ := rep_back F₀ R₀ Fs0 R₁₂
  rw [lo_nil] at F₁₃ R₁₃
  exact k V H₉ h₁₀ _ hv q₉ F₁₃ R₁₃
end Mine

-- Core38
set_option linter.unusedVariables false
set_option linter.unusedSimpArgs false
set_option maxRecDepth 100000
namespace Mine
open PySem PySem.W PySem.Calls PyProof.Rows

theorem law_inT {l : OpenLaw} {cx : Cx} {cl : Str → Option Addr} {mean : ExcName → Option Value} {args : List WData} {s₁ : Shared} {vs : List Value} {fa : Addr} {E : Value → Shared → Prop} (hp : cx.prog = l.prog) (hb : cx.base = s₁.heap)
    (hW : s₁.heap.get? cx.script = some { cls := .type "list", data := .seq vs.toArray }) (hI : IntsAre vs cx.nums) (hg : s₁.gens = #[])
    (h : ∀ H, CWt cx 60 (.ref fa) [.ref cx.script] H fun v _ => v = .bool true) :
    wpAny (model l.row.prog cx.w) callerA (call (.ref fa) [.ref cx.script]) (fun v s' => GoodWG l.row.claim cl mean args s₁ (.ok (.ret v)) s') E s₁ := by
  have hprog : l.row.prog = cx.prog := hp.symm
  rw [hprog]
  have R : Rep cx s₁.heap.get? (fun a => if a = cx.script then some (.list true (cx.nums.map .int)) else none) s₁.heap := by
    refine ⟨fun a o e => hb ▸ e, fun a o e => e, fun a o e => ?_, fun a o O e _ => ?_, by simp⟩
    · split at e
      · rename_i z; cases e; subst z; exact ⟨_, hW, vs.toArray, 0, rfl, by simpa using ints_vrs hI⟩
      · cases e
    · split at e
      · rename_i z; exact z
      · cases e
  refine h _ _ s₁ E _ [.ref cx.script] ⟨rfl, by decide, by decide⟩ R ⟨rfl, trivial⟩ fun v V H' h' tk q hv R' => ?_
  subst q
  cases hv
  exact (law_end (s' := { s₁ with heap := h', toks := tk }) (fun b o e => R'.ext b o e) rfl hg).toG

theorem free_of {p : Program} {loose : List Str} {mean : ExcName → Option Value} {mg mb : Str → Option Value} {h : Heap} (T : PyProof.Rows.Top p loose mean mg mb h) {cx : Cx} (hm : cx.mg = mg) {x : String} (hf : freeB p loose (Str.ofString x) = true) : cx.mg (Str.ofString x) = none := by
  simp only [freeB, Bool.and_eq_true, Bool.not_eq_true', List.contains_eq_mem, decide_eq_false_iff_not] at hf
  rw [hm]
  exact T.free _ hf.1.1.1.1 hf.1.1.1.2 hf.1.1.2 hf.1.2 hf.2

section
variable {cx : Cx} {sc : Scope} {loc : Loc} {H : Hp} {P : PH} {env : Env} {A : Around} {s : Shared} {E : Value → Shared → Prop}
/-- the value of isinstance(error, X) -/
structure IsErr (cx : Cx) (C : Addr) (X : Str) (b : Bool) : Prop where
  is : ∀ {A : Around} {s : Shared} {E : Value → Shared → Prop} {Q : Value → Shared → Prop} {e : Addr} {oe : Obj} {V : Value}, ClsAt cx X V → (∀ a o, cx.base.get? a = some o → s.heap.get? a = some o) → s.heap.get? e = some oe → oe.cls = .ref C → (∀ t', Q (.bool b) { s with toks := t' }) →
    wpAny (model cx.prog cx.w) A (call (.builtin "isinstance") [.ref e, V]) Q E s
  has : ∃ V, ClsAt cx X V
theorem isErr_own {C G D GD : Addr} {up upD : List Value} {X : Str} {b : Bool} (x : Err cx.base C G up) (y : Err cx.base D GD upD) (hX : cx.mg X = some (.ref D)) (hb : (Value.ref C :: up).contains (.ref D) = b) : IsErr cx C X b := by
  refine ⟨fun {A s E Q e oe V} hV hk hx hc hq => ?_, _, .inl hX⟩
  have : V = .ref D := by
    rcases hV with h | ⟨h, _⟩
    · rw [hX] at h; cases h; rfl
    · rw [hX] at h; cases h
  subst this
  exact isi_err (x.keeps hk) hx hc (y.keeps hk) hb hq
theorem boot_ve : bootBuiltins "ValueError" = some (.type "ValueError") := by decide +kernel
theorem isErr_ve {C G : Addr} {up : List Value} (x : Err cx.base C G up) (hX : cx.mg "ValueError" = none) : IsErr cx C "ValueError" true := by
  refine ⟨fun {A s E Q e oe V} hV hk hx hc hq => ?_, _, .inr ⟨hX, by decide, boot_ve⟩⟩
  have : V = .type "ValueError" := by
    rcases hV with h | ⟨h, _, h'⟩
    · rw [hX] at h; cases h
    · rw [boot_ve] at h'; cases h'; rfl
  subst this
  exact isi_ve (x.keeps hk) hx hc (hq _)
end
end Mine

-- Core39
set_option linter.unusedVariables false
set_option linter.unusedSimpArgs false
set_option maxRecDepth 100000
namespace Mine
open PySem PySem.W PySem.Calls PyProof.Rows

/-! ## isinstance of other things -/
def NoList (H : Hp) : AV → Prop
  | .none => True
  | .int _ => True
  | .str _ => True
  | .ref a => (∃ vs, H a = some (.tuple vs)) ∨ ∃ kvs, H a = some (.dict kvs)
  | _ => False
theorem NoList.ext {H H' : Hp} {v : AV} (e : Ext H H') (h : NoList H v) : NoList H' v := by
  cases v with
  | ref a =>
    rcases h with ⟨vs, h⟩ | ⟨kvs, h⟩
    · exact .inl ⟨vs, e _ _ h⟩
    · exact .inr ⟨kvs, e _ _ h⟩
  | none => trivial
  | int _ => trivial
  | str _ => trivial
  | bool _ => exact h
  | ty _ => exact h
def NoInt (H : Hp) : AV → Prop
  | .none => True
  | .str _ => True
  | .ref a => ∃ ro vs, H a = some (.list ro vs)
  | _ => False
def NoTuple (H : Hp) : AV → Prop
  | .none => True
  | .int _ => True
  | .ref a => ∃ ro vs, H a = some (.list ro vs)
  | _ => False
section
variable {cx : Cx} {d : Nat} {H : Hp} {Q : AV → Hp → Prop}
theorem CW_isi_noList {v : AV} (h : NoList H v) (hq : Q (.bool false) H) : CW cx d (.builtin "isinstance") [v, .ty "list"] H Q := by
  intro A P s E Q' us hA R hr k
  obtain ⟨V, W, rfl, hv, hw⟩ := vrs2 hr
  cases hw
  cases v with
  | none => cases hv; exact IsiPair.NoneType_list (k _ _ H s.heap _ hq rfl R)
  | int i => obtain ⟨t, rfl⟩ := hv; exact IsiPair.int_list (k _ _ H s.heap _ hq rfl R)
  | str x => obtain ⟨t, rfl⟩ := hv; exact IsiPair.str_list (k _ _ H s.heap _ hq rfl R)
  | ref a =>
    cases hv
    rcases h with ⟨vs, ha⟩ | ⟨kvs, ha⟩
    · obtain ⟨O, hO, items, n, rfl, _⟩ := R.obj _ _ ha
      exact IsiPair.tuple_list hO rfl (k _ _ H s.heap _ hq rfl R)
    · obtain ⟨O, hO, es, ep, vs, hx, _⟩ := R.obj _ _ ha
      exact IsiPair.dict_list hO hx.1 (k _ _ H s.heap _ hq rfl R)
  | bool _ => exact h.elim
  | ty _ => exact h.elim
theorem CW_isi_noInt {v : AV} (h : NoInt H v) (hq : Q (.bool false) H) : CW cx d (.builtin "isinstance") [v, .ty "int"] H Q := by
  intro A P s E Q' us hA R hr k
  obtain ⟨V, W, rfl, hv, hw⟩ := vrs2 hr
  cases hw
  cases v with
  | none => cases hv; exact IsiPair.NoneType_int (k _ _ H s.heap _ hq rfl R)
  | str x => obtain ⟨t, rfl⟩ := hv; exact IsiPair.str_int (k _ _ H s.heap _ hq rfl R)
  | ref a =>
    cases hv
    obtain ⟨ro, vs, ha⟩ := h
    obtain ⟨items, n, hO, _⟩ := R.isList ha
    exact IsiPair.list_int hO rfl (k _ _ H s.heap _ hq rfl R)
  | int _ => exact h.elim
  | bool _ => exact h.elim
  | ty _ => exact h.elim
theorem CW_isi_bool_int {b : Bool} (hq : Q (.bool true) H) : CW cx d (.builtin "isinstance") [.bool b, .ty "int"] H Q := by
  intro A P s E Q' us hA R hr k
  obtain ⟨V, W, rfl, hv, hw⟩ := vrs2 hr
  cases hv; cases hw
  exact IsiPair.bool_int (k _ _ H s.heap s.toks hq rfl R)
theorem CW_isi_noTuple {v : AV} (h : NoTuple H v) (hq : Q (.bool false) H) : CW cx d (.builtin "isinstance") [v, .ty "tuple"] H Q := by
  intro A P s E Q' us hA R hr k
  obtain ⟨V, W, rfl, hv, hw⟩ := vrs2 hr
  cases hw
  cases v with
  | none => cases hv; exact IsiPair.NoneType_tuple (k _ _ H s.heap _ hq rfl R)
  | int i => obtain ⟨t, rfl⟩ := hv; exact IsiPair.int_tuple (k _ _ H s.heap _ hq rfl R)
  | ref a =>
    cases hv
    obtain ⟨ro, vs, ha⟩ := h
    obtain ⟨items, n, hO, _⟩ := R.isList ha
    exact IsiPair.list_tuple hO rfl (k _ _ H s.heap _ hq rfl R)
  | str _ => exact h.elim
  | bool _ => exact h.elim
  | ty _ => exact h.elim

/-! ## list.insert, int(bool), bool(int), strings compared -/
theorem ins_eq (items : Array Value) (k : Nat) (y : Value) : ((items.extract 0 k).push y ++ items.extract k).toList = items.toList.take k ++ y :: items.toList.drop k := by
  have h1 : (items.extract 0 k).toList = items.toList.take k := by simp [List.extract]
  have h2 : (items.extract k).toList = items.toList.drop k := by
    simp [List.extract]
    exact List.take_of_length_le (by simp)
  rw [Array.toList_append, Array.toList_push, h1, h2]; simp
theorem CW_insert {a : Addr} {vs : List AV} {i : Int} {v : AV} (ha : H a = some (.list false vs)) (hl : vs.length ≤ 2 ^ 20) (h0 : 0 ≤ i) (h1 : i ≤ vs.length) (hq : Q .none (H.put a (.list false (vs.take i.toNat ++ v :: vs.drop i.toNat)))) :
    CW cx d (.builtin "list.insert") [.ref a, .int i, v] H Q := by
  rintro A P s E Q' (_ | ⟨V, _ | ⟨W, _ | ⟨X, _ | ⟨_, _⟩⟩⟩⟩) hA R hr k
  all_goals try exact hr.elim
  all_goals try exact hr.2.elim
  all_goals try exact hr.2.2.elim
  all_goals try exact hr.2.2.2.elim
  obtain ⟨q1, ⟨t, rfl⟩, q3, _⟩ := hr
  cases q1
  obtain ⟨items, n, hO, hv, hP, hs⟩ := own_list R ha
  have hz : items.size ≤ sizeLine := by have := hv.size; show items.size ≤ 2 ^ 24; omega
  have hsz := hv.size
  have hfit : Builtin.List.listFitsIndex i = true := by
    unfold Builtin.List.listFitsIndex
    simp only [Bool.and_eq_true, decide_eq_true_eq]
    omega
  refine call_meets F.slot_list_insert ⟨_, hO, rfl⟩ F.entry_list_insert (F.args_list_insert_3 _ _ _) (AutoSeq1.list_insert_list_int_val_1 a items n i t X (by simp [hfit]) hz) ⟨hO, ?_⟩
  refine k .none .none _ _ _ hq rfl (set_list R hO hP hs ?_)
  have e : (if i < 0 then (i + (items.size : Int)).toNat else min i.toNat items.size) = i.toNat := by rw [if_neg (by omega)]; omega
  show VRs _ ((items.extract 0 (if i < 0 then (i + (items.size : Int)).toNat else min i.toNat items.size)).push X ++ items.extract (if i < 0 then (i + (items.size : Int)).toNat else min i.toNat items.size)).toList
  rw [e, ins_eq]
  exact (hv.take _).append ⟨q3, hv.drop _⟩
theorem CW_int_bool {b : Bool} (hq : Q (.int (if b then 1 else 0)) H) : CW cx d (.type "int") [.bool b] H Q := by
  intro A P s E Q' us hA R hr k
  obtain ⟨V, rfl, hv⟩ := vrs1 hr
  cases hv
  exact call_int_bool (k _ _ H s.heap _ hq ⟨_, rfl⟩ R)
theorem CW_bool_int {i : Int} (hq : Q (.bool (i != 0)) H) : CW cx d (.type "bool") [.int i] H Q := by
  intro A P s E Q' us hA R hr k
  obtain ⟨V, rfl, ⟨t, rfl⟩⟩ := vrs1 hr
  exact call_bool_int (k _ _ H s.heap _ hq rfl R)
theorem Op_neStr {x y : Str} (hq : Q (.bool (x != y)) H) : OpW cx d (compareOp .NotEq) (.str x) (.str y) H Q := by
  rintro A P s E Q' V W hA R ⟨t, rfl⟩ ⟨u, rfl⟩ k
  exact PyProof.Rows.ne_str (k _ _ H s.heap s.toks hq rfl R)
end
end Mine

-- Core40
set_option linter.unusedVariables false
set_option linter.unusedSimpArgs false
set_option maxRecDepth 100000
namespace Mine
open PySem PySem.W PySem.Calls PyProof.Rows

/-! ## tests in the law's own frame, with a call that may raise and catch -/
def TVf (cx : Cx) (d : Nat) (sc : Scope) (loc : Loc) (e : Expr) (H : Hp) (QB : Bool → Hp → Prop) : Prop :=
  ∀ (env : Env) (A : Around) (P : PH) (s : Shared) (E : Value → Shared → Prop) (Q' : Bool → Shared → Prop), EnvOk sc env → FrameOwn env loc P H s.heap → Room d A → Fr1 A env → Rep cx P H s.heap →
    (∀ b H' h' tk, QB b H' → FrameOwn env loc P H' h' → Rep cx P H' h' → Q' b { s with heap := h', toks := tk }) → wpAny (model cx.prog cx.w) A (isTrue e env (eval e env)) Q' E s
section
variable {cx : Cx} {d : Nat} {sc : Scope} {loc : Loc} {H : Hp} {QB : Bool → Hp → Prop}
theorem TV.toTF {e : Expr} (h : TV cx d sc loc e H QB) : TVf cx d sc loc e H QB := fun env A P s E Q' he F hA _ R k => h.here he F hA R k
theorem TVf_Or2 {x y : Expr} {pos : Pos} (h : TV cx d sc loc x H fun b H₁ => if b = true then QB true H₁ else TVf cx d sc loc y H₁ QB) : TVf cx d sc loc (.BoolOp .Or [x, y] pos) H QB := by
  intro env A P s E Q' he F hA hf R k
  refine wpAny_isTrue_BoolOp (wpAny_allTrue_Or_cons (h.here he F hA R fun b H₁ h₁ tk₁ q F₁ R₁ => ?_))
  cases b with
  | true => simp only [if_true] at q ⊢; exact k true H₁ h₁ tk₁ q F₁ R₁
  | false =>
    simp only [Bool.false_eq_true, if_false] at q ⊢
    refine wpAny_allTrue_Or_cons (q env A P _ E _ he F₁ hA hf R₁ fun b H₂ h₂ tk₂ q₂ F₂ R₂ => ?_)
    cases b with
    | true => simp only [if_true]; exact k true H₂ h₂ tk₂ q₂ F₂ R₂
    | false => simp only [Bool.false_eq_true, if_false]; exact wpAny_allTrue_Or_nil (k false H₂ h₂ tk₂ q₂ F₂ R₂)
theorem TVf_And2 {x y : Expr} {pos : Pos} (h : TV cx d sc loc x H fun b H₁ => if b = true then TVf cx d sc loc y H₁ QB else QB false H₁) : TVf cx d sc loc (.BoolOp .And [x, y] pos) H QB := by
  intro env A P s E Q' he F hA hf R k
  refine wpAny_isTrue_BoolOp (wpAny_allTrue_And_cons (h.here he F hA R fun b H₁ h₁ tk₁ q F₁ R₁ => ?_))
  cases b with
  | false => simp only [Bool.false_eq_true, if_false] at q ⊢; exact k false H₁ h₁ tk₁ q F₁ R₁
  | true =>
    simp only [if_true] at q ⊢
    refine wpAny_allTrue_And_cons (q env A P _ E _ he F₁ hA hf R₁ fun b H₂ h₂ tk₂ q₂ F₂ R₂ => ?_)
    cases b with
    | false => simp only [Bool.false_eq_true, if_false]; exact k false H₂ h₂ tk₂ q₂ F₂ R₂
    | true => simp only [if_true]; exact wpAny_allTrue_And_nil (k true H₂ h₂ tk₂ q₂ F₂ R₂)
theorem EX1f_If {t : Expr} {b o : List Stmt} {pos : Pos} {Q : AF → Loc → Hp → Prop} (h : TVf cx d sc loc t H fun c H' => if c = true then EXf cx d sc loc b H' Q else EXf cx d sc loc o H' Q) : EX1f cx d sc loc (.If t b o pos) H Q := by
  intro env A P s E Q' he F hA hf R k
  refine wpAny_If (h env A P s E _ he F hA hf R fun c H' h' tk q F' R' => ?_)
  cases c with
  | true => simp only [if_true] at q ⊢; exact q env A P _ E Q' he F' hA hf R' fun f₂ Fl₂ l₂ H₂ h₂ tk₂ => k f₂ Fl₂ l₂ H₂ h₂ tk₂
  | false => simp only [Bool.false_eq_true, if_false] at q ⊢; exact q env A P _ E Q' he F' hA hf R' fun f₂ Fl₂ l₂ H₂ h₂ tk₂ => k f₂ Fl₂ l₂ H₂ h₂ tk₂
theorem EXf_nil {Q : AF → Loc → Hp → Prop} (h : Q .next loc H) : EXf cx d sc loc [] H Q := EX.toF (EX_nil h)
theorem CW.toV {fa : Addr} {vs : List AV} {v : AV} {K : Hp → Prop} (h : CW cx d (.ref fa) vs H fun v' H' => v' = v ∧ K H') : CallV cx d sc loc fa vs H v K := by
  intro env A P s E Q' Vs he F hA hf R hvs k
  refine h A (aside P env s.heap) s E Q' Vs hA (aside_rep F R) hvs fun v' V H' h' tk q hv R' => ?_
  obtain ⟨rfl, q⟩ := q
  obtain ⟨F₂, R₂⟩ := aside_back F R R'
  exact k V H' h' tk hv q F₂ R₂
theorem TVf_neCall {D : FDef} {f : Str} {fa : Addr} {e rhs : Expr} {r : List Expr} {p cpos pos : Pos} (hf : HasDef cx D fa)
    (h : EVs cx d sc loc (e :: r) H fun vs H₁ => ∃ v K, CallV cx d sc loc fa vs H₁ v K ∧ ∀ H₂, K H₂ → EV cx d sc loc rhs H₂ fun w H₃ => OpW cx d (compareOp .NotEq) v w H₃ (asB QB))
    (hn : D.name = f := by rfl) (hx : globalName sc f = true := by rfl) (hns : (e :: r).all notStar = true := by rfl) (hm : behindInMarks .NotEq rhs = false := by with_unfolding_all rfl) :
    TVf cx d sc loc (.Compare (.Call (.Name f p) (e :: r) [] cpos) [.NotEq] [rhs] pos) H QB := by
  obtain ⟨pm, code, doc, hf⟩ := hf
  subst hn
  intro env A P s E Q' he F hA hf1 R k
  refine wpAny_isTrue_Compare1 (callName_raw hf h he (aside_frame F) hA (aside_rep F R) (fun vs Vs H' h' tk q' hvs R' => ?_) hx hns) hm
  obtain ⟨F₂, R₂⟩ := aside_back F R R'
  obtain ⟨v, K, hc, hk⟩ := q'
  refine hc env A P _ E _ Vs he F₂ hA hf1 R₂ hvs fun V H₃ h₃ tk₃ hv q₃ F₃ R₃ => ?_
  refine (hk _ q₃).here he F₃ hA R₃ fun w W H₄ h₄ tk₄ q₄ hw F₄ R₄ => ?_
  refine q₄ A (aside P env h₄) _ E _ V W hA (aside_rep F₄ R₄) hv hw fun b B H₅ h₅ tk₅ q₅ hb R₅ => ?_
  obtain ⟨F₆, R₆⟩ := aside_back F₄ R₄ R₅
  obtain ⟨c, rfl, q⟩ := asB_of q₅
  cases hb
  exact wpAny_truthy_bool (k c _ _ _ q F₆ R₆)
end

/-! ## more statements that raise -/
section
variable {cx : Cx} {d : Nat} {sc : Scope} {loc : Loc} {H : Hp} {C : Addr} {K : Hp → Prop}
theorem addP_of {P : PH} {I : Addr} {O : Obj} (hP : P I = none) {a : Addr} {o : Obj} (h : P a = some o) : addP P I O a = some o := by
  unfold addP; rw [if_neg (fun z => by rw [z, hP] at h; cases h)]; exact h
theorem thr_drop {P : PH} {I e : Addr} {O : Obj} {fs : List Env} {h : Heap} (hP : P I = none) (hb : ∀ a o, cx.base.get? a = some o → P a = some o) (Fs : FrsOk cx fs P) (t : Thr cx fs (addP P I O) H C e h) : Thr cx fs P H C e h := by
  obtain ⟨B, a0, hfl, RB, KB⟩ := t
  have up : ∀ a o, lo P fs a = some o → lo (addP P I O) fs a = some o := fun a o q => lo_of (lo_some q).1 (addP_of hP (lo_some q).2)
  exact ⟨B, a0, hfl, ⟨fun a o q => lo_of (Fs.off q) (hb a o q), fun a o q => RB.ext a o (up a o q), RB.obj, fun a o O' q q' => RB.sep a o O' q (up a O' q'), RB.scr⟩, fun env' h' o ho => KB env' h' o (addP_of hP ho)⟩
theorem frs_add {P : PH} {I : Addr} {O : Obj} {fs : List Env} (hP : P I = none) (Fs : FrsOk cx fs P) : FrsOk cx fs (addP P I O) :=
  ⟨fun env' h' => by
    obtain ⟨k1, k2, k3, o', es', ep', k4, k5⟩ := Fs.ok env' h'
    exact ⟨k1, k2, k3, o', es', ep', addP_of hP k4, k5⟩⟩
/-- an error that was made in this frame and has not left it yet -/
def Md (cx : Cx) (env : Env) (P : PH) (H : Hp) (C e : Addr) (h' : Heap) : Prop := ∃ loc h args, FrameOwn env loc P H h ∧ Rep cx P H h ∧ Heap.MadeExcOf h h' e (.ref C) args
def EX1m (cx : Cx) (d : Nat) (sc : Scope) (loc : Loc) (st : Stmt) (H : Hp) (C : Addr) (K : Hp → Prop) : Prop :=
  ∀ (env : Env) (A : Around) (P : PH) (s : Shared) (E : Value → Shared → Prop) (Q' : Flow → Shared → Prop), EnvOk sc env → FrameOwn env loc P H s.heap → Room d A → Rep cx P H s.heap →
    (∀ e H' h' tk, K H' → Md cx env P H' C e h' → E (.ref e) { s with heap := h', toks := tk }) → wpAny (model cx.prog cx.w) A (exec st env) Q' E s
def EXm (cx : Cx) (d : Nat) (sc : Scope) (loc : Loc) (ss : List Stmt) (H : Hp) (C : Addr) (K : Hp → Prop) : Prop :=
  ∀ (env : Env) (A : Around) (P : PH) (s : Shared) (E : Value → Shared → Prop) (Q' : Flow → Shared → Prop), EnvOk sc env → FrameOwn env loc P H s.heap → Room d A → Rep cx P H s.heap →
    (∀ e H' h' tk, K H' → Md cx env P H' C e h' → E (.ref e) { s with heap := h', toks := tk }) → wpAny (model cx.prog cx.w) A (execs ss env) Q' E s
theorem EXm_here {st : Stmt} {rest : List Stmt} (h : EX1m cx d sc loc st H C K) : EXm cx d sc loc (st :: rest) H C K :=
  fun env A P s E Q' he F hA R k => wpAny_execs_cons (h env A P s E _ he F hA R k)
theorem EX1m_If {t : Expr} {b o : List Stmt} {pos : Pos} (h : TV cx d sc loc t H fun c H' => if c = true then EXm cx d sc loc b H' C K else EXm cx d sc loc o H' C K) : EX1m cx d sc loc (.If t b o pos) H C K := by
  intro env A P s E Q' he F hA R k
  refine wpAny_If (h.here he F hA R fun c H' h' tk q F' R' => ?_)
  cases c with
  | true => simp only [if_true] at q ⊢; exact q env A P _ E Q' he F' hA R' fun e H₂ h₂ tk₂ => k e H₂ h₂ tk₂
  | false => simp only [Bool.false_eq_true, if_false] at q ⊢; exact q env A P _ E Q' he F' hA R' fun e H₂ h₂ tk₂ => k e H₂ h₂ tk₂
theorem EX1m_Raise {x : Str} {t : Str} {k : Nat} {np cp cpos pos : Pos} {G : Addr} {up : List Value} (X : Err cx.base C G up) (hg : cx.mg x = some (.ref C)) (hK : K H) (hx : globalName sc x = true := by rfl) :
    EX1m cx d sc loc (.Raise (some (.Call (.Name x np) [.Constant (.str t) k cp] [] cpos)) none pos) H C K := by
  intro env A P s E Q' he F hA R kk
  obtain ⟨N, nm, q, bs, hdct, sn, sub, ab, col, dd, k0, k1, k2, k3, k5, mN, hC, hN, hcalm⟩ := X.c
  have hT' := X.tailQ.tail
  refine wpAny_Raise_call_subU (C := C) (nm := nm) (q := q) (N := N) (bs := bs) (bm := up) (hdct := hdct) (sn := sn) (sub := sub) (ab := ab) (col := col) (dd := dd) (k0 := k0) (k1 := k1) (k2 := k2) (k3 := k3) (k5 := k5)
    PySem.F.excBase_ValueError (by decide) PySem.F.excBase_ValueError (mN := mN) (hT'.hasType PySem.F.excBase_ValueError.hasBase) hA.handled rfl (hcalm _ (by decide)) (load_global he R hx hg ⟨rfl, ?_⟩)
  have hs := EVs.sound (cx := cx) (d := d) (sc := sc) (loc := loc) (es := [.Constant (.str t) k cp]) (H := H) (QL := fun vs H' => H' = H ∧ vs = [.str t]) (env := env) (A := A) (P := aside P env s.heap) (s := s) (E := E) (pos := cpos)
    (EV_str ⟨rfl, rfl⟩) rfl he (aside_frame F) hA (aside_rep F R) (Q' := fun vs s₂ => vs.length ≤ sizeLine ∧ ∃ h₂ tk₂, s₂ = { s with heap := h₂, toks := tk₂ } ∧ FrameOwn env loc P H h₂ ∧ Rep cx P H h₂)
    (fun vs Vs H' h' tk q' hvs R' => by
      obtain ⟨rfl, rfl⟩ := q'
      obtain ⟨F₂, R₂⟩ := aside_back F R R'
      refine ⟨?_, h', tk, rfl, F₂, R₂⟩
      rw [← hvs.length]; (show 1 ≤ sizeLine); decide)
  rw [starEach_cons (by rfl)] at hs ⊢
  refine Calls.evalArgs_plain (wpAny_mono hs (fun vs s₂ h₂ => ?_) fun _ _ y => y)
  obtain ⟨hl, h₂, tk₂, rfl, F₂, R₂⟩ := h₂
  refine ⟨rfl, hl, R₂.keeps _ _ hC, hN.keeps R₂.keeps, hT'.keeps R₂.keeps, fun h' e hm => ?_⟩
  exact kk e H h' tk₂ hK ⟨_, _, _, F₂, R₂, hm⟩
/-- an error that this frame has noted -/
def Hs (cx : Cx) (env : Env) (fs : List Env) (P : PH) (H : Hp) (C e : Addr) (h : Heap) : Prop :=
  ∃ B a0, Heap.HeldW B (env :: fs) e (.ref C) a0 env.locals h ∧ Rep cx (lo P fs) H B ∧ Kept fs P h
theorem hs_note {P : PH} {e : Addr} {fs : List Env} {A : Around} {env : Env} {s : Shared} {Q : Unit → Shared → Prop} {E : Value → Shared → Prop} {M : Model} (he : EnvOk sc env) (hfr : A.frames = some (env :: fs)) (hf : env.frame = some env.locals) (Fs : FrsOk cx fs P)
    (hm : Md cx env P H C e s.heap) (hq : ∀ h', Hs cx env fs P H C e h' → Q () { s with heap := h' }) : wpAny M A (noteFrame (.ref e) env) Q E s := by
  obtain ⟨loc, h, args, F, R, hm⟩ := hm
  obtain ⟨B, hB⟩ := heap_without h (fadr (env :: fs))
  obtain ⟨m, ⟨oL, es, ep, hoL, hdL, _⟩, _⟩ := F.at_.ns
  have hin : ∀ env' ∈ fs, env'.locals ∈ fadr (env :: fs) := fun env' h' => List.mem_map.mpr ⟨env', List.mem_cons_of_mem _ h', rfl⟩
  obtain ⟨t, hee, htn, ht⟩ := hm.there
  have hkb : B.StaysIn h := fun b o q => ((hB b o).mp q).2
  have fresh : ∀ b, h.get? b = none → B.get? b = none := fun b hb => by
    cases hq : B.get? b with
    | none => rfl
    | some o' => have := hkb b o' hq; rw [hb] at this; cases this
  have hl : h.FunFrames B (env :: fs) := funFrames_of fun env' h' => by
    rcases List.mem_cons.mp h' with rfl | h'
    · exact ⟨he.kind, _, oL, hf, none_of_iff hB (by simp [fadr]), hoL, not_fields_of_dict hdL⟩
    · obtain ⟨k1, k2, k3, o, es', ep', k4, k5⟩ := Fs.ok env' h'
      exact ⟨k1, _, o, k2, none_of_iff hB (hin _ h'), R.ext _ _ k4, not_fields_of_dict k5⟩
  unfold noteFrame
  simp only [hf]
  refine wpAny_bind (wpAny_field hee rfl (x := .none) rfl ?_)
  rw [if_neg (by decide)]
  refine wpAny_entryW (a0 := .ref t) (base := B) hfr (hl.of_keeps fun b o hb _ => ⟨o, hm.keeps b o hb, rfl⟩) hf hee (fun b o hb => hm.keeps b o (hkb b o hb)) (fresh e hm.new) rfl (by show 1 < 6; decide) rfl fun h' hN => hq h' ?_
  obtain ⟨n1, n2, n3, n4⟩ := hN
  refine ⟨B, _, ⟨n1, fresh e hm.new, n2, n3⟩, ⟨fun a o q => ?_, fun a o q => ?_, fun a o q => ?_, fun a o O q q' => ?_, R.scr⟩, fun env' h'' o ho => ?_⟩
  · exact lo_of (Fs.off q) (R.base a o q)
  · obtain ⟨q1, q2⟩ := lo_some q
    refine (hB a o).mpr ⟨fun z => ?_, R.ext a o q2⟩
    rcases List.mem_cons.mp (show a ∈ env.locals :: fadr fs from z) with z | z
    · rw [z, F.locP] at q2; cases q2
    · exact q1 z
  · obtain ⟨O, hO, r⟩ := R.obj a o q
    refine ⟨O, (hB a O).mpr ⟨fun z => ?_, hO⟩, r⟩
    rcases List.mem_cons.mp (show a ∈ env.locals :: fadr fs from z) with z | z
    · rw [z, F.offH _ (.inl rfl)] at q; cases q
    · obtain ⟨env', h', rfl⟩ := List.mem_map.mp z
      obtain ⟨k1, k2, k3, o', es', ep', k4, k5⟩ := Fs.ok env' h'
      have := R.sep _ _ _ q k4
      obtain ⟨os, hos⟩ := cx.scriptIn
      rw [this, hos] at k3; cases k3
  · exact R.sep a o O q (lo_some q').2
  · obtain ⟨k1, k2, k3, o', es', ep', k4, k5⟩ := Fs.ok env' h''
    rw [k4] at ho; cases ho
    exact n4 _ _ (hm.keeps _ _ (R.ext _ _ k4)) (not_fields_of_dict k5)
theorem Hs.back {P : PH} {e : Addr} {fs : List Env} {A : Around} {env : Env} {s : Shared} {Q : Unit → Shared → Prop} {E : Value → Shared → Prop} {M : Model} (Fs : FrsOk cx fs P) (hf : env.frame = some env.locals) (x : Hs cx env fs P H C e s.heap) (hq : ∀ h', Hs cx env fs P H C e h' → Q () { s with heap := h' }) :
    wpAny M A (do
      if (← field (.ref e) 1) == .none then unsupported "frame.own-activation:exception-without-traceback"
      setFlight (.ref e) env.frame) Q E s := by
  obtain ⟨B, a0, ⟨f1, f2, f3, oe, vs, T, oT, ts, he, hcls, hd, h1, hnT, hTe, hT, hdT, h3⟩, RB, KB⟩ := x
  have hsz3 : 3 < ts.size := (Array.getElem?_eq_some_iff.mp h3).1
  rw [hf]
  refine wpAny_bind (wpAny_field he hd h1 ?_)
  rw [if_neg (show ¬ ((Value.ref T == Value.none) = true) from by simp)]
  have other : ∀ b, b ≠ T → (s.heap.update T (Obj.mapFields (·.setIfInBounds 3 ((some env.locals : Option Addr).elim Value.none fun f => rawInt f)))).get? b = s.heap.get? b :=
    fun b hb => Heap.get?_update_other _ _ (Ne.symm hb)
  have noRecord : ∀ b o, s.heap.get? b = some o → (∀ vs, o.data ≠ .fields vs) → b ≠ T := fun b o hb hnf q => by
    rw [q, hT] at hb; injection hb with hb; subst hb; exact hnf ts hdT
  unfold setFlight
  refine wpAny_bind (wpAny_field he hd h1 ?_)
  rw [if_pos (show (Value.ref T != Value.none) = true from by simp)]
  refine wpAny_setField hT hdT hsz3 (hq _ ⟨B, a0, ⟨fun b o hbo => (other b fun q => by rw [q, hnT] at hbo; cases hbo).trans (f1 b o hbo), f2, f3.of_keeps fun b o hb hnf => ⟨o, (other b (noRecord b o hb hnf)).trans hb, rfl⟩,
    ⟨oe, vs, T, _, _, (other e (Ne.symm hTe)).trans he, hcls, hd, h1, hnT, hTe, Heap.get?_update_self _ hT (Obj.isFreed_of_fields (Obj.data_mapFields hdT _)), Obj.data_mapFields hdT _, by simp [hsz3]⟩⟩, RB, fun env' h' o ho => ?_⟩)
  obtain ⟨sl, hsl⟩ := KB env' h' o ho
  obtain ⟨k1, k2, k3, o', es', ep', k4, k5⟩ := Fs.ok env' h'
  rw [k4] at ho; cases ho
  exact ⟨sl, (other _ (noRecord _ _ hsl (not_fields_of_dict (es := es') (ep := ep') k5))).trans hsl⟩
theorem Hs.lv {P : PH} {e : Addr} {fs : List Env} {env : Env} {s : Shared} (Fs : FrsOk cx fs P) (hf : env.frame = some env.locals) (x : Hs cx env fs P H C e s.heap) : Lv cx env fs P H C e s := by
  intro A Q E hfr hq
  obtain ⟨B, a0, hh, RB, KB⟩ := x
  unfold leaving
  refine wpAny_bind (wpAny_noteFrame_againW hf hh.2.2.2 ?_)
  refine wpAny_landsW hh fun h' hfl up => hq h' ⟨B, a0, ?_, RB, fun env' h'' o ho => ?_⟩
  · obtain ⟨k1, k2, ⟨_, _, k3⟩, k4⟩ := hfl
    exact ⟨k1, k2, k3, k4⟩
  · obtain ⟨sl, hsl⟩ := KB env' h'' o ho
    obtain ⟨k1, k2, k3, o', es', ep', k4, k5⟩ := Fs.ok env' h''
    rw [k4] at ho; cases ho
    obtain ⟨sl', hsl'⟩ := up _ _ hsl (not_fields_of_dict (es := es') (ep := ep') k5)
    exact ⟨sl', hsl'⟩
theorem EX1r_For {x : Str} {px pos : Pos} {iter : Expr} {body : List Stmt}
    (h : EV cx d sc loc iter H fun v H₁ => ∃ els keep, Src H₁ v els keep ∧ ∃ (n : Nat) (J : Nat → Loc → Hp → Prop), n < els.length ∧ J 0 loc H₁ ∧ (∀ i l₂ H₂, J i l₂ H₂ → keep H₂) ∧
      (∀ i w l₂ H₂, i < n → els[i]? = some w → J i l₂ H₂ → EX cx d sc (upd l₂ x w) body H₂ (loopQ (J (i + 1)) fun _ _ _ => False)) ∧
      (∀ w l₂ H₂, els[n]? = some w → J n l₂ H₂ → EXm cx d sc (upd l₂ x w) body H₂ C K))
    (hx : storable sc x = true := by rfl) (hs : ∀ env v, foldedSetIterable iter env v = pure v := by intro _ _; rfl) : EX1r cx d sc loc (.For (.Name x px) iter body [] pos) H C K := by
  intro env A P s E Q' fs he F hA hT Fs R k
  refine wpAny_For (h.here he F hA R fun v V H₁ h₁ tk₁ q hv F₁ R₁ => ?_) (hs env)
  obtain ⟨els, keep, S, n, J, hn, hJ0, hkeep, turn, last⟩ := q
  refine iter_of S hv R₁ fun I O St W hI hk hSt eI hfr => ?_
  have hIf : ¬ fp env I := fun z => by obtain ⟨o, ho⟩ := F₁.live I z; rw [show ({ s with heap := h₁, toks := tk₁ } : Shared).heap.get? I = h₁.get? I from rfl] at hI; rw [ho] at hI; cases hI
  have hfr₁ := R₁.fresh hI
  have hup : ∀ b o, h₁.get? b = some o → (h₁.push O).get? b = some o := fun b o e => Heap.get?_push_of_some _ e
  have hOI : (h₁.push O).get? I = some O := by rw [eI]; exact Heap.get?_push_size _ hfr
  obtain ⟨Inv, hInv⟩ : ∃ Inv : Nat → Shared → Prop, ∀ m s', Inv m s' ↔ (∃ i l₂ H₂ h₂ tk₂ O₂, s' = { s with heap := h₂, toks := tk₂ } ∧ J i l₂ H₂ ∧ FrameOwn env l₂ P H₂ h₂ ∧ Rep cx P H₂ h₂ ∧ h₂.get? I = some O₂ ∧ St i O₂ ∧ H₂ I = none ∧ i ≤ n ∧ m = els.length + 1 - i) := ⟨_, fun _ _ => Iff.rfl⟩
  refine codeAny_forLoop Inv ?_ (els.length + 1)
    ((hInv _ _).mpr ⟨0, loc, H₁, _, tk₁, O, rfl, hJ0, F₁.eq_on (fun a _ o e => hup a o e) F₁.offH, R₁.grow hup, hOI, hSt, hfr₁.2, Nat.zero_le _, rfl⟩) (by intro _; rfl)
  rintro m s' hInv0
  obtain ⟨i, l₂, H₂, h₂, tk₂, O₂, rfl, hJ, F₂, R₂, hO₂, hSt₂, hH₂, hi, rfl⟩ := (hInv _ _).mp hInv0
  cases hel : els[i]? with
  | none => rw [List.getElem?_eq_none_iff] at hel; omega
  | some w =>
    have hlt : i < els.length := (List.getElem?_eq_some_iff.mp hel).1
    refine W.item i w A P H₂ _ _ _ O₂ hel (hkeep _ _ _ hJ) R₂ hH₂ hO₂ hSt₂ fun V' h₃ O₃ tk₃ hV e₃ hO₃ hSt₃ => ?_
    have F₃ : FrameOwn env l₂ P H₂ h₃ := F₂.eq_on (fun a ha o e => (e₃.2 a fun z => hIf (z ▸ ha)).trans e) F₂.offH
    have R₃ : Rep cx P H₂ h₃ := R₂.ext_to hfr₁.1 hH₂ e₃.extBut
    have F₃' := F₃.add (O := O₃) hIf
    have R₃' := R₃.add hO₃ hfr₁.1 hH₂
    refine wpAny_assign_Name (store_own he F₃' R₃' hx hV fun h₄ tk₄ F₄ R₄ => ?_)
    by_cases hin : i = n
    · subst hin
      refine last w l₂ H₂ hel hJ env A (addP P I O₃) { s with heap := h₄, toks := tk₄ } _ _ he F₄ hA R₄ fun e H' h' tk q hm => ?_
      refine hs_note he hT.frames hT.here (frs_add hfr₁.1 Fs) hm fun h₅ x₅ => ?_
      refine x₅.back (frs_add hfr₁.1 Fs) hT.here fun h₆ x₆ => ?_
      exact k e H' h₆ tk q fun A' Q E' hfr hq => x₆.lv (frs_add hfr₁.1 Fs) hT.here A' Q E' hfr fun h'' t => hq h'' (thr_drop hfr₁.1 R.base Fs t)
    · refine turn i w l₂ H₂ (by omega) hel hJ env A (addP P I O₃) _ _ _ he F₄ hA R₄ fun f Fl l₅ H₅ h₅ tk₅ q₅ hf F₅ R₅ => ?_
      obtain ⟨R₆, hO₆, hH₆⟩ := R₅.drop hfr₁.1 R.base
      have F₆ := F₅.drop
      cases f with
      | next => cases hf; exact ⟨els.length + 1 - (i + 1), by omega, (hInv _ _).mpr ⟨i + 1, l₅, H₅, h₅, tk₅, O₃, rfl, q₅, F₆, R₆, hO₆, hSt₃, hH₆, by omega, rfl⟩⟩
      | cont => cases hf; exact ⟨els.length + 1 - (i + 1), by omega, (hInv _ _).mpr ⟨i + 1, l₅, H₅, h₅, tk₅, O₃, rfl, q₅, F₆, R₆, hO₆, hSt₃, hH₆, by omega, rfl⟩⟩
      | brk => exact q₅.elim
      | ret v => exact q₅.elim
theorem EVr_CompareL {op : CmpOp} {l r : Expr} {pos : Pos} (h : EVr cx d sc loc l H C K) (hm : behindInMarks op r = false := by with_unfolding_all rfl) : EVr cx d sc loc (.Compare l [op] [r] pos) H C K := by
  intro env A P s E Q' fs he F hA hT Fs R k
  exact wpAny_Compare1 (h env A P s E _ fs he F hA hT Fs R k) hm
theorem EX1r_Return {e : Expr} {pos : Pos} (h : EVr cx d sc loc e H C K) : EX1r cx d sc loc (.Return (some e) pos) H C K := by
  intro env A P s E Q' fs he F hA hT Fs R k
  exact wpAny_Return_some (h env A P s E _ fs he F hA hT Fs R fun e H' h' tk q ht => k e H' h' tk q (lv_of hT Fs ht))
theorem CR.mono {V : Value} {args : List AV} {K' : Hp → Prop} (h : CR cx d V args H C K) (hk : ∀ H', K H' → K' H') : CR cx d V args H C K' :=
  fun A P s E Q' vs fs hA hfr Fs R hvs k => h A P s E Q' vs fs hA hfr Fs R hvs fun e H' h' tk q => k e H' h' tk (hk _ q)

/-- try: .. except ..: without an error -/
theorem EX_TryOk {body : List Stmt} {h₀ : ExceptHandler} {hs : List ExceptHandler} {pos : Pos} {Q : AF → Loc → Hp → Prop} (h : EX cx d sc loc body H Q) : EX1 cx d sc loc (.Try body (h₀ :: hs) [] [] pos) H Q := by
  intro env A P s E Q' he F hA R k
  refine wpAny_Try_except (h env A P s _ _ he F hA R fun f Fl loc' H' h' tk q hf F' R' => ?_)
  cases f with
  | next => cases hf; exact wpAny_execs_nil (k .next .next _ _ _ _ q rfl F' R')
  | brk => cases hf; exact k .brk _ _ _ _ _ q rfl F' R'
  | cont => cases hf; exact k .cont _ _ _ _ _ q rfl F' R'
  | ret v => obtain ⟨V, rfl, hv⟩ := hf; exact k (.ret v) _ _ _ _ _ q ⟨V, rfl, hv⟩ F' R'
end

/-! ## inside the handler: the error e of the class C stands still -/
def EVc (cx : Cx) (C e : Addr) (sc : Scope) (loc : Loc) (x : Expr) (H : Hp) (Q : AV → Hp → Prop) : Prop :=
  ∀ (env : Env) (A : Around) (P : PH) (s : Shared) (E : Value → Shared → Prop) (Q' : Value → Shared → Prop), EnvOk sc env → FrameP env loc P → (∃ oe, P e = some oe ∧ oe.cls = .ref C) → Rep cx P H s.heap →
    (∀ v V H' h' tk, Q v H' → VR v V → Rep cx P H' h' → Q' V { s with heap := h', toks := tk }) → wpAny (model cx.prog cx.w) A (eval x env) Q' E s
def EVcs (cx : Cx) (C e : Addr) (sc : Scope) (loc : Loc) : List Expr → Hp → (List AV → Hp → Prop) → Prop
  | [], H, Q => Q [] H
  | x :: r, H, Q => EVc cx C e sc loc x H fun v H₁ => EVcs cx C e sc loc r H₁ fun vs H₂ => Q (v :: vs) H₂
section
variable {cx : Cx} {C e : Addr} {sc : Scope} {loc : Loc} {H : Hp} {Q : AV → Hp → Prop} {pos : Pos}
theorem EVcs.sound : ∀ {es : List Expr} {H : Hp} {QL : List AV → Hp → Prop}, EVcs cx C e sc loc es H QL → es.all notStar = true →
    ∀ {env : Env} {A : Around} {P : PH} {s : Shared} {E : Value → Shared → Prop} {Q' : List Value → Shared → Prop} {pos : Pos}, EnvOk sc env → FrameP env loc P → (∃ oe, P e = some oe ∧ oe.cls = .ref C) → Rep cx P H s.heap →
    (∀ vs Vs H' h' tk, QL vs H' → VRs vs Vs → Rep cx P H' h' → Q' Vs { s with heap := h', toks := tk }) →
    wpAny (model cx.prog cx.w) A (spliced (backTo pos (starEach es env))) Q' E s
  | [], H, _, h, _, _, _, _, s, _, _, _, _, _, _, R, k => wpAny_items_nil (k [] [] H s.heap s.toks h trivial R)
  | x :: r, H, _, h, hn, env, A, P, s, E, _, pos, he, hF, hA, R, k => by
    simp only [List.all_cons, Bool.and_eq_true] at hn
    refine wpAny_items_cons (h env A P s E _ he hF hA R fun v V H₁ h₁ tk₁ q hv R₁ => ?_) (starEach_cons hn.1)
    exact EVcs.sound q hn.2 he hF hA R₁ fun vs Vs H' h' tk q' hvs R' => k (v :: vs) (V :: Vs) H' h' tk q' ⟨hv, hvs⟩ R'
theorem EVc_Name {x : Str} {v : AV} (hx : loc x = some v) (hq : Q v H) : EVc cx C e sc loc (.Name x pos) H Q := by
  intro env A P s E Q' he hF hA R k
  have F : FrameAt env loc s.heap.get? := hF.eq_on fun a _ o e => R.ext a o e
  obtain ⟨hk, hp⟩ := F.dom x v hx
  simp only [plainName, Bool.and_eq_true, Bool.not_eq_true'] at hp
  rcases hk with hk | hk | hk
  · obtain ⟨m, hn, hm⟩ := F.ns
    obtain ⟨V, hV, hr⟩ := hm x v hx hk
    exact wpAny_Name (wpAny_loadName_local he.kind hk hn hV (k v V H s.heap s.toks hq hr R)) hp.1
  · obtain ⟨c, V, hc, hv, hr⟩ := F.cells x v hx (.inl hk)
    exact wpAny_Name (wpAny_loadName_cell he.kind hk hc hv (k v V H s.heap s.toks hq hr R)) hp.1
  · obtain ⟨c, V, hc, hv, hr⟩ := F.cells x v hx (.inr hk)
    exact wpAny_Name (wpAny_loadName_free he.kind hk hc hv (k v V H s.heap s.toks hq hr R) hp.2) hp.1
theorem EVc_int {i : Int} {k : Nat} (hq : Q (.int i) H) : EVc cx C e sc loc (.Constant (.int i) k pos) H Q :=
  fun _ _ _ s _ _ _ _ _ R kk => wpAny_Constant_int (kk _ _ H s.heap _ hq ⟨_, rfl⟩ R)
theorem EVc_bool {b : Bool} {k : Nat} (hq : Q (.bool b) H) : EVc cx C e sc loc (.Constant (.bool b) k pos) H Q :=
  fun _ _ _ s _ _ _ _ _ R kk => wpAny_Constant_bool (kk _ _ H s.heap s.toks hq rfl R)
theorem EVc_str {x : Str} {k : Nat} (hq : Q (.str x) H) : EVc cx C e sc loc (.Constant (.str x) k pos) H Q :=
  fun _ _ _ s _ _ _ _ _ R kk => wpAny_Constant_str (kk _ _ H s.heap _ hq ⟨_, rfl⟩ R)
theorem EVc_isi {n X : Str} {b : Bool} {p p1 p2 : Pos} (hI : IsErr cx C X b) (hB : Bs cx) (hn : loc n = some (.ref e)) (hq : Q (.bool b) H) (hi : globalName sc "isinstance" = true := by rfl) (hx : globalName sc X = true := by rfl) :
    EVc cx C e sc loc (.Call (.Name "isinstance" p) [.Name n p1, .Name X p2] [] pos) H Q := by
  intro env A P s E Q' he F hP R k
  obtain ⟨oe, hPe, hc⟩ := hP
  obtain ⟨V, hX⟩ := hI.has
  have k' := hI.is (A := A) (E := E) (Q := Q') hX R.keeps (R.ext _ _ hPe) hc fun t' => k (.bool b) _ H s.heap t' hq rfl R
  have hb := b_isinstance hB
  rw [eval_Call_Name]
  refine wpAny_bind (load_builtin he R hi hb.g hb.n hb.b (Calls.callWith_builtin (backTo_plain rfl) ?_))
  have hs : wpAny (model cx.prog cx.w) A (spliced (backTo pos (starEach [.Name n p1, .Name X p2] env))) (fun vs s₁ => wpAny (model cx.prog cx.w) A (call (.builtin "isinstance") vs) Q' E s₁) E s := by
    refine wpAny_items_cons (EVc_Name (cx := cx) (C := C) (e := e) (H := H) (Q := fun v H' => v = .ref e ∧ H' = H) hn ⟨rfl, rfl⟩ env A P s E _ he F ⟨oe, hPe, hc⟩ R fun v V' H' h' tk q hV R' => ?_)
    obtain ⟨rfl, rfl⟩ := q
    cases hV
    have k'' := hI.is (A := A) (E := E) (Q := Q') (s := { s with heap := h', toks := tk }) hX R'.keeps (R'.ext _ _ hPe) hc fun t' => k (.bool b) _ H' h' t' hq rfl R'
    rcases hX with hX | ⟨h1, h2, h3⟩
    · exact wpAny_items_cons (load_global he R' hx hX (wpAny_items_nil k''))
    · exact wpAny_items_cons (load_builtin he R' hx h1 h2 h3 (wpAny_items_nil k''))
  rw [starEach_cons (by rfl)] at hs ⊢
  exact Calls.evalArgs_plain hs
theorem EVc_List {es : List Expr} (h : EVcs cx C e sc loc es H fun vs H' => vs.length ≤ 2 ^ 20 ∧ ∀ a, H' a = none → Q (.ref a) (H'.put a (.list false vs))) (hn : es.all notStar = true := by rfl) : EVc cx C e sc loc (.List es pos) H Q := by
  intro env A P s E Q' he hF hA R k
  refine wpAny_List (EVcs.sound h hn he hF hA R fun vs Vs H' h' tk q hvs R' => ⟨?_, ?_⟩)
  · have := hvs.length; have := q.1; show Vs.length ≤ 2 ^ 24; omega
  · exact k _ _ _ _ _ (q.2 _ (R'.fresh (get_size _)).2) rfl (R'.push (o := .list false vs) ⟨_, _, rfl, by simpa using hvs⟩ rfl)
theorem EVc_AddList {l r : Expr} (h : EVc cx C e sc loc l H fun v H₁ => EVc cx C e sc loc r H₁ fun w H₂ => ∃ a b ro ro' vs ws, v = .ref a ∧ w = .ref b ∧ H₂ a = some (.list ro vs) ∧ H₂ b = some (.list ro' ws) ∧ vs.length ≤ 2 ^ 20 ∧ ws.length ≤ 2 ^ 20 ∧ ∀ c, H₂ c = none → Q (.ref c) (H₂.put c (.list false (vs ++ ws)))) :
    EVc cx C e sc loc (.BinOp l .Add r pos) H Q := by
  intro env A P s E Q' he hF hA R k
  refine wpAny_BinOp (h env A P s E _ he hF hA R fun v V H₁ h₁ tk₁ q₁ hv R₁ => ?_)
  refine q₁ env A P _ E _ he hF hA R₁ fun w W H₂ h₂ tk₂ q₂ hw R₂ => ?_
  obtain ⟨a, b, ro, ro', vs, ws, rfl, rfl, ha, hb, h1, h2, q⟩ := q₂
  cases hv; cases hw
  obtain ⟨i1, n1, hO1, hr1⟩ := R₂.isList ha
  obtain ⟨i2, n2, hO2, hr2⟩ := R₂.isList hb
  have z1 := hr1.size
  have z2 := hr2.size
  refine PySem.P.add_list hO1 hO2 ?_ (by show i1.size + i2.size ≤ 2 ^ 24; omega)
  exact k _ _ _ _ tk₂ (q _ (R₂.fresh (get_size _)).2) rfl (R₂.push (o := .list false (vs ++ ws)) ⟨_, _, rfl, by rw [Array.toList_append]; exact hr1.append hr2⟩ rfl)
theorem EVc_Sub {value slice : Expr} (h : EVc cx C e sc loc value H fun o H₁ => EVc cx C e sc loc slice H₁ fun i H₂ => ∃ a ro vs v, ∃ n : Nat, o = .ref a ∧ i = .int (n : Int) ∧ H₂ a = some (.list ro vs) ∧ vs.length ≤ 2 ^ 20 ∧ vs[n]? = some v ∧ Q v H₂)
    (hs : ∀ o i, subscripted slice false o i = operate [o, i] (getItem o i) := by intro _ _; rfl) : EVc cx C e sc loc (.Subscript value slice pos) H Q := by
  intro env A P s E Q' he hF hA R k
  refine PyProof.Rows.Subscript_ (h env A P s E _ he hF hA R fun o V H₁ h₁ tk₁ q₁ ho R₁ => ?_)
  refine q₁ env A P _ E _ he hF hA R₁ fun i W H₂ h₂ tk₂ q₂ hi R₂ => ?_
  obtain ⟨a, ro, vs, v, n, rfl, rfl, ha, hl, hv, q⟩ := q₂
  cases ho
  obtain ⟨t, rfl⟩ := hi
  obtain ⟨items, m, hO, hr⟩ := R₂.isList ha
  obtain ⟨X, hX, hx⟩ := hr.get hv
  have hlt : n < vs.length := (List.getElem?_eq_some_iff.mp hv).1
  refine PyProof.Rows.tail_any (T := "list") ⟨_, hO, rfl⟩ list_getitem_lookup ?_ (hs _ _)
  exact wpAny_getItem_list ⟨_, hO, rfl, m, rfl⟩ (Int.natCast_nonneg _) (by omega) (by simpa using hX) (k v X H₂ h₂ tk₂ q hx R₂)
theorem eq_bools {bs : List Bool} : ∀ {vs : List Value}, VRs (bs.map .bool) vs → vs = bs.map .bool := by
  induction bs with
  | nil => intro vs h; cases vs with | nil => rfl | cons _ _ => exact h.elim
  | cons b r ih =>
    intro vs h
    cases vs with
    | nil => exact h.elim
    | cons v vs => rw [ih h.2, show v = .bool b from h.1]; rfl
def isT : Value → Bool
  | .bool b => b
  | _ => false
theorem eq_isT {A : Around} {s : Shared} {bs : List Bool} {y : Value} (h : y ∈ (bs.map Value.bool)) : SeqAt.EqAt A s y (.bool true) (isT y) := by
  obtain ⟨b, _, rfl⟩ := List.mem_map.mp h
  have := SeqAt.EqAt.bool_bool (A := A) (s := s) b true
  have e : (b == true) = isT (.bool b) := by cases b <;> rfl
  rwa [e] at this
/-- o.name(True) of a list of bools -/
theorem EVc_count {o : Expr} {apos p1 : Pos} {k1 : Nat} (h : EVc cx C e sc loc o H fun v H₁ => ∃ (a : Addr) (ro : Bool) (bs : List Bool), v = .ref a ∧ H₁ a = some (.list ro (bs.map .bool)) ∧ Q (.int ((bs.count true : Nat) : Int)) H₁)
    (he : ∀ env, ∃ pl : Sem Bool, eval (.Call (.Attribute o "count" apos) [.Constant (.bool true) k1 p1] [] pos) env = (do
      let ov ← eval o env
      standAt apos.atName
      let (f, first) ← holding [ov] (getMethod ov "count" pl)
      callWith pos f first (backTo pos (starEach [.Constant (.bool true) k1 p1] env)) []) := by intro _; exact ⟨_, rfl⟩) :
    EVc cx C e sc loc (.Call (.Attribute o "count" apos) [.Constant (.bool true) k1 p1] [] pos) H Q := by
  intro env A P s E Q' hE hF hA R k
  obtain ⟨pl, he⟩ := he env
  refine PyProof.Rows.MethodCall_ (pl := pl) (h env A P s E _ hE hF hA R fun v V H₁ h₁ tk₁ q hv R₁ => ?_) he
  obtain ⟨a, ro, bs, rfl, ha, q⟩ := q
  cases hv
  obtain ⟨items, n, hO, hr⟩ := R₁.isList ha
  have hit := eq_bools hr
  refine getMethod_builtin (T := "list") ⟨_, hO, rfl⟩ F.plainAttrs_list F.slot_list_count F.type_list_count (fun b e => by cases e; exact ⟨_, hO, rfl⟩) ?_
  refine PyProof.Rows.callWith_method1 (EVcs.sound (cx := cx) (C := C) (e := e) (sc := sc) (loc := loc) (H := H₁) (es := [.Constant (.bool true) k1 p1]) (QL := fun ws H₂ => ws = [.bool true] ∧ H₂ = H₁) (EVc_bool ⟨rfl, rfl⟩) rfl hE hF hA R₁ fun ws Ws H₂ h₂ tk₂ q₂ hw R₂ => ?_) (starEach_cons rfl) (backTo_plain rfl)
  obtain ⟨rfl, rfl⟩ := q₂
  obtain ⟨W, rfl, hW⟩ := vrs1 hw
  cases hW
  obtain ⟨items, n, hO, hr⟩ := R₂.isList ha
  have hit := eq_bools hr
  refine call_meets F.slot_list_count ⟨_, hO, rfl⟩ F.entry_list_count (F.args_list_count_2 _ _) (SeqAt.list_countAt a items n none #[] (.bool true) isT) ⟨hO, fun y hy => eq_isT (bs := bs) (by rw [← hit]; simpa using hy), ?_⟩
  have e1 : items.toList.countP isT = bs.count true := by
    rw [hit, List.countP_map, List.count_eq_countP]
    congr 1
    funext b; cases b <;> rfl
  rw [e1]
  exact k _ _ _ _ _ q ⟨_, rfl⟩ R₂
theorem EVc_index {o : Expr} {apos p1 : Pos} {k1 : Nat} (h : EVc cx C e sc loc o H fun v H₁ => ∃ (a : Addr) (ro : Bool) (bs : List Bool) (j : Nat), v = .ref a ∧ H₁ a = some (.list ro (bs.map .bool)) ∧ bs.length ≤ 2 ^ 20 ∧ bs[j]? = some true ∧ (∀ i < j, bs[i]? = some false) ∧ Q (.int ((j : Nat) : Int)) H₁)
    (he : ∀ env, ∃ pl : Sem Bool, eval (.Call (.Attribute o "index" apos) [.Constant (.bool true) k1 p1] [] pos) env = (do
      let ov ← eval o env
      standAt apos.atName
      let (f, first) ← holding [ov] (getMethod ov "index" pl)
      callWith pos f first (backTo pos (starEach [.Constant (.bool true) k1 p1] env)) []) := by intro _; exact ⟨_, rfl⟩) :
    EVc cx C e sc loc (.Call (.Attribute o "index" apos) [.Constant (.bool true) k1 p1] [] pos) H Q := by
  intro env A P s E Q' hE hF hA R k
  obtain ⟨pl, he⟩ := he env
  refine PyProof.Rows.MethodCall_ (pl := pl) (h env A P s E _ hE hF hA R fun v V H₁ h₁ tk₁ q hv R₁ => ?_) he
  obtain ⟨a, ro, bs, j, rfl, ha, hl, hj, hno, q⟩ := q
  cases hv
  obtain ⟨items, n, hO, hr⟩ := R₁.isList ha
  refine getMethod_builtin (T := "list") ⟨_, hO, rfl⟩ F.plainAttrs_list F.slot_list_index F.type_list_index (fun b e => by cases e; exact ⟨_, hO, rfl⟩) ?_
  refine PyProof.Rows.callWith_method1 (EVcs.sound (cx := cx) (C := C) (e := e) (sc := sc) (loc := loc) (H := H₁) (es := [.Constant (.bool true) k1 p1]) (QL := fun ws H₂ => ws = [.bool true] ∧ H₂ = H₁) (EVc_bool ⟨rfl, rfl⟩) rfl hE hF hA R₁ fun ws Ws H₂ h₂ tk₂ q₂ hw R₂ => ?_) (starEach_cons rfl) (backTo_plain rfl)
  obtain ⟨rfl, rfl⟩ := q₂
  obtain ⟨W, rfl, hW⟩ := vrs1 hw
  cases hW
  obtain ⟨items, n, hO, hr⟩ := R₂.isList ha
  have hit := eq_bools hr
  have hjl : j < bs.length := (List.getElem?_eq_some_iff.mp hj).1
  have at_ : ∀ (i : Nat) (hi : i < items.size), isT items[i] = bs.getD i false := fun i hi => by
    have h1 : items.toList[i]? = some items[i] := by simp [hi]
    rw [hit, List.getElem?_map] at h1
    cases hb : bs[i]? with
    | none => rw [hb] at h1; cases h1
    | some b => rw [hb] at h1; have h2 : items[i] = .bool b := (Option.some.inj h1).symm; rw [h2]; simp [isT, List.getD_eq_getElem?_getD, hb]
  have hsz : items.size = bs.length := by have := congrArg List.length hit; simpa using this
  refine call_meets F.slot_list_index ⟨_, hO, rfl⟩ F.entry_list_index (F.args_list_index_2 _ _) (SeqAt.list_indexAt a items n none #[] (.bool true) isT j (by omega) (by omega) ?_ ?_) ⟨hO, fun y hy => eq_isT (bs := bs) (by rw [← hit]; simpa using hy), ?_⟩
  · rw [at_ j (by omega), List.getD_eq_getElem?_getD, hj]; rfl
  · intro m hm hlt
    rw [at_ m hm, List.getD_eq_getElem?_getD, hno m hlt]; rfl
  · exact k _ _ _ _ _ q ⟨_, rfl⟩ R₂
end
end Mine

-- Core41
set_option linter.unusedVariables false
set_option linter.unusedSimpArgs false
set_option maxRecDepth 100000
namespace Mine
open PySem PySem.W PySem.Calls PyProof.Rows

/-! ## statements inside the handler -/
def EXc (cx : Cx) (C e : Addr) (sc : Scope) (loc : Loc) (ss : List Stmt) (H : Hp) (Q : AV → Hp → Prop) : Prop :=
  ∀ (env : Env) (A : Around) (P : PH) (s : Shared) (E : Value → Shared → Prop) (Q' : Flow → Shared → Prop), EnvOk sc env → FrameOwn env loc P H s.heap → (∃ oe, P e = some oe ∧ oe.cls = .ref C) → Rep cx P H s.heap →
    (∀ v V loc' H' h' tk, Q v H' → VR v V → FrameOwn env loc' P H' h' → Rep cx P H' h' → Q' (.ret V) { s with heap := h', toks := tk }) → wpAny (model cx.prog cx.w) A (execs ss env) Q' E s
section
variable {cx : Cx} {C e : Addr} {sc : Scope} {loc : Loc} {H : Hp} {Q : AV → Hp → Prop} {pos : Pos}
theorem EVc.here {x : Expr} {Q₁ : AV → Hp → Prop} (h : EVc cx C e sc loc x H Q₁) {env : Env} {A : Around} {P : PH} {s : Shared} {E : Value → Shared → Prop} {Q' : Value → Shared → Prop}
    (he : EnvOk sc env) (F : FrameOwn env loc P H s.heap) (hP : ∃ oe, P e = some oe ∧ oe.cls = .ref C) (R : Rep cx P H s.heap)
    (k : ∀ v V H' h' tk, Q₁ v H' → VR v V → FrameOwn env loc P H' h' → Rep cx P H' h' → Q' V { s with heap := h', toks := tk }) :
    wpAny (model cx.prog cx.w) A (eval x env) Q' E s := by
  obtain ⟨oe, h1, h2⟩ := hP
  exact h env A _ s E Q' he (aside_frame F) ⟨oe, aside_of F h1, h2⟩ (aside_rep F R) fun v V H' h' tk q hv R' => k v V H' h' tk q hv (aside_back F R R').1 (aside_back F R R').2
theorem EXc_Assign {x : Str} {px : Pos} {y : Expr} {rest : List Stmt} (h : EVc cx C e sc loc y H fun v H' => EXc cx C e sc (upd loc x v) rest H' Q) (hx : storable sc x = true := by rfl)
    (hs : ∀ env, swapsWith y (some (.Name x px)) pos.line env = pure false := by intro _; rfl) : EXc cx C e sc loc (.Assign [.Name x px] y pos :: rest) H Q := by
  intro env A P s E Q' he F hP R k
  refine wpAny_execs_cons (wpAny_Assign_Name (h.here he F hP R fun v V H' h' tk q hv F' R' => ?_) (hs env))
  exact store_own he F' R' hx hv fun h₂ tk₂ F₂ R₂ => q env A P _ E Q' he F₂ hP R₂ fun v V l H₃ h₃ tk₃ => k v V l H₃ h₃ tk₃
theorem EXc_Return {y : Expr} {rest : List Stmt} (h : EVc cx C e sc loc y H Q) : EXc cx C e sc loc (.Return (some y) pos :: rest) H Q := by
  intro env A P s E Q' he F hP R k
  exact wpAny_execs_cons (wpAny_Return_some (h.here he F hP R fun v V H' h' tk q hv F' R' => k v V loc H' h' tk q hv F' R'))
theorem EXc_test {x y : Expr} {k2 : Nat} {p2 p3 p4 p5 : Pos} {b rest : List Stmt}
    (h : EVc cx C e sc loc x H fun v H₁ => v = .int 2 ∧ EVc cx C e sc loc y H₁ fun w H₂ => w = .bool true ∧ EXc cx C e sc loc rest H₂ Q)
    (ht : ∀ env whole, isTrue y env whole = (do let v ← whole; standAt y.pos; holding [v] (truthy v)) := by intro _ _; rfl) :
    EXc cx C e sc loc (.If (.BoolOp .Or [.Compare x [.NotEq] [.Constant (.int 2) k2 p2] p3, .UnaryOp .Not y p4] p5) b [] pos :: rest) H Q := by
  intro env A P s E Q' he F hP R k
  refine wpAny_execs_cons (wpAny_If (wpAny_isTrue_BoolOp (wpAny_allTrue_Or_cons (wpAny_isTrue_Compare1 (h.here he F hP R fun v V H₁ h₁ tk₁ q hv F₁ R₁ => ?_) (by with_unfolding_all rfl)))))
  obtain ⟨rfl, q⟩ := q
  obtain ⟨t, rfl⟩ := hv
  refine wpAny_Constant_int (PySem.P.ne_int (wpAny_truthy_bool ?_))
  have e2 : ((2 : Int) != 2) = false := by decide
  simp only [e2, Bool.false_eq_true, if_false]
  refine wpAny_allTrue_Or_cons (wpAny_isTrue_Not (wpAny_isTrue_value (q.here he F₁ hP R₁ fun w W H₂ h₂ tk₂ q₂ hw F₂ R₂ => ?_) (ht env _)))
  obtain ⟨rfl, q₂⟩ := q₂
  cases hw
  refine wpAny_truthy_bool ?_
  simp only [Bool.not_true, Bool.false_eq_true, if_false]
  refine wpAny_allTrue_Or_nil ?_
  simp only [Bool.false_eq_true, if_false]
  refine wpAny_execs_nil ?_
  exact q₂ env A P _ E Q' he F₂ hP R₂ fun v V l H₃ h₃ tk₃ => k v V l H₃ h₃ tk₃
theorem EXc.suite {n : Str} {ss : List Stmt} {v : AV} {K : Hp → Prop} (h : ∀ e loc, loc n = some (.ref e) → EXc cx C e sc loc ss H fun w H' => w = v ∧ K H') : Suite cx sc n C ss H v K := by
  intro env A P s E Q' loc e oe he F R hn hP hc k
  refine h e loc hn env A P s E Q' he F ⟨oe, hP, hc⟩ R fun w V loc' H' h' tk q hv F' R' => ?_
  obtain ⟨rfl, q⟩ := q
  exact k V loc' H' h' tk hv q F' R'

/-- only the j-th of five -/
def flags (j : Nat) : List Bool := [j == 0, j == 1, j == 2, j == 3, j == 4]
def toldWords : List Str := ["web", "ring", "row", "move", "many"]
theorem flags_count {j : Nat} (h : j < 5) : (flags j ++ [true]).count true = 2 := (by decide : ∀ j < 5, (flags j ++ [true]).count true = 2) j h
theorem flags_at {j : Nat} (h : j < 5) : (flags j ++ [true])[j]? = some true := (by decide : ∀ j < 5, (flags j ++ [true])[j]? = some true) j h
theorem flags_no {j : Nat} (h : j < 5) : ∀ i < j, (flags j ++ [true])[i]? = some false := (by decide : ∀ j < 5, ∀ i < j, (flags j ++ [true])[i]? = some false) j h
end
end Mine

-- Core42
set_option linter.unusedVariables false
set_option linter.unusedSimpArgs false
set_option maxRecDepth 100000
namespace Mine
open PySem PySem.W PySem.Calls PyProof.Rows

/-! ## what is refused -/
theorem NoInt.ext {H H' : Hp} {v : AV} (e : Ext H H') (h : NoInt H v) : NoInt H' v := by
  cases v with
  | ref a => obtain ⟨ro, vs, h⟩ := h; exact ⟨ro, vs, e _ _ h⟩
  | none => trivial
  | str _ => trivial
  | int _ => exact h
  | bool _ => exact h
  | ty _ => exact h
theorem NoTuple.ext {H H' : Hp} {v : AV} (e : Ext H H') (h : NoTuple H v) : NoTuple H' v := by
  cases v with
  | ref a => obtain ⟨ro, vs, h⟩ := h; exact ⟨ro, vs, e _ _ h⟩
  | none => trivial
  | int _ => trivial
  | str _ => exact h
  | bool _ => exact h
  | ty _ => exact h
def NoWhole (H : Hp) (v : AV) : Prop := (∃ b, v = .bool b) ∨ NoInt H v
theorem NoWhole.ext {H H' : Hp} {v : AV} (e : Ext H H') (h : NoWhole H v) : NoWhole H' v := h.imp id (NoInt.ext e)
def NoSpot (H : Hp) (m : Nat) (v : AV) : Prop := (∃ i, v = .int i ∧ ¬ (0 ≤ i ∧ i < (m : Int))) ∨ NoWhole H v
theorem NoSpot.ext {H H' : Hp} {m : Nat} {v : AV} (e : Ext H H') (h : NoSpot H m v) : NoSpot H' m v := h.imp id (NoWhole.ext e)
def BadRow (H : Hp) (m : Nat) (v : AV) : Prop :=
  NoList H v ∨ ∃ a ro pre x post, v = .ref a ∧ H a = some (.list ro (rowV pre ++ x :: post)) ∧ pre.Nodup ∧ (∀ g ∈ pre, g < m) ∧ (NoSpot H m x ∨ ∃ n : Nat, n ∈ pre ∧ x = .int (n : Int))
theorem BadRow.ext {H H' : Hp} {m : Nat} {v : AV} (e : Ext H H') (h : BadRow H m v) : BadRow H' m v := by
  rcases h with h | ⟨a, ro, pre, x, post, h0, h1, h2, h3, h4⟩
  · exact .inl (h.ext e)
  · exact .inr ⟨a, ro, pre, x, post, h0, e _ _ h1, h2, h3, h4.imp (NoSpot.ext e) id⟩
def GoodRow (H : Hp) (m : Nat) (v : AV) : Prop := ∃ a ns, v = .ref a ∧ H a = some (.list false (rowV ns)) ∧ ns.Nodup ∧ ∀ g ∈ ns, g < m
theorem GoodRow.ext {H H' : Hp} {m : Nat} {v : AV} (e : Ext H H') (h : GoodRow H m v) : GoodRow H' m v := by
  obtain ⟨a, ns, h0, h1, h2⟩ := h
  exact ⟨a, ns, h0, e _ _ h1, h2⟩
def BadWeb (H : Hp) (v : AV) : Prop :=
  NoList H v ∨ ∃ a ro vs, v = .ref a ∧ H a = some (.list ro vs) ∧ vs.length ≤ 2 ^ 20 ∧
    (vs.length = 0 ∨ 200 < vs.length ∨ ((∀ w ∈ vs, GoodRow H vs.length w ∨ BadRow H vs.length w) ∧ ∃ w ∈ vs, BadRow H vs.length w))
theorem BadWeb.ext {H H' : Hp} {v : AV} (e : Ext H H') (h : BadWeb H v) : BadWeb H' v := by
  rcases h with h | ⟨a, ro, vs, h0, h1, h2, h3⟩
  · exact .inl (h.ext e)
  · refine .inr ⟨a, ro, vs, h0, e _ _ h1, h2, ?_⟩
    rcases h3 with h3 | h3 | ⟨h3, w, hw, h4⟩
    · exact .inl h3
    · exact .inr (.inl h3)
    · exact .inr (.inr ⟨fun w hw => (h3 w hw).imp (GoodRow.ext e) (BadRow.ext e), w, hw, h4.ext e⟩)
def NoRowArg (H : Hp) (m : Nat) (v : AV) : Prop :=
  NoList H v ∨ ∃ a ro vs, v = .ref a ∧ H a = some (.list ro vs) ∧ vs.length ≤ 2 ^ 20 ∧ (24 < vs.length ∨ ∃ pre x post, vs = rowV pre ++ x :: post ∧ (∀ g ∈ pre, g < m) ∧ NoSpot H m x)
theorem NoRowArg.ext {H H' : Hp} {m : Nat} {v : AV} (e : Ext H H') (h : NoRowArg H m v) : NoRowArg H' m v := by
  rcases h with h | ⟨a, ro, vs, h0, h1, h2, h3⟩
  · exact .inl (h.ext e)
  · exact .inr ⟨a, ro, vs, h0, e _ _ h1, h2, h3.imp id fun ⟨pre, x, post, q1, q2, q3⟩ => ⟨pre, x, post, q1, q2, q3.ext e⟩⟩
def NoMoveArg (H : Hp) (web : List (List Nat)) (row : List Nat) (v : AV) : Prop :=
  NoTuple H v ∨ ∃ a vs, v = .ref a ∧ H a = some (.tuple vs) ∧ vs.length ≤ 3 ∧ (vs.length ≠ 2 ∨ ∃ x y, vs = [x, y] ∧
    (NoWhole H x ∨ ∃ i, x = .int i ∧ (NoWhole H y ∨ ∃ j, y = .int j ∧ (¬ (0 ≤ i ∧ i < (row.length : Int)) ∨ (0 ≤ i ∧ i < (row.length : Int) ∧ ∀ n ∈ web.getD (row.getD i.toNat 0) [], j ≠ (n : Int))))))
theorem NoMoveArg.ext {H H' : Hp} {web : List (List Nat)} {row : List Nat} {v : AV} (e : Ext H H') (h : NoMoveArg H web row v) : NoMoveArg H' web row v := by
  rcases h with h | ⟨a, vs, h0, h1, h2, h3⟩
  · exact .inl (h.ext e)
  · exact .inr ⟨a, vs, h0, e _ _ h1, h2, h3.imp id fun ⟨x, y, q1, q2⟩ => ⟨x, y, q1, q2.imp (NoWhole.ext e) fun ⟨i, q3, q4⟩ => ⟨i, q3, q4.imp (NoWhole.ext e) id⟩⟩⟩

theorem bools_of {ys : List AV} (h : ∀ (i : Nat) (y : AV), ys[i]? = some y → ∃ b, y = .bool b) : ∃ bs : List Bool, ys = bs.map .bool := by
  induction ys with
  | nil => exact ⟨[], rfl⟩
  | cons y r ih =>
    obtain ⟨b, rfl⟩ := h 0 y rfl
    obtain ⟨bs, rfl⟩ := ih fun i y hi => h (i + 1) y hi
    exact ⟨b :: bs, rfl⟩
theorem all_false {bs : List Bool} {i : Nat} (h : bs[i]? = some false) : bs.all id = false := by
  rw [Bool.eq_false_iff]
  intro e
  have := List.all_eq_true.mp e false (List.mem_of_getElem? h)
  simp at this

/-! ## a ring in a web -/
structure Ringy (web : List (List Nat)) : Prop where
  ex : ∃ (many : Nat) (sp : Nat → Nat), 1 ≤ many ∧ (∀ k < many, sp k < web.length) ∧ ∀ k < many, sp ((k + 1) % many) ∈ web.getD (sp k) []
theorem Ringy.short {web : List (List Nat)} {f : List Nat} (G : GoodWeb web) (r : Ringy web) (F : Found web f) : f.length < web.length := by
  obtain ⟨many, sp, h1, h2, h3⟩ := r.ex
  have no : ∀ (i k : Nat), k < many → f[i]? ≠ some (sp k) := by
    intro i
    induction i using Nat.strongRecOn with
    | ind i ih =>
      intro k hk e
      have hm := F.topo i _ e _ (h3 k hk)
      obtain ⟨j, hj, e2⟩ := List.mem_iff_getElem.mp hm
      rw [List.getElem_take] at e2
      have hj' : j < i := by rw [List.length_take] at hj; omega
      have hjl : j < f.length := by rw [List.length_take] at hj; omega
      exact ih j hj' _ (Nat.mod_lt _ (by omega)) (by rw [List.getElem?_eq_getElem hjl, e2])
  have hn : sp 0 ∉ f := fun hm => by
    obtain ⟨j, hj, e2⟩ := List.mem_iff_getElem.mp hm
    exact no j 0 (by omega) (by rw [List.getElem?_eq_getElem hj, e2])
  have : (sp 0 :: f).length ≤ web.length := nodup_length (List.nodup_cons.mpr ⟨hn, F.nodup⟩) fun x hx => by
    rcases List.mem_cons.mp hx with rfl | hx
    · exact h2 0 (by omega)
    · exact F.lt x hx
  rw [List.length_cons] at this
  omega

/-! ## the five classes of errors -/
def err5 : List Str := ["NoWeb", "Ringed", "NoRow", "NoMove", "TooMany"]
structure ErrAt (cx : Cx) (j : Nat) (C G : Addr) : Prop where
  err : Err cx.base C G (.ref G :: bmV)
  c : cx.mg (err5.getD j "") = some (.ref C)
  g : cx.mg "GameError" = some (.ref G)
  i0 : IsErr cx C "NoWeb" (j == 0)
  i1 : IsErr cx C "Ringed" (j == 1)
  i2 : IsErr cx C "NoRow" (j == 2)
  i3 : IsErr cx C "NoMove" (j == 3)
  i4 : IsErr cx C "TooMany" (j == 4)
  ve : IsErr cx C "ValueError" true
theorem errAt {cx : Cx} (E : Errs err5 cx.mg cx.base) (hv : cx.mg "ValueError" = none) {j : Nat} (hj : j < 5) : ∃ C G, ErrAt cx j C G := by
  obtain ⟨G, g1, g2, g3⟩ := E
  have mem : ∀ j < 5, err5.getD j "" ∈ err5 := by decide
  have dist : ∀ j < 5, ∀ i < 5, j ≠ i → err5.getD i "" ≠ err5.getD j "" := by decide
  have hmem := mem j hj
  obtain ⟨C, c1, c2, c3, c4⟩ := g3 _ hmem
  have X : Err cx.base C G (.ref G :: bmV) := ⟨c2, g2, .inr rfl⟩
  have is : ∀ i < 5, IsErr cx C (err5.getD i "") (j == i) := by
    intro i hi
    have hmi := mem i hi
    obtain ⟨D, d1, d2, d3, d4⟩ := g3 _ hmi
    refine isErr_own X ⟨d2, g2, .inr rfl⟩ d1 ?_
    by_cases e : j = i
    · subst e
      rw [c1] at d1
      obtain rfl : C = D := by injection d1 with q1; injection q1
      simp
    · have hne := dist j hj i hi e
      have hDC : D ≠ C := fun q => c4 _ hmi hne (by rw [d1, q])
      have hji : (j == i) = false := by simpa using e
      rw [hji]
      simp [bmV, hDC, d3]
  exact ⟨C, G, X, c1, g1, is 0 (by omega), is 1 (by omega), is 2 (by omega), is 3 (by omega), is 4 (by omega), isErr_ve X hv⟩
/-! ## odd things -/
theorem put_as {H H₂ : Hp} {a : Addr} {o o' : AObj} (h : H.put a o = H₂) (ha : H a = none) (e : o = o') : Ext H H₂ ∧ H₂ a = some o' := by
  subst h; subst e; exact ⟨.put ha, Hp.put_self ..⟩
def oddV (n : Int) (z : Addr) : List AV := [.int n, .int (-1), .bool true, .str "0", .none, .ref z, .int (10 ^ 20)]
theorem odd_no {H : Hp} {n : Nat} {z : Addr} {ro : Bool} {vs : List AV} (hz : H z = some (.list ro vs)) (hn : n ≤ 200) {k : Nat} {w : AV} (h : (oddV n z)[k]? = some w) : NoSpot H n w := by
  unfold oddV at h
  match k, h with
  | 0, h => cases h; exact .inl ⟨_, rfl, by omega⟩
  | 1, h => cases h; exact .inl ⟨_, rfl, by omega⟩
  | 2, h => cases h; exact .inr (.inl ⟨_, rfl⟩)
  | 3, h => cases h; exact .inr (.inr trivial)
  | 4, h => cases h; exact .inr (.inr trivial)
  | 5, h => cases h; exact .inr (.inr ⟨ro, vs, hz⟩)
  | 6, h =>
    cases h
    refine .inl ⟨_, rfl, ?_⟩
    have e : (10 : Int) ^ 20 = 100000000000000000000 := by decide
    rw [e]; omega
theorem oddV_get {n : Int} {z : Addr} {k : Nat} (h : k < 7) : ∃ w, (oddV n z)[k]? = some w := ⟨_, List.getElem?_eq_getElem (by simpa [oddV] using h)⟩
theorem badWeb_of {H : Hp} {f : Addr} {ro : Bool} {vs : List AV} {n at_ : Nat} (hf : H f = some (.list ro vs)) (hn : vs.length = n) (h200 : n ≤ 200) (hat : at_ < n)
    (hall : ∀ i w, vs[i]? = some w → i ≠ at_ → GoodRow H n w) (hbad : ∀ w, vs[at_]? = some w → BadRow H n w) : BadWeb H (.ref f) := by
  subst hn
  refine .inr ⟨f, ro, vs, rfl, hf, by omega, .inr (.inr ⟨fun w hw => ?_, vs[at_]'(by omega), List.getElem_mem _, ?_⟩)⟩
  · obtain ⟨i, hi, e⟩ := List.mem_iff_getElem.mp hw
    have hi' : vs[i]? = some w := by rw [List.getElem?_eq_getElem hi, e]
    by_cases q : i = at_
    · subst q; exact .inr (hbad w hi')
    · exact .inl (hall i w hi' q)
  · exact hbad _ (List.getElem?_eq_getElem _)
theorem WebAt.good {H : Hp} {a : Addr} {rs : List Addr} {web : List (List Nat)} (W : WebAt H a rs web) (G : GoodWeb web) {m : Nat} (hm : web.length ≤ m) {i : Nat} {w : AV} (h : (rs.map AV.ref)[i]? = some w) : GoodRow H m w := by
  rw [List.getElem?_map] at h
  obtain ⟨r, hr, rfl⟩ := Option.map_eq_some_iff.mp h
  have hi : i < web.length := by rw [← W.len]; exact (List.getElem?_eq_some_iff.mp hr).1
  have hw : web[i]? = some web[i] := List.getElem?_eq_getElem hi
  have hmem := List.getElem_mem hi
  exact ⟨r, _, rfl, W.row i r _ hr hw, G.nodup _ hmem, fun g hg => Nat.lt_of_lt_of_le (G.lt _ hmem g hg) hm⟩
theorem badWeb_set {H : Hp} {f : Addr} {fs : List Addr} {web : List (List Nat)} {p : Nat} {v : AV} (W : WebAt H f fs web) (G : GoodWeb web) (hp : p < web.length)
    (hbad : BadRow (H.put f (.list false ((fs.map AV.ref).set p v))) web.length v) : BadWeb (H.put f (.list false ((fs.map AV.ref).set p v))) (.ref f) := by
  have hl := W.len
  refine badWeb_of (n := web.length) (at_ := p) (Hp.put_self ..) (by rw [List.length_set, List.length_map]; exact hl) G.most hp (fun i w hi hne => ?_) (fun w hw => ?_)
  · rw [List.getElem?_set_ne (fun q => hne q.symm)] at hi
    obtain ⟨x, ms, rfl, hx, hx2⟩ := W.good G (Nat.le_refl _) hi
    refine ⟨x, ms, rfl, (Hp.put_ne fun q => ?_).trans hx, hx2⟩
    subst q
    rw [List.getElem?_map] at hi
    obtain ⟨x', hx', e'⟩ := Option.map_eq_some_iff.mp hi
    cases e'
    exact W.apart (List.mem_of_getElem? hx')
  · rw [List.getElem?_set_self (by rw [List.length_map]; omega)] at hw
    cases hw
    exact hbad
theorem badWeb_ins {H : Hp} {f : Addr} {fs : List Addr} {web : List (List Nat)} (W : WebAt H f fs web) (G : GoodWeb web) (h40 : web.length ≤ 40) (x : Int) (p : Nat) (hp : p ≤ web.length) :
    BadWeb (H.put f (.list false ((fs.map AV.ref).take p ++ .int x :: (fs.map AV.ref).drop p))) (.ref f) := by
  have hl := W.len
  have hlen : ((fs.map AV.ref).take p ++ AV.int x :: (fs.map AV.ref).drop p).length = web.length + 1 := by
    rw [List.length_append, List.length_cons, List.length_take, List.length_drop, List.length_map]; omega
  refine .inr ⟨f, false, _, rfl, Hp.put_self .., by omega, .inr (.inr ⟨fun w hw => ?_, .int x, by simp, .inl trivial⟩)⟩
  rw [hlen]
  have hw' : w = .int x ∨ w ∈ fs.map AV.ref := by
    rcases List.mem_append.mp hw with h | h
    · exact .inr (List.mem_of_mem_take h)
    · rcases List.mem_cons.mp h with h | h
      · exact .inl h
      · exact .inr (List.mem_of_mem_drop h)
  rcases hw' with rfl | hm
  · exact .inr (.inl trivial)
  · obtain ⟨i, hi, e⟩ := List.mem_iff_getElem.mp hm
    obtain ⟨y, ms, rfl, hy, hy2⟩ := W.good G (m := web.length + 1) (by omega) (i := i) (w := w) (by rw [List.getElem?_eq_getElem hi, e])
    refine .inl ⟨y, ms, rfl, (Hp.put_ne fun q => ?_).trans hy, hy2⟩
    subst q
    obtain ⟨y', hy', e'⟩ := List.mem_map.mp hm
    cases e'
    exact W.apart hy'
end Mine

-- Core43
set_option linter.unusedVariables false
set_option linter.unusedSimpArgs false
namespace Mine
open PySem PySem.W PySem.Calls PyProof.Rows
/-! ## cuts and loops with what comes behind as a variable (small proof terms) -/
section
variable {cx : Cx} {d : Nat} {sc : Scope} {loc : Loc} {H : Hp} {QF : AF → Loc → Hp → Prop}
theorem EX_cutR {st : Stmt} {rest : List Stmt} (Q₁ : Loc → Hp → Prop) (h1 : ∀ R : Loc → Hp → Prop, (∀ l' H', Q₁ l' H' → R l' H') → EX1 cx d sc loc st H (nextQ R)) (h2 : ∀ l' H', Q₁ l' H' → EX cx d sc l' rest H' QF) : EX cx d sc loc (st :: rest) H QF :=
  EX_cut Q₁ (h1 Q₁ fun _ _ h => h) h2
theorem EXf_cutR {st : Stmt} {rest : List Stmt} (Q₁ : Loc → Hp → Prop) (h1 : ∀ R : Loc → Hp → Prop, (∀ l' H', Q₁ l' H' → R l' H') → EX1f cx d sc loc st H (nextQ R)) (h2 : ∀ l' H', Q₁ l' H' → EXf cx d sc l' rest H' QF) : EXf cx d sc loc (st :: rest) H QF :=
  EXf_cut Q₁ (h1 Q₁ fun _ _ h => h) h2
def ForQ (cx : Cx) (d : Nat) (sc : Scope) (loc : Loc) (x : Str) (body : List Stmt) (QF : AF → Loc → Hp → Prop) (v : AV) (H₁ : Hp) : Prop :=
  ∃ els keep, Src H₁ v els keep ∧ ∃ J : Nat → Loc → Hp → Prop, J 0 loc H₁ ∧ (∀ i l₂ H₂, J i l₂ H₂ → keep H₂) ∧
      (∀ i w l₂ H₂, els[i]? = some w → J i l₂ H₂ → ∀ R : Loc → Hp → Prop, (∀ l H, J (i + 1) l H → R l H) → EX cx d sc (upd l₂ x w) body H₂ (loopQ R QF)) ∧ ∀ l₂ H₂, J els.length l₂ H₂ → QF .next l₂ H₂
theorem forQ {x : Str} {body : List Stmt} {v : AV} (h : ∃ els keep, Src H v els keep ∧ ∃ J : Nat → Loc → Hp → Prop, J 0 loc H ∧ (∀ i l₂ H₂, J i l₂ H₂ → keep H₂) ∧
      (∀ i w l₂ H₂, els[i]? = some w → J i l₂ H₂ → ∀ R : Loc → Hp → Prop, (∀ l H, J (i + 1) l H → R l H) → EX cx d sc (upd l₂ x w) body H₂ (loopQ R QF)) ∧ ∀ l₂ H₂, J els.length l₂ H₂ → QF .next l₂ H₂) : ForQ cx d sc loc x body QF v H := h
theorem EX_ForR {x : Str} {px pos : Pos} {iter : Expr} {body : List Stmt} (h : EV cx d sc loc iter H (ForQ cx d sc loc x body QF))
    (hx : storable sc x = true := by rfl) (hs : ∀ env v, foldedSetIterable iter env v = pure v := by intro _ _; rfl) : EX1 cx d sc loc (.For (.Name x px) iter body [] pos) H QF :=
  EX_For (h.mono fun v H₁ ⟨els, keep, S, J, h0, hk, turn, fin⟩ => ⟨els, keep, S, J, h0, hk, fun i w l₂ H₂ hi hJ => turn i w l₂ H₂ hi hJ _ fun _ _ h => h, fin⟩) hx hs
theorem EX_ForEnumR (hB : Bs cx) {xi xv : Str} {pi pv pt p pos pos' : Pos} {n : Nat} {e : Expr} {body : List Stmt}
    (h : EV cx d sc loc e H fun v H₁ => ∃ a ro vs, v = .ref a ∧ H₁ a = some (.list ro vs) ∧ ∃ J : Nat → Loc → Hp → Prop, J 0 loc H₁ ∧ (∀ i l₂ H₂, J i l₂ H₂ → H₂ a = some (.list ro vs)) ∧
      (∀ i w l₂ H₂, vs[i]? = some w → J i l₂ H₂ → ∀ R : Loc → Hp → Prop, (∀ l H, J (i + 1) l H → R l H) → EX cx d sc (upd (upd l₂ xi (.int i)) xv w) body H₂ (loopQ R QF)) ∧ ∀ l₂ H₂, J vs.length l₂ H₂ → QF .next l₂ H₂)
    (hxi : storable sc xi = true := by rfl) (hxv : storable sc xv = true := by rfl) (hx : globalName sc "enumerate" = true := by rfl) (hn : notStar e = true := by rfl) :
    EX1 cx d sc loc (.For (.Tuple [.Name xi pi, .Name xv pv] n pt) (.Call (.Name "enumerate" p) [e] [] pos) body [] pos') H QF :=
  EX_ForEnum hB (h.mono fun v H₁ ⟨a, ro, vs, q1, q2, J, h0, hk, turn, fin⟩ => ⟨a, ro, vs, q1, q2, J, h0, hk, fun i w l₂ H₂ hi hJ => turn i w l₂ H₂ hi hJ _ fun _ _ h => h, fin⟩) hxi hxv hx hn
theorem EX_WhileR {t : Expr} {b : List Stmt} {pos : Pos} (I : Nat → Loc → Hp → Prop) (n : Nat) (h0 : I n loc H)
    (turn : ∀ n loc H, I n loc H → ∀ R : Loc → Hp → Prop, (∀ m l₂ H₂, m < n → I m l₂ H₂ → R l₂ H₂) → TV cx d sc loc t H fun c H' => if c = true then EX cx d sc loc b H' (loopQ R QF) else QF .next loc H') :
    EX1 cx d sc loc (.While t b [] pos) H QF :=
  EX_While I n h0 fun n l H hI => turn n l H hI _ fun m l₂ H₂ hm hI => ⟨m, hm, hI⟩
end
/-! ## lists of a known length -/
theorem len_0 {α : Type} {l : List α} (h : l.length = 0) : l = [] := List.length_eq_zero_iff.mp h
theorem len_s {α : Type} {l : List α} {n : Nat} (h : l.length = n + 1) : ∃ a r, l = a :: r ∧ r.length = n := by
  cases l with
  | nil => cases h
  | cons a r => exact ⟨a, r, rfl, Nat.succ.inj h⟩
theorem len_1 {α : Type} {l : List α} (h : l.length = 1) : ∃ x0, l = [x0] := by
  obtain ⟨a, r, rfl, h2⟩ := len_s h
  rw [len_0 h2]; exact ⟨a, rfl⟩
theorem len_2 {α : Type} {l : List α} (h : l.length = 2) : ∃ x0 x1, l = [x0, x1] := by
  obtain ⟨a, r, rfl, h2⟩ := len_s h
  obtain ⟨x1, rfl⟩ := len_1 h2
  exact ⟨a, x1, rfl⟩
theorem len_3 {α : Type} {l : List α} (h : l.length = 3) : ∃ x0 x1 x2, l = [x0, x1, x2] := by
  obtain ⟨a, r, rfl, h2⟩ := len_s h
  obtain ⟨x1, x2, rfl⟩ := len_2 h2
  exact ⟨a, x1, x2, rfl⟩
theorem len_4 {α : Type} {l : List α} (h : l.length = 4) : ∃ x0 x1 x2 x3, l = [x0, x1, x2, x3] := by
  obtain ⟨a, r, rfl, h2⟩ := len_s h
  obtain ⟨x1, x2, x3, rfl⟩ := len_3 h2
  exact ⟨a, x1, x2, x3, rfl⟩
theorem len_5 {α : Type} {l : List α} (h : l.length = 5) : ∃ x0 x1 x2 x3 x4, l = [x0, x1, x2, x3, x4] := by
  obtain ⟨a, r, rfl, h2⟩ := len_s h
  obtain ⟨x1, x2, x3, x4, rfl⟩ := len_4 h2
  exact ⟨a, x1, x2, x3, x4, rfl⟩
theorem len_6 {α : Type} {l : List α} (h : l.length = 6) : ∃ x0 x1 x2 x3 x4 x5, l = [x0, x1, x2, x3, x4, x5] := by
  obtain ⟨a, r, rfl, h2⟩ := len_s h
  obtain ⟨x1, x2, x3, x4, x5, rfl⟩ := len_5 h2
  exact ⟨a, x1, x2, x3, x4, x5, rfl⟩
/-! ## a list display whose parts are known by what they are alone -/
section
variable {cx : Cx} {d : Nat} {sc : Scope} {loc : Loc} {Q : AV → Hp → Prop}
theorem EVs_all (T : AV → Hp → Prop) (hT : ∀ v H H', Ext H H' → T v H → T v H') : ∀ {es : List Expr} {H : Hp} {QL : List AV → Hp → Prop},
    (∀ e ∈ es, ∀ H', Ext H H' → EV cx d sc loc e H' fun v H'' => Ext H' H'' ∧ T v H'') → (∀ vs H', Ext H H' → vs.length = es.length → (∀ v ∈ vs, T v H') → QL vs H') → EVs cx d sc loc es H QL
  | [], H, QL, _, hq => hq [] H (.refl _) rfl fun v hv => by cases hv
  | e :: r, H, QL, h, hq => evs_cons ((h e (List.mem_cons_self ..) H (.refl _)).mono fun v H₁ q =>
      EVs_all T hT (fun e' he' H' x => h e' (List.mem_cons_of_mem _ he') H' (q.1.trans x)) fun vs H₂ e2 hl hv => hq (v :: vs) H₂ (q.1.trans e2) (by rw [List.length_cons, List.length_cons, hl]) fun w hw => by
        rcases List.mem_cons.mp hw with rfl | hw
        · exact hT _ _ _ e2 q.2
        · exact hv w hw)
theorem EV_ListAll {es : List Expr} {H : Hp} {pos : Pos} (T : AV → Hp → Prop) (hT : ∀ v H H', Ext H H' → T v H → T v H') (h : ∀ e ∈ es, ∀ H', Ext H H' → EV cx d sc loc e H' fun v H'' => Ext H' H'' ∧ T v H'')
    (hq : ∀ a vs H', Ext H H' → vs.length = es.length → (∀ v ∈ vs, T v H') → H' a = none → Q (.ref a) (H'.put a (.list false vs))) (hl : es.length ≤ 2 ^ 20 := by decide) (hn : es.all notStar = true := by rfl) : EV cx d sc loc (.List es pos) H Q :=
  EV_List (EVs_all T hT h fun vs H' e hv ht => ⟨by rw [hv]; exact hl, fun a ha => hq a vs H' e hv ht ha⟩) hn
end
/-! ## small decisions -/
theorem ite_decN {k n : Nat} {X Y : Prop} (h1 : k = n → X) (h2 : k ≠ n → Y) : if decide ((k : Int) = (n : Int)) = true then X else Y :=
  ite_dec (fun h => h1 (Int.ofNat.inj h)) (fun h => h2 fun z => h (congrArg Int.ofNat z))
theorem ite_decL {k n : Nat} {X Y : Prop} (h1 : k < n → X) (h2 : n ≤ k → Y) : if decide ((k : Int) < (n : Int)) = true then X else Y :=
  ite_dec (fun h => h1 (Int.ofNat_lt.mp h)) (fun h => h2 (Nat.le_of_not_lt fun z => h (Int.ofNat_lt.mpr z)))
theorem lt6 {i : Nat} (h : i < 6) : i = 0 ∨ i = 1 ∨ i = 2 ∨ i = 3 ∨ i = 4 ∨ i = 5 := (by decide : ∀ i < 6, i = 0 ∨ i = 1 ∨ i = 2 ∨ i = 3 ∨ i = 4 ∨ i = 5) i h
theorem k789 {k : Nat} (h : 7 ≤ k) (h' : k < 10) : k = 7 ∨ k = 8 ∨ k = 9 := (by decide : ∀ k < 10, 7 ≤ k → k = 7 ∨ k = 8 ∨ k = 9) k h' h
theorem modS (c : Int) (n : Nat) : ∃ k : Nat, c % ((n : Int) + 1) = k ∧ k < n + 1 := modN c (n := n + 1) (Nat.succ_pos n)
theorem ge_ne {k n : Nat} (h : n ≤ k) (h' : k ≠ n) : n + 1 ≤ k := Nat.lt_of_le_of_ne h (Ne.symm h')
end Mine

-- L01a
set_option pp.deepTerms false
set_option pp.maxSteps 1500
set_option linter.unusedVariables false
set_option linter.unusedSimpArgs false
namespace Mine
open PySem PySem.Calls PyProof.Rows PySem.Challenge
local macro_rules | `(tactic| walk_at "lk") => `(tactic| first | exact upd_self _ _ _ | assumption | ((with_reducible refine Eq.trans (upd_ne ?hne) ?_); (case hne => decide); walk_at "lk") | ((with_reducible refine capt_of ?hcf ?_); (case hcf => rfl); walk_at "lk") | rfl)
local macro_rules | `(tactic| walk_at "e") => `(tactic| first
  | ((with_reducible refine EV_Name (v := ?v) ?h ?_); (case h => walk_at "lk"))
  | (with_reducible first
    | refine EX_cons ?_ | refine at_next ?_ | refine EV_int ?_ | refine EV_BinOp ?_ | refine TV_Not ?_ | refine TV_And ?_ | refine TV_Or ?_
    | refine Op_add ?_ | refine Op_sub ?_ | refine Op_mod (by omega) ?_ | refine Op_floordiv (by omega) (by omega) ?_
    | refine Op_eq ?_ | refine Op_ne ?_ | refine Op_lt ?_ | refine Op_le ?_ | refine Op_gt ?_ | refine Op_ge ?_
    | refine asB_b ?_ | refine evs_cons ?_ | refine evs_nil ?_ | refine EX_If ?_ | refine EX_Return ?_ | refine at_ret (ret_ret ?_) | refine ret_ret ?_ | refine ret_next ?_
    | refine at_ret ?_ | refine nxt ?_ | refine lp_next ?_ | refine lp_ret ?_ | refine EX_nil ?_
    | refine EV_bool ?_ | refine EV_none ?_ | refine EV_str ?_
    | refine EV_And2 ?_ | refine EV_Or2 ?_ | refine EV_Not ?_ | refine tand_cons ?_ | refine tand_nil ?_ | refine tor_cons ?_ | refine tor_nil ?_
    | refine evo_none ?_ | refine evo_some ?_ | refine EV_IfExp ?_
    | refine CW_isinst_int_int ?_ | refine CW_isinst_int_bool ?_ | refine ite_t ?_ | refine ite_f ?_ | refine ite_nt ?_ | refine ite_nf ?_)
  | ((with_reducible first | refine EV_Compare1 ?_ ?hm | refine TV_Compare1 ?_ ?hm | refine TV_Compare2 ?_ ?hm | refine EV_Compare2 ?_ ?hm); (case hm => with_unfolding_all rfl))
  | ((with_reducible refine EX_Assign ?_ ?hx ?hs); (case hx => rfl); (case hs => intro _; rfl))
  | ((with_reducible first | refine EX_Expr ?_ ?hs | refine EX_AssignSub ?_ ?hs); (case hs => intro _; rfl))
  | ((with_reducible first | refine EV_Sub ?_ ?hs | refine TV_val ?_ ?hs); (case hs => intro _ _; rfl))
  | ((with_reducible first | refine EV_CallB (b_len ?hB) ?_ ?hx ?hn | refine EV_CallB (b_isinstance ?hB) ?_ ?hx ?hn | refine EV_CallB (b_any ?hB) ?_ ?hx ?hn | refine EV_CallB (b_all ?hB) ?_ ?hx ?hn | refine EV_CallB (b_min ?hB) ?_ ?hx ?hn | refine EV_CallB (b_max ?hB) ?_ ?hx ?hn | refine EV_CallB (b_sorted ?hB) ?_ ?hx ?hn | refine EV_CallT (b_tuple ?hB) ?_ ?hx ?hn | refine EV_CallT (b_dict ?hB) ?_ ?hx ?hn | refine EV_CallT (b_set ?hB) ?_ ?hx ?hn | refine EV_CallT (b_list ?hB) ?_ ?hx ?hn | refine EV_CallT (b_range ?hB) ?_ ?hx ?hn); (case hB => assumption); (case hx => rfl); (case hn => rfl))
  | ((with_reducible first | refine EV_BType (b_int ?hB) ?_ ?hx | refine EV_BType (b_bool ?hB) ?_ ?hx | refine EV_BType (b_list ?hB) ?_ ?hx); (case hB => assumption); (case hx => rfl))
  | ((with_reducible refine EV_Global (v := .int ?gi) (V := .int ?gi ?gt) ?hg ?hv ?_ ?hx); (case hg => assumption); (case hv => exact ⟨_, rfl⟩); (case hx => rfl)))
local macro_rules | `(tactic| walk_at "E") => `(tactic| repeat (first | walk_at "e" | (with_reducible dsimp only)))
local macro_rules | `(tactic| walk_at "nn") => `(tactic| first | exact Int.natCast_nonneg _ | decide | omega)
local macro_rules | `(tactic| walk_at "ln") => `(tactic| first | exact lenOk (by assumption) (by assumption) rfl | exact lenRow (by assumption) rfl | (simp; omega))
abbrev p01 := pw_uf050033_01
set_option maxRecDepth 10000
set_option maxHeartbeats 4000000
def errNames : List Str := ["NoWeb", "Ringed", "NoRow", "NoMove", "TooMany"]
def errHk : PySem.W.Hook := errHook errNames (by decide)
structure PD (cx : Cx) : Prop where
  bs : Bs cx
  defs : ∀ k ∈ [9, 10, 11, 12, 13, 14, 15, 16, 17, 18, 20, 21, 22, 23, 24, 25, 26, 29, 30, 31, 32, 33, 34, 36, 37, 38, 40, 41, 42, 43, 44, 45, 46, 47, 48, 49, 50, 51], ∃ fa, HasDef cx (defAt p01 k) fa
  most : ∃ t, cx.mg "MOST_SPOTS" = some (.int 200 t)
  mostGames : ∃ t, cx.mg "MOST_GAMES" = some (.int 24 t)
  errs : Errs errNames cx.mg cx.base
  ve : cx.mg "ValueError" = none
theorem bind_is_whole : ∀ (pm code doc : Value) (vs : List Value), vs.length = 1 → bindArgs (docDef (defAt p01 9).name (defAt p01 9).params (defAt p01 9).body (defAt p01 9).scope pm code doc) ⟨vs, []⟩ = pure ((defAt p01 9).names.zip vs) := by
  intro pm code doc vs h
  obtain ⟨x0, rfl⟩ := len_1 h
  rfl
theorem bind_is_spot : ∀ (pm code doc : Value) (vs : List Value), vs.length = 2 → bindArgs (docDef (defAt p01 10).name (defAt p01 10).params (defAt p01 10).body (defAt p01 10).scope pm code doc) ⟨vs, []⟩ = pure ((defAt p01 10).names.zip vs) := by
  intro pm code doc vs h
  obtain ⟨x0, x1, rfl⟩ := len_2 h
  rfl
theorem bind_are_moves : ∀ (pm code doc : Value) (vs : List Value), vs.length = 2 → bindArgs (docDef (defAt p01 11).name (defAt p01 11).params (defAt p01 11).body (defAt p01 11).scope pm code doc) ⟨vs, []⟩ = pure ((defAt p01 11).names.zip vs) := by
  intro pm code doc vs h
  obtain ⟨x0, x1, rfl⟩ := len_2 h
  rfl
theorem bind_is_web : ∀ (pm code doc : Value) (vs : List Value), vs.length = 1 → bindArgs (docDef (defAt p01 12).name (defAt p01 12).params (defAt p01 12).body (defAt p01 12).scope pm code doc) ⟨vs, []⟩ = pure ((defAt p01 12).names.zip vs) := by
  intro pm code doc vs h
  obtain ⟨x0, rfl⟩ := len_1 h
  rfl
theorem bind_need_web : ∀ (pm code doc : Value) (vs : List Value), vs.length = 1 → bindArgs (docDef (defAt p01 13).name (defAt p01 13).params (defAt p01 13).body (defAt p01 13).scope pm code doc) ⟨vs, []⟩ = pure ((defAt p01 13).names.zip vs) := by
  intro pm code doc vs h
  obtain ⟨x0, rfl⟩ := len_1 h
  rfl
theorem bind_comers_of : ∀ (pm code doc : Value) (vs : List Value), vs.length = 1 → bindArgs (docDef (defAt p01 14).name (defAt p01 14).params (defAt p01 14).body (defAt p01 14).scope pm code doc) ⟨vs, []⟩ = pure ((defAt p01 14).names.zip vs) := by
  intro pm code doc vs h
  obtain ⟨x0, rfl⟩ := len_1 h
  rfl
theorem bind_behind_first : ∀ (pm code doc : Value) (vs : List Value), vs.length = 1 → bindArgs (docDef (defAt p01 15).name (defAt p01 15).params (defAt p01 15).body (defAt p01 15).scope pm code doc) ⟨vs, []⟩ = pure ((defAt p01 15).names.zip vs) := by
  intro pm code doc vs h
  obtain ⟨x0, rfl⟩ := len_1 h
  rfl
theorem bind_ring_in : ∀ (pm code doc : Value) (vs : List Value), vs.length = 1 → bindArgs (docDef (defAt p01 16).name (defAt p01 16).params (defAt p01 16).body (defAt p01 16).scope pm code doc) ⟨vs, []⟩ = pure ((defAt p01 16).names.zip vs) := by
  intro pm code doc vs h
  obtain ⟨x0, rfl⟩ := len_1 h
  rfl
theorem bind_joined_webs : ∀ (pm code doc : Value) (vs : List Value), vs.length = 2 → bindArgs (docDef (defAt p01 17).name (defAt p01 17).params (defAt p01 17).body (defAt p01 17).scope pm code doc) ⟨vs, []⟩ = pure ((defAt p01 17).names.zip vs) := by
  intro pm code doc vs h
  obtain ⟨x0, x1, rfl⟩ := len_2 h
  rfl
theorem bind_paired_web : ∀ (pm code doc : Value) (vs : List Value), vs.length = 2 → bindArgs (docDef (defAt p01 18).name (defAt p01 18).params (defAt p01 18).body (defAt p01 18).scope pm code doc) ⟨vs, []⟩ = pure ((defAt p01 18).names.zip vs) := by
  intro pm code doc vs h
  obtain ⟨x0, x1, rfl⟩ := len_2 h
  rfl
theorem bind_need_game : ∀ (pm code doc : Value) (vs : List Value), vs.length = 1 → bindArgs (docDef (defAt p01 20).name (defAt p01 20).params (defAt p01 20).body (defAt p01 20).scope pm code doc) ⟨vs, []⟩ = pure ((defAt p01 20).names.zip vs) := by
  intro pm code doc vs h
  obtain ⟨x0, rfl⟩ := len_1 h
  rfl
theorem bind_least_beside : ∀ (pm code doc : Value) (vs : List Value), vs.length = 1 → bindArgs (docDef (defAt p01 21).name (defAt p01 21).params (defAt p01 21).body (defAt p01 21).scope pm code doc) ⟨vs, []⟩ = pure ((defAt p01 21).names.zip vs) := by
  intro pm code doc vs h
  obtain ⟨x0, rfl⟩ := len_1 h
  rfl
theorem bind_numbers_of : ∀ (pm code doc : Value) (vs : List Value), vs.length = 1 → bindArgs (docDef (defAt p01 22).name (defAt p01 22).params (defAt p01 22).body (defAt p01 22).scope pm code doc) ⟨vs, []⟩ = pure ((defAt p01 22).names.zip vs) := by
  intro pm code doc vs h
  obtain ⟨x0, rfl⟩ := len_1 h
  rfl
theorem bind_lengths_of : ∀ (pm code doc : Value) (vs : List Value), vs.length = 1 → bindArgs (docDef (defAt p01 23).name (defAt p01 23).params (defAt p01 23).body (defAt p01 23).scope pm code doc) ⟨vs, []⟩ = pure ((defAt p01 23).names.zip vs) := by
  intro pm code doc vs h
  obtain ⟨x0, rfl⟩ := len_1 h
  rfl
theorem bind_shown_moves : ∀ (pm code doc : Value) (vs : List Value), vs.length = 2 → bindArgs (docDef (defAt p01 24).name (defAt p01 24).params (defAt p01 24).body (defAt p01 24).scope pm code doc) ⟨vs, []⟩ = pure ((defAt p01 24).names.zip vs) := by
  intro pm code doc vs h
  obtain ⟨x0, x1, rfl⟩ := len_2 h
  rfl
theorem bind_laid_two : ∀ (pm code doc : Value) (vs : List Value), vs.length = 2 → bindArgs (docDef (defAt p01 25).name (defAt p01 25).params (defAt p01 25).body (defAt p01 25).scope pm code doc) ⟨vs, []⟩ = pure ((defAt p01 25).names.zip vs) := by
  intro pm code doc vs h
  obtain ⟨x0, x1, rfl⟩ := len_2 h
  rfl
theorem bind_laid_over : ∀ (pm code doc : Value) (vs : List Value), vs.length = 1 → bindArgs (docDef (defAt p01 26).name (defAt p01 26).params (defAt p01 26).body (defAt p01 26).scope pm code doc) ⟨vs, []⟩ = pure ((defAt p01 26).names.zip vs) := by
  intro pm code doc vs h
  obtain ⟨x0, rfl⟩ := len_1 h
  rfl
theorem bind_need_row : ∀ (pm code doc : Value) (vs : List Value), vs.length = 2 → bindArgs (docDef (defAt p01 29).name (defAt p01 29).params (defAt p01 29).body (defAt p01 29).scope pm code doc) ⟨vs, []⟩ = pure ((defAt p01 29).names.zip vs) := by
  intro pm code doc vs h
  obtain ⟨x0, x1, rfl⟩ := len_2 h
  rfl
theorem bind_moves_of : ∀ (pm code doc : Value) (vs : List Value), vs.length = 2 → bindArgs (docDef (defAt p01 30).name (defAt p01 30).params (defAt p01 30).body (defAt p01 30).scope pm code doc) ⟨vs, []⟩ = pure ((defAt p01 30).names.zip vs) := by
  intro pm code doc vs h
  obtain ⟨x0, x1, rfl⟩ := len_2 h
  rfl
theorem bind_moves_in : ∀ (pm code doc : Value) (vs : List Value), vs.length = 2 → bindArgs (docDef (defAt p01 31).name (defAt p01 31).params (defAt p01 31).body (defAt p01 31).scope pm code doc) ⟨vs, []⟩ = pure ((defAt p01 31).names.zip vs) := by
  intro pm code doc vs h
  obtain ⟨x0, x1, rfl⟩ := len_2 h
  rfl
theorem bind_is_move : ∀ (pm code doc : Value) (vs : List Value), vs.length = 3 → bindArgs (docDef (defAt p01 32).name (defAt p01 32).params (defAt p01 32).body (defAt p01 32).scope pm code doc) ⟨vs, []⟩ = pure ((defAt p01 32).names.zip vs) := by
  intro pm code doc vs h
  obtain ⟨x0, x1, x2, rfl⟩ := len_3 h
  rfl
theorem bind_played : ∀ (pm code doc : Value) (vs : List Value), vs.length = 3 → bindArgs (docDef (defAt p01 33).name (defAt p01 33).params (defAt p01 33).body (defAt p01 33).scope pm code doc) ⟨vs, []⟩ = pure ((defAt p01 33).names.zip vs) := by
  intro pm code doc vs h
  obtain ⟨x0, x1, x2, rfl⟩ := len_3 h
  rfl
theorem bind_row_number : ∀ (pm code doc : Value) (vs : List Value), vs.length = 2 → bindArgs (docDef (defAt p01 34).name (defAt p01 34).params (defAt p01 34).body (defAt p01 34).scope pm code doc) ⟨vs, []⟩ = pure ((defAt p01 34).names.zip vs) := by
  intro pm code doc vs h
  obtain ⟨x0, x1, rfl⟩ := len_2 h
  rfl
theorem bind_is_lost : ∀ (pm code doc : Value) (vs : List Value), vs.length = 2 → bindArgs (docDef (defAt p01 36).name (defAt p01 36).params (defAt p01 36).body (defAt p01 36).scope pm code doc) ⟨vs, []⟩ = pure ((defAt p01 36).names.zip vs) := by
  intro pm code doc vs h
  obtain ⟨x0, x1, rfl⟩ := len_2 h
  rfl
theorem bind_good_moves : ∀ (pm code doc : Value) (vs : List Value), vs.length = 2 → bindArgs (docDef (defAt p01 37).name (defAt p01 37).params (defAt p01 37).body (defAt p01 37).scope pm code doc) ⟨vs, []⟩ = pure ((defAt p01 37).names.zip vs) := by
  intro pm code doc vs h
  obtain ⟨x0, x1, rfl⟩ := len_2 h
  rfl
theorem bind_parting_row : ∀ (pm code doc : Value) (vs : List Value), vs.length = 3 → bindArgs (docDef (defAt p01 38).name (defAt p01 38).params (defAt p01 38).body (defAt p01 38).scope pm code doc) ⟨vs, []⟩ = pure ((defAt p01 38).names.zip vs) := by
  intro pm code doc vs h
  obtain ⟨x0, x1, x2, rfl⟩ := len_3 h
  rfl
theorem bind_law_cell_at : ∀ (pm code doc : Value) (vs : List Value), vs.length = 2 → bindArgs (docDef (defAt p01 40).name (defAt p01 40).params (defAt p01 40).body (defAt p01 40).scope pm code doc) ⟨vs, []⟩ = pure ((defAt p01 40).names.zip vs) := by
  intro pm code doc vs h
  obtain ⟨x0, x1, rfl⟩ := len_2 h
  rfl
theorem bind_law_mixed : ∀ (pm code doc : Value) (vs : List Value), vs.length = 2 → bindArgs (docDef (defAt p01 41).name (defAt p01 41).params (defAt p01 41).body (defAt p01 41).scope pm code doc) ⟨vs, []⟩ = pure ((defAt p01 41).names.zip vs) := by
  intro pm code doc vs h
  obtain ⟨x0, x1, rfl⟩ := len_2 h
  rfl
theorem bind_law_order_by : ∀ (pm code doc : Value) (vs : List Value), vs.length = 2 → bindArgs (docDef (defAt p01 42).name (defAt p01 42).params (defAt p01 42).body (defAt p01 42).scope pm code doc) ⟨vs, []⟩ = pure ((defAt p01 42).names.zip vs) := by
  intro pm code doc vs h
  obtain ⟨x0, x1, rfl⟩ := len_2 h
  rfl
theorem bind_law_web_by : ∀ (pm code doc : Value) (vs : List Value), vs.length = 2 → bindArgs (docDef (defAt p01 43).name (defAt p01 43).params (defAt p01 43).body (defAt p01 43).scope pm code doc) ⟨vs, []⟩ = pure ((defAt p01 43).names.zip vs) := by
  intro pm code doc vs h
  obtain ⟨x0, x1, rfl⟩ := len_2 h
  rfl
theorem bind_law_copied : ∀ (pm code doc : Value) (vs : List Value), vs.length = 1 → bindArgs (docDef (defAt p01 44).name (defAt p01 44).params (defAt p01 44).body (defAt p01 44).scope pm code doc) ⟨vs, []⟩ = pure ((defAt p01 44).names.zip vs) := by
  intro pm code doc vs h
  obtain ⟨x0, rfl⟩ := len_1 h
  rfl
theorem bind_law_spoilt : ∀ (pm code doc : Value) (vs : List Value), vs.length = 2 → bindArgs (docDef (defAt p01 45).name (defAt p01 45).params (defAt p01 45).body (defAt p01 45).scope pm code doc) ⟨vs, []⟩ = pure ((defAt p01 45).names.zip vs) := by
  intro pm code doc vs h
  obtain ⟨x0, x1, rfl⟩ := len_2 h
  rfl
theorem bind_law_ringed : ∀ (pm code doc : Value) (vs : List Value), vs.length = 2 → bindArgs (docDef (defAt p01 46).name (defAt p01 46).params (defAt p01 46).body (defAt p01 46).scope pm code doc) ⟨vs, []⟩ = pure ((defAt p01 46).names.zip vs) := by
  intro pm code doc vs h
  obtain ⟨x0, x1, rfl⟩ := len_2 h
  rfl
theorem bind_law_bad_row : ∀ (pm code doc : Value) (vs : List Value), vs.length = 3 → bindArgs (docDef (defAt p01 47).name (defAt p01 47).params (defAt p01 47).body (defAt p01 47).scope pm code doc) ⟨vs, []⟩ = pure ((defAt p01 47).names.zip vs) := by
  intro pm code doc vs h
  obtain ⟨x0, x1, x2, rfl⟩ := len_3 h
  rfl
theorem bind_law_asked_one : ∀ (pm code doc : Value) (vs : List Value), vs.length = 3 → bindArgs (docDef (defAt p01 48).name (defAt p01 48).params (defAt p01 48).body (defAt p01 48).scope pm code doc) ⟨vs, []⟩ = pure ((defAt p01 48).names.zip vs) := by
  intro pm code doc vs h
  obtain ⟨x0, x1, x2, rfl⟩ := len_3 h
  rfl
theorem bind_law_asked : ∀ (pm code doc : Value) (vs : List Value), vs.length = 6 → bindArgs (docDef (defAt p01 49).name (defAt p01 49).params (defAt p01 49).body (defAt p01 49).scope pm code doc) ⟨vs, []⟩ = pure ((defAt p01 49).names.zip vs) := by
  intro pm code doc vs h
  obtain ⟨x0, x1, x2, x3, x4, x5, rfl⟩ := len_6 h
  rfl
theorem bind_law_told : ∀ (pm code doc : Value) (vs : List Value), vs.length = 6 → bindArgs (docDef (defAt p01 50).name (defAt p01 50).params (defAt p01 50).body (defAt p01 50).scope pm code doc) ⟨vs, []⟩ = pure ((defAt p01 50).names.zip vs) := by
  intro pm code doc vs h
  obtain ⟨x0, x1, x2, x3, x4, x5, rfl⟩ := len_6 h
  rfl
theorem bind_law : ∀ (pm code doc : Value) (vs : List Value), vs.length = 1 → bindArgs (docDef (defAt p01 51).name (defAt p01 51).params (defAt p01 51).body (defAt p01 51).scope pm code doc) ⟨vs, []⟩ = pure ((defAt p01 51).names.zip vs) := by
  intro pm code doc vs h
  obtain ⟨x0, rfl⟩ := len_1 h
  rfl
section
variable {cx : Cx} {d : Nat} {H : Hp} {Q : AV → Hp → Prop}
theorem is_whole_spec (hE : PD cx) {fa : Addr} (hf : HasDef cx (defAt p01 9) fa) {i : Int} (hq : Q (.bool true) H) : CW cx (d + 1) (.ref fa) [.int i] H Q := by
  have hB := hE.bs
  refine CW_fn hf bind_is_whole ?_
  show EX cx d _ (upd (fun _ => none) "thing" (.int i)) _ H _
  refine EX_cons ?_
  walk_at "E"
  exact hq
theorem is_spot_spec (hE : PD cx) {fa : Addr} (hf : HasDef cx (defAt p01 10) fa) {i m : Int} (hq : Q (.bool (decide (0 ≤ i ∧ i < m))) H) : CW cx (d + 2) (.ref fa) [.int i, .int m] H Q := by
  have hB := hE.bs
  obtain ⟨ga, hg⟩ := hE.defs 9 (by decide)
  refine CW_fn hf bind_is_spot ?_
  show EX cx (d + 1) _ (upd (upd (fun _ => none) "thing" (.int i)) "many" (.int m)) _ H _
  refine EX_cons ?_
  walk_at "E"
  refine EV_CallD hg ?_
  walk_at "E"
  refine is_whole_spec hE hg ?_
  walk_at "E"
  refine ite_dec (fun h => ?_) (fun h => ?_)
  · walk_at "E"
    simpa [h] using hq
  · walk_at "E"
    simpa [h] using hq
theorem are_moves_spec (hE : PD cx) {fa : Addr} (hf : HasDef cx (defAt p01 11) fa) {a : Addr} {ns : List Nat} {m : Nat} (ha : H a = some (.list false (rowV ns))) (hn : ns.Nodup) (hm : ∀ g ∈ ns, g < m) (hl : m ≤ 200)
    (hq : ∀ H', Ext H H' → Q (.bool true) H') : CW cx (d + 3) (.ref fa) [.ref a, .int m] H Q := by
  have hB := hE.bs
  obtain ⟨ga, hg⟩ := hE.defs 10 (by decide)
  have hlen : ns.length ≤ 200 := Nat.le_trans (nodup_length hn hm) hl
  refine CW_fn hf bind_are_moves ?_
  show EX cx (d + 2) _ (upd (upd (fun _ => none) "thing" (.ref a)) "many" (.int m)) _ H _
  refine EX_cons ?_
  walk_at "E"
  refine CW_isinst_list ha ?_
  walk_at "E"
  refine EV_Dict0 fun b hb hb' => ?_
  walk_at "E"
  refine EX_For ?_
  walk_at "E"
  have ha' : (H.put b (.dict [])) a = some (.list false (rowV ns)) := (Hp.put_ne (ne_of_new hb ha)).trans ha
  refine ⟨_, _, .list ha', fun i l' H' => Ext H H' ∧ H' a = some (.list false (rowV ns)) ∧ l' "many" = some (.int m) ∧ l' "met" = some (.ref b) ∧ ∃ kvs, H' b = some (.dict kvs) ∧ kvs.length ≤ i ∧ ∀ n : Nat, (dget kvs n).isSome = decide (n ∈ ns.take i),
    ⟨.put hb, ha', by walk_at "lk", by walk_at "lk", [], Hp.put_self .., by simp, by simp [dget]⟩, ?_, ?_, ?_⟩
  · rintro i l' H' ⟨_, h, _⟩; exact h
  · rintro i w l' H' hi ⟨he, h1, h2, h3, kvs, h4, h5, h6⟩
    obtain ⟨n, hi', rfl⟩ := rowV_get hi
    have hi := hi'
    have hn1 := hm n (List.mem_of_getElem? hi)
    have hlt : i < ns.length := (List.getElem?_eq_some_iff.mp hi).1
    walk_at "E"
    refine EV_CallD hg ?_
    walk_at "E"
    refine is_spot_spec hE hg ?_
    rw [decide_eq_true (show (0 : Int) ≤ n ∧ (n : Int) < m by omega)]
    walk_at "E"
    refine Op_inDict h4 hb' ?_
    have hnot : n ∉ ns.take i := by
      rw [← (List.getElem?_eq_some_iff.mp hi).2]
      intro hmem
      obtain ⟨j, hj, e⟩ := List.mem_iff_getElem.mp hmem
      rw [List.getElem_take] at e
      have hj' : j < i := by rw [List.length_take] at hj; omega
      exact (List.pairwise_iff_getElem.mp hn j i (by omega) hlt hj') e
    rw [h6 n, decide_eq_false hnot]
    walk_at "E"
    refine Set_dict h4 (by omega) ?_
    walk_at "E"
    refine ⟨he.own hb, (Hp.put_ne (ne_of_new hb ha)).trans h1, by walk_at "lk", by walk_at "lk", _, Hp.put_self .., ?_, fun k => ?_⟩
    · unfold dset; split
      · rw [List.length_map]; omega
      · rw [List.length_append, List.length_singleton]; omega
    · rw [dget_dset, List.take_add_one, hi]
      by_cases e : (k : Int) = n
      · have e' : k = n := by omega
        rw [if_pos e]; simp [e']
      · have e' : k ≠ n := fun z => e (by rw [z])
        rw [if_neg e, h6 k]; simp [e']
  · rintro l' H' ⟨he, _⟩
    walk_at "E"
    exact hq H' he
theorem is_web_spec (hE : PD cx) {fa : Addr} (hf : HasDef cx (defAt p01 12) fa) {a : Addr} {web : List (List Nat)} (hW : IsWeb H a web) (hG : GoodWeb web)
    (hq : ∀ H', Ext H H' → Q (.bool true) H') : CW cx (d + 4) (.ref fa) [.ref a] H Q := by
  have hB := hE.bs
  obtain ⟨rs, W⟩ := hW
  obtain ⟨ga, hg⟩ := hE.defs 11 (by decide)
  obtain ⟨t, hM⟩ := hE.most
  have hp := hG.pos
  have hm := hG.most
  have hl := W.len
  refine CW_fn hf bind_is_web ?_
  show EX cx (d + 3) _ (upd (fun _ => none) "thing" (.ref a)) _ H _
  refine EX_cons ?_
  walk_at "E"
  refine CW_isinst_list W.top ?_
  walk_at "E"
  refine CW_len W.top (by walk_at "ln") ?_
  rw [List.length_map, hl]
  walk_at "E"
  refine ite_dec (fun _ => ?_) (fun h => absurd (by omega) h)
  walk_at "E"
  refine ite_ndec (fun h => absurd (by omega) h) (fun _ => ?_)
  walk_at "E"
  refine EV_ListComp ?_
  walk_at "E"
  refine ⟨_, _, .list W.top, by simp; omega, ?_⟩
  refine CompW_grow rs AV.ref (fun _ y _ => y = .bool true) (fun _ _ _ _ _ h => h) (fun H' e => e _ _ W.top) (fun r H' hr he => ?_) (fun ys H' he hlen hys b hb => ?_)
  · obtain ⟨ns, hns, hr'⟩ := W.mem hr
    have W' := W.ext he
    refine EV_CallD hg ?_
    walk_at "E"
    refine CW_len W'.top (by walk_at "ln") ?_
    rw [List.length_map, hl]
    walk_at "E"
    exact (are_moves_spec hE hg (he _ _ hr') (hG.nodup _ hns) (hG.lt _ hns) hm fun H'' e'' => ⟨e'', rfl⟩).le (d := d + 3) (d' := 3) (lek rfl)
  · walk_at "E"
    have e : ys = (List.replicate rs.length true).map AV.bool := by
      apply List.ext_getElem
      · simp [hlen]
      · intro i h1 h2
        have hi : i < rs.length := by omega
        simpa using hys i rs[i] ys[i] (by simp [hi]) (by simp [h1])
    refine CW_all (bs := List.replicate rs.length true) (ro := false) (by rw [Hp.put_self, e]) ?_
    have : (List.replicate rs.length true).all id = true := by simp
    rw [this]
    walk_at "E"
    exact hq _ (he.put_r hb)
theorem need_web_spec (hE : PD cx) {fa : Addr} (hf : HasDef cx (defAt p01 13) fa) {a : Addr} {web : List (List Nat)} (hW : IsWeb H a web) (hG : GoodWeb web)
    (hq : ∀ H', Ext H H' → Q .none H') : CW cx (d + 5) (.ref fa) [.ref a] H Q := by
  have hB := hE.bs
  obtain ⟨ga, hg⟩ := hE.defs 12 (by decide)
  refine CW_fn hf bind_need_web ?_
  show EX cx (d + 4) _ (upd (fun _ => none) "web" (.ref a)) _ H _
  refine EX_cons ?_
  walk_at "E"
  refine EV_CallD hg ?_
  walk_at "E"
  refine is_web_spec hE hg hW hG fun H' he => ?_
  walk_at "E"
  exact hq H' he

end

-- L01b
set_option maxRecDepth 10000
set_option maxHeartbeats 4000000
section
variable {cx : Cx} {d : Nat} {H : Hp} {Q : AV → Hp → Prop}
theorem comers_of_spec (hE : PD cx) {fa : Addr} (hf : HasDef cx (defAt p01 14) fa) {a : Addr} {web : List (List Nat)} (hW : IsWeb H a web) (hG : GoodWeb web)
    (hq : ∀ H' f, Ext H H' → NewWeb H H' f (comersWeb web web.length) → Q (.ref f) H') : CW cx (d + 1) (.ref fa) [.ref a] H Q := by
  have hB := hE.bs
  obtain ⟨rs, W⟩ := hW
  have hl := W.len
  have hm := hG.most
  refine CW_fn hf bind_comers_of ?_
  show EX cx d _ (upd (fun _ => none) "web" (.ref a)) _ H _
  refine EX_cons ?_
  refine EX_AssignComp ?_
  walk_at "E"
  refine ⟨_, _, .list W.top, by simp; omega, ?_⟩
  refine CompW_rows rs AV.ref (fun _ => []) (fun H' e => e _ _ W.top) (fun r H' Q' hr he k => ?_) (fun fs H' he hlen hn hfr hrow f hf' => ?_)
  · refine EV_List ?_
    walk_at "E"
    exact ⟨by simp, k⟩
  have hf0 : H f = none := he.none hf'
  have W' : WebAt (H'.put f (.list false (fs.map .ref))) f fs (comersWeb web 0) := by
    refine ⟨Hp.put_self .., by simp [hlen, hl, comersWeb], fun i r ns h1 h2 => ?_, hn, fun hmem => ?_⟩
    · have hi : i < rs.length := by rw [← hlen]; exact (List.getElem?_eq_some_iff.mp h1).1
      have hr := hrow i rs[i] r (by simp [hi]) h1
      rw [Hp.put_ne (ne_of_new hf' hr), hr]
      have : ns = [] := by
        simp only [comersWeb, List.getElem?_map, Option.map_eq_some_iff] at h2
        obtain ⟨g, _, rfl⟩ := h2
        simp [comersTo]
      rw [this]; rfl
    · obtain ⟨k, hk, e⟩ := List.mem_iff_getElem.mp hmem
      have hkx : k < rs.length := by omega
      have := hrow k rs[k] f (by simp [hkx]) (by rw [← e]; simp [hk])
      rw [hf'] at this; cases this
  have he' : Ext H (H'.put f (.list false (fs.map .ref))) := he.put_r hf'
  generalize H'.put f _ = H₁ at W' he' ⊢
  clear hrow he hf' 
  walk_at "E"
  refine EX_ForEnumR hB ?_
  walk_at "E"
  refine ⟨a, false, _, rfl, he' _ _ W.top, fun i l' H' => Ext H H' ∧ WebAt H' f fs (comersWeb web i) ∧ l' "found" = some (.ref f), ⟨he', W', by walk_at "lk"⟩, ?_, ?_, ?_⟩
  · rintro i l' H' ⟨e, _⟩; exact e _ _ W.top
  · rintro i w l' H' hi ⟨e, Wf, h1⟩ R hR
    simp only [List.getElem?_map, Option.map_eq_some_iff] at hi
    obtain ⟨r, hi, rfl⟩ := hi
    have hil : i < web.length := by rw [← hl]; exact (List.getElem?_eq_some_iff.mp hi).1
    have hrow : H r = some (.list false (rowV (web.getD i []))) := W.row i r _ hi (by simp [hil])
    refine EX_cons ?_
    refine EX_ForR ?_
    walk_at "E"
    refine forQ ⟨_, _, .list (e _ _ hrow), fun j l' H' => Ext H H' ∧ WebAt H' f fs (comersIn web i j) ∧ l' "found" = some (.ref f) ∧ l' "spot" = some (.int i), ⟨e, by rw [comersIn_zero]; exact Wf, by walk_at "lk", by walk_at "lk"⟩, ?_, ?_, ?_⟩
    · rintro j l' H' ⟨e, _⟩; exact e _ _ hrow
    · rintro j w l' H' hj ⟨e, Wf, h1, h2⟩ R2 hR2
      obtain ⟨g, hj', rfl⟩ := rowV_get hj
      have hg : g < web.length := (hG.row i).2 g (List.mem_of_getElem? hj')
      obtain ⟨s1, s2⟩ := comersIn_step hG hj'
      have hgl : g < fs.length := by rw [hlen, hl]; exact hg
      have hgf : fs[g]? = some fs[g] := by simp [hgl]
      have hgr := Wf.row g fs[g] _ hgf s1
      have hlen' : (comersTo web i g).length ≤ 200 := by
        refine Nat.le_trans (nodup_length (n := web.length) (comersTo_nodup web i g) fun x hx => ?_) hm
        have := (mem_comersTo.mp hx).1; omega
      refine EX_cons ?_
      walk_at "E"
      refine EV_Meth F.slot_list_append F.type_list_append ?_
      walk_at "E"
      refine Get_list Wf.top (by walk_at "nn") (by walk_at "ln") (v := .ref fs[g]) (by simp [hgl]) ?_
      refine ⟨fs[g], false, _, rfl, hgr, ?_⟩
      walk_at "E"
      refine CW_append hgr (by walk_at "ln") ?_
      refine ⟨rfl, ?_⟩
      walk_at "E"
      have e2 : rowV (comersTo web i g) ++ [AV.int i] = rowV (comersTo web i g ++ [i]) := by simp [rowV]
      rw [e2]
      exact hR2 _ _ ⟨e.own (hfr _ (List.getElem_mem hgl)), by rw [← s2]; exact Wf.set hgf _, h1, h2⟩
    · rintro l' H' ⟨e, Wf, h1, h2⟩
      rw [rowV_length, comersIn_all] at Wf
      walk_at "E"
      exact hR _ _ ⟨e, Wf, h1⟩
  · rintro l' H' ⟨e, Wf, h1⟩
    rw [List.length_map, hl] at Wf
    walk_at "E"
    exact hq H' f e ⟨fs, Wf, hf0, hfr⟩
theorem behind_first_spec (hE : PD cx) {fa : Addr} (hf : HasDef cx (defAt p01 15) fa) {a : Addr} {web : List (List Nat)} (hW : IsWeb H a web) (hG : GoodWeb web)
    (hq : ∀ H' f found, Ext H H' → H f = none → H' f = some (.list false (rowV found)) → Found web found → Q (.ref f) H') : CW cx (d + 2) (.ref fa) [.ref a] H Q := by
  have hB := hE.bs
  obtain ⟨ga, hg⟩ := hE.defs 14 (by decide)
  obtain ⟨rs, W⟩ := id hW
  have hl := W.len
  have hm := hG.most
  refine CW_fn hf bind_behind_first ?_
  show EX cx (d + 1) _ (upd (fun _ => none) "web" (.ref a)) _ H _
  refine EX_cons ?_
  walk_at "E"
  refine EV_CallD hg ?_
  walk_at "E"
  refine (comers_of_spec hE hg hW hG fun H₁ c e1 N => ?_).le (d := d + 1) (d' := 1) (lek rfl)
  obtain ⟨cs, Wc, _, _⟩ := N
  have W1 := W.ext e1
  walk_at "E"
  refine EX_AssignComp ?_
  walk_at "E"
  refine ⟨_, _, .list W1.top, by simp; omega, ?_⟩
  rw [refs_eq rs, hl]
  refine CompW_map (List.range web.length) _ (fun i => AV.int (((web.getD i []).length : Nat) : Int)) (by rw [← hl, ← refs_eq rs]; exact W1.top) (fun i hi => ?_) (fun b hb => ?_)
  · have hi' : i < web.length := List.mem_range.mp hi
    have hil : i < rs.length := by omega
    have hrow : H₁ rs[i] = some (.list false (rowV (web.getD i []))) := W1.row i _ _ (by simp [hil]) (by simp [hi'])
    have hz := hG.rowLen i
    have e0 : rs.getD i 0 = rs[i] := by simp [hil]
    rw [e0]
    walk_at "E"
    refine CW_len hrow (by rw [rowV_length]; omega) ⟨?_, rfl⟩
    rw [rowV_length]
  have e2 : Ext H₁ (H₁.put b (.list false (tabV web.length fun i => AV.int (((web.getD i []).length : Nat) : Int)))) := .put hb
  have hb0 := e1.none hb
  have hWt : (H₁.put b (.list false (tabV web.length fun i => AV.int (((web.getD i []).length : Nat) : Int)))) b = _ := Hp.put_self ..
  change andThen cx (d + 1) _ _ _ _ _ (H₁.put b (.list false (tabV web.length fun i => AV.int (((web.getD i []).length : Nat) : Int))))
  generalize H₁.put b _ = H₂ at e2 hWt ⊢
  have W2 := W1.ext e2
  have Wc2 := Wc.ext e2
  walk_at "E"
  refine EX_AssignComp ?_
  walk_at "E"
  refine CW_len W2.top (by walk_at "ln") ?_
  rw [List.length_map, hl]
  walk_at "E"
  refine CW_range1 fun g hg' => ?_
  have e3 : Ext H₂ (H₂.put g (.range 0 web.length)) := .put hg'
  refine ⟨_, _, .range (Hp.put_self ..) (by decide) (by decide) (by omega) (by omega), by rw [spanZ_length]; omega, ?_⟩
  generalize H₂.put g _ = H₃ at e3 ⊢
  rw [spanZ0]
  refine CompW_filter (List.range web.length) _ (fun (i : Nat) => AV.int (i : Int)) (fun s => decide ((web.getD s []).length = 0)) trivial (fun i hi => ?_) (fun i hi _ => ?_) (fun f hf' => ?_)
  · have hi' : i < web.length := List.mem_range.mp hi
    walk_at "E"
    refine Get_list (e3 _ _ hWt) (by walk_at "nn") (by walk_at "ln") (v := .int (((web.getD i []).length : Nat) : Int)) (tabV_get (by omega)) ?_
    walk_at "E"
    exact ⟨by simp, rfl⟩
  · walk_at "E"
    exact ⟨rfl, rfl⟩
  change andThen cx (d + 1) _ _ _ _ _ (H₃.put f (.list false (rowV ((List.range web.length).filter fun s => decide ((web.getD s []).length = 0)))))
  have e4 : Ext H₃ (H₃.put f (.list false (rowV ((List.range web.length).filter fun s => decide ((web.getD s []).length = 0))))) := .put hf'
  have hF : (H₃.put f (.list false (rowV ((List.range web.length).filter fun s => decide ((web.getD s []).length = 0))))) f = _ := Hp.put_self ..
  have hf0 : H f = none := e1.none (e2.none (e3.none hf'))
  have hbf : b ≠ f := ne_of_new hf' (e3 _ _ hWt)
  have hWb := e4 _ _ (e3 _ _ hWt)
  have Wc4 := (Wc2.ext e3).ext e4
  have hE4 := ((e1.trans e2).trans e3).trans e4
  have hc1 : H₁ b = none := hb
  generalize H₃.put f _ = H₄ at hF hWb Wc4 hE4 ⊢
  have hcs : ∀ r ∈ cs, r ≠ b ∧ r ≠ f := fun r hr => by
    obtain ⟨ns, _, h1⟩ := Wc.mem hr
    exact ⟨ne_of_new hb h1, ne_of_new hf' (e3 _ _ (e2 _ _ h1))⟩
  have hcb : c ≠ b ∧ c ≠ f := ⟨ne_of_new hb Wc.top, ne_of_new hf' (e3 _ _ (e2 _ _ Wc.top))⟩
  clear e2 e3 e4 hf' hg' hWt W2 Wc2
  walk_at "E"
  have keepC : ∀ (H' : Hp) (o : AObj), WebAt H' c cs (comersWeb web web.length) → WebAt (H'.put b o) c cs (comersWeb web web.length) ∧ WebAt (H'.put f o) c cs (comersWeb web web.length) := fun H' o Wx =>
    ⟨⟨(Hp.put_ne hcb.1).trans Wx.top, Wx.len, fun i r ns h1 h2 => (Hp.put_ne (hcs r (List.mem_of_getElem? h1)).1).trans (Wx.row i r ns h1 h2), Wx.nodup, Wx.apart⟩,
     ⟨(Hp.put_ne hcb.2).trans Wx.top, Wx.len, fun i r ns h1 h2 => (Hp.put_ne (hcs r (List.mem_of_getElem? h1)).2).trans (Wx.row i r ns h1 h2), Wx.nodup, Wx.apart⟩⟩
  refine EX_WhileR (fun n l' H' => Ext H H' ∧ WebAt H' c cs (comersWeb web web.length) ∧ l' "comers" = some (.ref c) ∧ l' "wanting" = some (.ref b) ∧ l' "found" = some (.ref f) ∧ ∃ (at_ : Nat) (found : List Nat) (w : Nat → Nat), n = web.length - at_ ∧ l' "at" = some (.int at_) ∧
      H' b = some (.list false (tabV web.length fun s => .int (w s))) ∧ H' f = some (.list false (rowV found)) ∧ KInv web at_ found w) web.length
    ⟨hE4, Wc4, by walk_at "lk", by walk_at "lk", by walk_at "lk", 0, _, _, by omega, by walk_at "lk", hWb, hF, .start web⟩ ?_
  rintro n l' H' ⟨e, Wx, h1, h2, h3, at_, found, w, rfl, h4, h5, h6, K⟩ R hR
  have hfl : found.length ≤ web.length := nodup_length K.nodup K.lt
  refine TV.mono (Q₁ := fun v H₁ => H₁ = H' ∧ v = decide ((at_ : Int) < found.length)) ?_ ?_
  · walk_at "E"
    refine CW_len h6 (by walk_at "ln") ?_
    rw [rowV_length]
    walk_at "E"
    exact ⟨rfl, rfl⟩
  rintro v H₁' ⟨rfl, rfl⟩
  refine ite_dec (fun hat => ?_) (fun hat => ?_)
  · have hat' : at_ < found.length := by omega
    have hx : found[at_]? = some found[at_] := by simp [hat']
    have hxl := K.lt _ (List.getElem_mem hat')
    obtain ⟨r, hr1, hr2, hr3⟩ := Wx.at (i := found[at_]) (by simp [comersWeb]; exact hxl)
    have hcw : (comersWeb web web.length).getD found[at_] [] = comersTo web web.length found[at_] := by simp [comersWeb, hxl]
    rw [hcw] at hr3
    have hne1 : r ≠ b := (hcs r (List.mem_of_getElem? hr1)).1
    have hne2 : r ≠ f := (hcs r (List.mem_of_getElem? hr1)).2
    refine EX_cons ?_
    refine EX_ForR ?_
    walk_at "E"
    refine Get_list h6 (by walk_at "nn") (by walk_at "ln") (v := .int found[at_]) (by simp [rowV, hat']) ?_
    refine Get_list Wx.top (by walk_at "nn") (by simp; have := Wx.len; simp [comersWeb] at this; omega) (v := .ref r) hr2 ?_
    refine forQ ⟨_, _, .list hr3, fun j l' H' => Ext H H' ∧ WebAt H' c cs (comersWeb web web.length) ∧ l' "comers" = some (.ref c) ∧ l' "wanting" = some (.ref b) ∧ l' "found" = some (.ref f) ∧ H' r = some (.list false (rowV (comersTo web web.length found[at_]))) ∧ l' "at" = some (.int at_) ∧
      ∃ (found' : List Nat) (w' : Nat → Nat), H' b = some (.list false (tabV web.length fun s => .int (w' s))) ∧ H' f = some (.list false (rowV found')) ∧ KIn web at_ found[at_] ((comersTo web web.length found[at_]).take j) found' w',
      ⟨e, Wx, h1, h2, h3, hr3, h4, found, w, h5, h6, K.open_ hx⟩, ?_, ?_, ?_⟩
    · rintro j l' H' ⟨_, _, _, _, _, h, _⟩; exact h
    · rintro j v l' H' hj ⟨e, Wx, h1, h2, h3, hr, h4, found', w', h5, h6, K'⟩ R2 hR2
      obtain ⟨x, hj', rfl⟩ := rowV_get hj
      obtain ⟨hx1, hx2⟩ := mem_comersTo.mp (List.mem_of_getElem? hj')
      obtain ⟨k1, k2⟩ := K'.turn hG hx1 hx2 (nodup_take_not (comersTo_nodup ..) hj')
      have hfl' : found'.length ≤ web.length := nodup_length K'.nodup K'.lt
      have htk : (comersTo web web.length found[at_]).take j ++ [x] = (comersTo web web.length found[at_]).take (j + 1) := by rw [List.take_add_one, hj']; rfl
      rw [htk] at k2
      refine EX_cons ?_
      walk_at "E"
      refine Get_list h5 (by walk_at "nn") (by walk_at "ln") (v := .int (w' x)) (tabV_get (by omega)) ?_
      walk_at "E"
      refine Set_list h5 (by walk_at "nn") (by walk_at "ln") (by walk_at "ln") ?_
      have ew : (tabV web.length fun s => AV.int (w' s)).set ((x : Int)).toNat (.int ((w' x : Int) - 1)) = tabV web.length fun s => AV.int ((if s = x then w' x - 1 else w' s : Nat) : Int) := by
        rw [Int.toNat_natCast, tabV_set]
        apply tabV_congr
        intro s _
        by_cases es : s = x
        · rw [if_pos es, if_pos es]; congr 1; omega
        · rw [if_neg es, if_neg es]
      rw [ew]
      have g5 : (H'.put b (.list false (tabV web.length fun s => AV.int ((if s = x then w' x - 1 else w' s : Nat) : Int)))) b = _ := Hp.put_self ..
      have g6 := (Hp.put_ne (H := H') (o := .list false (tabV web.length fun s => AV.int ((if s = x then w' x - 1 else w' s : Nat) : Int))) (Ne.symm hbf)).trans h6
      have gr := (Hp.put_ne (H := H') (o := .list false (tabV web.length fun s => AV.int ((if s = x then w' x - 1 else w' s : Nat) : Int))) hne1).trans hr
      have gW := (keepC H' (.list false (tabV web.length fun s => AV.int ((if s = x then w' x - 1 else w' s : Nat) : Int))) Wx).1
      have ge := e.own (o := .list false (tabV web.length fun s => AV.int ((if s = x then w' x - 1 else w' s : Nat) : Int))) hb0
      generalize H'.put b _ = H₅ at g5 g6 gr gW ge ⊢
      walk_at "E"
      refine Get_list g5 (by walk_at "nn") (by walk_at "ln") (v := .int ((if x = x then w' x - 1 else w' x : Nat) : Int)) (tabV_get (by omega)) ?_
      rw [if_pos rfl]
      walk_at "E"
      refine ite_dec (fun hz => ?_) (fun hz => ?_)
      · rw [if_pos (show w' x - 1 = 0 by omega)] at k2
        walk_at "E"
        refine EV_Meth F.slot_list_append F.type_list_append ?_
        walk_at "E"
        refine ⟨f, false, _, rfl, g6, ?_⟩
        walk_at "E"
        refine CW_append g6 (by walk_at "ln") ?_
        refine ⟨rfl, ?_⟩
        walk_at "E"
        have e2 : rowV found' ++ [AV.int x] = rowV (found' ++ [x]) := by simp [rowV]
        rw [e2]
        exact hR2 _ _ ⟨ge.own hf0, (keepC _ _ gW).2, by walk_at "lk", by walk_at "lk", by walk_at "lk", (Hp.put_ne hne2).trans gr, by walk_at "lk", _, _, (Hp.put_ne hbf).trans g5, Hp.put_self .., k2⟩
      · rw [if_neg (show ¬ w' x - 1 = 0 by omega)] at k2
        walk_at "E"
        exact hR2 _ _ ⟨ge, gW, by walk_at "lk", by walk_at "lk", by walk_at "lk", gr, by walk_at "lk", _, _, g5, g6, k2⟩
    · rintro l' H' ⟨e, Wx, h1, h2, h3, hr, h4, found', w', h5, h6, K'⟩
      rw [rowV_length, List.take_length] at K'
      have K'' := K'.close fun s hs => by rw [mem_comersTo]; exact ⟨fun z => z.2, fun z => ⟨hs, z⟩⟩
      walk_at "E"
      exact hR (web.length - (at_ + 1)) _ _ (by omega) ⟨e, Wx, by walk_at "lk", by walk_at "lk", by walk_at "lk", at_ + 1, found', w', rfl, by walk_at "lk", h5, h6, K''⟩
  · walk_at "E"
    have hlast : at_ = found.length := by have := K.le; omega
    subst hlast
    exact hq _ f found e hf0 h6 K.found
theorem need_game_spec (hE : PD cx) {fa : Addr} (hf : HasDef cx (defAt p01 20) fa) {a : Addr} {web : List (List Nat)} (hW : IsWeb H a web) (hG : GoodWeb web) (hC : Calm web)
    (hq : ∀ H' f found, Ext H H' → H f = none → H' f = some (.list false (rowV found)) → Found web found → found.length = web.length → (∀ s < web.length, s ∈ found) → Q (.ref f) H') : CW cx (d + 6) (.ref fa) [.ref a] H Q := by
  have hB := hE.bs
  obtain ⟨ga, hg⟩ := hE.defs 13 (by decide)
  obtain ⟨ba, hb⟩ := hE.defs 15 (by decide)
  have hm := hG.most
  refine CW_fn hf bind_need_game ?_
  show EX cx (d + 5) _ (upd (fun _ => none) "web" (.ref a)) _ H _
  refine EX_cons ?_
  walk_at "E"
  refine EV_CallD hg ?_
  walk_at "E"
  refine (need_web_spec hE hg hW hG fun H₁ e1 => ?_)
  refine ⟨rfl, ?_⟩
  walk_at "E"
  refine EV_CallD hb ?_
  walk_at "E"
  refine (behind_first_spec hE hb (hW.ext e1) hG fun H₂ f found e2 hf0 hF F => ?_).le (d := d + 5) (d' := 2) (lek rfl)
  obtain ⟨w1, w2⟩ := F.whole hG hC
  obtain ⟨rs, W⟩ := hW.ext (e1.trans e2)
  have hl := W.len
  walk_at "E"
  refine CW_len hF (by walk_at "ln") ?_
  walk_at "E"
  refine CW_len W.top (by walk_at "ln") ?_
  rw [rowV_length, List.length_map, hl, w1]
  walk_at "E"
  refine ite_dec (fun h => absurd h (by omega)) (fun _ => ?_)
  walk_at "E"
  exact hq H₂ f found (e1.trans e2) (e1.none hf0) hF F w1 w2

end

-- L01c
set_option maxRecDepth 10000
set_option maxHeartbeats 4000000
section
variable {cx : Cx} {d : Nat} {H : Hp} {Q : AV → Hp → Prop}
theorem cell_at_spec (hE : PD cx) {fa : Addr} (hf : HasDef cx (defAt p01 40) fa) (hlen : cx.nums.length ≤ 63) {k : Int} (hk : 0 ≤ k) (hq : Q (.int (cx.nums.getD k.toNat 0)) H) : CW cx (d + 1) (.ref fa) [.ref cx.script, .int k] H Q := by
  have hB := hE.bs
  refine CW.scr fun hs => ?_
  refine CW_fn hf bind_law_cell_at ?_
  show EX cx d _ (upd (upd (fun _ => none) "_law_script" (.ref cx.script)) "_law_k" (.int k)) _ H _
  refine EX_cons ?_
  walk_at "E"
  refine CW_len hs (by walk_at "ln") ?_
  walk_at "E"
  refine ite_dec (fun h => ?_) (fun h => ?_)
  · walk_at "E"
    have hlt : k.toNat < cx.nums.length := by simp at h; omega
    refine Get_list hs hk (by walk_at "ln") (v := .int cx.nums[k.toNat]) (by simp [hlt]) ?_
    walk_at "E"
    rw [List.getD_eq_getElem?_getD] at hq
    simpa [hlt] using hq
  · walk_at "E"
    have hge : cx.nums.length ≤ k.toNat := by simp at h; omega
    rw [List.getD_eq_getElem?_getD, List.getElem?_eq_none hge] at hq
    exact hq
theorem mixed_spec {fa : Addr} (hf : HasDef cx (defAt p01 41) fa) {c k : Int} (h0 : 0 ≤ k) (h1 : k < 2 ^ 20) (hq : Q (.int (mixed c k)) H) : CW cx (d + 1) (.ref fa) [.int c, .int k] H Q := by
  refine CW_fn hf bind_law_mixed ?_
  show EX cx d _ (upd (upd (fun _ => none) "_law_cell" (.int c)) "_law_k" (.int k)) _ H _
  refine EX_cons ?_
  walk_at "E"
  refine Op_mul (mulR (by decide)) ?_
  walk_at "E"
  refine Op_mul (mulR (by omega)) ?_
  walk_at "E"
  refine Op_mul (mulL ?_) ?_
  · generalize (c % 1000000007 + 17) * 48271 = z
    omega
  walk_at "E"
  refine Op_mul (mulR (by decide)) ?_
  walk_at "E"
  unfold mixed at hq
  exact hq
theorem order_by_spec (hE : PD cx) {fa : Addr} (hf : HasDef cx (defAt p01 42) fa) {c : Int} {n : Nat} (hn : n ≤ 200)
    (hq : ∀ H' f order, Ext H H' → H f = none → H' f = some (.list false (rowV order)) → order.Perm (List.range n) → Q (.ref f) H') : CW cx (d + 2) (.ref fa) [.int c, .int n] H Q := by
  have hB := hE.bs
  obtain ⟨ga, hg⟩ := hE.defs 41 (by decide)
  refine CW_fn hf bind_law_order_by ?_
  show EX cx (d + 1) _ (upd (upd (fun _ => none) "_law_cell" (.int c)) "_law_many" (.int n)) _ H _
  refine EX_cons ?_
  walk_at "E"
  refine CW_range1 fun r hr => ?_
  refine CW_list_range (Hp.put_self ..) (by omega) (by omega) (by omega) (by omega) fun l hl => ?_
  rw [spanZ0]
  have e1 : Ext H ((H.put r (.range 0 n)).put l (.list false (rowV (List.range n)))) := (Ext.put hr).put_r hl
  have hL : ((H.put r (.range 0 n)).put l (.list false (rowV (List.range n)))) l = _ := Hp.put_self ..
  have hl0 : H l = none := (Ext.put hr).none hl
  change andThen cx (d + 1) _ _ _ _ _ ((H.put r (.range 0 n)).put l (.list false (rowV (List.range n))))
  generalize (H.put r _).put l _ = H₁ at e1 hL ⊢
  walk_at "E"
  refine EV_List ?_
  walk_at "E"
  refine ⟨by simp, fun o ho => ?_⟩
  have e2 : Ext H (H₁.put o (.list false (rowV []))) := e1.put_r ho
  have hO : (H₁.put o (.list false (rowV []))) o = _ := Hp.put_self ..
  have ho0 : H o = none := e1.none ho
  have hlo : l ≠ o := ne_of_new ho hL
  have hL2 := (Hp.put_ne (H := H₁) (o := .list false (rowV [])) hlo).trans hL
  change andThen cx (d + 1) _ _ _ _ _ (H₁.put o (.list false (rowV [])))
  generalize H₁.put o _ = H₂ at e2 hO hL2 ⊢
  walk_at "E"
  refine EX_ForR ?_
  walk_at "E"
  refine CW_range1 fun r2 hr2 => ?_
  have e3 := e2.put_r (o := .range 0 n) hr2
  refine forQ ⟨_, _, .range (Hp.put_self ..) (by decide) (by decide) (by omega) (by omega), fun i l' H' => Ext H H' ∧ l' "_law_left" = some (.ref l) ∧ l' "_law_order" = some (.ref o) ∧ l' "_law_cell" = some (.int c) ∧ ∃ order left, H' l = some (.list false (rowV left)) ∧ H' o = some (.list false (rowV order)) ∧
    order.length = i ∧ (order ++ left).Perm (List.range n), ⟨e3, by walk_at "lk", by walk_at "lk", by walk_at "lk", [], List.range n, (Hp.put_ne (ne_of_new hr2 hL2)).trans hL2, (Hp.put_ne (ne_of_new hr2 hO)).trans hO, rfl, .refl _⟩, ?_, ?_, ?_⟩
  · intros; trivial
  · rintro i w l' H' hi ⟨e, h1, h2, h3, order, left, h4, h5, h6, hp⟩ R hR
    obtain ⟨hi1, rfl⟩ := spanZ_get hi
    have hlen := hp.length_eq
    rw [List.length_append, List.length_range] at hlen
    have hpos : 0 < left.length := by omega
    have hm := mixed_nonneg c (0 + (i : Int))
    refine EX_cons ?_
    walk_at "E"
    refine EV_Meth F.slot_list_append F.type_list_append ?_
    walk_at "E"
    refine ⟨o, false, _, rfl, h5, ?_⟩
    walk_at "E"
    refine EV_Meth F.slot_list_pop F.type_list_pop ?_
    walk_at "E"
    refine ⟨l, false, _, rfl, h4, ?_⟩
    walk_at "E"
    refine EV_CallD hg ?_
    walk_at "E"
    refine (mixed_spec hg (by omega) (by omega) ?_).le (d := d + 1) (d' := 1) (lek rfl)
    walk_at "E"
    refine CW_len h4 (by walk_at "ln") ?_
    rw [rowV_length]
    refine Op_mod (by omega) ?_
    have hlt : (mixed c (0 + (i : Int)) % (left.length : Int)).toNat < left.length := by
      have h1 := Int.emod_lt_of_pos (mixed c (0 + (i : Int))) (show (0 : Int) < left.length by omega)
      have h2 := Int.emod_nonneg (mixed c (0 + (i : Int))) (show (left.length : Int) ≠ 0 by omega)
      omega
    have hx : left[(mixed c (0 + (i : Int)) % (left.length : Int)).toNat]? = some left[(mixed c (0 + (i : Int)) % (left.length : Int)).toNat] := by simp [hlt]
    have hp' := perm_turn hp hx
    have hnn := Int.emod_nonneg (mixed c (0 + (i : Int))) (show (left.length : Int) ≠ 0 by omega)
    generalize mixed c (0 + (i : Int)) % (left.length : Int) = k at hlt hx hp' hnn ⊢
    generalize left[k.toNat] = x at hx hp'
    walk_at "E"
    refine CW_pop h4 (by walk_at "ln") hnn (v := .int x) (by simp only [rowV, List.getElem?_map, hx, Option.map_some]) ?_
    rw [rowV_eraseIdx]
    have g4 : (H'.put l (.list false (rowV (left.eraseIdx k.toNat)))) l = _ := Hp.put_self ..
    have g5 := (Hp.put_ne (H := H') (o := .list false (rowV (left.eraseIdx k.toNat))) (Ne.symm hlo)).trans h5
    have ge := e.own (o := .list false (rowV (left.eraseIdx k.toNat))) hl0
    generalize H'.put l _ = H₅ at g4 g5 ge ⊢
    walk_at "E"
    refine CW_append g5 (by walk_at "ln") ?_
    refine ⟨rfl, ?_⟩
    walk_at "E"
    have e2 : rowV order ++ [AV.int x] = rowV (order ++ [x]) := by simp [rowV]
    rw [e2]
    exact hR _ _ ⟨ge.own ho0, by walk_at "lk", by walk_at "lk", by walk_at "lk", order ++ [x], left.eraseIdx k.toNat, (Hp.put_ne hlo).trans g4, Hp.put_self .., by rw [List.length_append, List.length_singleton, h6], hp'⟩
  · rintro l' H' ⟨e, h1, h2, h3, order, left, h4, h5, h6, hp⟩
    rw [spanZ_length] at h6
    have hlen := hp.length_eq
    rw [List.length_append, List.length_range] at hlen
    have hnil : left = [] := List.length_eq_zero_iff.mp (by omega)
    subst hnil
    rw [List.append_nil] at hp
    walk_at "E"
    exact hq H' o order e ho0 h5 hp
theorem copied_spec (hE : PD cx) {fa : Addr} (hf : HasDef cx (defAt p01 44) fa) {a : Addr} {web : List (List Nat)} (hW : IsWeb H a web) (hG : GoodWeb web)
    (hq : ∀ H' f, Ext H H' → NewWeb H H' f web → Q (.ref f) H') : CW cx (d + 1) (.ref fa) [.ref a] H Q := by
  have hB := hE.bs
  obtain ⟨rs, W⟩ := hW
  have hl := W.len
  have hm := hG.most
  refine CW_fn hf bind_law_copied ?_
  show EX cx d _ (upd (fun _ => none) "_law_web" (.ref a)) _ H _
  refine EX_cons ?_
  walk_at "E"
  refine EV_ListComp ?_
  walk_at "E"
  refine ⟨_, _, .list W.top, by simp; omega, ?_⟩
  rw [refs_eq rs, hl]
  refine CompW_rows (List.range web.length) _ (fun i => rowV (web.getD i [])) (fun H' e => by rw [← hl, ← refs_eq rs]; exact e _ _ W.top) (fun i H' Q' hi he k => ?_) (fun fs H' he hlen hn hfr hrow f hf' => ?_)
  · have hi' : i < web.length := List.mem_range.mp hi
    have hil : i < rs.length := by omega
    have hr := W.row i rs[i] (web.getD i []) (by simp [hil]) (by simp [hi'])
    have hz := hG.rowLen i
    have e0 : rs.getD i 0 = rs[i] := by simp [hil]
    rw [e0]
    walk_at "E"
    exact CW_list_copy (he _ _ hr) (by rw [rowV_length]; omega) k
  walk_at "E"
  refine hq _ f (he.put_r hf') ⟨fs, ⟨Hp.put_self .., by simpa using hlen, fun i r ns h1 h2 => ?_, hn, fun hmem => ?_⟩, he.none hf', hfr⟩
  · have hi : i < web.length := (List.getElem?_eq_some_iff.mp h2).1
    have hr := hrow i i r (by simp [hi]) h1
    have e0 : web.getD i [] = ns := by simp [h2]
    rw [e0] at hr
    rw [Hp.put_ne (ne_of_new hf' hr)]; exact hr
  · obtain ⟨k, hk, e⟩ := List.mem_iff_getElem.mp hmem
    have hkx : k < web.length := by rw [← List.length_range (n := web.length), ← hlen]; exact hk
    have := hrow k k f (by simp [hkx]) (by rw [← e]; simp [hk])
    rw [hf'] at this; cases this
theorem web_by_spec (hE : PD cx) {fa : Addr} (hf : HasDef cx (defAt p01 43) fa) (hlen : cx.nums.length ≤ 63) {at_ : Nat} 
    (hq : ∀ H' f web, Ext H H' → NewWeb H H' f web → GoodWeb web → Calm web → web.length ≤ 40 → Q (.ref f) H') : CW cx (d + 3) (.ref fa) [.ref cx.script, .int at_] H Q := by
  have hB := hE.bs
  obtain ⟨ca, hc⟩ := hE.defs 40 (by decide)
  obtain ⟨oa, ho⟩ := hE.defs 42 (by decide)
  obtain ⟨ma, hma⟩ := hE.defs 41 (by decide)
  refine CW_fn hf bind_law_web_by ?_
  show EX cx (d + 2) _ (upd (upd (fun _ => none) "_law_script" (.ref cx.script)) "_law_at" (.int at_)) _ H _
  refine EX_cons ?_
  walk_at "E"
  refine EV_CallD hc ?_
  walk_at "E"
  refine (cell_at_spec hE hc hlen (by walk_at "nn") ?_).le (d := d + 2) (d' := 1) (lek rfl)
  generalize cx.nums.getD _ 0 = c0
  walk_at "e"
  walk_at "e"
  walk_at "e"
  refine at_next ?_
  refine EX_cutR (fun l' H' => H' = H ∧ l' "_law_script" = some (.ref cx.script) ∧ l' "_law_at" = some (.int at_) ∧ ∃ n : Nat, 1 ≤ n ∧ n ≤ 40 ∧ l' "_law_many" = some (.int n)) (fun R hR => ?_) ?_
  · walk_at "E"
    refine EV_CallD hc ?_
    walk_at "E"
    refine (cell_at_spec hE hc hlen (by walk_at "nn") ?_).le (d := d + 2) (d' := 1) (lek rfl)
    generalize cx.nums.getD _ 0 = c1
    walk_at "E"
    refine ite_dec (fun h => ?_) (fun h => ?_)
    · walk_at "E"
      refine EV_CallD hc ?_
      walk_at "E"
      refine (cell_at_spec hE hc hlen (by walk_at "nn") ?_).le (d := d + 2) (d' := 1) (lek rfl)
      generalize cx.nums.getD _ 0 = c2
      walk_at "E"
      refine hR _ _ ⟨rfl, by walk_at "lk", by walk_at "lk", (10 + c2 % 31).toNat, by omega, by omega, ?_⟩
      rw [Int.toNat_of_nonneg (by omega)]; walk_at "lk"
    · walk_at "E"
      refine hR _ _ ⟨rfl, by walk_at "lk", by walk_at "lk", (1 + c0 % 9).toNat, by omega, by omega, ?_⟩
      rw [Int.toNat_of_nonneg (by omega)]; walk_at "lk"
  rintro l1 H' ⟨rfl, k1, k2, n, hn1, hn2, k3⟩
  walk_at "E"
  refine EV_CallD ho ?_
  walk_at "E"
  refine EV_CallD hc ?_
  walk_at "E"
  refine (cell_at_spec hE hc hlen (by walk_at "nn") ?_).le (d := d + 2) (d' := 1) (lek rfl)
  generalize cx.nums.getD _ 0 = c3
  walk_at "E"
  refine order_by_spec hE ho (by omega) fun H₁ o order e1 ho0 hO hp => ?_
  have hol : order.length = n := by rw [hp.length_eq, List.length_range]
  have hon : order.Nodup := hp.nodup_iff.mpr List.nodup_range
  have holt : ∀ x ∈ order, x < order.length := fun x hx => by rw [hol]; exact List.mem_range.mp (hp.mem_iff.mp hx)
  walk_at "E"
  refine EV_CallD hc ?_
  walk_at "E"
  refine (cell_at_spec hE hc hlen (by walk_at "nn") ?_).le (d := d + 2) (d' := 1) (lek rfl)
  generalize cx.nums.getD _ 0 = c4
  walk_at "E"
  refine EX_AssignComp ?_
  walk_at "E"
  refine ⟨_, _, .list hO, by simp; omega, ?_⟩
  refine CompW_rows order _ (fun _ => []) (fun H' e => e _ _ hO) (fun r H' Q' hr he k => ?_) (fun fs H' he hlen' hn hfr hrow f hf' => ?_)
  · refine EV_List ?_
    walk_at "E"
    exact ⟨by simp, k⟩
  have hf0 : H₁ f = none := he.none hf'
  have Wf : WebAt (H'.put f (.list false (fs.map .ref))) f fs (order.map fun _ => []) := by
    refine ⟨Hp.put_self .., by simp [hlen'], fun i r ns h1 h2 => ?_, hn, fun hmem => ?_⟩
    · have hi : i < order.length := by rw [← hlen']; exact (List.getElem?_eq_some_iff.mp h1).1
      have hr := hrow i order[i] r (by simp [hi]) h1
      rw [Hp.put_ne (ne_of_new hf' hr), hr]
      have : ns = [] := by
        simp only [List.getElem?_map, Option.map_eq_some_iff] at h2
        obtain ⟨g, _, rfl⟩ := h2; rfl
      rw [this]; rfl
    · obtain ⟨k, hk, e⟩ := List.mem_iff_getElem.mp hmem
      have hkx : k < order.length := by omega
      have := hrow k order[k] f (by simp [hkx]) (by rw [← e]; simp [hk])
      rw [hf'] at this; cases this
  have e2 : Ext H₁ (H'.put f (.list false (fs.map .ref))) := he.put_r hf'
  generalize H'.put f _ = H₂ at Wf e2 ⊢
  clear hrow he hf'
  walk_at "E"
  refine EX_ForR ?_
  walk_at "E"
  refine CW_range1 fun r1 hr1 => ?_
  refine forQ ⟨_, _, .range (Hp.put_self ..) (by decide) (by decide) (by omega) (by omega), fun i l' H' => Ext H₁ H' ∧ l' "_law_script" = some (.ref cx.script) ∧ l' "_law_at" = some (.int at_) ∧ l' "_law_order" = some (.ref o) ∧ l' "_law_thin" = some (.int (1 + c4 / 8 % 4)) ∧ l' "_law_web" = some (.ref f) ∧
    ∃ web, WebAt H' f fs web ∧ WB order (fun m => if m < i then m else 0) web, ⟨e2.put_r hr1, by walk_at "lk", by walk_at "lk", by walk_at "lk", by walk_at "lk", by walk_at "lk", _, Wf.ext (.put hr1), (WB.start order).mono (by simp)⟩, ?_, ?_, ?_⟩
  · intros; trivial
  · rintro i w l' H' hi ⟨e, h1, h2, h3, h4, h5, web, W, wb⟩ R hR
    obtain ⟨hi1, rfl⟩ := spanZ_get hi
    have hio : i < order.length := by omega
    have hik : order[i]? = some order[i] := by simp [hio]
    have hxl := holt _ (List.getElem_mem hio)
    refine EX_cutR (fun l' H' => Ext H₁ H' ∧ l' "_law_script" = some (.ref cx.script) ∧ l' "_law_at" = some (.int at_) ∧ l' "_law_order" = some (.ref o) ∧ l' "_law_thin" = some (.int (1 + c4 / 8 % 4)) ∧ l' "_law_web" = some (.ref f) ∧ l' "_law_k" = some (.int i) ∧
      ∃ web, WebAt H' f fs web ∧ WB order (fun m => if m < i + 1 then m else 0) web) (fun R2 hR2 => ?_) ?_
    · refine EX_ForR ?_
      walk_at "E"
      refine CW_range1 fun r2 hr2 => ?_
      refine forQ ⟨_, _, .range (Hp.put_self ..) (by decide) (by decide) (by omega) (by omega), fun j l' H' => Ext H₁ H' ∧ l' "_law_script" = some (.ref cx.script) ∧ l' "_law_at" = some (.int at_) ∧ l' "_law_order" = some (.ref o) ∧ l' "_law_thin" = some (.int (1 + c4 / 8 % 4)) ∧ l' "_law_web" = some (.ref f) ∧ l' "_law_k" = some (.int i) ∧
        ∃ web, WebAt H' f fs web ∧ WB order (fun m => if m < i then m else if m = i then j else 0) web, ⟨e.put_r hr2, by walk_at "lk", by walk_at "lk", by walk_at "lk", by walk_at "lk", by walk_at "lk", by rw [Int.zero_add]; walk_at "lk", web, W.ext (.put hr2), wb.mono (fun m => by (try dsimp only); split <;> simp)⟩, ?_, ?_, ?_⟩
      · intros; trivial
      · rintro j w l' H' hj ⟨e, h1, h2, h3, h4, h5, h6, web, W, wb⟩ R3 hR3
        obtain ⟨hj1, rfl⟩ := spanZ_get hj
        have hji : j < i := by omega
        refine EX_cons ?_
        walk_at "E"
        refine EV_CallD hma ?_
        walk_at "E"
        refine EV_CallD hc ?_
        walk_at "E"
        refine (cell_at_spec hE hc hlen (by walk_at "nn") ?_).le (d := d + 2) (d' := 1) (lek rfl)
        generalize cx.nums.getD _ 0 = c5
        walk_at "E"
        refine Op_mul (mulL (by decide)) ?_
        walk_at "E"
        refine (mixed_spec hma (by omega) (by omega) ?_).le (d := d + 2) (d' := 1) (lek rfl)
        walk_at "E"
        refine ite_dec (fun hz => ?_) (fun hz => ?_)
        · have hjo : j < order.length := by omega
          have hwl : order[i] < web.length := by rw [wb.len]; exact hxl
          obtain ⟨r, hr1, hr2, hr3⟩ := W.at hwl
          obtain ⟨q1, q2⟩ := wb.row i order[i] hik
          try dsimp only at q2
          rw [if_neg (Nat.lt_irrefl i), if_pos rfl] at q2
          have hrl : (web.getD order[i] []).length ≤ 40 := by
            refine Nat.le_trans (nodup_length (n := order.length) q1 fun x hx => ?_) (by omega)
            exact holt x (List.mem_of_mem_take (q2 x hx))
          walk_at "E"
          refine EV_Meth F.slot_list_append F.type_list_append ?_
          walk_at "E"
          refine Get_list (e _ _ hO) (by walk_at "nn") (by rw [rowV_length]; omega) (v := .int order[i]) (by simp [rowV, hio]) ?_
          refine Get_list W.top (by walk_at "nn") (by rw [List.length_map, W.len, wb.len]; omega) (v := .ref r) hr2 ?_
          refine ⟨r, false, _, rfl, hr3, ?_⟩
          walk_at "E"
          refine Get_list (e _ _ hO) (by walk_at "nn") (by rw [rowV_length]; omega) (v := .int order[j]) (by simp [rowV, hjo]) ?_
          walk_at "E"
          refine CW_append hr3 (by rw [rowV_length]; omega) ?_
          refine ⟨rfl, ?_⟩
          walk_at "E"
          have e2 : rowV (web.getD order[i] []) ++ [AV.int order[j]] = rowV (web.getD order[i] [] ++ [order[j]]) := by simp [rowV]
          rw [e2]
          refine hR3 _ _ ⟨e.own (hfr r (List.mem_of_getElem? hr1)), by walk_at "lk", by walk_at "lk", by walk_at "lk", by walk_at "lk", by walk_at "lk", by walk_at "lk", _, W.set hr1 _, wb.set hon holt hik ?_ ?_ ?_⟩
          · rw [List.nodup_append]
            refine ⟨q1, by simp, fun p hp q hq => ?_⟩
            rw [List.mem_singleton] at hq
            intro epq
            have := q2 p hp
            rw [epq, hq] at this
            exact nodup_take_not hon (show order[j]? = some order[j] by simp [hjo]) this
          · intro g hg
            try dsimp only
            rw [if_neg (Nat.lt_irrefl i), if_pos rfl, List.take_add_one]
            rcases List.mem_append.mp hg with hg | hg
            · exact List.mem_append.mpr (.inl (q2 g hg))
            · rw [List.mem_singleton.mp hg]; exact List.mem_append.mpr (.inr (by rw [List.getElem?_eq_getElem hjo]; simp))
          · intro m hm; (try dsimp only); rw [if_neg hm, if_neg hm]; exact Nat.le_refl _
        · walk_at "E"
          exact hR3 _ _ ⟨e, by walk_at "lk", by walk_at "lk", by walk_at "lk", by walk_at "lk", by walk_at "lk", by walk_at "lk", web, W, wb.mono (fun m => by (try dsimp only); split; exact Nat.le_refl _; split <;> omega)⟩
      · rintro l' H' ⟨e, h1, h2, h3, h4, h5, h6, web, W, wb⟩
        rw [spanZ_length] at wb
        walk_at "E"
        exact hR2 _ _ ⟨e, h1, h2, h3, h4, h5, h6, web, W, wb.mono (fun m => by (try dsimp only); split; (rw [if_pos (by omega)]; exact Nat.le_refl _); split; (rw [if_pos (by omega)]; omega); omega)⟩
    · rintro l' H' ⟨e, h1, h2, h3, h4, h5, h6, web, W, wb⟩
      walk_at "E"
      refine EV_CallD hma ?_
      walk_at "E"
      refine EV_CallD hc ?_
      walk_at "E"
      refine (cell_at_spec hE hc hlen (by walk_at "nn") ?_).le (d := d + 2) (d' := 1) (lek rfl)
      generalize cx.nums.getD _ 0 = c6
      walk_at "E"
      refine Op_mul (mulL (by decide)) ?_
      walk_at "E"
      refine (mixed_spec hma (by omega) (by omega) ?_).le (d := d + 2) (d' := 1) (lek rfl)
      walk_at "E"
      refine ite_dec (fun hz => ?_) (fun hz => ?_)
      · have hwl : order[i] < web.length := by rw [wb.len]; exact hxl
        obtain ⟨r, hr1, hr2, hr3⟩ := W.at hwl
        obtain ⟨q1, q2⟩ := wb.row i order[i] hik
        have hrl : (web.getD order[i] []).length ≤ 40 := by
          refine Nat.le_trans (nodup_length (n := order.length) q1 fun x hx => ?_) (by omega)
          exact holt x (List.mem_of_mem_take (q2 x hx))
        walk_at "E"
        refine EV_Meth F.slot_list_reverse F.type_list_reverse ?_
        walk_at "E"
        refine Get_list (e _ _ hO) (by walk_at "nn") (by rw [rowV_length]; omega) (v := .int order[i]) (by simp [rowV, hio]) ?_
        refine Get_list W.top (by walk_at "nn") (by rw [List.length_map, W.len, wb.len]; omega) (v := .ref r) hr2 ?_
        refine ⟨r, false, _, rfl, hr3, ?_⟩
        walk_at "E"
        refine CW_reverse hr3 (by rw [rowV_length]; omega) ?_
        refine ⟨rfl, ?_⟩
        walk_at "E"
        have e2 : (rowV (web.getD order[i] [])).reverse = rowV (web.getD order[i] []).reverse := by simp [rowV]
        rw [e2]
        exact hR _ _ ⟨e.own (hfr r (List.mem_of_getElem? hr1)), by walk_at "lk", by walk_at "lk", by walk_at "lk", by walk_at "lk", by walk_at "lk", _, W.set hr1 _, wb.set hon holt hik (List.pairwise_reverse.mpr (q1.imp fun h => Ne.symm h)) (fun g hg => q2 g (List.mem_reverse.mp hg)) (fun _ _ => Nat.le_refl _)⟩
      · walk_at "E"
        exact hR _ _ ⟨e, by walk_at "lk", by walk_at "lk", by walk_at "lk", by walk_at "lk", by walk_at "lk", web, W, wb⟩
  · rintro l' H' ⟨e, h1, h2, h3, h4, h5, web, W, wb⟩
    rw [spanZ_length] at wb
    walk_at "E"
    have wb' : WB order (fun i => i) web := ⟨wb.len, fun i x hx => ⟨(wb.row i x hx).1, fun g hg => by
      have := (wb.row i x hx).2 g hg
      have hil := (List.getElem?_eq_some_iff.mp hx).1
      try dsimp only at this
      rwa [if_pos (by omega)] at this⟩⟩
    obtain ⟨w1, w2, w3⟩ := wb'.finish hp hn1 (by omega)
    exact hq H' f web (e1.trans e) ⟨fs, W, e1.none hf0, fun r hr => e1.none (hfr r hr)⟩ w2 w3 (by omega)

end

-- L01d
set_option maxRecDepth 10000
set_option maxHeartbeats 4000000
section
variable {cx : Cx} {d : Nat} {H : Hp} {Q : AV → Hp → Prop}
theorem least_beside_spec (hE : PD cx) {fa : Addr} (hf : HasDef cx (defAt p01 21) fa) {a : Addr} {ns : List Nat} (ha : H a = some (.list false (rowV ns))) (hl : ns.length ≤ 10000)
    (hq : ∀ H' m, Ext H H' → IsMex ns m → Q (.int m) H') : CW cx (d + 1) (.ref fa) [.ref a] H Q := by
  have hB := hE.bs
  refine CW_fn hf bind_least_beside ?_
  show EX cx d _ (upd (fun _ => none) "numbers" (.ref a)) _ H _
  refine EX_cons ?_
  walk_at "E"
  refine EV_ListComp ?_
  walk_at "E"
  refine ⟨_, _, .list ha, by simp; omega, ?_⟩
  refine CompW_grow ns (fun (n : Nat) => AV.int (n : Int)) (fun n y H' => ∃ t, y = .ref t ∧ H' t = some (.tuple [.int n, .bool true])) (fun n y H₁ H₂ e ⟨t, h1, h2⟩ => ⟨t, h1, e _ _ h2⟩) (fun H' e => e _ _ ha) (fun n H' hn he => ?_) (fun ys H' he hlen hys b hb => ?_)
  · refine EV_Tuple ?_
    walk_at "E"
    exact ⟨by simp, fun t ht => ⟨.put ht, t, rfl, Hp.put_self ..⟩⟩
  have hall : ∀ y ∈ ys, ∃ t, y = AV.ref t ∧ True := fun y hy => by
    obtain ⟨i, hi, e⟩ := List.mem_iff_getElem.mp hy
    have hin : i < ns.length := by omega
    obtain ⟨t, h1, _⟩ := hys i ns[i] y (by simp [hin]) (by rw [← e]; simp [hi])
    exact ⟨t, h1, trivial⟩
  obtain ⟨ts, rfl⟩ := refs_of hall
  rw [List.length_map] at hlen
  have he' : Ext H (H'.put b (.list false (ts.map .ref))) := he.put_r hb
  have hb' : (H'.put b (.list false (ts.map .ref))) b = _ := Hp.put_self ..
  have hts : ∀ (i : Nat) (t : Addr) (kv : Int × AV), ts[i]? = some t → (ns.map fun (n : Nat) => ((n : Int), AV.bool true))[i]? = some kv → (H'.put b (.list false (ts.map .ref))) t = some (.tuple [.int kv.1, kv.2]) := fun i t kv h1 h2 => by
    simp only [List.getElem?_map, Option.map_eq_some_iff] at h2
    obtain ⟨n, h2, rfl⟩ := h2
    obtain ⟨t', h3, h4⟩ := hys i n (.ref t) h2 (by simp [h1])
    cases h3
    rw [Hp.put_ne (ne_of_new hb h4)]; exact h4
  generalize H'.put b _ = H₁ at he' hb' hts ⊢
  walk_at "E"
  refine CW_dictPairs (ks := ns.map fun (n : Nat) => ((n : Int), AV.bool true)) hb' (by rw [List.length_map, hlen]) (by rw [List.length_map]; omega) hts fun D hD hD' => ?_
  have he2 : Ext H (H₁.put D (.dict (mkDict (ns.map fun (n : Nat) => ((n : Int), AV.bool true))))) := he'.put_r hD
  have hDd : (H₁.put D (.dict (mkDict (ns.map fun (n : Nat) => ((n : Int), AV.bool true))))) D = _ := Hp.put_self ..
  generalize H₁.put D _ = H₂ at he2 hDd ⊢
  walk_at "E"
  refine EX_While (fun k l' H' => H' = H₂ ∧ l' "met" = some (.ref D) ∧ ∃ m : Nat, k = ns.length + 1 - m ∧ l' "found" = some (.int m) ∧ ∀ j < m, j ∈ ns) (ns.length + 1) ⟨rfl, by walk_at "lk", 0, by omega, by walk_at "lk", by simp⟩ ?_
  rintro k l' H' ⟨rfl, h1, m, rfl, h2, h3⟩
  have hm := low_le h3
  refine TV.mono (Q₁ := fun v H₁ => H₁ = H' ∧ v = decide (m ∈ ns)) ?_ ?_
  · walk_at "E"
    refine Op_inDict hDd hD' ?_
    rw [mkDict_has]
    walk_at "E"
    refine ⟨rfl, decide_eq_decide.mpr ?_⟩
    rw [List.map_map, List.mem_map]
    exact ⟨fun ⟨x, hx, e⟩ => by rw [← show x = m from Int.ofNat.inj e]; exact hx, fun h => ⟨m, h, rfl⟩⟩
  rintro v H₁' ⟨rfl, rfl⟩
  refine ite_dec (fun h => ?_) (fun h => ?_)
  · have h3' : ∀ j < m + 1, j ∈ ns := fun j hj => by
      rcases Nat.lt_or_ge j m with z | z
      · exact h3 j z
      · rw [show j = m by omega]; exact h
    have := low_le h3'
    refine EX_cons ?_
    walk_at "E"
    exact ⟨ns.length + 1 - (m + 1), by omega, rfl, by walk_at "lk", m + 1, rfl, by walk_at "lk", h3'⟩
  · walk_at "E"
    exact hq _ m he2 ⟨h, h3⟩
theorem numbers_of_spec (hE : PD cx) {fa : Addr} (hf : HasDef cx (defAt p01 22) fa) {a : Addr} {web : List (List Nat)} (hW : IsWeb H a web) (hG : GoodWeb web) (hC : Calm web)
    (hq : ∀ H' b f, Ext H H' → H b = none → H' b = some (.list false (rowV ((List.range web.length).map f))) → Nums web f → Q (.ref b) H') : CW cx (d + 7) (.ref fa) [.ref a] H Q := by
  have hB := hE.bs
  obtain ⟨ga, hg⟩ := hE.defs 20 (by decide)
  obtain ⟨la, hl'⟩ := hE.defs 21 (by decide)
  have hm := hG.most
  refine CW_fn hf bind_numbers_of ?_
  show EX cx (d + 6) _ (upd (fun _ => none) "web" (.ref a)) _ H _
  refine EX_cons ?_
  walk_at "E"
  refine EV_CallD hg ?_
  walk_at "E"
  refine need_game_spec hE hg hW hG hC fun H₁ o order e1 ho0 hO F hol hall => ?_
  obtain ⟨rs, W⟩ := hW.ext e1
  have hl := W.len
  walk_at "E"
  refine EV_List ?_
  walk_at "E"
  refine ⟨by simp, fun z hz => ?_⟩
  have W2 := W.ext (Ext.put (o := .list false [.int 0]) hz)
  have hz' : (H₁.put z (.list false [.int 0])) z = _ := Hp.put_self ..
  have e2 : Ext H₁ (H₁.put z (.list false [.int 0])) := .put hz
  generalize H₁.put z _ = H₂ at W2 hz' e2 ⊢
  walk_at "E"
  refine CW_len W2.top (by walk_at "ln") ?_
  rw [List.length_map, hl]
  refine Op_mulList hz' (by omega) (by omega) (by simp) fun b hb => ?_
  rw [Int.toNat_natCast, tabV_replicate]
  have e3 : Ext H₁ (H₂.put b (.list false (tabV web.length fun _ => .int 0))) := e2.put_r hb
  have hb0 : H b = none := e1.none (e2.none hb)
  have hb1 : H₁ b = none := e2.none hb
  have hbb : (H₂.put b (.list false (tabV web.length fun _ => .int 0))) b = _ := Hp.put_self ..
  generalize H₂.put b _ = H₃ at e3 hbb ⊢
  walk_at "E"
  refine EX_For ?_
  walk_at "E"
  have hO3 := e3 _ _ hO
  refine ⟨_, _, .list hO3, fun i l' H' => Ext H₁ H' ∧ l' "web" = some (.ref a) ∧ l' "found" = some (.ref b) ∧ ∃ f : Nat → Nat, H' b = some (.list false (tabV web.length fun s => .int (f s))) ∧ ∀ s ∈ order.take i, IsMex ((web.getD s []).map f) (f s),
    ⟨e3, by walk_at "lk", by walk_at "lk", fun _ => 0, hbb, by simp⟩, ?_, ?_, ?_⟩
  · rintro i l' H' ⟨e, _⟩; exact e _ _ hO
  · rintro i w l' H' hi ⟨e, h1, h2, f, h3, h4⟩
    obtain ⟨x, hi', rfl⟩ := rowV_get hi
    have hxl : x < web.length := F.lt x (List.mem_of_getElem? hi')
    have W' := W.ext e
    obtain ⟨r, hr1, hr2, hr3⟩ := W'.at hxl
    refine EX_cons ?_
    walk_at "E"
    refine EV_CallD hl' ?_
    walk_at "E"
    refine EV_ListComp ?_
    walk_at "E"
    refine Get_list W'.top (by walk_at "nn") (by rw [List.length_map]; omega) (v := .ref r) hr2 ?_
    refine ⟨_, _, .list hr3, by rw [rowV_length]; have := hG.rowLen x; omega, ?_⟩
    refine CompW_map (web.getD x []) (fun (n : Nat) => AV.int (n : Int)) (fun (n : Nat) => AV.int (f n)) hr3 (fun g hg' => ?_) (fun c hc => ?_)
    · have hgl := (hG.row x).2 g hg'
      walk_at "E"
      refine Get_list h3 (by walk_at "nn") (by walk_at "ln") (v := .int (f g)) (tabV_get (by omega)) ?_
      exact ⟨rfl, rfl⟩
    have hcc : (H'.put c (.list false ((web.getD x []).map fun (n : Nat) => AV.int (f n)))) c = some (.list false (rowV ((web.getD x []).map f))) := by rw [Hp.put_self]; simp [rowV]
    have ec : Ext H' (H'.put c (.list false ((web.getD x []).map fun (n : Nat) => AV.int (f n)))) := .put hc
    generalize H'.put c _ = H₄ at hcc ec ⊢
    walk_at "E"
    refine (least_beside_spec hE hl' hcc (by rw [List.length_map]; have := hG.rowLen x; omega) fun H₅ m e5 hmex => ?_).le (d := d + 6) (d' := 1) (lek rfl)
    have h35 := e5 _ _ (ec _ _ h3)
    walk_at "E"
    refine Set_list h35 (by walk_at "nn") (by walk_at "ln") (by walk_at "ln") ?_
    have et : (tabV web.length fun s => AV.int (f s)).set ((x : Int)).toNat (.int m) = tabV web.length fun s => AV.int ((if s = x then m else f s : Nat) : Int) := by
      rw [Int.toNat_natCast, tabV_set]
      apply tabV_congr
      intro s _
      by_cases es : s = x
      · rw [if_pos es, if_pos es]
      · rw [if_neg es, if_neg es]
    rw [et]
    walk_at "E"
    exact ⟨((e.trans ec).trans e5).own hb1, by walk_at "lk", by walk_at "lk", _, Hp.put_self .., nums_turn F hi' h4 hmex⟩
  · rintro l' H' ⟨e, h1, h2, f, h3, h4⟩
    rw [rowV_length, List.take_length] at h4
    walk_at "E"
    exact hq H' b f (e1.trans e) hb0 (by rw [← tabV_row]; exact h3) fun s hs => h4 s (hall s hs)

theorem lengths_of_spec (hE : PD cx) {fa : Addr} (hf : HasDef cx (defAt p01 23) fa) {a : Addr} {web : List (List Nat)} (hW : IsWeb H a web) (hG : GoodWeb web) (hC : Calm web)
    (hq : ∀ H' b f, Ext H H' → H b = none → H' b = some (.list false (rowV ((List.range web.length).map f))) → Ruled IsLen web f → Q (.ref b) H') : CW cx (d + 7) (.ref fa) [.ref a] H Q := by
  have hB := hE.bs
  obtain ⟨ga, hg⟩ := hE.defs 20 (by decide)
  have hm := hG.most
  refine CW_fn hf bind_lengths_of ?_
  show EX cx (d + 6) _ (upd (fun _ => none) "web" (.ref a)) _ H _
  refine EX_cons ?_
  walk_at "E"
  refine EV_CallD hg ?_
  walk_at "E"
  refine need_game_spec hE hg hW hG hC fun H₁ o order e1 ho0 hO F hol hall => ?_
  obtain ⟨rs, W⟩ := hW.ext e1
  have hl := W.len
  walk_at "E"
  refine EV_List ?_
  walk_at "E"
  refine ⟨by simp, fun z hz => ?_⟩
  have W2 := W.ext (Ext.put (o := .list false [.int 0]) hz)
  have hz' : (H₁.put z (.list false [.int 0])) z = _ := Hp.put_self ..
  have e2 : Ext H₁ (H₁.put z (.list false [.int 0])) := .put hz
  generalize H₁.put z _ = H₂ at W2 hz' e2 ⊢
  walk_at "E"
  refine CW_len W2.top (by walk_at "ln") ?_
  rw [List.length_map, hl]
  refine Op_mulList hz' (by omega) (by omega) (by simp) fun b hb => ?_
  rw [Int.toNat_natCast, tabV_replicate]
  have e3 : Ext H₁ (H₂.put b (.list false (tabV web.length fun _ => .int 0))) := e2.put_r hb
  have hb0 : H b = none := e1.none (e2.none hb)
  have hb1 : H₁ b = none := e2.none hb
  have hbb : (H₂.put b (.list false (tabV web.length fun _ => .int 0))) b = _ := Hp.put_self ..
  generalize H₂.put b _ = H₃ at e3 hbb ⊢
  walk_at "E"
  refine EX_For ?_
  walk_at "E"
  have hO3 := e3 _ _ hO
  refine ⟨_, _, .list hO3, fun i l' H' => Ext H₁ H' ∧ l' "web" = some (.ref a) ∧ l' "found" = some (.ref b) ∧ ∃ f : Nat → Nat, H' b = some (.list false (tabV web.length fun s => .int (f s))) ∧ ∀ s ∈ order.take i, IsLen ((web.getD s []).map f) (f s),
    ⟨e3, by walk_at "lk", by walk_at "lk", fun _ => 0, hbb, by simp⟩, ?_, ?_, ?_⟩
  · rintro i l' H' ⟨e, _⟩; exact e _ _ hO
  · rintro i w l' H' hi ⟨e, h1, h2, f, h3, h4⟩
    obtain ⟨x, hi', rfl⟩ := rowV_get hi
    have hxl : x < web.length := F.lt x (List.mem_of_getElem? hi')
    have W' := W.ext e
    obtain ⟨r, hr1, hr2, hr3⟩ := W'.at hxl
    refine EX_cons ?_
    walk_at "E"
    refine EV_MaxDef hB ?_
    refine EV_ListComp ?_
    walk_at "E"
    refine Get_list W'.top (by walk_at "nn") (by rw [List.length_map]; omega) (v := .ref r) hr2 ?_
    refine ⟨_, _, .list hr3, by rw [rowV_length]; have := hG.rowLen x; omega, ?_⟩
    refine CompW_map (web.getD x []) (fun (n : Nat) => AV.int (n : Int)) (fun (n : Nat) => AV.int (1 + (f n : Int))) hr3 (fun g hg' => ?_) (fun c hc => ?_)
    · have hgl := (hG.row x).2 g hg'
      walk_at "E"
      refine Get_list h3 (by walk_at "nn") (by walk_at "ln") (v := .int (f g)) (tabV_get (by omega)) ?_
      walk_at "E"
      exact ⟨rfl, rfl⟩
    have hcc : (H'.put c (.list false ((web.getD x []).map fun (n : Nat) => AV.int (1 + (f n : Int))))) c = some (.list false ((lenL ((web.getD x []).map f)).map .int)) := by rw [Hp.put_self]; simp [lenL]
    have ec : Ext H' (H'.put c (.list false ((web.getD x []).map fun (n : Nat) => AV.int (1 + (f n : Int))))) := .put hc
    generalize H'.put c _ = H₄ at hcc ec ⊢
    walk_at "E"
    have h34 := ec _ _ h3
    have fin : ∀ m : Nat, IsLen ((web.getD x []).map f) m → SetW cx (d + 6) (.ref b) (.int x) (.int m) H₄ fun H₅ => Ext H₁ H₅ ∧ ∃ f : Nat → Nat, H₅ b = some (.list false (tabV web.length fun s => .int (f s))) ∧ ∀ s ∈ order.take (i + 1), IsLen ((web.getD s []).map f) (f s) := fun m hm' => by
      refine Set_list h34 (by walk_at "nn") (by walk_at "ln") (by walk_at "ln") ?_
      rw [row_set]
      exact ⟨(e.trans ec).own hb1, _, Hp.put_self .., ruled_turn F hi' h4 hm'⟩
    refine ⟨c, false, _, 0, rfl, rfl, hcc, fun hnil => ?_, fun m hmax => ?_⟩
    · walk_at "E"
      have : IsLen ((web.getD x []).map f) 0 := by
        have : (web.getD x []).map f = [] := by simpa [lenL] using hnil
        rw [this]; exact isLen_nil
      exact SetW.mono (fin 0 this) fun H₅ ⟨q1, q2⟩ => by
        walk_at "E"
        exact ⟨q1, by walk_at "lk", by walk_at "lk", q2⟩
    · obtain ⟨k, rfl, hk⟩ := isLen_of hmax
      walk_at "E"
      exact SetW.mono (fin k hk) fun H₅ ⟨q1, q2⟩ => by
        walk_at "E"
        exact ⟨q1, by walk_at "lk", by walk_at "lk", q2⟩
  · rintro l' H' ⟨e, h1, h2, f, h3, h4⟩
    rw [rowV_length, List.take_length] at h4
    walk_at "E"
    exact hq H' b f (e1.trans e) hb0 (by rw [← tabV_row]; exact h3) fun s hs => h4 s (hall s hs)

end

-- L01e
set_option maxRecDepth 10000
set_option maxHeartbeats 4000000
section
variable {cx : Cx} {d : Nat} {H : Hp} {Q : AV → Hp → Prop}
theorem need_row_spec (hE : PD cx) {fa : Addr} (hf : HasDef cx (defAt p01 29) fa) {a b : Addr} {web : List (List Nat)} {ro : Bool} {ns : List Nat} (hW : IsWeb H a web) (hm : web.length ≤ 200) (hb : H b = some (.list ro (rowV ns))) (hn : ns.length ≤ 24) (hlt : ∀ x ∈ ns, x < web.length)
    (hq : Q .none H) : CW cx (d + 3) (.ref fa) [.ref a, .ref b] H Q := by
  have hB := hE.bs
  obtain ⟨ga, hg⟩ := hE.defs 10 (by decide)
  obtain ⟨t, hM⟩ := hE.mostGames
  obtain ⟨rs, W⟩ := hW
  have hl := W.len
  refine CW_fn hf bind_need_row ?_
  show EX cx (d + 2) _ (upd (upd (fun _ => none) "web" (.ref a)) "row" (.ref b)) _ H _
  refine EX_cons ?_
  walk_at "E"
  refine CW_isinst_list hb ?_
  walk_at "E"
  refine CW_len hb (by walk_at "ln") ?_
  rw [rowV_length]
  walk_at "E"
  refine ite_dec (fun h => absurd h (by omega)) (fun _ => ?_)
  walk_at "E"
  refine EX_For ?_
  walk_at "E"
  refine ⟨_, _, .list hb, fun i l' H' => H' = H ∧ l' "web" = some (.ref a), ⟨rfl, by walk_at "lk"⟩, ?_, ?_, ?_⟩
  · rintro i l' H' ⟨rfl, _⟩; exact hb
  · rintro i w l' H' hi ⟨rfl, h1⟩
    obtain ⟨n, hi', rfl⟩ := rowV_get hi
    have hnl := hlt n (List.mem_of_getElem? hi')
    refine EX_cons ?_
    walk_at "E"
    refine EV_CallD hg ?_
    walk_at "E"
    refine CW_len W.top (by walk_at "ln") ?_
    rw [List.length_map, hl]
    walk_at "E"
    refine is_spot_spec hE hg ?_
    rw [decide_eq_true (show (0 : Int) ≤ n ∧ (n : Int) < web.length by omega)]
    walk_at "E"
    exact ⟨rfl, by walk_at "lk"⟩
  · rintro l' H' ⟨rfl, _⟩
    walk_at "E"
    exact hq

end

-- L01f
set_option maxRecDepth 10000
set_option maxHeartbeats 4000000
section
variable {cx : Cx} {d : Nat} {H : Hp} {Q : AV → Hp → Prop}
theorem moves_of_spec (hE : PD cx) {fa : Addr} (hf : HasDef cx (defAt p01 30) fa) {a b : Addr} {web : List (List Nat)} {ro : Bool} {row : List Nat} (hW : IsWeb H a web) (hG : GoodWeb web) (h40 : web.length ≤ 40) (hb : H b = some (.list ro (rowV row))) (hn : row.length ≤ 24) (hlt : ∀ x ∈ row, x < web.length)
    (hq : ∀ H' f, Ext H H' → H f = none → IsMoves H' f (rowMoves web row) → Q (.ref f) H') : CW cx (d + 1) (.ref fa) [.ref a, .ref b] H Q := by
  have hB := hE.bs
  obtain ⟨rs, W⟩ := hW
  have hl := W.len
  refine CW_fn hf bind_moves_of ?_
  show EX cx d _ (upd (upd (fun _ => none) "web" (.ref a)) "row" (.ref b)) _ H _
  refine EX_cons ?_
  walk_at "E"
  refine EV_List ?_
  walk_at "E"
  refine ⟨by simp, fun f hf' => ?_⟩
  have e1 : Ext H (H.put f (.list false [])) := .put hf'
  have hM1 : MovesAt (H.put f (.list false [])) f [] (movesTo web row 0) := ⟨Hp.put_self .., rfl, by simp⟩
  generalize H.put f _ = H₁ at e1 hM1 ⊢
  walk_at "E"
  refine EX_ForEnum hB ?_
  walk_at "E"
  refine ⟨b, ro, _, rfl, e1 _ _ hb, fun i l' H' => Ext H H' ∧ l' "web" = some (.ref a) ∧ l' "found" = some (.ref f) ∧ ∃ ts, MovesAt H' f ts (movesTo web row i) ∧ ts.length ≤ i * 40, ⟨e1, by walk_at "lk", by walk_at "lk", [], hM1, by simp⟩, ?_, ?_, ?_⟩
  · rintro i l' H' ⟨e, _⟩; exact e _ _ hb
  · rintro i w l' H' hi ⟨e, h1, h2, ts, M, hts⟩
    obtain ⟨x, hi', rfl⟩ := rowV_get hi
    have hx := hlt x (List.mem_of_getElem? hi')
    have hil : i < row.length := (List.getElem?_eq_some_iff.mp hi').1
    have hxd : row.getD i 0 = x := by simp [hi']
    have W' := W.ext e
    obtain ⟨r, q1, q2, q3⟩ := W'.at hx
    have hz := hG.rowLen x
    obtain ⟨g1, g2⟩ := hG.row x
    refine EX_cons ?_
    walk_at "E"
    refine EV_Meth F.slot_list_extend F.type_list_extend ?_
    walk_at "E"
    refine ⟨f, false, _, rfl, M.top, ?_⟩
    walk_at "E"
    refine EV_ListComp ?_
    walk_at "E"
    refine Get_list W'.top (by walk_at "nn") (by walk_at "ln") (v := .ref r) q2 ?_
    walk_at "E"
    refine CW_sorted (ns := castN (web.getD x [])) (ro := false) (by rw [q3, rowV_eq]; rfl) (by simp only [castN, List.length_map]; omega) fun s zs hs hp hso => ?_
    have hzs := sortN_eq g1 g2 hp hso
    subst hzs
    rw [show (castN (sortN web.length (web.getD x []))).map AV.int = rowV (sortN web.length (web.getD x [])) from (rowV_eq _).symm]
    have hsl : (sortN web.length (web.getD x [])).length ≤ 40 := Nat.le_trans (List.length_filter_le ..) (by simp; omega)
    have es : Ext H' (H'.put s (.list false (rowV (sortN web.length (web.getD x []))))) := .put hs
    have hss : (H'.put s (.list false (rowV (sortN web.length (web.getD x []))))) s = _ := Hp.put_self ..
    generalize H'.put s _ = H₂ at es hss ⊢
    refine ⟨_, _, .list hss, by rw [rowV_length]; omega, ?_⟩
    refine CompW_grow (sortN web.length (web.getD x [])) (fun (n : Nat) => AV.int (n : Int)) (fun g y H' => ∃ t, y = .ref t ∧ H' t = some (.tuple (mvV (i, g)))) (fun g y H₁ H₂ e h => by obtain ⟨t, rfl, h⟩ := h; exact ⟨t, rfl, e _ _ h⟩) (fun H' e => e _ _ hss) (fun g H' hg e => ?_) (fun ys H₃ e3 hlen hys c hc => ?_)
    · refine EV_Tuple ?_
      walk_at "E"
      exact ⟨by simp, fun t ht => ⟨.put ht, t, rfl, Hp.put_self ..⟩⟩
    obtain ⟨us, rfl⟩ := refs_of (p := fun _ => True) (ys := ys) fun y hy => by
      obtain ⟨k, hk, rfl⟩ := List.mem_iff_getElem.mp hy
      obtain ⟨t, ht, _⟩ := hys k (sortN web.length (web.getD x []))[k] ys[k] (by simp [show k < (sortN web.length (web.getD x [])).length by omega]) (by simp [hk])
      exact ⟨t, ht, trivial⟩
    rw [List.length_map] at hlen
    have ec : Ext H₃ (H₃.put c (.list false (us.map .ref))) := .put hc
    have hcc : (H₃.put c (.list false (us.map .ref))) c = _ := Hp.put_self ..
    have hus : ∀ (k : Nat) (t : Addr) (m : Mv), us[k]? = some t → (placeMoves web row i)[k]? = some m → (H₃.put c (.list false (us.map .ref))) t = some (.tuple (mvV m)) := fun k t m h1 h2 => by
      unfold placeMoves at h2
      rw [hxd, List.getElem?_map, Option.map_eq_some_iff] at h2
      obtain ⟨g, hg, rfl⟩ := h2
      obtain ⟨t', q, h⟩ := hys k g (.ref t) hg (by simp [h1])
      cases q
      exact ec _ _ h
    have hul : us.length = (placeMoves web row i).length := by unfold placeMoves; rw [hxd, List.length_map]; exact hlen
    generalize H₃.put c _ = H₄ at ec hcc hus ⊢
    have e4 := (es.trans e3).trans ec
    have M4 := M.ext e4
    walk_at "E"
    refine CW_extend M4.top hcc (by rw [List.length_map]; omega) (by rw [List.length_map]; omega) ?_
    refine ⟨rfl, ?_⟩
    walk_at "E"
    refine ⟨(e.trans e4).own hf', by walk_at "lk", by walk_at "lk", ts ++ us, ?_, by rw [List.length_append]; omega⟩
    rw [movesTo_succ]
    refine M4.app hul hus fun t ht => ?_
    rcases List.mem_append.mp ht with h | h
    · exact M4.ne h
    · intro e'
      obtain ⟨k, hk, hkt⟩ := List.mem_iff_getElem.mp h
      have hkp : k < (placeMoves web row i).length := by omega
      have := hus k t (placeMoves web row i)[k] (by rw [← hkt]; exact List.getElem?_eq_getElem hk) (List.getElem?_eq_getElem hkp)
      rw [e', M4.top] at this; cases this
  · rintro l' H' ⟨e, h1, h2, ts, M, hts⟩
    rw [rowV_length] at M
    walk_at "E"
    exact hq H' f e hf' ⟨ts, M⟩
theorem moves_in_spec (hE : PD cx) {fa : Addr} (hf : HasDef cx (defAt p01 31) fa) {a b : Addr} {web : List (List Nat)} {ro : Bool} {row : List Nat} (hW : IsWeb H a web) (hG : GoodWeb web) (hC : Calm web) (h40 : web.length ≤ 40) (hb : H b = some (.list ro (rowV row))) (hn : row.length ≤ 24) (hlt : ∀ x ∈ row, x < web.length)
    (hq : ∀ H' f, Ext H H' → H f = none → IsMoves H' f (rowMoves web row) → Q (.ref f) H') : CW cx (d + 7) (.ref fa) [.ref a, .ref b] H Q := by
  have hB := hE.bs
  obtain ⟨ga, hg⟩ := hE.defs 20 (by decide)
  obtain ⟨ra, hr⟩ := hE.defs 29 (by decide)
  obtain ⟨ma, hm⟩ := hE.defs 30 (by decide)
  refine CW_fn hf bind_moves_in ?_
  show EX cx (d + 6) _ (upd (upd (fun _ => none) "web" (.ref a)) "row" (.ref b)) _ H _
  refine EX_cons ?_
  refine EX_ExprAny ?_
  refine EV_CallD hg ?_
  walk_at "E"
  refine need_game_spec hE hg hW hG hC fun H₁ o order e1 ho0 hO Fd hol hall => ?_
  walk_at "E"
  refine EV_CallD hr ?_
  walk_at "E"
  refine (need_row_spec hE hr (hW.ext e1) hG.most (e1 _ _ hb) hn hlt ?_).le (d := d + 6) (d' := 3) (lek rfl)
  refine ⟨rfl, ?_⟩
  walk_at "E"
  refine EV_CallD hm ?_
  walk_at "E"
  refine (moves_of_spec hE hm (hW.ext e1) hG h40 (e1 _ _ hb) hn hlt fun H₂ f e2 hf0 M => ?_).le (d := d + 6) (d' := 1) (lek rfl)
  walk_at "E"
  exact hq H₂ f (e1.trans e2) (e1.none hf0) M
end

-- L01g
set_option maxRecDepth 10000
set_option maxHeartbeats 4000000
section
variable {cx : Cx} {d : Nat} {H : Hp} {Q : AV → Hp → Prop}
theorem ring_in_spec (hE : PD cx) {fa : Addr} (hf : HasDef cx (defAt p01 16) fa) {a : Addr} {web : List (List Nat)} (hW : IsWeb H a web) (hG : GoodWeb web)
    (hq0 : ∀ H' found, Ext H H' → Found web found → (∀ s < web.length, s ∈ found) → Q .none H')
    (hq : ∀ H' b ring, Ext H H' → H b = none → H' b = some (.list false (rowV ring)) → IsRing web ring → Q (.ref b) H') : CW cx (d + 6) (.ref fa) [.ref a] H Q := by
  have hB := hE.bs
  obtain ⟨ga, hg⟩ := hE.defs 13 (by decide)
  obtain ⟨ba, hb⟩ := hE.defs 15 (by decide)
  have hm := hG.most
  have hpos := hG.pos
  refine CW_fn hf bind_ring_in ?_
  show EX cx (d + 5) _ (upd (fun _ => none) "web" (.ref a)) _ H _
  refine EX_cons ?_
  walk_at "E"
  refine EV_CallD hg ?_
  walk_at "E"
  refine (need_web_spec hE hg hW hG fun H₁ e1 => ?_)
  refine ⟨rfl, ?_⟩
  walk_at "E"
  refine EV_ListComp ?_
  walk_at "E"
  refine EV_CallD hb ?_
  walk_at "E"
  refine (behind_first_spec hE hb (hW.ext e1) hG fun H₂ f found e2 hf0 hF Fd => ?_).le (d := d + 5) (d' := 2) (lek rfl)
  have hfl := nodup_length Fd.nodup Fd.lt
  refine ⟨_, _, .list hF, by simp; omega, ?_⟩
  refine CompW_grow found (fun (n : Nat) => AV.int (n : Int)) (fun n y H' => ∃ t, y = .ref t ∧ H' t = some (.tuple [.int (n : Int), .bool true])) (fun n y H₁ H₂ e h => by obtain ⟨t, rfl, h⟩ := h; exact ⟨t, rfl, e _ _ h⟩) (fun H' e => e _ _ hF) (fun n H' hn e => ?_) (fun ys H₃ e3 hlen hys l hl => ?_)
  · refine EV_Tuple ?_
    walk_at "E"
    exact ⟨by simp, fun t ht => ⟨.put ht, t, rfl, Hp.put_self ..⟩⟩
  obtain ⟨ts, rfl⟩ := refs_of (p := fun _ => True) (ys := ys) fun y hy => by
    obtain ⟨i, hi, rfl⟩ := List.mem_iff_getElem.mp hy
    obtain ⟨t, ht, _⟩ := hys i found[i] ys[i] (by simp [show i < found.length by omega]) (by simp [hi])
    exact ⟨t, ht, trivial⟩
  rw [List.length_map] at hlen
  have e4 : Ext H₃ (H₃.put l (.list false (ts.map .ref))) := .put hl
  have hl4 : (H₃.put l (.list false (ts.map .ref))) l = _ := Hp.put_self ..
  generalize H₃.put l _ = H₄ at e4 hl4 ⊢
  walk_at "E"
  refine CW_dictPairs (ks := found.map fun (n : Nat) => ((n : Int), AV.bool true)) hl4 (by simp [hlen]) (by walk_at "ln") (fun i t kv h1 h2 => ?_) fun D hD hmod => ?_
  · simp only [List.getElem?_map, Option.map_eq_some_iff] at h2
    obtain ⟨n, hn, rfl⟩ := h2
    obtain ⟨t', q1, q2⟩ := hys i n (.ref t) hn (by simp [h1])
    cases q1
    exact e4 _ _ q2
  have hhas : ∀ n : Nat, (dget (mkDict (found.map fun (n : Nat) => ((n : Int), AV.bool true))) (n : Int)).isSome = decide (n ∈ found) := fun n => by
    rw [mkDict_has, List.map_map]
    apply decide_eq_decide.mpr
    simp only [List.mem_map, Function.comp]
    constructor
    · rintro ⟨x, hx, e⟩; rw [show n = x by omega]; exact hx
    · intro h; exact ⟨n, h, rfl⟩
  generalize mkDict (found.map fun (n : Nat) => ((n : Int), AV.bool true)) = kvs at hhas ⊢
  have e5 : Ext H₂ (H₄.put D (.dict kvs)) := (e3.trans e4).put_r hD
  have hD5 : (H₄.put D (.dict kvs)) D = _ := Hp.put_self ..
  generalize H₄.put D _ = H₅ at e5 hD5 ⊢
  clear e3 e4 hl4 hys hlen hD hl
  obtain ⟨rs, W⟩ := hW.ext ((e1.trans e2).trans e5)
  have hl := W.len
  have e15 : Ext H H₅ := (e1.trans e2).trans e5
  walk_at "E"
  refine EX_AssignComp ?_
  walk_at "E"
  refine CW_len W.top (by walk_at "ln") ?_
  rw [List.length_map, hl]
  walk_at "E"
  refine CW_range1 fun g hg' => ?_
  have e6 : Ext H₅ (H₅.put g (.range 0 web.length)) := .put hg'
  refine ⟨_, _, .range (Hp.put_self ..) (by decide) (by decide) (by omega) (by omega), by rw [spanZ_length]; omega, ?_⟩
  generalize H₅.put g _ = H₆ at e6 ⊢
  rw [spanZ0]
  refine CompW_filter (List.range web.length) _ (fun (i : Nat) => AV.int (i : Int)) (fun s => decide (s ∉ found)) trivial (fun i hi => ?_) (fun i hi _ => ?_) (fun b hb' => ?_)
  · walk_at "E"
    refine Op_notInDict (e6 _ _ hD5) hmod ?_
    rw [hhas]
    exact ⟨by simp, rfl⟩
  · walk_at "E"
    exact ⟨rfl, rfl⟩
  have hleft : ∀ s, s ∈ (List.range web.length).filter (fun s => decide (s ∉ found)) ↔ s < web.length ∧ s ∉ found := fun s => by simp
  have hleftl : ((List.range web.length).filter (fun s => decide (s ∉ found))).length ≤ 200 := Nat.le_trans (List.length_filter_le ..) (by walk_at "ln")
  generalize (List.range web.length).filter (fun s => decide (s ∉ found)) = left at hleft hleftl ⊢
  have e7 : Ext H₅ (H₆.put b (.list false (rowV left))) := e6.put_r hb'
  have hb7 : (H₆.put b (.list false (rowV left))) b = _ := Hp.put_self ..
  change andThen cx (d + 5) _ _ _ _ _ (H₆.put b (.list false (rowV left)))
  generalize H₆.put b _ = H₇ at e7 hb7 ⊢
  clear e6 hb' hg'
  walk_at "E"
  refine EV_List ?_
  walk_at "E"
  refine ⟨by simp, fun z hz => ?_⟩
  have e8 : Ext H₇ (H₇.put z (.list false (rowV []))) := .put hz
  have hz8 : (H₇.put z (.list false (rowV []))) z = _ := Hp.put_self ..
  change OpW cx (d + 5) _ _ _ (H₇.put z (.list false (rowV []))) _
  generalize H₇.put z _ = H₈ at e8 hz8 ⊢
  refine Op_eqRow (d := d + 4) (e8 _ _ hb7) hz8 ?_
  walk_at "E"
  refine ite_dec (fun hnil => ?_) (fun hnil => ?_)
  · walk_at "E"
    refine hq0 H₈ found ((e15.trans e7).trans e8) Fd fun s hs => ?_
    apply Classical.byContradiction
    intro hc
    have := (hleft s).mpr ⟨hs, hc⟩
    rw [hnil] at this; cases this
  cases left with
  | nil => exact absurd rfl hnil
  | cons s0 lr =>
  obtain ⟨hs1, hs2⟩ := (hleft s0).mp (.head _)
  walk_at "E"
  refine EV_List ?_
  walk_at "E"
  refine ⟨by simp, fun rw_ hrw => ?_⟩
  have e9 : Ext H₇ (H₈.put rw_ (.list false (rowV []))) := e8.put_r hrw
  have hr9 : (H₈.put rw_ (.list false (rowV []))) rw_ = _ := Hp.put_self ..
  change andThen cx (d + 5) _ _ _ _ _ (H₈.put rw_ (.list false (rowV [])))
  have hrw7 : H₇ rw_ = none := e8.none hrw
  generalize H₈.put rw_ _ = H₉ at e9 hr9 ⊢
  clear e8 hz8 hrw
  walk_at "E"
  refine EV_Dict0 fun pl hpl hpmod => ?_
  have e10 : Ext H₇ (H₉.put pl (.dict [])) := e9.put_r hpl
  have hp10 : (H₉.put pl (.dict [])) pl = _ := Hp.put_self ..
  have hrp : rw_ ≠ pl := ne_of_new hpl hr9
  have hr10 := (Hp.put_ne (H := H₉) (o := .dict []) hrp).trans hr9
  have hpl7 : H₇ pl = none := e9.none hpl
  generalize H₉.put pl _ = H₁₀ at e10 hp10 hr10 ⊢
  clear e9 hr9 hpl
  walk_at "E"
  refine Get_list (e10 _ _ hb7) (by walk_at "nn") (by simp at hleftl ⊢; omega) (v := .int s0) rfl ?_
  walk_at "E"
  have W7 := W.ext e7
  refine EX_WhileR (fun n l' H' => Ext H₇ H' ∧ l' "web" = some (.ref a) ∧ l' "ending" = some (.ref D) ∧ l' "row" = some (.ref rw_) ∧ l' "places" = some (.ref pl) ∧ ∃ (row : List Nat) (spot : Nat) (ps : List (Int × AV)), n = web.length - row.length ∧ l' "spot" = some (.int spot) ∧
      H' rw_ = some (.list false (rowV row)) ∧ H' pl = some (.dict ps) ∧ OnWay web found row spot ∧ ps.length ≤ row.length ∧ (∀ n : Nat, (dget ps (n : Int)).isSome = decide (n ∈ row)) ∧ (∀ i n : Nat, row[i]? = some n → dget ps (n : Int) = some (.int (i : Int)))) web.length
    ⟨e10, by walk_at "lk", by walk_at "lk", by walk_at "lk", by walk_at "lk", [], s0, [], by simp, by walk_at "lk", hr10, hp10, ⟨.nil, by simp, hs1, hs2, by simp⟩, by simp, by simp [dget], by simp⟩ ?_
  rintro n l' H' ⟨e, h1, h2, h3, h4, row, spot, ps, rfl, h5, h6, h7, O, h8, h9, h10⟩ R hR
  have hrl : row.length ≤ web.length := nodup_length O.nodup O.lt
  refine TV.mono (Q₁ := fun v H₁ => H₁ = H' ∧ v = decide (spot ∉ row)) ?_ ?_
  · walk_at "E"
    refine Op_notInDict h7 hpmod ?_
    rw [h9]
    walk_at "E"
    exact ⟨rfl, by simp⟩
  rintro v H₁' ⟨rfl, rfl⟩
  refine ite_dec (fun hnot => ?_) (fun hin => ?_)
  · have hrl' : row.length + 1 ≤ web.length := by
      have := nodup_length (l := row ++ [spot]) (n := web.length) (by
        rw [List.nodup_append]
        refine ⟨O.nodup, by simp, fun p hp q hq => ?_⟩
        rw [List.mem_singleton] at hq
        exact fun e => hnot (by rw [← hq, ← e]; exact hp)) (fun x hx => by
        rcases List.mem_append.mp hx with h | h
        · exact O.lt x h
        · rw [List.mem_singleton.mp h]; exact O.sl)
      simpa using this
    refine EX_cons ?_
    walk_at "E"
    refine CW_len h6 (by walk_at "ln") ?_
    rw [rowV_length]
    walk_at "E"
    refine Set_dict h7 (by omega) ?_
    have g7 : (H₁'.put pl (.dict (dset ps spot (.int row.length)))) pl = _ := Hp.put_self ..
    have g6 := (Hp.put_ne (H := H₁') (o := .dict (dset ps spot (.int row.length))) hrp).trans h6
    have ge := e.own (o := .dict (dset ps spot (.int row.length))) hpl7
    generalize H₁'.put pl _ = H₂' at g7 g6 ge ⊢
    walk_at "E"
    refine EV_Meth F.slot_list_append F.type_list_append ?_
    walk_at "E"
    refine ⟨rw_, false, _, rfl, g6, ?_⟩
    walk_at "E"
    refine CW_append g6 (by walk_at "ln") ?_
    refine ⟨rfl, ?_⟩
    have e2' : rowV row ++ [AV.int spot] = rowV (row ++ [spot]) := by simp [rowV]
    rw [e2']
    have k6 : (H₂'.put rw_ (.list false (rowV (row ++ [spot])))) rw_ = _ := Hp.put_self ..
    have k7 := (Hp.put_ne (H := H₂') (o := .list false (rowV (row ++ [spot]))) (Ne.symm hrp)).trans g7
    have ke := ge.own (o := .list false (rowV (row ++ [spot]))) hrw7
    generalize H₂'.put rw_ _ = H₃' at k6 k7 ke ⊢
    walk_at "E"
    have W3 := W7.ext ke
    obtain ⟨r, q1, q2, q3⟩ := W3.at O.sl
    refine EV_ListComp ?_
    walk_at "E"
    refine Get_list W3.top (by walk_at "nn") (by walk_at "ln") (v := .ref r) q2 ?_
    refine ⟨_, _, .list q3, by rw [rowV_length]; have := hG.rowLen spot; omega, ?_⟩
    refine CompW_filter (web.getD spot []) (fun (n : Nat) => AV.int (n : Int)) (fun (n : Nat) => AV.int (n : Int)) (fun g => decide (g ∉ found)) q3 (fun g hg' => ?_) (fun g hg' _ => ?_) (fun c hc => ?_)
    · walk_at "E"
      refine Op_notInDict (ke _ _ (e7 _ _ hD5)) hmod ?_
      rw [hhas]
      exact ⟨by simp, rfl⟩
    · walk_at "E"
      exact ⟨rfl, rfl⟩
    obtain ⟨g, hg1, hg2⟩ := Fd.next O.sl O.so
    have hne : (web.getD spot []).filter (fun g => decide (g ∉ found)) ≠ [] := fun hnil => by
      have : g ∈ (web.getD spot []).filter (fun g => decide (g ∉ found)) := List.mem_filter.mpr ⟨hg1, by simp [hg2]⟩
      rw [hnil] at this; cases this
    have hsub : ∀ x ∈ (web.getD spot []).filter (fun g => decide (g ∉ found)), x ∈ web.getD spot [] ∧ x ∉ found := fun x hx => by
      have := List.mem_filter.mp hx
      exact ⟨this.1, of_decide_eq_true this.2⟩
    have hlen : ((web.getD spot []).filter (fun g => decide (g ∉ found))).length ≤ 200 := Nat.le_trans (List.length_filter_le ..) (Nat.le_trans (hG.rowLen spot) hm)
    generalize (web.getD spot []).filter (fun g => decide (g ∉ found)) = fl at hne hsub hlen ⊢
    cases fl with
    | nil => exact absurd rfl hne
    | cons x xr =>
    obtain ⟨x1, x2⟩ := hsub x (.head _)
    have ec : Ext H₃' (H₃'.put c (.list false ((x :: xr).map fun (n : Nat) => AV.int (n : Int)))) := .put hc
    have hcc : (H₃'.put c (.list false ((x :: xr).map fun (n : Nat) => AV.int (n : Int)))) c = _ := Hp.put_self ..
    generalize H₃'.put c _ = H₄' at ec hcc ⊢
    walk_at "E"
    refine Get_list hcc (by walk_at "nn") (by simp at hlen ⊢; omega) (v := .int x) rfl ?_
    walk_at "E"
    refine hR (web.length - (row ++ [spot]).length) _ _ (by simp; omega) ⟨ke.trans ec, by walk_at "lk", by walk_at "lk", by walk_at "lk", by walk_at "lk", row ++ [spot], x, _, rfl, by walk_at "lk", ec _ _ k6, ec _ _ k7, O.turn hG hnot x1 x2, ?_, fun n => ?_, fun i n hi => ?_⟩
    · have := dset_length ps spot (.int row.length); simp; omega
    · rw [dget_dset]
      by_cases e : (n : Int) = spot
      · rw [if_pos e]; simp [show n = spot by omega]
      · rw [if_neg e, h9]; simp [show n ≠ spot by omega]
    · rw [dget_dset]
      rcases Nat.lt_trichotomy i row.length with z | z | z
      · rw [List.getElem?_append_left z] at hi
        rw [if_neg (fun e => hnot (by rw [← show n = spot by omega]; exact List.mem_of_getElem? hi))]
        exact h10 i n hi
      · subst z
        rw [List.getElem?_append_right (Nat.le_refl _), Nat.sub_self] at hi
        simp at hi
        rw [if_pos (by omega)]
      · rw [List.getElem?_eq_none (by walk_at "ln")] at hi; cases hi
  · have hin := Classical.not_not.mp hin
    obtain ⟨p, hpl, hpe⟩ := List.mem_iff_getElem.mp hin
    have hp : row[p]? = some spot := by rw [← hpe]; simp [hpl]
    walk_at "E"
    refine EV_Slice ?_
    walk_at "E"
    refine Get_dict h7 (h10 p spot hp) ?_
    refine int_ok ?_
    walk_at "E"
    refine ⟨rw_, false, _, rfl, h6, by simp; omega, fun b2 hb2 => ?_⟩
    have e2' : pySlice (rowV row) (some (p : Int)) none = rowV (row.drop p) := by
      rw [pySlice_from _ (by walk_at "ln")]; simp [rowV, List.map_drop]
    rw [e2']
    walk_at "E"
    refine hq _ b2 (row.drop p) (((e15.trans e7).trans e).put_r hb2) (((e15.trans e7).trans e).none hb2) (Hp.put_self ..) (O.ring hp)

end

-- L01h
set_option maxRecDepth 10000
set_option maxHeartbeats 4000000
section
variable {cx : Cx} {d : Nat} {H : Hp} {Q : AV → Hp → Prop}
theorem joined_webs_w (hE : PD cx) {fa : Addr} (hf : HasDef cx (defAt p01 17) fa) {a b : Addr} {one other : List (List Nat)} (hW : IsWeb H a one) (hW' : IsWeb H b other) (hG : GoodWeb one) (hG' : GoodWeb other) (hsz : one.length + other.length ≤ 200)
    (hq : ∀ H' v, Ext H H' → Q v H') : CW cx (d + 6) (.ref fa) [.ref a, .ref b] H Q := by
  have hB := hE.bs
  obtain ⟨na, hna⟩ := hE.defs 13 (by decide)
  obtain ⟨t, hM⟩ := hE.most
  refine CW_fn hf bind_joined_webs ?_
  show EX cx (d + 5) _ (upd (upd (fun _ => none) "one" (.ref a)) "other" (.ref b)) _ H _
  refine EX_cons ?_
  walk_at "E"
  refine EV_CallD hna ?_
  walk_at "E"
  refine (need_web_spec hE hna hW hG fun H₁ e1 => ?_)
  refine ⟨rfl, ?_⟩
  walk_at "E"
  refine EV_CallD hna ?_
  walk_at "E"
  refine (need_web_spec hE hna (hW'.ext e1) hG' fun H₂ e2 => ?_)
  refine ⟨rfl, ?_⟩
  have e12 := e1.trans e2
  obtain ⟨rs, W⟩ := hW.ext e12
  obtain ⟨ts, W'⟩ := hW'.ext e12
  have hl := W.len
  have hl' := W'.len
  clear e1 e2 hW hW'
  walk_at "E"
  refine CW_len W.top (by walk_at "ln") ?_
  rw [List.length_map, hl]
  walk_at "E"
  refine CW_len W'.top (by walk_at "ln") ?_
  rw [List.length_map, hl']
  walk_at "E"
  refine ite_dec (fun h => absurd h (by omega)) (fun _ => ?_)
  walk_at "E"
  refine EX_AssignComp ?_
  walk_at "E"
  refine ⟨_, _, .list W.top, by simp; omega, ?_⟩
  rw [refs_eq rs, hl]
  refine CompW_rows (List.range one.length) _ (fun i => rowV (one.getD i [])) (fun H' e => by rw [← hl, ← refs_eq rs]; exact e _ _ W.top) (fun i H' Q' hi he k => ?_) (fun fs H₃ he hlen hn hfr hrow f hf' => ?_)
  · have hi' : i < one.length := List.mem_range.mp hi
    have hil : i < rs.length := by omega
    have hr := W.row i rs[i] (one.getD i []) (by simp [hil]) (by simp [hi'])
    have hz := hG.rowLen i
    have e0 : rs.getD i 0 = rs[i] := by simp [hil]
    rw [e0]
    walk_at "E"
    exact CW_list_copy (he _ _ hr) (by rw [rowV_length]; omega) k
  have e3 : Ext H₂ (H₃.put f (.list false (fs.map .ref))) := he.put_r hf'
  have hf3 : (H₃.put f (.list false (fs.map .ref))) f = _ := Hp.put_self ..
  have hf0 : H₂ f = none := he.none hf'
  have hfl : fs.length ≤ 200 := by rw [hlen, List.length_range]; omega
  generalize H₃.put f _ = H₄ at e3 hf3 ⊢
  clear hrow hfr hn hlen he hf'
  walk_at "E"
  refine EX_ForR ?_
  walk_at "E"
  refine forQ ⟨_, _, .list (e3 _ _ W'.top), fun i l' H' => Ext H₂ H' ∧ l' "one" = some (.ref a) ∧ l' "found" = some (.ref f) ∧ ∃ vs, H' f = some (.list false vs) ∧ vs.length ≤ 200 + i, ⟨e3, by walk_at "lk", by walk_at "lk", _, hf3, by rw [List.length_map]; exact hfl⟩, ?_, ?_, ?_⟩
  · rintro i l' H' ⟨e, _⟩; exact e _ _ W'.top
  · rintro i w l' H' hi ⟨e, h1, h2, vs, hf4, hvl⟩ R hR
    simp only [List.getElem?_map, Option.map_eq_some_iff] at hi
    obtain ⟨r, hi, rfl⟩ := hi
    have hil : i < other.length := by rw [← hl']; exact (List.getElem?_eq_some_iff.mp hi).1
    have hr := e _ _ (W'.row i r (other.getD i []) hi (by simp [hil]))
    have hz := hG'.rowLen i
    have We := W.ext e
    refine EX_cons ?_
    walk_at "E"
    refine EV_Meth F.slot_list_append F.type_list_append ?_
    walk_at "E"
    refine ⟨f, false, _, rfl, hf4, ?_⟩
    walk_at "E"
    refine EV_ListComp ?_
    walk_at "E"
    refine ⟨_, _, .list hr, by rw [rowV_length]; omega, ?_⟩
    refine CompW_map (other.getD i []) (fun (n : Nat) => AV.int (n : Int)) (fun (g : Nat) => AV.int ((one.length : Int) + g)) hr (fun g hg => ?_) (fun c hc => ?_)
    · walk_at "E"
      refine CW_len We.top (by walk_at "ln") ?_
      rw [List.length_map, hl]
      walk_at "E"
      exact ⟨rfl, rfl⟩
    walk_at "E"
    refine CW_append ((Ext.put hc) _ _ hf4) (by omega) ?_
    refine ⟨rfl, ?_⟩
    walk_at "E"
    exact hR _ _ ⟨(e.put_r hc).own hf0, by walk_at "lk", by walk_at "lk", _, Hp.put_self .., by rw [List.length_append, List.length_singleton]; omega⟩
  · rintro l' H' ⟨e, h1, h2, _⟩
    walk_at "E"
    exact hq _ _ (e12.trans e)
theorem paired_web_w (hE : PD cx) {fa : Addr} (hf : HasDef cx (defAt p01 18) fa) {a b : Addr} {one other : List (List Nat)} (hW : IsWeb H a one) (hW' : IsWeb H b other) (hG : GoodWeb one) (hG' : GoodWeb other) (hsz : one.length * other.length ≤ 200)
    (hq : ∀ H' v, Ext H H' → Q v H') : CW cx (d + 6) (.ref fa) [.ref a, .ref b] H Q := by
  have hB := hE.bs
  obtain ⟨na, hna⟩ := hE.defs 13 (by decide)
  obtain ⟨t, hM⟩ := hE.most
  have hm1 := hG.most
  have hm2 := hG'.most
  refine CW_fn hf bind_paired_web ?_
  show EX cx (d + 5) _ (upd (upd (fun _ => none) "one" (.ref a)) "other" (.ref b)) _ H _
  refine EX_cons ?_
  walk_at "E"
  refine EV_CallD hna ?_
  walk_at "E"
  refine (need_web_spec hE hna hW hG fun H₁ e1 => ?_)
  refine ⟨rfl, ?_⟩
  walk_at "E"
  refine EV_CallD hna ?_
  walk_at "E"
  refine (need_web_spec hE hna (hW'.ext e1) hG' fun H₂ e2 => ?_)
  refine ⟨rfl, ?_⟩
  have e12 := e1.trans e2
  obtain ⟨rs, W⟩ := hW.ext e12
  obtain ⟨ts, W'⟩ := hW'.ext e12
  have hl := W.len
  have hl' := W'.len
  clear e1 e2 hW hW'
  walk_at "E"
  refine CW_len W'.top (by walk_at "ln") ?_
  rw [List.length_map, hl']
  walk_at "E"
  refine CW_len W.top (by walk_at "ln") ?_
  rw [List.length_map, hl]
  walk_at "E"
  refine Op_mul (mulR (by omega)) ?_
  walk_at "E"
  refine ite_dec (fun h => absurd h (by rw [← Int.natCast_mul]; omega)) (fun _ => ?_)
  walk_at "E"
  refine EV_List ?_
  walk_at "E"
  refine ⟨by simp, fun f hf' => ?_⟩
  have e3 : Ext H₂ (H₂.put f (.list false [])) := .put hf'
  have hf3 : (H₂.put f (.list false [])) f = _ := Hp.put_self ..
  have hf0 : H₂ f = none := hf'
  generalize H₂.put f _ = H₃ at e3 hf3 ⊢
  walk_at "E"
  refine EX_ForEnumR hB ?_
  walk_at "E"
  refine ⟨a, false, _, rfl, e3 _ _ W.top, fun i l' H' => Ext H₂ H' ∧ l' "other" = some (.ref b) ∧ l' "many" = some (.int other.length) ∧ l' "found" = some (.ref f) ∧ ∃ vs, H' f = some (.list false vs) ∧ vs.length ≤ 200 * i,
    ⟨e3, by walk_at "lk", by walk_at "lk", by walk_at "lk", [], hf3, Nat.zero_le _⟩, ?_, ?_, ?_⟩
  · rintro i l' H' ⟨e, _⟩; exact e _ _ W.top
  · rintro i w l' H' hi ⟨e, h1, h2, h3, vs, hf4, hvl⟩ R hR
    simp only [List.getElem?_map, Option.map_eq_some_iff] at hi
    obtain ⟨r, hi, rfl⟩ := hi
    have hil : i < one.length := by rw [← hl]; exact (List.getElem?_eq_some_iff.mp hi).1
    have hr := W.row i r (one.getD i []) hi (by simp [hil])
    have hz := hG.rowLen i
    refine EX_cons ?_
    refine EX_ForR ?_
    walk_at "E"
    refine CW_range1 fun r1 hr1 => ?_
    have er : Ext H' (H'.put r1 (.range 0 other.length)) := .put hr1
    refine forQ ⟨_, _, .range (Hp.put_self ..) (by decide) (by decide) (by omega) (by omega), fun k l' H' => Ext H₂ H' ∧ l' "other" = some (.ref b) ∧ l' "many" = some (.int other.length) ∧ l' "found" = some (.ref f) ∧ l' "first" = some (.int i) ∧ l' "goals" = some (.ref r) ∧ ∃ vs, H' f = some (.list false vs) ∧ vs.length ≤ 200 * i + k,
      ⟨e.trans er, by walk_at "lk", by walk_at "lk", by walk_at "lk", by walk_at "lk", by walk_at "lk", vs, er _ _ hf4, hvl⟩, ?_, ?_, ?_⟩
    · intros; trivial
    · rintro k w l' H' hk ⟨e, h1, h2, h3, h4, h5, vs, hf4, hvl⟩ R2 hR2
      obtain ⟨hk1, rfl⟩ := spanZ_get hk
      have hkl : k < other.length := by omega
      have hr' := e _ _ hr
      have hz' := hG'.rowLen k
      rw [Int.zero_add]
      refine EX_cons ?_
      refine EX_AssignComp ?_
      walk_at "E"
      refine ⟨_, _, .list hr', by rw [rowV_length]; omega, ?_⟩
      refine CompW_map (one.getD i []) (fun (n : Nat) => AV.int (n : Int)) (fun (g : Nat) => AV.int ((g : Int) * other.length + k)) hr' (fun g hg => ?_) (fun c hc => ?_)
      · walk_at "E"
        refine Op_mul (mulR (by omega)) ?_
        walk_at "E"
        exact ⟨rfl, rfl⟩
      generalize hH : H'.put c _ = H₅
      obtain ⟨ec, hcc⟩ := put_as hH hc rfl
      clear hH
      have W'5 := (W'.ext e).ext ec
      obtain ⟨r', q1, q2, q3⟩ := W'5.at hkl
      walk_at "E"
      refine EV_Meth F.slot_list_append F.type_list_append ?_
      walk_at "E"
      refine ⟨f, false, _, rfl, ec _ _ hf4, ?_⟩
      walk_at "E"
      refine EV_ListComp ?_
      walk_at "E"
      refine Get_list W'5.top (by walk_at "nn") (by walk_at "ln") (v := .ref r') q2 ?_
      refine ⟨_, _, .list q3, by rw [rowV_length]; omega, ?_⟩
      refine CompW_map (other.getD k []) (fun (n : Nat) => AV.int (n : Int)) (fun (g : Nat) => AV.int ((i : Int) * other.length + g)) q3 (fun g hg => ?_) (fun c2 hc2 => ?_)
      · walk_at "E"
        refine Op_mul (mulR (by omega)) ?_
        walk_at "E"
        exact ⟨rfl, rfl⟩
      generalize hH : H₅.put c2 _ = H₆
      obtain ⟨ec2, hcc2⟩ := put_as hH hc2 rfl
      clear hH
      refine Op_addList (ec2 _ _ hcc) hcc2 (by rw [List.length_map]; omega) (by rw [List.length_map]; omega) fun c3 hc3 => ?_
      generalize hH : H₆.put c3 _ = H₇
      obtain ⟨ec3, _⟩ := put_as hH hc3 rfl
      clear hH
      have e6 := (ec.trans ec2).trans ec3
      refine CW_append (e6 _ _ hf4) (by omega) ?_
      refine ⟨rfl, ?_⟩
      walk_at "E"
      exact hR2 _ _ ⟨(e.trans e6).own hf0, by walk_at "lk", by walk_at "lk", by walk_at "lk", by walk_at "lk", by walk_at "lk", _, Hp.put_self .., by rw [List.length_append, List.length_singleton]; omega⟩
    · rintro l' H' ⟨e, h1, h2, h3, h4, h5, vs, hf4, hvl⟩
      rw [spanZ_length] at hvl
      walk_at "E"
      exact hR _ _ ⟨e, h1, h2, h3, vs, hf4, by omega⟩
  · rintro l' H' ⟨e, h1, h2, h3, _⟩
    walk_at "E"
    exact hq _ _ (e12.trans e)

end

-- L01i
set_option maxRecDepth 10000
set_option maxHeartbeats 4000000
section
variable {cx : Cx} {d : Nat} {H : Hp} {Q : AV → Hp → Prop}
theorem shown_moves_spec (hE : PD cx) {fa : Addr} (hf : HasDef cx (defAt p01 24) fa) {a : Addr} {web : List (List Nat)} {f : Nat → Nat} {s : Nat} (hW : IsWeb H a web) (hG : GoodWeb web) (hC : Calm web) (hN : Nums web f) (hs : s < web.length)
    (hq : ∀ H' b ms, Ext H H' → H b = none → H' b = some (.list false (rowV ms)) → ms.length = f s → (∀ (k m : Nat), ms[k]? = some m → m ∈ web.getD s [] ∧ f m = k) → Q (.ref b) H') : CW cx (d + 8) (.ref fa) [.ref a, .int s] H Q := by
  have hB := hE.bs
  obtain ⟨ga, hg⟩ := hE.defs 22 (by decide)
  have hm := hG.most
  refine CW_fn hf bind_shown_moves ?_
  show EX cx (d + 7) _ (upd (upd (fun _ => none) "web" (.ref a)) "spot" (.int s)) _ H _
  refine EX_cons ?_
  walk_at "E"
  refine EV_CallD hg ?_
  walk_at "E"
  refine numbers_of_spec hE hg hW hG hC fun H₁ n f' e1 hn0 hn hN' => ?_
  have hff := hN'.uniq hG hC hN
  have hfs := hN.le hG hs
  obtain ⟨rs, W⟩ := hW.ext e1
  have hl := W.len
  have get : ∀ {H' : Hp} {x : Nat} {Q' : AV → Hp → Prop} {d' : Nat}, Ext H₁ H' → x < web.length → Q' (.int (f x)) H' → GetW cx d' (.ref n) (.int x) H' Q' := fun e hx q =>
    Get_list (e _ _ hn) (by walk_at "nn") (by walk_at "ln") (v := .int (f _)) (by simp [rowV, hx, hff _ hx]) q
  walk_at "E"
  refine EV_List ?_
  walk_at "E"
  refine ⟨by simp, fun b hb => ?_⟩
  have e2 : Ext H₁ (H₁.put b (.list false (rowV []))) := .put hb
  have hbb : (H₁.put b (.list false (rowV []))) b = _ := Hp.put_self ..
  change andThen cx (d + 7) _ _ _ _ _ (H₁.put b (.list false (rowV [])))
  generalize H₁.put b _ = H₂ at e2 hbb ⊢
  walk_at "E"
  refine EX_For ?_
  walk_at "E"
  refine get e2 hs ?_
  walk_at "E"
  refine CW_range1 fun r1 hr1 => ?_
  refine ⟨_, _, .range (Hp.put_self ..) (by decide) (by decide) (by omega) (by omega), fun i l' H' => Ext H₁ H' ∧ l' "web" = some (.ref a) ∧ l' "spot" = some (.int s) ∧ l' "numbers" = some (.ref n) ∧ l' "found" = some (.ref b) ∧ ∃ ms, H' b = some (.list false (rowV ms)) ∧ ms.length = i ∧
    ∀ (k m : Nat), ms[k]? = some m → m ∈ web.getD s [] ∧ f m = k, ⟨e2.put_r hr1, by walk_at "lk", by walk_at "lk", by walk_at "lk", by walk_at "lk", [], (Hp.put_ne (ne_of_new hr1 hbb)).trans hbb, rfl, by simp⟩, ?_, ?_, ?_⟩
  · intros; trivial
  · rintro i w l' H' hi ⟨e, h1, h2, h3, h4, ms, h5, h6, h7⟩
    obtain ⟨hi1, rfl⟩ := spanZ_get hi
    have hif : i < f s := by omega
    rw [Int.zero_add]
    have W' := W.ext e
    obtain ⟨r, q1, q2, q3⟩ := W'.at hs
    refine EX_cons ?_
    walk_at "E"
    refine EV_Meth F.slot_list_append F.type_list_append ?_
    walk_at "E"
    refine ⟨b, false, _, rfl, h5, ?_⟩
    walk_at "E"
    refine EV_ListComp ?_
    walk_at "E"
    refine Get_list W'.top (by walk_at "nn") (by walk_at "ln") (v := .ref r) q2 ?_
    refine ⟨_, _, .list q3, by rw [rowV_length]; have := hG.rowLen s; omega, ?_⟩
    refine CompW_filter (web.getD s []) (fun (n : Nat) => AV.int (n : Int)) (fun (n : Nat) => AV.int (n : Int)) (fun g => decide (f g = i)) q3 (fun g hg' => ?_) (fun g hg' _ => ?_) (fun c hc => ?_)
    · have hgl := (hG.row s).2 g hg'
      walk_at "E"
      refine get e hgl ?_
      walk_at "E"
      refine ⟨decide_eq_decide.mpr ?_, rfl⟩
      omega
    · walk_at "E"
      exact ⟨rfl, rfl⟩
    obtain ⟨g, hg1, hg2⟩ := List.mem_map.mp ((hN s hs).low i hif)
    have hne : (web.getD s []).filter (fun g => decide (f g = i)) ≠ [] := fun hnil => by
      have : g ∈ (web.getD s []).filter (fun g => decide (f g = i)) := List.mem_filter.mpr ⟨hg1, by simp [hg2]⟩
      rw [hnil] at this; cases this
    have hsub : ∀ x ∈ (web.getD s []).filter (fun g => decide (f g = i)), x ∈ web.getD s [] ∧ f x = i := fun x hx => by
      have := List.mem_filter.mp hx
      exact ⟨this.1, of_decide_eq_true this.2⟩
    have hlen : ((web.getD s []).filter (fun g => decide (f g = i))).length ≤ 200 := Nat.le_trans (List.length_filter_le ..) (Nat.le_trans (hG.rowLen s) hm)
    generalize (web.getD s []).filter (fun g => decide (f g = i)) = fl at hne hsub hlen ⊢
    cases fl with
    | nil => exact absurd rfl hne
    | cons x xr =>
      obtain ⟨x1, x2⟩ := hsub x (.head _)
      have h5' := (Hp.put_ne (H := H') (o := .list false ((x :: xr).map fun (n : Nat) => AV.int (n : Int))) (ne_of_new hc h5)).trans h5
      have ec : Ext H₁ (H'.put c (.list false ((x :: xr).map fun (n : Nat) => AV.int (n : Int)))) := e.put_r hc
      have hcc : (H'.put c (.list false ((x :: xr).map fun (n : Nat) => AV.int (n : Int)))) c = _ := Hp.put_self ..
      generalize H'.put c _ = H₄ at h5' ec hcc ⊢
      walk_at "E"
      refine Get_list hcc (by walk_at "nn") (by simp at hlen ⊢; omega) (v := .int x) rfl ?_
      walk_at "E"
      refine CW_append h5' (by walk_at "ln") ?_
      refine ⟨rfl, ?_⟩
      walk_at "E"
      have e2' : rowV ms ++ [AV.int x] = rowV (ms ++ [x]) := by simp [rowV]
      rw [e2']
      refine ⟨ec.own hb, by walk_at "lk", by walk_at "lk", by walk_at "lk", by walk_at "lk", ms ++ [x], Hp.put_self .., by rw [List.length_append, List.length_singleton, h6], fun k m hk => ?_⟩
      rcases Nat.lt_trichotomy k ms.length with z | z | z
      · rw [List.getElem?_append_left z] at hk; exact h7 k m hk
      · subst z
        rw [List.getElem?_append_right (Nat.le_refl _), Nat.sub_self] at hk
        cases hk
        rw [h6]; exact ⟨x1, x2⟩
      · rw [List.getElem?_eq_none (by rw [List.length_append, List.length_singleton]; omega)] at hk; cases hk
  · rintro l' H' ⟨e, h1, h2, h3, h4, ms, h5, h6, h7⟩
    rw [spanZ_length] at h6
    walk_at "E"
    exact hq H' b ms (e1.trans e) (e1.none hb) h5 (by omega) h7

theorem laid_two_w {fa : Addr} (hf : HasDef cx (defAt p01 25) fa) {a b : Int} (ha : 0 ≤ a) (hb : 0 ≤ b) (hq : ∀ r : Int, 0 ≤ r → Q (.int r) H) : CW cx (d + 1) (.ref fa) [.int a, .int b] H Q := by
  refine CW_fn hf bind_laid_two ?_
  show EX cx d _ (upd (upd (fun _ => none) "one" (.int a)) "other" (.int b)) _ H _
  refine EX_cons ?_
  walk_at "E"
  refine EX_WhileR (fun n l H' => H' = H ∧ ∃ x y f p : Int, 0 ≤ x ∧ 0 ≤ y ∧ n = (x + y).toNat ∧ 0 ≤ f ∧ 0 ≤ p ∧ l "one" = some (.int x) ∧ l "other" = some (.int y) ∧ l "found" = some (.int f) ∧ l "power" = some (.int p)) (a + b).toNat
    ⟨rfl, a, b, 0, 1, ha, hb, rfl, by decide, by decide, by walk_at "lk", by walk_at "lk", by walk_at "lk", by walk_at "lk"⟩ ?_
  rintro n l H' ⟨rfl, x, y, f, p, hx, hy, rfl, hf0, hp0, h1, h2, h3, h4⟩ R hR
  refine TV.mono (Q₁ := fun c H₁ => H₁ = H' ∧ c = decide (0 < x ∨ 0 < y)) ?_ ?_
  · walk_at "E"
    refine ite_dec (fun h => ?_) (fun h => ?_)
    · exact ⟨rfl, by simp [h]⟩
    · walk_at "E"
      refine ite_dec (fun h' => ?_) (fun h' => ?_)
      · exact ⟨rfl, by simp [h']⟩
      · walk_at "E"; exact ⟨rfl, by simp [h, h']⟩
  rintro c H₁ ⟨rfl, rfl⟩
  refine ite_dec (fun h => ?_) (fun h => ?_)
  · refine EX_cutR (fun l' H' => H' = H₁ ∧ l' "one" = some (.int x) ∧ l' "other" = some (.int y) ∧ l' "power" = some (.int p) ∧ ∃ g : Int, 0 ≤ g ∧ l' "found" = some (.int g)) (fun R2 hR2 => ?_) ?_
    · walk_at "E"
      refine ite_dec (fun h' => ?_) (fun h' => ?_)
      · walk_at "E"
        exact hR2 _ _ ⟨rfl, by walk_at "lk", by walk_at "lk", by walk_at "lk", f + p, Int.add_nonneg hf0 hp0, by walk_at "lk"⟩
      · walk_at "E"
        exact hR2 _ _ ⟨rfl, h1, h2, h4, f, hf0, h3⟩
    · rintro l' H' ⟨rfl, g1, g2, g4, g, hg0, g3⟩
      walk_at "E"
      refine Op_mul (.of_right (by decide)) ?_
      walk_at "E"
      exact hR (x / 2 + y / 2).toNat _ _ (by omega) ⟨rfl, x / 2, y / 2, g, p * 2, by omega, by omega, rfl, hg0, by omega, by walk_at "lk", by walk_at "lk", by walk_at "lk", by walk_at "lk"⟩
  · walk_at "E"
    exact hq f hf0
theorem laid_over_w (hE : PD cx) {fa : Addr} (hf : HasDef cx (defAt p01 26) fa) {l : Addr} {ro : Bool} {ns : List Int} (hl : H l = some (.list ro (ns.map .int))) (hn : ∀ n ∈ ns, 0 ≤ n) (hq : ∀ r : Int, 0 ≤ r → Q (.int r) H) :
    CW cx (d + 2) (.ref fa) [.ref l] H Q := by
  obtain ⟨ga, hg⟩ := hE.defs 25 (by decide)
  refine CW_fn hf bind_laid_over ?_
  show EX cx (d + 1) _ (upd (fun _ => none) "numbers" (.ref l)) _ H _
  refine EX_cons ?_
  walk_at "E"
  refine EX_ForR ?_
  walk_at "E"
  refine forQ ⟨_, _, .list hl, fun i l' H' => H' = H ∧ ∃ f : Int, 0 ≤ f ∧ l' "found" = some (.int f), ⟨rfl, 0, by decide, by walk_at "lk"⟩, ?_, ?_, ?_⟩
  · rintro i l' H' ⟨rfl, _⟩; exact hl
  · rintro i w l' H' hi ⟨rfl, f, hf0, h1⟩ R hR
    simp only [List.getElem?_map, Option.map_eq_some_iff] at hi
    obtain ⟨n, hi, rfl⟩ := hi
    have hn0 := hn n (List.mem_of_getElem? hi)
    walk_at "E"
    refine EV_CallD hg ?_
    walk_at "E"
    refine laid_two_w hg hf0 hn0 fun r hr => ?_
    walk_at "E"
    exact hR _ _ ⟨rfl, r, hr, by walk_at "lk"⟩
  · rintro l' H' ⟨rfl, f, hf0, h1⟩
    walk_at "E"
    exact hq f hf0
theorem laid_comp (hE : PD cx) {fa : Addr} (hlo : HasDef cx (defAt p01 26) fa) {c : Addr} {ns : List Nat} {f : Nat → Nat} (hc : H c = some (.list false (ns.map fun x => AV.int ((f x : Nat) : Int)))) (hq : ∀ r : Int, 0 ≤ r → Q (.int r) H) : CW cx (d + 2) (.ref fa) [.ref c] H Q :=
  laid_over_w hE hlo (ns := ns.map fun x => ((f x : Nat) : Int)) (by rw [hc, List.map_map]; rfl) (fun n hn => by obtain ⟨x, _, rfl⟩ := List.mem_map.mp hn; exact Int.natCast_nonneg _) hq
theorem row_number_w (hE : PD cx) {fa : Addr} (hf : HasDef cx (defAt p01 34) fa) {a b : Addr} {web : List (List Nat)} {ro : Bool} {ns : List Nat} (hW : IsWeb H a web) (hG : GoodWeb web) (hC : Calm web) (hb : H b = some (.list ro (rowV ns))) (hn : ns.length ≤ 24) (hlt : ∀ x ∈ ns, x < web.length)
    (hq : ∀ H' r, Ext H H' → Q (.int r) H') : CW cx (d + 8) (.ref fa) [.ref a, .ref b] H Q := by
  have hB := hE.bs
  obtain ⟨ga, hg⟩ := hE.defs 22 (by decide)
  obtain ⟨ra, hr⟩ := hE.defs 29 (by decide)
  obtain ⟨la, hlo⟩ := hE.defs 26 (by decide)
  have hm := hG.most
  refine CW_fn hf bind_row_number ?_
  show EX cx (d + 7) _ (upd (upd (fun _ => none) "web" (.ref a)) "row" (.ref b)) _ H _
  refine EX_cons ?_
  walk_at "E"
  refine EV_CallD hg ?_
  walk_at "E"
  refine numbers_of_spec hE hg hW hG hC fun H₁ n f e1 hn0 hnn hN' => ?_
  have hb1 := e1 _ _ hb
  walk_at "E"
  refine EV_CallD hr ?_
  walk_at "E"
  refine (need_row_spec hE hr (hW.ext e1) hm hb1 hn hlt ?_).le (d := d + 7) (d' := 3) (lek rfl)
  refine ⟨rfl, ?_⟩
  walk_at "E"
  refine EV_CallD hlo ?_
  walk_at "E"
  refine EV_ListComp ?_
  walk_at "E"
  refine ⟨_, _, .list hb1, by simp; omega, ?_⟩
  refine CompW_map ns (fun (n : Nat) => AV.int (n : Int)) (fun x => AV.int (f x)) hb1 (fun x hx => ?_) (fun c hc => ?_)
  · walk_at "E"
    exact Get_list hnn (by walk_at "nn") (by walk_at "ln") (v := .int (f x)) (by simp [rowV, hlt x hx]) ⟨rfl, rfl⟩
  walk_at "E"
  refine (laid_comp hE hlo (Hp.put_self ..) fun r _ => ?_).le (d := d + 7) (d' := 2) (lek rfl)
  walk_at "E"
  exact hq _ r (e1.put_r hc)
theorem is_lost_w (hE : PD cx) {fa : Addr} (hf : HasDef cx (defAt p01 36) fa) {a b : Addr} {web : List (List Nat)} {ro : Bool} {ns : List Nat} (hW : IsWeb H a web) (hG : GoodWeb web) (hC : Calm web) (hb : H b = some (.list ro (rowV ns))) (hn : ns.length ≤ 24) (hlt : ∀ x ∈ ns, x < web.length)
    (hq : ∀ H' v, Ext H H' → Q v H') : CW cx (d + 9) (.ref fa) [.ref a, .ref b] H Q := by
  have hB := hE.bs
  obtain ⟨ga, hg⟩ := hE.defs 34 (by decide)
  refine CW_fn hf bind_is_lost ?_
  show EX cx (d + 8) _ (upd (upd (fun _ => none) "web" (.ref a)) "row" (.ref b)) _ H _
  refine EX_cons ?_
  walk_at "E"
  refine EV_CallD hg ?_
  walk_at "E"
  refine row_number_w hE hg hW hG hC hb hn hlt fun H' r e => ?_
  walk_at "E"
  exact hq _ _ e
theorem good_moves_w (hE : PD cx) {fa : Addr} (hf : HasDef cx (defAt p01 37) fa) {a b : Addr} {web : List (List Nat)} {ro : Bool} {row : List Nat} (hW : IsWeb H a web) (hG : GoodWeb web) (hC : Calm web) (h40 : web.length ≤ 40) (hb : H b = some (.list ro (rowV row))) (hn : row.length ≤ 24) (hlt : ∀ x ∈ row, x < web.length)
    (hq : ∀ H' v, Ext H H' → Q v H') : CW cx (d + 8) (.ref fa) [.ref a, .ref b] H Q := by
  have hB := hE.bs
  obtain ⟨ga, hg⟩ := hE.defs 22 (by decide)
  obtain ⟨ra, hr⟩ := hE.defs 29 (by decide)
  obtain ⟨la, hlo⟩ := hE.defs 26 (by decide)
  obtain ⟨ma, hma⟩ := hE.defs 30 (by decide)
  have hm := hG.most
  refine CW_fn hf bind_good_moves ?_
  show EX cx (d + 7) _ (upd (upd (fun _ => none) "web" (.ref a)) "row" (.ref b)) _ H _
  refine EX_cons ?_
  walk_at "E"
  refine EV_CallD hg ?_
  walk_at "E"
  refine numbers_of_spec hE hg hW hG hC fun H₁ n f e1 hn0 hnn hN' => ?_
  have hb1 := e1 _ _ hb
  have get : ∀ {H' : Hp} {x : Nat} {Q' : AV → Hp → Prop} {d' : Nat}, Ext H₁ H' → x < web.length → Q' (.int (f x)) H' → GetW cx d' (.ref n) (.int x) H' Q' := fun e hx q =>
    Get_list (e _ _ hnn) (by walk_at "nn") (by simp; omega) (v := .int (f _)) (by simp [rowV, hx]) q
  walk_at "E"
  refine EV_CallD hr ?_
  walk_at "E"
  refine (need_row_spec hE hr (hW.ext e1) hm hb1 hn hlt ?_).le (d := d + 7) (d' := 3) (lek rfl)
  refine ⟨rfl, ?_⟩
  walk_at "E"
  refine EV_CallD hlo ?_
  walk_at "E"
  refine EV_ListComp ?_
  walk_at "E"
  refine ⟨_, _, .list hb1, by walk_at "ln", ?_⟩
  refine CompW_map row (fun (n : Nat) => AV.int (n : Int)) (fun x => AV.int (f x)) hb1 (fun x hx => ?_) (fun c hc => ?_)
  · walk_at "E"
    exact get (.refl _) (hlt x hx) ⟨rfl, rfl⟩
  walk_at "E"
  refine (laid_comp hE hlo (Hp.put_self ..) fun wh hwh => ?_).le (d := d + 7) (d' := 2) (lek rfl)
  have ec : Ext H₁ (H₁.put c (.list false (row.map fun x => AV.int (f x)))) := .put hc
  generalize H₁.put c _ = H₂ at ec ⊢
  walk_at "E"
  refine EV_List ?_
  walk_at "E"
  refine ⟨by simp, fun g hg' => ?_⟩
  have e3 : Ext H₂ (H₂.put g (.list false [])) := .put hg'
  have hg3 : (H₂.put g (.list false [])) g = _ := Hp.put_self ..
  have hg1 : H₁ g = none := ec.none hg'
  generalize H₂.put g _ = H₃ at e3 hg3 ⊢
  have e13 := ec.trans e3
  walk_at "E"
  refine EX_ForPair ?_
  walk_at "E"
  refine EV_CallD hma ?_
  walk_at "E"
  refine (moves_of_spec hE hma ((hW.ext e1).ext e13) hG h40 (e13 _ _ hb1) hn hlt fun H₄ mv e4 hmv0 hM => ?_).le (d := d + 7) (d' := 1) (lek rfl)
  obtain ⟨ts, M⟩ := hM
  have e14 := e13.trans e4
  have hmv1 : mv ≠ g := fun e => by rw [e, hg3] at hmv0; cases hmv0
  have hml : (rowMoves web row).length ≤ 2 ^ 20 := rowMoves_length h40 hn
  refine ⟨mv, false, ts, rfl, M.top, (rowMoves web row).map fun m => (AV.int (m.1 : Int), AV.int (m.2 : Int)), by rw [List.length_map]; exact M.len, fun i l' H' => (Ext H₁ H' ∧ MovesAt H' mv ts (rowMoves web row)) ∧ l' "row" = some (.ref b) ∧ l' "numbers" = some (.ref n) ∧ l' "whole" = some (.int wh) ∧ l' "found" = some (.ref g) ∧
    ∃ us, H' g = some (.list false us) ∧ us.length ≤ i, ⟨⟨e14, M⟩, by walk_at "lk", by walk_at "lk", by walk_at "lk", by walk_at "lk", [], e4 _ _ hg3, by simp⟩, ?_, ?_, ?_⟩
  · rintro i l' H' ⟨⟨e, M'⟩, _⟩
    refine ⟨M'.top, fun k t m h1 h2 => ?_⟩
    rw [List.getElem?_map, Option.map_eq_some_iff] at h2
    obtain ⟨q, hq1, rfl⟩ := h2
    exact M'.mv k t q h1 hq1
  · rintro i v l' H' hi ⟨⟨e, M'⟩, h1, h2, h3, h4, us, MU, hus⟩
    rw [List.getElem?_map, Option.map_eq_some_iff] at hi
    obtain ⟨m, hi, rfl⟩ := hi
    obtain ⟨m1, m2, m3⟩ := mem_movesTo.mp (List.mem_of_getElem? hi)
    have hil := (List.getElem?_eq_some_iff.mp hi).1
    have hxs := getD_some m1
    have hx := hlt _ (List.mem_of_getElem? hxs)
    refine EX_cons ?_
    walk_at "E"
    refine EV_CallD hlo ?_
    walk_at "E"
    refine EV_List ?_
    walk_at "E"
    refine Get_list (e _ _ hb1) (by walk_at "nn") (by walk_at "ln") (v := .int (row.getD m.1 0 : Nat)) (by rw [Int.toNat_natCast]; simp only [rowV, List.getElem?_map, hxs]; rfl) ?_
    refine get e hx ?_
    walk_at "E"
    refine get e m2 ?_
    walk_at "E"
    refine ⟨by simp, fun z hz => ?_⟩
    walk_at "E"
    refine (laid_over_w hE hlo (ns := [wh, f (row.getD m.1 0), f m.2]) (Hp.put_self ..) (fun n hn => ?_) fun r hr => ?_).le (d := d + 7) (d' := 2) (lek rfl)
    · simp only [List.mem_cons, List.not_mem_nil, or_false] at hn
      rcases hn with rfl | rfl | rfl
      · exact hwh
      · exact Int.natCast_nonneg _
      · exact Int.natCast_nonneg _
    generalize hHz : H'.put z _ = Hz
    obtain ⟨ez, _⟩ := put_as hHz hz rfl
    clear hHz
    walk_at "E"
    refine ite_dec (fun h0 => ?_) (fun h0 => ?_)
    · walk_at "E"
      refine EV_Meth F.slot_list_append F.type_list_append ?_
      walk_at "E"
      refine ⟨g, false, _, rfl, ez _ _ MU, ?_⟩
      walk_at "E"
      refine EV_Tuple ?_
      walk_at "E"
      refine ⟨by simp, fun t ht => ?_⟩
      generalize hHt : Hz.put t _ = Ht
      obtain ⟨et, _⟩ := put_as hHt ht rfl
      clear hHt
      have MUt := et _ _ (ez _ _ MU)
      walk_at "E"
      refine CW_append MUt (by omega) ?_
      refine ⟨rfl, ?_⟩
      walk_at "E"
      have Mt := (M'.ext ez).ext et
      exact ⟨⟨((e.trans ez).trans et).own hg1, (Hp.put_ne hmv1).trans Mt.top, Mt.len, fun k t' m' k1 k2 => by
          have hh := Mt.mv k t' m' k1 k2
          rw [Hp.put_ne (fun e' => by rw [e', MUt] at hh; cases hh)]; exact hh⟩, by walk_at "lk", by walk_at "lk", by walk_at "lk", by walk_at "lk", _, Hp.put_self .., by rw [List.length_append, List.length_singleton]; omega⟩
    · walk_at "E"
      exact ⟨⟨e.trans ez, M'.ext ez⟩, by walk_at "lk", by walk_at "lk", by walk_at "lk", by walk_at "lk", us, ez _ _ MU, by omega⟩
  · rintro l' H' ⟨⟨e, M'⟩, h1, h2, h3, h4, _⟩
    walk_at "E"
    exact hq H' _ (e1.trans e)
theorem parting_row_w (hE : PD cx) {fa : Addr} (hf : HasDef cx (defAt p01 38) fa) {a o t : Addr} {web : List (List Nat)} {r1 r2 : Bool} {one other : List Nat} (hW : IsWeb H a web) (hG : GoodWeb web) (hC : Calm web)
    (ho : H o = some (.list r1 (rowV one))) (ht : H t = some (.list r2 (rowV other))) (hol : one.length ≤ 24) (htl : other.length ≤ 24) (hoo : ∀ x ∈ one, x < web.length) (hto : ∀ x ∈ other, x < web.length)
    (hq : ∀ H' v, Ext H H' → Q v H') : CW cx (d + 8) (.ref fa) [.ref a, .ref o, .ref t] H Q := by
  have hB := hE.bs
  obtain ⟨ga, hg⟩ := hE.defs 22 (by decide)
  obtain ⟨ra, hr⟩ := hE.defs 29 (by decide)
  obtain ⟨la, hlo⟩ := hE.defs 26 (by decide)
  have hm := hG.most
  refine CW_fn hf bind_parting_row ?_
  show EX cx (d + 7) _ (upd (upd (upd (fun _ => none) "web" (.ref a)) "one" (.ref o)) "other" (.ref t)) _ H _
  refine EX_cons ?_
  walk_at "E"
  refine EV_CallD hg ?_
  walk_at "E"
  refine numbers_of_spec hE hg hW hG hC fun H₁ n f e1 hn0 hnn hN' => ?_
  have ho1 := e1 _ _ ho
  have ht1 := e1 _ _ ht
  have get : ∀ {H' : Hp} {x : Nat} {Q' : AV → Hp → Prop} {d' : Nat}, Ext H₁ H' → x < web.length → Q' (.int (f x)) H' → GetW cx d' (.ref n) (.int x) H' Q' := fun e hx q =>
    Get_list (e _ _ hnn) (by walk_at "nn") (by walk_at "ln") (v := .int (f _)) (by simp [rowV, hx]) q
  walk_at "E"
  refine EV_CallD hr ?_
  walk_at "E"
  refine (need_row_spec hE hr (hW.ext e1) hm ho1 hol hoo ?_).le (d := d + 7) (d' := 3) (lek rfl)
  refine ⟨rfl, ?_⟩
  walk_at "E"
  refine EV_CallD hr ?_
  walk_at "E"
  refine (need_row_spec hE hr (hW.ext e1) hm ht1 htl hto ?_).le (d := d + 7) (d' := 3) (lek rfl)
  refine ⟨rfl, ?_⟩
  walk_at "E"
  refine EV_CallD hlo ?_
  walk_at "E"
  refine EV_ListComp ?_
  walk_at "E"
  refine ⟨_, _, .list ho1, by simp; omega, ?_⟩
  refine CompW_map one (fun (n : Nat) => AV.int (n : Int)) (fun x => AV.int (f x)) ho1 (fun x hx => ?_) (fun c hc => ?_)
  · walk_at "E"
    exact get (.refl _) (hoo x hx) ⟨rfl, rfl⟩
  walk_at "E"
  refine (laid_comp hE hlo (Hp.put_self ..) fun u _ => ?_).le (d := d + 7) (d' := 2) (lek rfl)
  have ec : Ext H₁ (H₁.put c (.list false (one.map fun x => AV.int (f x)))) := .put hc
  generalize H₁.put c _ = H₂ at ec ⊢
  have ht2 := ec _ _ ht1
  walk_at "E"
  refine EV_CallD hlo ?_
  walk_at "E"
  refine EV_ListComp ?_
  walk_at "E"
  refine ⟨_, _, .list ht2, by simp; omega, ?_⟩
  refine CompW_map other (fun (n : Nat) => AV.int (n : Int)) (fun x => AV.int (f x)) ht2 (fun x hx => ?_) (fun c2 hc2 => ?_)
  · walk_at "E"
    exact get ec (hto x hx) ⟨rfl, rfl⟩
  walk_at "E"
  refine (laid_comp hE hlo (Hp.put_self ..) fun v _ => ?_).le (d := d + 7) (d' := 2) (lek rfl)
  have e13 := (e1.trans ec).put_r (o := .list false (other.map fun x => AV.int (f x))) hc2
  walk_at "E"
  refine ite_dec (fun h => ?_) (fun h => ?_)
  · walk_at "E"
    exact hq _ _ e13
  · walk_at "E"
    refine CW_list_copy (e13 _ _ ho) (by walk_at "ln") fun b hb => ?_
    walk_at "E"
    exact hq _ _ (e13.put_r hb)

end

-- L01j
set_option maxRecDepth 10000
set_option maxHeartbeats 4000000
section
variable {cx : Cx} {d : Nat} {H : Hp} {Q : AV → Hp → Prop}
theorem is_whole_no (hE : PD cx) {fa : Addr} (hf : HasDef cx (defAt p01 9) fa) {v : AV} (h : NoWhole H v) (hq : Q (.bool false) H) : CW cx (d + 1) (.ref fa) [v] H Q := by
  have hB := hE.bs
  refine CW_fn hf bind_is_whole ?_
  show EX cx d _ (upd (fun _ => none) "thing" v) _ H _
  refine EX_cons ?_
  rcases h with ⟨b, rfl⟩ | h
  · walk_at "E"
    refine CW_isi_bool_int ?_
    walk_at "E"
    refine CW_isinst_bool_bool ?_
    walk_at "E"
    exact hq
  · walk_at "E"
    refine CW_isi_noInt h ?_
    walk_at "E"
    exact hq
theorem is_spot_no (hE : PD cx) {fa : Addr} (hf : HasDef cx (defAt p01 10) fa) {v : AV} {m : Nat} (h : NoSpot H m v) (hq : Q (.bool false) H) : CW cx (d + 2) (.ref fa) [v, .int m] H Q := by
  have hB := hE.bs
  obtain ⟨ga, hg⟩ := hE.defs 9 (by decide)
  rcases h with ⟨i, rfl, h⟩ | h
  · exact is_spot_spec hE hf (by rw [decide_eq_false h]; exact hq)
  refine CW_fn hf bind_is_spot ?_
  show EX cx (d + 1) _ (upd (upd (fun _ => none) "thing" v) "many" (.int m)) _ H _
  refine EX_cons ?_
  walk_at "E"
  refine EV_CallD hg ?_
  walk_at "E"
  refine is_whole_no hE hg h ?_
  walk_at "E"
  exact hq
theorem are_moves_no (hE : PD cx) {fa : Addr} (hf : HasDef cx (defAt p01 11) fa) {v : AV} {m : Nat} (hbad : BadRow H m v) (hl : m ≤ 200) (hq : ∀ H', Ext H H' → Q (.bool false) H') : CW cx (d + 3) (.ref fa) [v, .int m] H Q := by
  have hB := hE.bs
  obtain ⟨ga, hg⟩ := hE.defs 10 (by decide)
  refine CW_fn hf bind_are_moves ?_
  show EX cx (d + 2) _ (upd (upd (fun _ => none) "thing" v) "many" (.int m)) _ H _
  refine EX_cons ?_
  rcases hbad with hbad | ⟨a, ro, pre, x, post, rfl, ha, hn, hm, hx⟩
  · walk_at "E"
    refine CW_isi_noList hbad ?_
    walk_at "E"
    exact hq H (.refl _)
  have hlen : pre.length ≤ 200 := Nat.le_trans (nodup_length hn hm) hl
  walk_at "E"
  refine CW_isinst_list ha ?_
  walk_at "E"
  refine EV_Dict0 fun b hb hb' => ?_
  walk_at "E"
  refine EX_For ?_
  walk_at "E"
  have ha' : (H.put b (.dict [])) a = some (.list ro (rowV pre ++ x :: post)) := (Hp.put_ne (ne_of_new hb ha)).trans ha
  refine ⟨_, _, .list ha', fun i l' H' => i ≤ pre.length ∧ Ext H H' ∧ H' a = some (.list ro (rowV pre ++ x :: post)) ∧ l' "many" = some (.int m) ∧ l' "met" = some (.ref b) ∧ ∃ kvs, H' b = some (.dict kvs) ∧ kvs.length ≤ i ∧ ∀ n : Nat, (dget kvs n).isSome = decide (n ∈ pre.take i),
    ⟨Nat.zero_le _, .put hb, ha', by walk_at "lk", by walk_at "lk", [], Hp.put_self .., by simp, by simp [dget]⟩, ?_, ?_, ?_⟩
  · rintro i l' H' ⟨_, _, h, _⟩; exact h
  · rintro i w l' H' hi ⟨hip, he, h1, h2, h3, kvs, h4, h5, h6⟩
    by_cases hlt : i < pre.length
    · rw [List.getElem?_append_left (by rw [rowV_length]; exact hlt)] at hi
      obtain ⟨n, hi', rfl⟩ := rowV_get hi
      have hi := hi'
      have hn1 := hm n (List.mem_of_getElem? hi)
      walk_at "E"
      refine EV_CallD hg ?_
      walk_at "E"
      refine is_spot_spec hE hg ?_
      rw [decide_eq_true (show (0 : Int) ≤ n ∧ (n : Int) < m by omega)]
      walk_at "E"
      refine Op_inDict h4 hb' ?_
      rw [h6 n, decide_eq_false (nodup_take_not hn hi)]
      walk_at "E"
      refine Set_dict h4 (by omega) ?_
      walk_at "E"
      refine ⟨hlt, he.own hb, (Hp.put_ne (ne_of_new hb ha)).trans h1, by walk_at "lk", by walk_at "lk", _, Hp.put_self .., ?_, fun k => ?_⟩
      · unfold dset; split
        · rw [List.length_map]; omega
        · rw [List.length_append, List.length_singleton]; omega
      · rw [dget_dset, List.take_add_one, hi]
        by_cases e : (k : Int) = n
        · have e' : k = n := by omega
          rw [if_pos e]; simp [e']
        · have e' : k ≠ n := fun z => e (by rw [z])
          rw [if_neg e, h6 k]; simp [e']
    · have hie : i = pre.length := by omega
      subst hie
      rw [List.getElem?_append_right (by rw [rowV_length]; omega), rowV_length, Nat.sub_self] at hi
      obtain rfl : x = w := by simpa using hi
      rcases hx with hx | ⟨n, hn', rfl⟩
      · walk_at "E"
        refine EV_CallD hg ?_
        walk_at "E"
        refine is_spot_no hE hg (hx.ext he) ?_
        walk_at "E"
        exact hq H' he
      · have hn1 := hm n hn'
        walk_at "E"
        refine EV_CallD hg ?_
        walk_at "E"
        refine is_spot_spec hE hg ?_
        rw [decide_eq_true (show (0 : Int) ≤ n ∧ (n : Int) < m by omega)]
        walk_at "E"
        refine Op_inDict h4 hb' ?_
        rw [h6 n, decide_eq_true (by rw [List.take_length]; exact hn')]
        walk_at "E"
        exact hq H' he
  · rintro l' H' ⟨hle, _⟩
    rw [List.length_append, rowV_length, List.length_cons] at hle
    omega
theorem is_web_no (hE : PD cx) {fa : Addr} (hf : HasDef cx (defAt p01 12) fa) {v : AV} (hbad : BadWeb H v) (hq : ∀ H', Ext H H' → Q (.bool false) H') : CW cx (d + 4) (.ref fa) [v] H Q := by
  have hB := hE.bs
  obtain ⟨ga, hg⟩ := hE.defs 11 (by decide)
  obtain ⟨t, hM⟩ := hE.most
  refine CW_fn hf bind_is_web ?_
  show EX cx (d + 3) _ (upd (fun _ => none) "thing" v) _ H _
  refine EX_cons ?_
  rcases hbad with hbad | ⟨a, ro, vs, rfl, ha, hl, hbad⟩
  · walk_at "E"
    refine CW_isi_noList hbad ?_
    walk_at "E"
    exact hq H (.refl _)
  walk_at "E"
  refine CW_isinst_list ha ?_
  walk_at "E"
  refine CW_len ha hl ?_
  walk_at "E"
  refine ite_dec (fun h1 => ?_) (fun h1 => ?_)
  · walk_at "E"
    refine ite_ndec (fun h2 => ?_) (fun h2 => ?_)
    · walk_at "E"
      exact hq H (.refl _)
    walk_at "E"
    obtain ⟨hall, w0, hw0, hb0⟩ : (∀ w ∈ vs, GoodRow H vs.length w ∨ BadRow H vs.length w) ∧ ∃ w ∈ vs, BadRow H vs.length w := by
      rcases hbad with h | h | h
      · omega
      · omega
      · exact h
    have ha2 : H a = some (.list ro (vs.map id)) := by rw [List.map_id]; exact ha
    refine EV_ListComp ?_
    walk_at "E"
    refine ⟨_, _, .list ha2, by rw [List.length_map]; omega, ?_⟩
    refine CompW_grow vs id (fun w y _ => ∃ b, y = .bool b ∧ (BadRow H vs.length w → b = false)) (fun _ _ _ _ _ h => h) (fun H' e => e _ _ ha2) (fun w H' hw he => ?_) (fun ys H' he hlen hys b hb => ?_)
    · refine EV_CallD hg ?_
      walk_at "E"
      refine CW_len (he _ _ ha) hl ?_
      walk_at "E"
      by_cases hbw : BadRow H vs.length w
      · exact (are_moves_no hE hg (hbw.ext he) (by omega) fun H'' e'' => ⟨e'', _, rfl, fun _ => rfl⟩).le (d := d + 3) (d' := 3) (lek rfl)
      · obtain ⟨r, ns, rfl, hr, hns, hlt⟩ := (hall w hw).resolve_right hbw
        exact (are_moves_spec hE hg (he _ _ hr) hns hlt (by omega) fun H'' e'' => ⟨e'', _, rfl, fun z => absurd z hbw⟩).le (d := d + 3) (d' := 3) (lek rfl)
    · walk_at "E"
      obtain ⟨bs, rfl⟩ := bools_of (ys := ys) fun i y hi => by
        have hil : i < vs.length := by rw [← hlen]; exact (List.getElem?_eq_some_iff.mp hi).1
        obtain ⟨b', h', _⟩ := hys i _ _ (List.getElem?_eq_getElem hil) hi
        exact ⟨b', h'⟩
      refine CW_all (bs := bs) (ro := false) (by rw [Hp.put_self]) ?_
      obtain ⟨i0, hi0, e0⟩ := List.mem_iff_getElem.mp hw0
      rw [List.length_map] at hlen
      have hib : i0 < bs.length := by omega
      obtain ⟨b', h', hf'⟩ := hys i0 w0 (.bool bs[i0]) (by rw [List.getElem?_eq_getElem hi0, e0]) (by rw [List.getElem?_map, List.getElem?_eq_getElem hib]; rfl)
      have hb2 := hf' hb0
      subst hb2
      have hbi : bs[i0]? = some false := by rw [List.getElem?_eq_getElem hib]; injection h' with q; rw [q]
      rw [all_false hbi]
      walk_at "E"
      exact hq _ (he.put_r hb)
  · walk_at "E"
    exact hq H (.refl _)
theorem need_web_no (hE : PD cx) {fa : Addr} (hf : HasDef cx (defAt p01 13) fa) {v : AV} (hbad : BadWeb H v) {C G : Addr} (X : ErrAt cx 0 C G) : CR cx (d + 5) (.ref fa) [v] H C (Ext H) := by
  have hB := hE.bs
  obtain ⟨ga, hg⟩ := hE.defs 12 (by decide)
  refine CR_fn hf bind_need_web ?_
  show EXr cx (d + 4) _ (upd (fun _ => none) "web" v) _ H _ _
  refine EXr_here (EX1r_If ?_)
  walk_at "E"
  refine EV_CallD hg ?_
  walk_at "E"
  refine is_web_no hE hg hbad fun H' e => ?_
  walk_at "E"
  exact EXr_here (EX1r_Raise X.err X.c e)
theorem need_row_no (hE : PD cx) {fa : Addr} (hf : HasDef cx (defAt p01 29) fa) {a : Addr} {web : List (List Nat)} (hW : IsWeb H a web) (hm : web.length ≤ 200) {v : AV} (hbad : NoRowArg H web.length v) {C G : Addr} (X : ErrAt cx 2 C G) : CR cx (d + 3) (.ref fa) [.ref a, v] H C (Ext H) := by
  have hB := hE.bs
  obtain ⟨ga, hg⟩ := hE.defs 10 (by decide)
  obtain ⟨t, hM⟩ := hE.mostGames
  obtain ⟨rs, W⟩ := hW
  have hl := W.len
  refine CR_fn hf bind_need_row ?_
  show EXr cx (d + 2) _ (upd (upd (fun _ => none) "web" (.ref a)) "row" v) _ H _ _
  rcases hbad with hbad | ⟨b, ro, vs, rfl, hb, hl2, hbad⟩
  · refine EXr_here (EX1r_If ?_)
    walk_at "E"
    refine CW_isi_noList hbad ?_
    walk_at "E"
    exact EXr_here (EX1r_Raise X.err X.c (.refl _))
  by_cases h24 : 24 < vs.length
  · refine EXr_here (EX1r_If ?_)
    walk_at "E"
    refine CW_isinst_list hb ?_
    walk_at "E"
    refine CW_len hb hl2 ?_
    walk_at "E"
    refine ite_dec (fun _ => ?_) (fun h => absurd h24 (by omega))
    walk_at "E"
    exact EXr_here (EX1r_Raise X.err X.c (.refl _))
  obtain ⟨pre, x, post, rfl, hlt, hx⟩ := hbad.resolve_left h24
  refine EXr_next ?_
  walk_at "E"
  refine CW_isinst_list hb ?_
  walk_at "E"
  refine CW_len hb hl2 ?_
  walk_at "E"
  refine ite_dec (fun h => absurd h (by omega)) (fun _ => ?_)
  walk_at "E"
  refine thenR_at (EXr_here (EX1r_For ?_))
  walk_at "E"
  refine ⟨_, _, .list hb, pre.length, fun i l' H' => i ≤ pre.length ∧ H' = H ∧ l' "web" = some (.ref a), by rw [List.length_append, rowV_length, List.length_cons]; omega, ⟨Nat.zero_le _, rfl, by walk_at "lk"⟩, ?_, ?_, ?_⟩
  · rintro i l' H' ⟨_, rfl, _⟩; exact hb
  · rintro i w l' H' hip hi ⟨_, rfl, h2⟩
    rw [List.getElem?_append_left (by rw [rowV_length]; exact hip)] at hi
    obtain ⟨n, hi', rfl⟩ := rowV_get hi
    have hn1 := hlt n (List.mem_of_getElem? hi')
    walk_at "E"
    refine EV_CallD hg ?_
    walk_at "E"
    refine CW_len W.top (by walk_at "ln") ?_
    rw [List.length_map, hl]
    walk_at "E"
    refine is_spot_spec hE hg ?_
    rw [decide_eq_true (show (0 : Int) ≤ n ∧ (n : Int) < web.length by omega)]
    walk_at "E"
    exact ⟨hip, rfl, by walk_at "lk"⟩
  · rintro w l' H' hi ⟨_, rfl, h2⟩
    rw [List.getElem?_append_right (by rw [rowV_length]; omega), rowV_length, Nat.sub_self] at hi
    obtain rfl : x = w := by simpa using hi
    refine EXm_here (EX1m_If ?_)
    walk_at "E"
    refine EV_CallD hg ?_
    walk_at "E"
    refine CW_len W.top (by walk_at "ln") ?_
    rw [List.length_map, hl]
    walk_at "E"
    refine is_spot_no hE hg hx ?_
    walk_at "E"
    exact EXm_here (EX1m_Raise X.err X.c (.refl _))

end

-- L01k
set_option maxRecDepth 10000
set_option maxHeartbeats 4000000
section
variable {cx : Cx} {d : Nat} {H : Hp} {Q : AV → Hp → Prop}
theorem ring_in_r (hE : PD cx) {fa : Addr} (hf : HasDef cx (defAt p01 16) fa) {C : Addr} {K : Hp → Prop} {v0 : AV} (h : ∀ ga, HasDef cx (defAt p01 13) ga → CR cx (d + 5) (.ref ga) [v0] H C K) : CR cx (d + 6) (.ref fa) [v0] H C K := by
  have hB := hE.bs
  obtain ⟨ga, hg⟩ := hE.defs 13 (by decide)
  refine CR_fn hf bind_ring_in ?_
  show EXr cx (d + 5) _ (upd (fun _ => none) "web" v0) _ H _ _
  refine EXr_here (EX1r_Expr (EVr_CallD hg ?_))
  walk_at "E"
  exact h ga hg
theorem joined_webs_r (hE : PD cx) {fa : Addr} (hf : HasDef cx (defAt p01 17) fa) {C : Addr} {K : Hp → Prop} {v0 v1 : AV} (h : ∀ ga, HasDef cx (defAt p01 13) ga → CR cx (d + 5) (.ref ga) [v0] H C K) : CR cx (d + 6) (.ref fa) [v0, v1] H C K := by
  have hB := hE.bs
  obtain ⟨ga, hg⟩ := hE.defs 13 (by decide)
  refine CR_fn hf bind_joined_webs ?_
  show EXr cx (d + 5) _ (upd (upd (fun _ => none) "one" v0) "other" v1) _ H _ _
  refine EXr_here (EX1r_Expr (EVr_CallD hg ?_))
  walk_at "E"
  exact h ga hg
theorem paired_web_r (hE : PD cx) {fa : Addr} (hf : HasDef cx (defAt p01 18) fa) {C : Addr} {K : Hp → Prop} {v0 v1 : AV} (h : ∀ ga, HasDef cx (defAt p01 13) ga → CR cx (d + 5) (.ref ga) [v0] H C K) : CR cx (d + 6) (.ref fa) [v0, v1] H C K := by
  have hB := hE.bs
  obtain ⟨ga, hg⟩ := hE.defs 13 (by decide)
  refine CR_fn hf bind_paired_web ?_
  show EXr cx (d + 5) _ (upd (upd (fun _ => none) "one" v0) "other" v1) _ H _ _
  refine EXr_here (EX1r_Expr (EVr_CallD hg ?_))
  walk_at "E"
  exact h ga hg
theorem need_game_r (hE : PD cx) {fa : Addr} (hf : HasDef cx (defAt p01 20) fa) {C : Addr} {K : Hp → Prop} {v0 : AV} (h : ∀ ga, HasDef cx (defAt p01 13) ga → CR cx (d + 5) (.ref ga) [v0] H C K) : CR cx (d + 6) (.ref fa) [v0] H C K := by
  have hB := hE.bs
  obtain ⟨ga, hg⟩ := hE.defs 13 (by decide)
  refine CR_fn hf bind_need_game ?_
  show EXr cx (d + 5) _ (upd (fun _ => none) "web" v0) _ H _ _
  refine EXr_here (EX1r_Expr (EVr_CallD hg ?_))
  walk_at "E"
  exact h ga hg
theorem numbers_of_r (hE : PD cx) {fa : Addr} (hf : HasDef cx (defAt p01 22) fa) {C : Addr} {K : Hp → Prop} {v0 : AV} (h : ∀ ga, HasDef cx (defAt p01 20) ga → CR cx (d + 6) (.ref ga) [v0] H C K) : CR cx (d + 7) (.ref fa) [v0] H C K := by
  have hB := hE.bs
  obtain ⟨ga, hg⟩ := hE.defs 20 (by decide)
  refine CR_fn hf bind_numbers_of ?_
  show EXr cx (d + 6) _ (upd (fun _ => none) "web" v0) _ H _ _
  refine EXr_here (EX1r_Assign (EVr_CallD hg ?_))
  walk_at "E"
  exact h ga hg
theorem lengths_of_r (hE : PD cx) {fa : Addr} (hf : HasDef cx (defAt p01 23) fa) {C : Addr} {K : Hp → Prop} {v0 : AV} (h : ∀ ga, HasDef cx (defAt p01 20) ga → CR cx (d + 6) (.ref ga) [v0] H C K) : CR cx (d + 7) (.ref fa) [v0] H C K := by
  have hB := hE.bs
  obtain ⟨ga, hg⟩ := hE.defs 20 (by decide)
  refine CR_fn hf bind_lengths_of ?_
  show EXr cx (d + 6) _ (upd (fun _ => none) "web" v0) _ H _ _
  refine EXr_here (EX1r_Assign (EVr_CallD hg ?_))
  walk_at "E"
  exact h ga hg
theorem shown_moves_r (hE : PD cx) {fa : Addr} (hf : HasDef cx (defAt p01 24) fa) {C : Addr} {K : Hp → Prop} {v0 v1 : AV} (h : ∀ ga, HasDef cx (defAt p01 22) ga → CR cx (d + 7) (.ref ga) [v0] H C K) : CR cx (d + 8) (.ref fa) [v0, v1] H C K := by
  have hB := hE.bs
  obtain ⟨ga, hg⟩ := hE.defs 22 (by decide)
  refine CR_fn hf bind_shown_moves ?_
  show EXr cx (d + 7) _ (upd (upd (fun _ => none) "web" v0) "spot" v1) _ H _ _
  refine EXr_here (EX1r_Assign (EVr_CallD hg ?_))
  walk_at "E"
  exact h ga hg
theorem moves_in_r (hE : PD cx) {fa : Addr} (hf : HasDef cx (defAt p01 31) fa) {C : Addr} {K : Hp → Prop} {v0 v1 : AV} (h : ∀ ga, HasDef cx (defAt p01 20) ga → CR cx (d + 6) (.ref ga) [v0] H C K) : CR cx (d + 7) (.ref fa) [v0, v1] H C K := by
  have hB := hE.bs
  obtain ⟨ga, hg⟩ := hE.defs 20 (by decide)
  refine CR_fn hf bind_moves_in ?_
  show EXr cx (d + 6) _ (upd (upd (fun _ => none) "web" v0) "row" v1) _ H _ _
  refine EXr_here (EX1r_Expr (EVr_CallD hg ?_))
  walk_at "E"
  exact h ga hg
theorem played_r (hE : PD cx) {fa : Addr} (hf : HasDef cx (defAt p01 33) fa) {C : Addr} {K : Hp → Prop} {v0 v1 v2 : AV} (h : ∀ ga, HasDef cx (defAt p01 20) ga → CR cx (d + 6) (.ref ga) [v0] H C K) : CR cx (d + 7) (.ref fa) [v0, v1, v2] H C K := by
  have hB := hE.bs
  obtain ⟨ga, hg⟩ := hE.defs 20 (by decide)
  refine CR_fn hf bind_played ?_
  show EXr cx (d + 6) _ (upd (upd (upd (fun _ => none) "web" v0) "row" v1) "move" v2) _ H _ _
  refine EXr_here (EX1r_Expr (EVr_CallD hg ?_))
  walk_at "E"
  exact h ga hg
theorem row_number_r (hE : PD cx) {fa : Addr} (hf : HasDef cx (defAt p01 34) fa) {C : Addr} {K : Hp → Prop} {v0 v1 : AV} (h : ∀ ga, HasDef cx (defAt p01 22) ga → CR cx (d + 7) (.ref ga) [v0] H C K) : CR cx (d + 8) (.ref fa) [v0, v1] H C K := by
  have hB := hE.bs
  obtain ⟨ga, hg⟩ := hE.defs 22 (by decide)
  refine CR_fn hf bind_row_number ?_
  show EXr cx (d + 7) _ (upd (upd (fun _ => none) "web" v0) "row" v1) _ H _ _
  refine EXr_here (EX1r_Assign (EVr_CallD hg ?_))
  walk_at "E"
  exact h ga hg
theorem is_lost_r (hE : PD cx) {fa : Addr} (hf : HasDef cx (defAt p01 36) fa) {C : Addr} {K : Hp → Prop} {v0 v1 : AV} (h : ∀ ga, HasDef cx (defAt p01 34) ga → CR cx (d + 8) (.ref ga) [v0, v1] H C K) : CR cx (d + 9) (.ref fa) [v0, v1] H C K := by
  have hB := hE.bs
  obtain ⟨ga, hg⟩ := hE.defs 34 (by decide)
  refine CR_fn hf bind_is_lost ?_
  show EXr cx (d + 8) _ (upd (upd (fun _ => none) "web" v0) "row" v1) _ H _ _
  refine EXr_here (EX1r_Return (EVr_CompareL (EVr_CallD hg ?_)))
  walk_at "E"
  exact h ga hg
theorem good_moves_r (hE : PD cx) {fa : Addr} (hf : HasDef cx (defAt p01 37) fa) {C : Addr} {K : Hp → Prop} {v0 v1 : AV} (h : ∀ ga, HasDef cx (defAt p01 22) ga → CR cx (d + 7) (.ref ga) [v0] H C K) : CR cx (d + 8) (.ref fa) [v0, v1] H C K := by
  have hB := hE.bs
  obtain ⟨ga, hg⟩ := hE.defs 22 (by decide)
  refine CR_fn hf bind_good_moves ?_
  show EXr cx (d + 7) _ (upd (upd (fun _ => none) "web" v0) "row" v1) _ H _ _
  refine EXr_here (EX1r_Assign (EVr_CallD hg ?_))
  walk_at "E"
  exact h ga hg
theorem parting_row_r (hE : PD cx) {fa : Addr} (hf : HasDef cx (defAt p01 38) fa) {C : Addr} {K : Hp → Prop} {v0 v1 v2 : AV} (h : ∀ ga, HasDef cx (defAt p01 22) ga → CR cx (d + 7) (.ref ga) [v0] H C K) : CR cx (d + 8) (.ref fa) [v0, v1, v2] H C K := by
  have hB := hE.bs
  obtain ⟨ga, hg⟩ := hE.defs 22 (by decide)
  refine CR_fn hf bind_parting_row ?_
  show EXr cx (d + 7) _ (upd (upd (upd (fun _ => none) "web" v0) "one" v1) "other" v2) _ H _ _
  refine EXr_here (EX1r_Assign (EVr_CallD hg ?_))
  walk_at "E"
  exact h ga hg

theorem need_game_ring (hE : PD cx) {fa : Addr} (hf : HasDef cx (defAt p01 20) fa) {a : Addr} {web : List (List Nat)} (hW : IsWeb H a web) (hG : GoodWeb web) (hR : Ringy web) {C G : Addr} (X : ErrAt cx 1 C G) : CR cx (d + 6) (.ref fa) [.ref a] H C (Ext H) := by
  have hB := hE.bs
  obtain ⟨ga, hg⟩ := hE.defs 13 (by decide)
  obtain ⟨ba, hb⟩ := hE.defs 15 (by decide)
  have hm := hG.most
  refine CR_fn hf bind_need_game ?_
  show EXr cx (d + 5) _ (upd (fun _ => none) "web" (.ref a)) _ H _ _
  refine EXr_next ?_
  walk_at "E"
  refine EV_CallD hg ?_
  walk_at "E"
  refine (need_web_spec hE hg hW hG fun H₁ e1 => ?_)
  refine ⟨rfl, ?_⟩
  refine thenR_at (EXr_next ?_)
  walk_at "E"
  refine EV_CallD hb ?_
  walk_at "E"
  refine (behind_first_spec hE hb (hW.ext e1) hG fun H₂ f found e2 hf0 hF F => ?_).le (d := d + 5) (d' := 2) (lek rfl)
  have hsh := hR.short hG F
  have hfl : found.length ≤ 200 := by omega
  obtain ⟨rs, W⟩ := hW.ext (e1.trans e2)
  have hl := W.len
  refine thenR_at (EXr_here (EX1r_If ?_))
  walk_at "E"
  refine CW_len hF (by walk_at "ln") ?_
  walk_at "E"
  refine CW_len W.top (by walk_at "ln") ?_
  rw [rowV_length, List.length_map, hl]
  walk_at "E"
  refine ite_dec (fun _ => ?_) (fun h => absurd h (by omega))
  exact EXr_here (EX1r_Raise X.err X.c (e1.trans e2))
theorem moves_in_row (hE : PD cx) {fa : Addr} (hf : HasDef cx (defAt p01 31) fa) {a : Addr} {web : List (List Nat)} (hW : IsWeb H a web) (hG : GoodWeb web) (hC : Calm web) {v : AV} (hbad : NoRowArg H web.length v) {C G : Addr} (X : ErrAt cx 2 C G) : CR cx (d + 7) (.ref fa) [.ref a, v] H C (Ext H) := by
  have hB := hE.bs
  obtain ⟨ga, hg⟩ := hE.defs 20 (by decide)
  obtain ⟨ra, hr⟩ := hE.defs 29 (by decide)
  refine CR_fn hf bind_moves_in ?_
  show EXr cx (d + 6) _ (upd (upd (fun _ => none) "web" (.ref a)) "row" v) _ H _ _
  refine EXr_next (EX_ExprAny (EV_CallD hg ?_))
  walk_at "E"
  refine need_game_spec hE hg hW hG hC fun H₁ o order e1 _ _ _ _ _ => ?_
  refine thenR_at (EXr_here (EX1r_Expr (EVr_CallD hr ?_)))
  walk_at "E"
  exact ((need_row_no hE hr (hW.ext e1) hG.most (hbad.ext e1) X).le (d := d + 6) (d' := 3) (lek rfl)).mono fun H' e => e1.trans e
theorem played_row (hE : PD cx) {fa : Addr} (hf : HasDef cx (defAt p01 33) fa) {a : Addr} {web : List (List Nat)} (hW : IsWeb H a web) (hG : GoodWeb web) (hC : Calm web) {v w : AV} (hbad : NoRowArg H web.length v) {C G : Addr} (X : ErrAt cx 2 C G) : CR cx (d + 7) (.ref fa) [.ref a, v, w] H C (Ext H) := by
  have hB := hE.bs
  obtain ⟨ga, hg⟩ := hE.defs 20 (by decide)
  obtain ⟨ra, hr⟩ := hE.defs 29 (by decide)
  refine CR_fn hf bind_played ?_
  show EXr cx (d + 6) _ (upd (upd (upd (fun _ => none) "web" (.ref a)) "row" v) "move" w) _ H _ _
  refine EXr_next (EX_ExprAny (EV_CallD hg ?_))
  walk_at "E"
  refine need_game_spec hE hg hW hG hC fun H₁ o order e1 _ _ _ _ _ => ?_
  refine thenR_at (EXr_here (EX1r_Expr (EVr_CallD hr ?_)))
  walk_at "E"
  exact ((need_row_no hE hr (hW.ext e1) hG.most (hbad.ext e1) X).le (d := d + 6) (d' := 3) (lek rfl)).mono fun H' e => e1.trans e
theorem row_number_row (hE : PD cx) {fa : Addr} (hf : HasDef cx (defAt p01 34) fa) {a : Addr} {web : List (List Nat)} (hW : IsWeb H a web) (hG : GoodWeb web) (hC : Calm web) {v : AV} (hbad : NoRowArg H web.length v) {C G : Addr} (X : ErrAt cx 2 C G) : CR cx (d + 8) (.ref fa) [.ref a, v] H C (Ext H) := by
  have hB := hE.bs
  obtain ⟨ga, hg⟩ := hE.defs 22 (by decide)
  obtain ⟨ra, hr⟩ := hE.defs 29 (by decide)
  refine CR_fn hf bind_row_number ?_
  show EXr cx (d + 7) _ (upd (upd (fun _ => none) "web" (.ref a)) "row" v) _ H _ _
  refine EXr_next ?_
  walk_at "E"
  refine EV_CallD hg ?_
  walk_at "E"
  refine numbers_of_spec hE hg hW hG hC fun H₁ o f e1 _ _ _ => ?_
  refine thenR_at (EXr_here (EX1r_Expr (EVr_CallD hr ?_)))
  walk_at "E"
  exact ((need_row_no hE hr (hW.ext e1) hG.most (hbad.ext e1) X).le (d := d + 7) (d' := 3) (lek rfl)).mono fun H' e => e1.trans e
theorem good_moves_row (hE : PD cx) {fa : Addr} (hf : HasDef cx (defAt p01 37) fa) {a : Addr} {web : List (List Nat)} (hW : IsWeb H a web) (hG : GoodWeb web) (hC : Calm web) {v : AV} (hbad : NoRowArg H web.length v) {C G : Addr} (X : ErrAt cx 2 C G) : CR cx (d + 8) (.ref fa) [.ref a, v] H C (Ext H) := by
  have hB := hE.bs
  obtain ⟨ga, hg⟩ := hE.defs 22 (by decide)
  obtain ⟨ra, hr⟩ := hE.defs 29 (by decide)
  refine CR_fn hf bind_good_moves ?_
  show EXr cx (d + 7) _ (upd (upd (fun _ => none) "web" (.ref a)) "row" v) _ H _ _
  refine EXr_next ?_
  walk_at "E"
  refine EV_CallD hg ?_
  walk_at "E"
  refine numbers_of_spec hE hg hW hG hC fun H₁ o f e1 _ _ _ => ?_
  refine thenR_at (EXr_here (EX1r_Expr (EVr_CallD hr ?_)))
  walk_at "E"
  exact ((need_row_no hE hr (hW.ext e1) hG.most (hbad.ext e1) X).le (d := d + 7) (d' := 3) (lek rfl)).mono fun H' e => e1.trans e
theorem parting_row_row (hE : PD cx) {fa : Addr} (hf : HasDef cx (defAt p01 38) fa) {a : Addr} {web : List (List Nat)} (hW : IsWeb H a web) (hG : GoodWeb web) (hC : Calm web) {v w : AV}
    (hbad : NoRowArg H web.length v ∨ ((∃ b ro row, v = .ref b ∧ H b = some (.list ro (rowV row)) ∧ row.length ≤ 24 ∧ ∀ x ∈ row, x < web.length) ∧ NoRowArg H web.length w)) {C G : Addr} (X : ErrAt cx 2 C G) : CR cx (d + 8) (.ref fa) [.ref a, v, w] H C (Ext H) := by
  have hB := hE.bs
  obtain ⟨ga, hg⟩ := hE.defs 22 (by decide)
  obtain ⟨ra, hr⟩ := hE.defs 29 (by decide)
  refine CR_fn hf bind_parting_row ?_
  show EXr cx (d + 7) _ (upd (upd (upd (fun _ => none) "web" (.ref a)) "one" v) "other" w) _ H _ _
  refine EXr_next ?_
  walk_at "E"
  refine EV_CallD hg ?_
  walk_at "E"
  refine numbers_of_spec hE hg hW hG hC fun H₁ o f e1 _ _ _ => ?_
  rcases hbad with hbad | ⟨⟨b, ro, row, rfl, hb, hn, hlt⟩, hbad⟩
  · refine thenR_at (EXr_here (EX1r_Expr (EVr_CallD hr ?_)))
    walk_at "E"
    exact ((need_row_no hE hr (hW.ext e1) hG.most (hbad.ext e1) X).le (d := d + 7) (d' := 3) (lek rfl)).mono fun H' e => e1.trans e
  · refine thenR_at (EXr_next ?_)
    walk_at "E"
    refine EV_CallD hr ?_
    walk_at "E"
    refine (need_row_spec hE hr (hW.ext e1) hG.most (e1 _ _ hb) hn hlt ?_).le (d := d + 7) (d' := 3) (lek rfl)
    refine ⟨rfl, ?_⟩
    refine thenR_at (EXr_here (EX1r_Expr (EVr_CallD hr ?_)))
    walk_at "E"
    exact ((need_row_no hE hr (hW.ext e1) hG.most (hbad.ext e1) X).le (d := d + 7) (d' := 3) (lek rfl)).mono fun H' e => e1.trans e
theorem joined_webs_no (hE : PD cx) {fa : Addr} (hf : HasDef cx (defAt p01 17) fa) {a : Addr} {one : List (List Nat)} (hW : IsWeb H a one) (hG : GoodWeb one) {v : AV} (hbad : BadWeb H v) {C G : Addr} (X : ErrAt cx 0 C G) : CR cx (d + 6) (.ref fa) [.ref a, v] H C (Ext H) := by
  have hB := hE.bs
  obtain ⟨na, hna⟩ := hE.defs 13 (by decide)
  refine CR_fn hf bind_joined_webs ?_
  show EXr cx (d + 5) _ (upd (upd (fun _ => none) "one" (.ref a)) "other" v) _ H _ _
  refine EXr_next ?_
  walk_at "E"
  refine EV_CallD hna ?_
  walk_at "E"
  refine (need_web_spec hE hna hW hG fun H₁ e1 => ?_)
  refine ⟨rfl, ?_⟩
  refine thenR_at (EXr_here (EX1r_Expr (EVr_CallD hna ?_)))
  walk_at "E"
  exact (need_web_no hE hna (hbad.ext e1) X).mono fun H' e => e1.trans e
theorem joined_webs_many (hE : PD cx) {fa : Addr} (hf : HasDef cx (defAt p01 17) fa) {a b : Addr} {one other : List (List Nat)} (hW : IsWeb H a one) (hG : GoodWeb one) (hW' : IsWeb H b other) (hG' : GoodWeb other) (hsz : 200 < one.length + other.length) {C G : Addr} (X : ErrAt cx 4 C G) : CR cx (d + 6) (.ref fa) [.ref a, .ref b] H C (Ext H) := by
  have hB := hE.bs
  obtain ⟨na, hna⟩ := hE.defs 13 (by decide)
  obtain ⟨t, hM⟩ := hE.most
  have hm1 := hG.most
  have hm2 := hG'.most
  refine CR_fn hf bind_joined_webs ?_
  show EXr cx (d + 5) _ (upd (upd (fun _ => none) "one" (.ref a)) "other" (.ref b)) _ H _ _
  refine EXr_next ?_
  walk_at "E"
  refine EV_CallD hna ?_
  walk_at "E"
  refine (need_web_spec hE hna hW hG fun H₁ e1 => ?_)
  refine ⟨rfl, ?_⟩
  refine thenR_at (EXr_next ?_)
  walk_at "E"
  refine EV_CallD hna ?_
  walk_at "E"
  refine (need_web_spec hE hna (hW'.ext e1) hG' fun H₂ e2 => ?_)
  refine ⟨rfl, ?_⟩
  have e12 := e1.trans e2
  obtain ⟨rs, W⟩ := hW.ext e12
  obtain ⟨ts, W'⟩ := hW'.ext e12
  have hl := W.len
  have hl' := W'.len
  refine thenR_at (EXr_here (EX1r_If ?_))
  walk_at "E"
  refine CW_len W.top (by walk_at "ln") ?_
  rw [List.length_map, hl]
  walk_at "E"
  refine CW_len W'.top (by walk_at "ln") ?_
  rw [List.length_map, hl']
  walk_at "E"
  refine ite_dec (fun _ => ?_) (fun h => absurd h (by omega))
  exact EXr_here (EX1r_Raise X.err X.c e12)
theorem paired_web_no (hE : PD cx) {fa : Addr} (hf : HasDef cx (defAt p01 18) fa) {a : Addr} {one : List (List Nat)} (hW : IsWeb H a one) (hG : GoodWeb one) {v : AV} (hbad : BadWeb H v) {C G : Addr} (X : ErrAt cx 0 C G) : CR cx (d + 6) (.ref fa) [.ref a, v] H C (Ext H) := by
  have hB := hE.bs
  obtain ⟨na, hna⟩ := hE.defs 13 (by decide)
  refine CR_fn hf bind_paired_web ?_
  show EXr cx (d + 5) _ (upd (upd (fun _ => none) "one" (.ref a)) "other" v) _ H _ _
  refine EXr_next ?_
  walk_at "E"
  refine EV_CallD hna ?_
  walk_at "E"
  refine (need_web_spec hE hna hW hG fun H₁ e1 => ?_)
  refine ⟨rfl, ?_⟩
  refine thenR_at (EXr_here (EX1r_Expr (EVr_CallD hna ?_)))
  walk_at "E"
  exact (need_web_no hE hna (hbad.ext e1) X).mono fun H' e => e1.trans e
theorem paired_web_many (hE : PD cx) {fa : Addr} (hf : HasDef cx (defAt p01 18) fa) {a b : Addr} {one other : List (List Nat)} (hW : IsWeb H a one) (hG : GoodWeb one) (hW' : IsWeb H b other) (hG' : GoodWeb other) (hsz : 200 < one.length * other.length) {C G : Addr} (X : ErrAt cx 4 C G) : CR cx (d + 6) (.ref fa) [.ref a, .ref b] H C (Ext H) := by
  have hB := hE.bs
  obtain ⟨na, hna⟩ := hE.defs 13 (by decide)
  obtain ⟨t, hM⟩ := hE.most
  have hm1 := hG.most
  have hm2 := hG'.most
  refine CR_fn hf bind_paired_web ?_
  show EXr cx (d + 5) _ (upd (upd (fun _ => none) "one" (.ref a)) "other" (.ref b)) _ H _ _
  refine EXr_next ?_
  walk_at "E"
  refine EV_CallD hna ?_
  walk_at "E"
  refine (need_web_spec hE hna hW hG fun H₁ e1 => ?_)
  refine ⟨rfl, ?_⟩
  refine thenR_at (EXr_next ?_)
  walk_at "E"
  refine EV_CallD hna ?_
  walk_at "E"
  refine (need_web_spec hE hna (hW'.ext e1) hG' fun H₂ e2 => ?_)
  refine ⟨rfl, ?_⟩
  have e12 := e1.trans e2
  obtain ⟨rs, W⟩ := hW.ext e12
  obtain ⟨ts, W'⟩ := hW'.ext e12
  have hl := W.len
  have hl' := W'.len
  refine thenR_at (EXr_next ?_)
  walk_at "E"
  refine CW_len W'.top (by walk_at "ln") ?_
  rw [List.length_map, hl']
  refine thenR_at (EXr_here (EX1r_If ?_))
  walk_at "E"
  refine CW_len W.top (by walk_at "ln") ?_
  rw [List.length_map, hl]
  walk_at "E"
  refine Op_mul (mulR (by omega)) ?_
  walk_at "E"
  refine ite_dec (fun _ => ?_) (fun h => absurd h (by rw [← Int.natCast_mul]; omega))
  exact EXr_here (EX1r_Raise X.err X.c e12)
theorem is_move_no (hE : PD cx) {fa : Addr} (hf : HasDef cx (defAt p01 32) fa) {a b : Addr} {web : List (List Nat)} {ro : Bool} {row : List Nat} (hW : IsWeb H a web) (hG : GoodWeb web) (hb : H b = some (.list ro (rowV row))) (hn : row.length ≤ 24) (hlt : ∀ x ∈ row, x < web.length) {v : AV} (hbad : NoMoveArg H web row v)
    (hq : Q (.bool false) H) : CW cx (d + 2) (.ref fa) [.ref a, .ref b, v] H Q := by
  have hB := hE.bs
  obtain ⟨ga, hg⟩ := hE.defs 9 (by decide)
  obtain ⟨rs, W⟩ := hW
  have hl := W.len
  have hmost := hG.most
  refine CW_fn hf bind_is_move ?_
  show EX cx (d + 1) _ (upd (upd (upd (fun _ => none) "web" (.ref a)) "row" (.ref b)) "thing" v) _ H _
  refine EX_cons ?_
  rcases hbad with hbad | ⟨t, vs, rfl, ht, hl3, hbad⟩
  · walk_at "E"
    refine EV_BType (b_tuple hB) ?_
    walk_at "E"
    refine CW_isi_noTuple hbad ?_
    walk_at "E"
    exact hq
  walk_at "E"
  refine EV_BType (b_tuple hB) ?_
  walk_at "E"
  refine CW_isinst_tuple ht ?_
  walk_at "E"
  refine CW_lenTuple ht (by omega) ?_
  walk_at "E"
  rcases hbad with h2 | ⟨x, y, rfl, hbad⟩
  · refine ite_dec (fun h => ?_) (fun h => absurd h (by omega))
    walk_at "E"
    exact hq
  refine ite_dec (fun h => absurd rfl h) (fun _ => ?_)
  have get0 : ∀ {Q' : AV → Hp → Prop} {d' : Nat}, Q' x H → GetW cx d' (.ref t) (.int 0) H Q' := fun q => Get_tuple ht (by decide) (by simp) (v := x) rfl q
  have get1 : ∀ {Q' : AV → Hp → Prop} {d' : Nat}, Q' y H → GetW cx d' (.ref t) (.int 1) H Q' := fun q => Get_tuple ht (by decide) (by simp) (v := y) rfl q
  walk_at "E"
  refine EV_CallD hg ?_
  walk_at "E"
  refine get0 ?_
  walk_at "E"
  rcases hbad with hx | ⟨i, rfl, hbad⟩
  · refine is_whole_no hE hg hx ?_
    walk_at "E"
    exact hq
  refine is_whole_spec hE hg ?_
  walk_at "E"
  refine EV_CallD hg ?_
  walk_at "E"
  refine get1 ?_
  walk_at "E"
  rcases hbad with hy | ⟨j, rfl, hbad⟩
  · refine is_whole_no hE hg hy ?_
    walk_at "E"
    exact hq
  refine is_whole_spec hE hg ?_
  walk_at "E"
  refine get0 ?_
  walk_at "E"
  refine ite_dec (fun h0 => ?_) (fun h0 => ?_)
  · walk_at "E"
    refine CW_len hb (by walk_at "ln") ?_
    rw [rowV_length]
    walk_at "E"
    refine ite_dec (fun h1 => ?_) (fun h1 => ?_)
    · obtain ⟨_, _, hno⟩ := hbad.resolve_left (fun z => z ⟨h0, h1⟩)
      have hit : i.toNat < row.length := by omega
      have hx := hlt (row.getD i.toNat 0) (List.mem_of_getElem? (getD_some hit))
      obtain ⟨r, q1, q2, q3⟩ := W.at hx
      walk_at "E"
      refine get1 ?_
      walk_at "E"
      refine get0 ?_
      refine Get_list hb h0 (by walk_at "ln") (v := .int (row.getD i.toNat 0 : Nat)) (by simp only [rowV, List.getElem?_map, getD_some hit]; rfl) ?_
      refine Get_list W.top (by walk_at "nn") (by walk_at "ln") (v := .ref r) q2 ?_
      rw [rowV_eq] at q3
      refine Op_in q3 ?_
      rw [decide_eq_false (by
        intro hm
        obtain ⟨n, hn', e⟩ := List.mem_map.mp hm
        exact hno n hn' e.symm)]
      walk_at "E"
      exact hq
    · walk_at "E"
      exact hq
  · walk_at "E"
    exact hq
theorem played_bad (hE : PD cx) {fa : Addr} (hf : HasDef cx (defAt p01 33) fa) {a b : Addr} {web : List (List Nat)} {ro : Bool} {row : List Nat} (hW : IsWeb H a web) (hG : GoodWeb web) (hC : Calm web) (hb : H b = some (.list ro (rowV row))) (hn : row.length ≤ 24) (hlt : ∀ x ∈ row, x < web.length) {v : AV} (hbad : NoMoveArg H web row v)
    {C G : Addr} (X : ErrAt cx 3 C G) : CR cx (d + 7) (.ref fa) [.ref a, .ref b, v] H C (Ext H) := by
  have hB := hE.bs
  obtain ⟨ga, hg⟩ := hE.defs 20 (by decide)
  obtain ⟨ra, hr⟩ := hE.defs 29 (by decide)
  obtain ⟨ma, hma⟩ := hE.defs 32 (by decide)
  refine CR_fn hf bind_played ?_
  show EXr cx (d + 6) _ (upd (upd (upd (fun _ => none) "web" (.ref a)) "row" (.ref b)) "move" v) _ H _ _
  refine EXr_next (EX_ExprAny (EV_CallD hg ?_))
  walk_at "E"
  refine need_game_spec hE hg hW hG hC fun H₁ o order e1 ho0 hO Fd hol hall => ?_
  have hb1 := e1 _ _ hb
  refine thenR_at (EXr_next ?_)
  walk_at "E"
  refine EV_CallD hr ?_
  walk_at "E"
  refine (need_row_spec hE hr (hW.ext e1) hG.most hb1 hn hlt ?_).le (d := d + 6) (d' := 3) (lek rfl)
  refine ⟨rfl, ?_⟩
  refine thenR_at (EXr_here (EX1r_If ?_))
  walk_at "E"
  refine EV_CallD hma ?_
  walk_at "E"
  refine (is_move_no hE hma (hW.ext e1) hG hb1 hn hlt (hbad.ext e1) ?_).le (d := d + 6) (d' := 2) (lek rfl)
  walk_at "E"
  exact EXr_here (EX1r_Raise X.err X.c e1)

end

-- L01l
set_option maxRecDepth 10000
set_option maxHeartbeats 4000000
section
variable {cx : Cx} {d : Nat} {H : Hp} {Q : AV → Hp → Prop}
theorem asked_one_r (hE : PD cx) {fa : Addr} (hf : HasDef cx (defAt p01 48) fa) {k : Nat} (hk : k < 8) {C : Addr} {K : Hp → Prop} {v r : AV}
    (h0 : k = 0 → ∀ ga, HasDef cx (defAt p01 16) ga → CR cx (d + 10) (.ref ga) [v] H C K)
    (h1 : k = 1 → ∀ ga, HasDef cx (defAt p01 22) ga → CR cx (d + 10) (.ref ga) [v] H C K)
    (h2 : k = 2 → ∀ ga, HasDef cx (defAt p01 23) ga → CR cx (d + 10) (.ref ga) [v] H C K)
    (h3 : k = 3 → ∀ ga, HasDef cx (defAt p01 24) ga → CR cx (d + 10) (.ref ga) [v, .int 0] H C K)
    (h4 : k = 4 → ∀ ga, HasDef cx (defAt p01 31) ga → CR cx (d + 10) (.ref ga) [v, r] H C K)
    (h5 : k = 5 → ∀ ga, HasDef cx (defAt p01 34) ga → CR cx (d + 10) (.ref ga) [v, r] H C K)
    (h6 : k = 6 → ∀ ga, HasDef cx (defAt p01 36) ga → CR cx (d + 10) (.ref ga) [v, r] H C K)
    (h7 : k = 7 → ∀ ga, HasDef cx (defAt p01 37) ga → CR cx (d + 10) (.ref ga) [v, r] H C K)
    : CR cx (d + 11) (.ref fa) [.int k, v, r] H C K := by
  have hB := hE.bs
  obtain ⟨g0, q0⟩ := hE.defs 16 (by decide)
  obtain ⟨g1, q1⟩ := hE.defs 22 (by decide)
  obtain ⟨g2, q2⟩ := hE.defs 23 (by decide)
  obtain ⟨g3, q3⟩ := hE.defs 24 (by decide)
  obtain ⟨g4, q4⟩ := hE.defs 31 (by decide)
  obtain ⟨g5, q5⟩ := hE.defs 34 (by decide)
  obtain ⟨g6, q6⟩ := hE.defs 36 (by decide)
  obtain ⟨g7, q7⟩ := hE.defs 37 (by decide)
  refine CR_fn hf bind_law_asked_one ?_
  show EXr cx (d + 10) _ (upd (upd (upd (fun _ => none) "_law_which" (.int k)) "_law_web" v) "_law_row" r) _ H _ _
  refine EXr_here (EX1r_If ?_)
  walk_at "E"
  refine ite_decN (n := 0) (fun e0 => ?_) (fun e0 => ?_)
  · refine EXr_here (EX1r_Expr (EVr_CallD q0 ?_))
    walk_at "E"
    exact h0 e0 g0 q0
  refine EXr_here (EX1r_If ?_)
  walk_at "E"
  refine ite_decN (n := 1) (fun e1 => ?_) (fun e1 => ?_)
  · refine EXr_here (EX1r_Expr (EVr_CallD q1 ?_))
    walk_at "E"
    exact h1 e1 g1 q1
  refine EXr_here (EX1r_If ?_)
  walk_at "E"
  refine ite_decN (n := 2) (fun e2 => ?_) (fun e2 => ?_)
  · refine EXr_here (EX1r_Expr (EVr_CallD q2 ?_))
    walk_at "E"
    exact h2 e2 g2 q2
  refine EXr_here (EX1r_If ?_)
  walk_at "E"
  refine ite_decN (n := 3) (fun e3 => ?_) (fun e3 => ?_)
  · refine EXr_here (EX1r_Expr (EVr_CallD q3 ?_))
    walk_at "E"
    exact h3 e3 g3 q3
  refine EXr_here (EX1r_If ?_)
  walk_at "E"
  refine ite_decN (n := 4) (fun e4 => ?_) (fun e4 => ?_)
  · refine EXr_here (EX1r_Expr (EVr_CallD q4 ?_))
    walk_at "E"
    exact h4 e4 g4 q4
  refine EXr_here (EX1r_If ?_)
  walk_at "E"
  refine ite_decN (n := 5) (fun e5 => ?_) (fun e5 => ?_)
  · refine EXr_here (EX1r_Expr (EVr_CallD q5 ?_))
    walk_at "E"
    exact h5 e5 g5 q5
  refine EXr_here (EX1r_If ?_)
  walk_at "E"
  refine ite_decN (n := 6) (fun e6 => ?_) (fun e6 => ?_)
  · refine EXr_here (EX1r_Expr (EVr_CallD q6 ?_))
    walk_at "E"
    exact h6 e6 g6 q6
  refine EXr_here (EX1r_Expr (EVr_CallD q7 ?_))
  walk_at "E"
  exact h7 (by omega) g7 q7
theorem asked_one_n (hE : PD cx) {fa : Addr} (hf : HasDef cx (defAt p01 48) fa) {k : Nat} (hk : k < 8) {v r : AV}
    (h0 : k = 0 → ∀ ga, HasDef cx (defAt p01 16) ga → CW cx (d + 10) (.ref ga) [v] H (fun _ H' => Ext H H'))
    (h1 : k = 1 → ∀ ga, HasDef cx (defAt p01 22) ga → CW cx (d + 10) (.ref ga) [v] H (fun _ H' => Ext H H'))
    (h2 : k = 2 → ∀ ga, HasDef cx (defAt p01 23) ga → CW cx (d + 10) (.ref ga) [v] H (fun _ H' => Ext H H'))
    (h3 : k = 3 → ∀ ga, HasDef cx (defAt p01 24) ga → CW cx (d + 10) (.ref ga) [v, .int 0] H (fun _ H' => Ext H H'))
    (h4 : k = 4 → ∀ ga, HasDef cx (defAt p01 31) ga → CW cx (d + 10) (.ref ga) [v, r] H (fun _ H' => Ext H H'))
    (h5 : k = 5 → ∀ ga, HasDef cx (defAt p01 34) ga → CW cx (d + 10) (.ref ga) [v, r] H (fun _ H' => Ext H H'))
    (h6 : k = 6 → ∀ ga, HasDef cx (defAt p01 36) ga → CW cx (d + 10) (.ref ga) [v, r] H (fun _ H' => Ext H H'))
    (h7 : k = 7 → ∀ ga, HasDef cx (defAt p01 37) ga → CW cx (d + 10) (.ref ga) [v, r] H (fun _ H' => Ext H H'))
    (hq : ∀ H', Ext H H' → Q .none H')
    : CW cx (d + 11) (.ref fa) [.int k, v, r] H Q := by
  have hB := hE.bs
  obtain ⟨g0, q0⟩ := hE.defs 16 (by decide)
  obtain ⟨g1, q1⟩ := hE.defs 22 (by decide)
  obtain ⟨g2, q2⟩ := hE.defs 23 (by decide)
  obtain ⟨g3, q3⟩ := hE.defs 24 (by decide)
  obtain ⟨g4, q4⟩ := hE.defs 31 (by decide)
  obtain ⟨g5, q5⟩ := hE.defs 34 (by decide)
  obtain ⟨g6, q6⟩ := hE.defs 36 (by decide)
  obtain ⟨g7, q7⟩ := hE.defs 37 (by decide)
  refine CW_fn hf bind_law_asked_one ?_
  show EX cx (d + 10) _ (upd (upd (upd (fun _ => none) "_law_which" (.int k)) "_law_web" v) "_law_row" r) _ H _
  refine EX_cons ?_
  walk_at "E"
  refine ite_decN (n := 0) (fun e0 => ?_) (fun e0 => ?_)
  · refine EX_cons (EX_ExprAny (EV_CallD q0 ?_))
    walk_at "E"
    refine (h0 e0 g0 q0).mono fun _ H' e => ?_
    walk_at "E"
    exact hq H' e
  refine EX_cons ?_
  walk_at "E"
  refine ite_decN (n := 1) (fun e1 => ?_) (fun e1 => ?_)
  · refine EX_cons (EX_ExprAny (EV_CallD q1 ?_))
    walk_at "E"
    refine (h1 e1 g1 q1).mono fun _ H' e => ?_
    walk_at "E"
    exact hq H' e
  refine EX_cons ?_
  walk_at "E"
  refine ite_decN (n := 2) (fun e2 => ?_) (fun e2 => ?_)
  · refine EX_cons (EX_ExprAny (EV_CallD q2 ?_))
    walk_at "E"
    refine (h2 e2 g2 q2).mono fun _ H' e => ?_
    walk_at "E"
    exact hq H' e
  refine EX_cons ?_
  walk_at "E"
  refine ite_decN (n := 3) (fun e3 => ?_) (fun e3 => ?_)
  · refine EX_cons (EX_ExprAny (EV_CallD q3 ?_))
    walk_at "E"
    refine (h3 e3 g3 q3).mono fun _ H' e => ?_
    walk_at "E"
    exact hq H' e
  refine EX_cons ?_
  walk_at "E"
  refine ite_decN (n := 4) (fun e4 => ?_) (fun e4 => ?_)
  · refine EX_cons (EX_ExprAny (EV_CallD q4 ?_))
    walk_at "E"
    refine (h4 e4 g4 q4).mono fun _ H' e => ?_
    walk_at "E"
    exact hq H' e
  refine EX_cons ?_
  walk_at "E"
  refine ite_decN (n := 5) (fun e5 => ?_) (fun e5 => ?_)
  · refine EX_cons (EX_ExprAny (EV_CallD q5 ?_))
    walk_at "E"
    refine (h5 e5 g5 q5).mono fun _ H' e => ?_
    walk_at "E"
    exact hq H' e
  refine EX_cons ?_
  walk_at "E"
  refine ite_decN (n := 6) (fun e6 => ?_) (fun e6 => ?_)
  · refine EX_cons (EX_ExprAny (EV_CallD q6 ?_))
    walk_at "E"
    refine (h6 e6 g6 q6).mono fun _ H' e => ?_
    walk_at "E"
    exact hq H' e
  refine EX_cons (EX_ExprAny (EV_CallD q7 ?_))
  walk_at "E"
  refine (h7 (by omega) g7 q7).mono fun _ H' e => ?_
  walk_at "E"
  exact hq H' e
theorem asked_r (hE : PD cx) {fa : Addr} (hf : HasDef cx (defAt p01 49) fa) {k : Nat} (hk : k < 12) {C : Addr} {K : Hp → Prop} {v o r m mv : AV}
    (h0 : k < 8 → ∀ ga, HasDef cx (defAt p01 48) ga → CR cx (d + 11) (.ref ga) [.int k, v, r] H C K)
    (h1 : k = 8 → ∀ ga, HasDef cx (defAt p01 33) ga → CR cx (d + 11) (.ref ga) [v, r, mv] H C K)
    (h2 : k = 9 → ∀ ga, HasDef cx (defAt p01 38) ga → CR cx (d + 11) (.ref ga) [v, r, m] H C K)
    (h3 : k = 10 → ∀ ga, HasDef cx (defAt p01 17) ga → CR cx (d + 11) (.ref ga) [v, o] H C K)
    (h4 : k = 11 → ∀ ga, HasDef cx (defAt p01 18) ga → CR cx (d + 11) (.ref ga) [v, o] H C K)
    : CR cx (d + 12) (.ref fa) [.int k, v, o, r, m, mv] H C K := by
  have hB := hE.bs
  obtain ⟨g0, q0⟩ := hE.defs 48 (by decide)
  obtain ⟨g1, q1⟩ := hE.defs 33 (by decide)
  obtain ⟨g2, q2⟩ := hE.defs 38 (by decide)
  obtain ⟨g3, q3⟩ := hE.defs 17 (by decide)
  obtain ⟨g4, q4⟩ := hE.defs 18 (by decide)
  refine CR_fn hf bind_law_asked ?_
  show EXr cx (d + 11) _ (upd (upd (upd (upd (upd (upd (fun _ => none) "_law_which" (.int k)) "_law_web" v) "_law_other" o) "_law_row" r) "_law_more" m) "_law_move" mv) _ H _ _
  refine EXr_here (EX1r_If ?_)
  walk_at "E"
  refine ite_decL (n := 8) (fun e0 => ?_) (fun e0 => ?_)
  · refine EXr_here (EX1r_Expr (EVr_CallD q0 ?_))
    walk_at "E"
    exact h0 e0 g0 q0
  refine EXr_here (EX1r_If ?_)
  walk_at "E"
  refine ite_decN (n := 8) (fun e1 => ?_) (fun e1 => ?_)
  · refine EXr_here (EX1r_Expr (EVr_CallD q1 ?_))
    walk_at "E"
    exact h1 e1 g1 q1
  refine EXr_here (EX1r_If ?_)
  walk_at "E"
  refine ite_decN (n := 9) (fun e2 => ?_) (fun e2 => ?_)
  · refine EXr_here (EX1r_Expr (EVr_CallD q2 ?_))
    walk_at "E"
    exact h2 e2 g2 q2
  refine EXr_here (EX1r_If ?_)
  walk_at "E"
  refine ite_decN (n := 10) (fun e3 => ?_) (fun e3 => ?_)
  · refine EXr_here (EX1r_Expr (EVr_CallD q3 ?_))
    walk_at "E"
    exact h3 e3 g3 q3
  refine EXr_here (EX1r_Expr (EVr_CallD q4 ?_))
  walk_at "E"
  exact h4 (by omega) g4 q4
theorem asked_n (hE : PD cx) {fa : Addr} (hf : HasDef cx (defAt p01 49) fa) {k : Nat} (hk : k < 12) {v o r m mv : AV}
    (h0 : k < 8 → ∀ ga, HasDef cx (defAt p01 48) ga → CW cx (d + 11) (.ref ga) [.int k, v, r] H (fun _ H' => Ext H H'))
    (h1 : k = 8 → ∀ ga, HasDef cx (defAt p01 33) ga → CW cx (d + 11) (.ref ga) [v, r, mv] H (fun _ H' => Ext H H'))
    (h2 : k = 9 → ∀ ga, HasDef cx (defAt p01 38) ga → CW cx (d + 11) (.ref ga) [v, r, m] H (fun _ H' => Ext H H'))
    (h3 : k = 10 → ∀ ga, HasDef cx (defAt p01 17) ga → CW cx (d + 11) (.ref ga) [v, o] H (fun _ H' => Ext H H'))
    (h4 : k = 11 → ∀ ga, HasDef cx (defAt p01 18) ga → CW cx (d + 11) (.ref ga) [v, o] H (fun _ H' => Ext H H'))
    (hq : ∀ H', Ext H H' → Q .none H')
    : CW cx (d + 12) (.ref fa) [.int k, v, o, r, m, mv] H Q := by
  have hB := hE.bs
  obtain ⟨g0, q0⟩ := hE.defs 48 (by decide)
  obtain ⟨g1, q1⟩ := hE.defs 33 (by decide)
  obtain ⟨g2, q2⟩ := hE.defs 38 (by decide)
  obtain ⟨g3, q3⟩ := hE.defs 17 (by decide)
  obtain ⟨g4, q4⟩ := hE.defs 18 (by decide)
  refine CW_fn hf bind_law_asked ?_
  show EX cx (d + 11) _ (upd (upd (upd (upd (upd (upd (fun _ => none) "_law_which" (.int k)) "_law_web" v) "_law_other" o) "_law_row" r) "_law_more" m) "_law_move" mv) _ H _
  refine EX_cons ?_
  walk_at "E"
  refine ite_decL (n := 8) (fun e0 => ?_) (fun e0 => ?_)
  · refine EX_cons (EX_ExprAny (EV_CallD q0 ?_))
    walk_at "E"
    refine (h0 e0 g0 q0).mono fun _ H' e => ?_
    walk_at "E"
    exact hq H' e
  refine EX_cons ?_
  walk_at "E"
  refine ite_decN (n := 8) (fun e1 => ?_) (fun e1 => ?_)
  · refine EX_cons (EX_ExprAny (EV_CallD q1 ?_))
    walk_at "E"
    refine (h1 e1 g1 q1).mono fun _ H' e => ?_
    walk_at "E"
    exact hq H' e
  refine EX_cons ?_
  walk_at "E"
  refine ite_decN (n := 9) (fun e2 => ?_) (fun e2 => ?_)
  · refine EX_cons (EX_ExprAny (EV_CallD q2 ?_))
    walk_at "E"
    refine (h2 e2 g2 q2).mono fun _ H' e => ?_
    walk_at "E"
    exact hq H' e
  refine EX_cons ?_
  walk_at "E"
  refine ite_decN (n := 10) (fun e3 => ?_) (fun e3 => ?_)
  · refine EX_cons (EX_ExprAny (EV_CallD q3 ?_))
    walk_at "E"
    refine (h3 e3 g3 q3).mono fun _ H' e => ?_
    walk_at "E"
    exact hq H' e
  refine EX_cons (EX_ExprAny (EV_CallD q4 ?_))
  walk_at "E"
  refine (h4 (by omega) g4 q4).mono fun _ H' e => ?_
  walk_at "E"
  exact hq H' e
theorem told_at {j : Nat} (h : j < 5) : ([AV.str "web", .str "ring", .str "row", .str "move", .str "many"] : List AV)[j]? = some (.str (toldWords.getD j "")) :=
  (by decide : ∀ j < 5, ([AV.str "web", .str "ring", .str "row", .str "move", .str "many"] : List AV)[j]? = some (.str (toldWords.getD j ""))) j h
theorem told_r (hE : PD cx) {ta : Addr} (hta : HasDef cx (defAt p01 50) ta) {sc : Scope} {loc : Loc} {j : Nat} (hj : j < 5) {C G : Addr} (X : ErrAt cx j C G) {k v o r m mv : AV}
    (h : ∀ ga, HasDef cx (defAt p01 49) ga → CR cx (d + 12) (.ref ga) [k, v, o, r, m, mv] H C (Ext H)) : CallV cx (d + 13) sc loc ta [k, v, o, r, m, mv] H (.str (toldWords.getD j "")) (Ext H) := by
  have hB := hE.bs
  obtain ⟨pa, hpa⟩ := hE.defs 49 (by decide)
  refine CallV_try (d := d + 12) (C := C) (G := G) (K₁ := Ext H) hta rfl bind_law_told X.err X.g ?_ ?_
  · show EVr cx (d + 12) _ (upd (upd (upd (upd (upd (upd (fun _ => none) "_law_which" k) "_law_web" v) "_law_other" o) "_law_row" r) "_law_more" m) "_law_move" mv) _ H _ _
    refine EVr_CallD hpa ?_
    walk_at "E"
    exact h pa hpa
  · intro H' e
    refine EXc.suite fun ev loc' hn => ?_
    refine EXc_Assign (EVc_List ?_)
    refine EVc_isi X.i0 hB hn (EVc_isi X.i1 hB hn (EVc_isi X.i2 hB hn ?_))
    refine ⟨by simp, fun a1 ha1 => ?_⟩
    have e1 : Ext H' (H'.put a1 (.list false [.bool (j == 0), .bool (j == 1), .bool (j == 2)])) := .put ha1
    have h1 : (H'.put a1 (.list false [.bool (j == 0), .bool (j == 1), .bool (j == 2)])) a1 = _ := Hp.put_self ..
    generalize H'.put a1 _ = H₁ at e1 h1 ⊢
    have hn1 : ∀ x, (upd loc' "_law_names" x) "error" = some (.ref ev) := fun x => (upd_ne (by decide)).trans hn
    refine EXc_Assign (EVc_AddList (EVc_Name (upd_self ..) (EVc_List ?_)))
    refine EVc_isi X.i3 hB (hn1 _) (EVc_isi X.i4 hB (hn1 _) (EVc_isi X.ve hB (hn1 _) ?_))
    refine ⟨by simp, fun a2 ha2 => ?_⟩
    refine ⟨a1, a2, false, false, _, _, rfl, rfl, (Ext.put ha2) _ _ h1, Hp.put_self .., by simp, by simp, fun a3 ha3 => ?_⟩
    have e2 : Ext H₁ (H₁.put a2 (.list false [.bool (j == 3), .bool (j == 4), .bool true])) := .put ha2
    generalize H₁.put a2 _ = H₂ at e2 ha3 ⊢
    have e3 : Ext H₂ (H₂.put a3 (.list false ((flags j ++ [true]).map .bool))) := .put ha3
    have h3 : (H₂.put a3 (.list false ((flags j ++ [true]).map .bool))) a3 = _ := Hp.put_self ..
    change EXc cx C ev _ _ _ (H₂.put a3 (.list false ((flags j ++ [true]).map .bool))) _
    generalize H₂.put a3 _ = H₃ at e3 h3 ⊢
    refine EXc_test (EVc_count (EVc_Name (upd_self ..) ⟨a3, false, flags j ++ [true], rfl, h3, ?_⟩))
    refine ⟨by rw [flags_count hj]; rfl, ?_⟩
    refine EVc_Sub (EVc_Name (upd_self ..) (EVc_int ⟨a3, false, _, .bool true, 5, rfl, rfl, h3, by simp [flags], rfl, ?_⟩))
    refine ⟨rfl, ?_⟩
    refine EXc_Return (EVc_Sub (EVc_List ?_))
    refine EVc_str (EVc_str (EVc_str (EVc_str (EVc_str ?_))))
    refine ⟨by simp, fun a4 ha4 => ?_⟩
    refine EVc_index (EVc_Name (upd_self ..) ⟨a3, false, flags j ++ [true], j, rfl, (Ext.put ha4) _ _ h3, by simp [flags], flags_at hj, flags_no hj, ?_⟩)
    refine ⟨a4, false, _, .str (toldWords.getD j ""), j, rfl, rfl, Hp.put_self .., by simp, ?_, rfl, (((e.trans e1).trans e2).trans e3).put_r ha4⟩
    exact told_at hj
theorem told_n (hE : PD cx) {ta : Addr} (hta : HasDef cx (defAt p01 50) ta) {sc : Scope} {loc : Loc} {k v o r m mv : AV}
    (h : ∀ ga, HasDef cx (defAt p01 49) ga → CW cx (d + 12) (.ref ga) [k, v, o, r, m, mv] H (fun _ H' => Ext H H')) : CallV cx (d + 13) sc loc ta [k, v, o, r, m, mv] H (.str "") (Ext H) := by
  have hB := hE.bs
  obtain ⟨pa, hpa⟩ := hE.defs 49 (by decide)
  refine CW.toV (CW_fn hta bind_law_told ?_)
  show EX cx (d + 12) _ (upd (upd (upd (upd (upd (upd (fun _ => none) "_law_which" k) "_law_web" v) "_law_other" o) "_law_row" r) "_law_more" m) "_law_move" mv) _ H _
  refine EX_cons (EX_TryOk (EX_cons (EX_ExprAny (EV_CallD hpa ?_))))
  walk_at "E"
  refine (h pa hpa).mono fun _ H' e => ?_
  walk_at "E"
  exact ⟨rfl, e⟩

end

-- L01m
set_option maxRecDepth 10000
set_option maxHeartbeats 4000000
section
variable {cx : Cx} {d : Nat} {H : Hp} {Q : AV → Hp → Prop}
theorem bad_row_spec (hE : PD cx) {fa : Addr} (hf : HasDef cx (defAt p01 47) fa) {b : Addr} {row : List Nat} {n : Nat} {c : Int} (hb : H b = some (.list false (rowV row))) (hn : row.length ≤ 24) (hlt : ∀ x ∈ row, x < n) (h200 : n ≤ 200)
    (hq : ∀ H' v, Ext H H' → NoRowArg H' n v → Q v H') : CW cx (d + 1) (.ref fa) [.ref b, .int n, .int c] H Q := by
  have hB := hE.bs
  refine CW_fn hf bind_law_bad_row ?_
  show EX cx d _ (upd (upd (upd (fun _ => none) "_law_row" (.ref b)) "_law_many" (.int n)) "_law_cell" (.int c)) _ H _
  refine EX_cons ?_
  walk_at "E"
  refine EV_List ?_
  walk_at "E"
  refine EV_Neg ?_
  walk_at "E"
  refine int_ok ?_
  walk_at "E"
  refine EV_List ?_
  walk_at "E"
  refine ⟨by simp, fun z hz => ?_⟩
  generalize hH1 : H.put z _ = H₁
  obtain ⟨e1, hz1⟩ := put_as (o' := .list false [.int 0]) hH1 hz rfl
  clear hH1
  walk_at "E"
  refine Op_pow (by decide) (by decide) ?_
  walk_at "E"
  refine ⟨by simp, fun o ho => ?_⟩
  generalize hH2 : H₁.put o _ = H₂
  obtain ⟨e2, ho2⟩ := put_as (o' := .list false (oddV n z)) hH2 ho rfl
  clear hH2
  have e02 := e1.trans e2
  have hz2 := e2 _ _ hz1
  obtain ⟨p, hp, hpl⟩ := modS (c / 10) row.length
  obtain ⟨k, hk, hkl⟩ : ∃ k : Nat, c % 10 = k ∧ k < 10 := modN c (n := 10) (by decide)
  walk_at "E"
  refine CW_len (e02 _ _ hb) (by walk_at "ln") ?_
  rw [rowV_length]
  walk_at "E"
  rw [hp, hk]
  refine ite_decL (n := 7) (fun h => ?_) (fun h => ?_)
  · walk_at "E"
    refine EV_Slice ?_
    walk_at "E"
    refine int_ok ?_
    walk_at "E"
    refine ⟨b, false, _, rfl, e02 _ _ hb, by walk_at "ln", fun s1 hs1 => ?_⟩
    rw [pySlice_to, show (rowV row).take p = rowV (row.take p) by simp [rowV, List.map_take]]
    generalize hH : H₂.put s1 _ = H₃
    obtain ⟨e3, h3⟩ := put_as hH hs1 rfl
    clear hH
    walk_at "E"
    refine EV_List ?_
    walk_at "E"
    rw [hk]
    obtain ⟨w, hw⟩ := oddV_get (n := n) (z := z) (k := k) h
    refine Get_list (e3 _ _ ho2) (by walk_at "nn") (by simp [oddV]) (v := w) (by rw [Int.toNat_natCast]; exact hw) ?_
    walk_at "E"
    refine ⟨by simp, fun s2 hs2 => ?_⟩
    generalize hH : H₃.put s2 _ = H₄
    obtain ⟨e4, h4⟩ := put_as hH hs2 rfl
    clear hH
    have hpt : (row.take p).length ≤ 24 := Nat.le_trans (List.length_take_le' ..) hn
    refine Op_addList (e4 _ _ h3) h4 (by walk_at "ln") (by simp) fun s3 hs3 => ?_
    generalize hH : H₄.put s3 _ = H₅
    obtain ⟨e5, h5⟩ := put_as hH hs3 rfl
    clear hH
    have e25 := (e3.trans e4).trans e5
    walk_at "E"
    refine EV_Slice ?_
    walk_at "E"
    refine int_ok ?_
    walk_at "E"
    refine ⟨b, false, _, rfl, e25 _ _ (e02 _ _ hb), by walk_at "ln", fun s4 hs4 => ?_⟩
    rw [pySlice_from _ (by rw [rowV_length]; exact Nat.le_of_lt_succ hpl), show (rowV row).drop p = rowV (row.drop p) by simp [rowV, List.map_drop]]
    generalize hH : H₅.put s4 _ = H₆
    obtain ⟨e6, h6⟩ := put_as hH hs4 rfl
    clear hH
    have hpd : (row.drop p).length ≤ 24 := Nat.le_trans (by rw [List.length_drop]; exact Nat.sub_le ..) hn
    refine Op_addList (e6 _ _ h5) h6 (by rw [List.length_append, rowV_length, List.length_singleton]; omega) (by walk_at "ln") fun s5 hs5 => ?_
    generalize hH : H₆.put s5 _ = H₇
    obtain ⟨e7, h7⟩ := put_as hH hs5 rfl
    clear hH
    have e27 := (e25.trans e6).trans e7
    walk_at "E"
    refine hq _ _ (e02.trans e27) (.inr ⟨s5, false, _, rfl, h7, ?_, .inr ⟨row.take p, w, rowV (row.drop p), by simp, fun g hg => hlt g (List.mem_of_mem_take hg), (odd_no hz2 h200 hw).ext e27⟩⟩)
    rw [List.length_append, List.length_append, rowV_length, rowV_length, List.length_singleton]; omega
  · walk_at "E"
    refine EV_List ?_
    walk_at "E"
    refine EV_List ?_
    walk_at "E"
    refine ⟨by simp, fun s1 hs1 => ?_⟩
    generalize hH : H₂.put s1 _ = H₃
    obtain ⟨e3, h3⟩ := put_as (o' := .list false [.int 0]) hH hs1 rfl
    clear hH
    walk_at "E"
    refine Op_mulList h3 (by decide) (by decide) (by simp) fun s2 hs2 => ?_
    generalize hH : H₃.put s2 _ = H₄
    obtain ⟨e4, h4⟩ := put_as (o' := .list false (List.replicate 25 [AV.int 0]).flatten) hH hs2 rfl
    clear hH
    walk_at "E"
    refine CW_tuple (e4 _ _ (e3 _ _ (e02 _ _ hb))) (by walk_at "ln") fun s3 hs3 => ?_
    generalize hH : H₄.put s3 _ = H₅
    obtain ⟨e5, h5⟩ := put_as hH hs3 rfl
    clear hH
    walk_at "E"
    refine ⟨by simp, fun s4 hs4 => ?_⟩
    generalize hH : H₅.put s4 _ = H₆
    obtain ⟨e6, h6⟩ := put_as (o' := .list false [.ref s2, .ref s3, .none]) hH hs4 rfl
    clear hH
    have e06 := (((e02.trans e3).trans e4).trans e5).trans e6
    walk_at "E"
    rw [hk]
    obtain rfl | rfl | rfl := k789 h hkl
    · refine Get_list h6 (by decide) (by simp) (v := .ref s2) rfl ?_
      walk_at "E"
      exact hq _ _ e06 (.inr ⟨s2, false, _, rfl, e6 _ _ (e5 _ _ h4), by decide, .inl (by decide)⟩)
    · refine Get_list h6 (by decide) (by simp) (v := .ref s3) rfl ?_
      walk_at "E"
      exact hq _ _ e06 (.inl (.inl ⟨_, e6 _ _ h5⟩))
    · refine Get_list h6 (by decide) (by simp) (v := .none) rfl ?_
      walk_at "E"
      exact hq _ _ e06 (.inl trivial)
theorem ringed_spec (hE : PD cx) {fa : Addr} (hf : HasDef cx (defAt p01 46) fa) {a : Addr} {web : List (List Nat)} {c : Int} (hW : IsWeb H a web) (hG : GoodWeb web)
    (hq : ∀ H' f web', Ext H H' → NewWeb H H' f web' → GoodWeb web' → web'.length = web.length → Ringy web' → Q (.ref f) H') : CW cx (d + 2) (.ref fa) [.ref a, .int c] H Q := by
  have hB := hE.bs
  have hpos := hG.pos
  have hm := hG.most
  obtain ⟨ca, hca⟩ := hE.defs 44 (by decide)
  refine CW_fn hf bind_law_ringed ?_
  show EX cx (d + 1) _ (upd (upd (fun _ => none) "_law_web" (.ref a)) "_law_cell" (.int c)) _ H _
  refine EX_cons ?_
  walk_at "E"
  refine EV_CallD hca ?_
  walk_at "E"
  refine copied_spec hE hca hW hG fun H₁ f e1 N1 => ?_
  obtain ⟨fs, Wf, hf0, hfs0⟩ := N1
  obtain ⟨rs, W⟩ := hW.ext e1
  have hl := W.len
  walk_at "E"
  refine CW_len W.top (by walk_at "ln") ?_
  rw [List.length_map, hl]
  walk_at "E"
  refine CW_min2 ?_
  obtain ⟨mn, hmn, hm1, hm2⟩ : ∃ mn : Nat, min (3 : Int) (web.length : Int) = mn ∧ 1 ≤ mn ∧ mn ≤ web.length := ⟨min 3 web.length, by omega, by omega, by omega⟩
  rw [hmn]
  obtain ⟨q, hq1, hq2⟩ := modN c hm1
  walk_at "E"
  rw [hq1]
  have hq3 : (1 : Int) + (q : Int) = ((q + 1 : Nat) : Int) := by omega
  rw [hq3]
  have hmany1 : 1 ≤ q + 1 := by omega
  have hmany2 : q + 1 ≤ web.length := by omega
  generalize q + 1 = many at hmany1 hmany2 ⊢
  clear hq1 hq2 hq3
  refine EX_AssignComp ?_
  walk_at "E"
  refine CW_range1 fun r1 hr1 => ?_
  have e2 : Ext H₁ (H₁.put r1 (.range 0 many)) := .put hr1
  have Wf2 := Wf.ext e2
  have W2 := W.ext e2
  refine ⟨_, _, .range (Hp.put_self ..) (by decide) (by decide) (by omega) (by omega), by rw [spanZ_length]; omega, ?_⟩
  generalize H₁.put r1 _ = H₂ at e2 Wf2 W2 ⊢
  rw [spanZ0]
  refine CompW_map (List.range many) _ (fun (j : Nat) => AV.int ((((c / 3 + (j : Int)) % (web.length : Int)).toNat : Nat) : Int)) trivial (fun j hj => ?_) (fun s1 hs1 => ?_)
  · walk_at "E"
    refine CW_len W2.top (by walk_at "ln") ?_
    rw [List.length_map, hl]
    walk_at "E"
    refine ⟨?_, rfl⟩
    congr 1
    rw [Int.toNat_of_nonneg (Int.emod_nonneg _ (by omega))]
  have hsp : ∀ j, ((c / 3 + ((j : Nat) : Int)) % (web.length : Int)).toNat < web.length := fun j => by
    have h1 := Int.emod_lt_of_pos (c / 3 + (j : Int)) (show (0 : Int) < web.length by omega)
    have h2 := Int.emod_nonneg (c / 3 + (j : Int)) (show (web.length : Int) ≠ 0 by omega)
    omega
  have hrow : (List.range many).map (fun (j : Nat) => AV.int ((((c / 3 + (j : Int)) % (web.length : Int)).toNat : Nat) : Int)) = tabV many (fun j => AV.int ((((c / 3 + ((j : Nat) : Int)) % (web.length : Int)).toNat : Nat) : Int)) := rfl
  rw [hrow]
  generalize hspd : (fun (j : Nat) => ((c / 3 + (j : Int)) % (web.length : Int)).toNat) = sp
  have hsp' : ∀ j, ((c / 3 + ((j : Nat) : Int)) % (web.length : Int)).toNat = sp j := fun j => by rw [← hspd]
  simp only [hsp'] at hsp ⊢
  generalize hH3 : H₂.put s1 _ = H₃
  obtain ⟨e3, h3⟩ := put_as hH3 hs1 rfl
  clear hH3
  have e13 := e2.trans e3
  have hsn : H s1 = none := (e1.trans e2).none hs1
  have hsf : s1 ≠ f := fun z => by have := Wf2.top; rw [← z, hs1] at this; cases this
  have Wf3 := Wf2.ext e3
  have e03 := e1.trans e13
  have hs3 : ∀ {r : Addr}, r ∈ fs → r ≠ s1 := fun {r} hr z => by
    obtain ⟨ns, _, h⟩ := Wf2.mem hr
    rw [z, hs1] at h; cases h
  have lenT : (tabV many fun j => AV.int (sp j : Nat)).length = many := by simp [tabV]
  clear e1 e2 e3 e13 Wf W Wf2 W2 hr1 hs1 hsp' hspd hrow
  walk_at "E"
  refine EX_ForR ?_
  walk_at "E"
  refine CW_range1 fun r2 hr2 => ?_
  have e4 : Ext H₃ (H₃.put r2 (.range 0 many)) := .put hr2
  refine forQ ⟨_, _, .range (Hp.put_self ..) (by decide) (by decide) (by omega) (by omega), fun k l' H' => l' "_law_found" = some (.ref f) ∧ l' "_law_spots" = some (.ref s1) ∧ l' "_law_many" = some (.int many) ∧ Ext H H' ∧ H' s1 = some (.list false (tabV many fun j => AV.int (sp j : Nat))) ∧
      ∃ web', WebAt H' f fs web' ∧ GoodWeb web' ∧ web'.length = web.length ∧ ∀ j < k, j < many → sp ((j + 1) % many) ∈ web'.getD (sp j) [],
    ⟨by walk_at "lk", by walk_at "lk", by walk_at "lk", e03.trans e4, e4 _ _ h3, web, Wf3.ext e4, hG, rfl, by omega⟩, ?_, ?_, ?_⟩
  · intros; trivial
  · rintro k w l' H' hi ⟨g1, g2, g3, e, hs, web', W', hG', hlen', hed⟩ R hR
    obtain ⟨hk, rfl⟩ := spanZ_get hi
    rw [Int.zero_add]
    have hk' : k < many := by omega
    have hfl := W'.len
    have hlx := hsp k
    have hly := hsp ((k + 1) % many)
    have hmod : ((k : Int) + 1) % (many : Int) = (((k + 1) % many : Nat) : Int) := by rw [Int.natCast_emod]; rfl
    have hml : (k + 1) % many < many := Nat.mod_lt _ (by omega)
    obtain ⟨r, q1, q2, q3⟩ := W'.at (i := sp k) (by omega)
    have hz := hG'.rowLen (sp k)
    refine EX_cons ?_
    walk_at "E"
    rw [hmod]
    refine Get_list hs (by walk_at "nn") (by rw [lenT]; omega) (v := .int (sp ((k + 1) % many) : Nat)) (by rw [Int.toNat_natCast]; exact tabV_get hml) ?_
    walk_at "E"
    refine Get_list hs (by walk_at "nn") (by rw [lenT]; omega) (v := .int (sp k : Nat)) (by rw [Int.toNat_natCast]; exact tabV_get hk') ?_
    refine Get_list W'.top (by walk_at "nn") (by rw [List.length_map]; omega) (v := .ref r) q2 ?_
    refine Op_notInRow q3 ?_
    walk_at "E"
    refine ite_dec (fun hn => ?_) (fun hn => ?_)
    · walk_at "E"
      refine EV_Meth F.slot_list_append F.type_list_append ?_
      walk_at "E"
      refine Get_list hs (by walk_at "nn") (by rw [lenT]; omega) (v := .int (sp k : Nat)) (by rw [Int.toNat_natCast]; exact tabV_get hk') ?_
      refine Get_list W'.top (by walk_at "nn") (by rw [List.length_map]; omega) (v := .ref r) q2 ?_
      refine ⟨r, false, _, rfl, q3, ?_⟩
      walk_at "E"
      rw [hmod]
      refine Get_list hs (by walk_at "nn") (by rw [lenT]; omega) (v := .int (sp ((k + 1) % many) : Nat)) (by rw [Int.toNat_natCast]; exact tabV_get hml) ?_
      walk_at "E"
      refine CW_append q3 (by rw [rowV_length]; omega) ?_
      refine ⟨rfl, ?_⟩
      walk_at "E"
      have e2 : rowV (web'.getD (sp k) []) ++ [AV.int (sp ((k + 1) % many) : Nat)] = rowV (web'.getD (sp k) [] ++ [sp ((k + 1) % many)]) := by simp [rowV]
      rw [e2]
      have hrf : r ∈ fs := List.mem_of_getElem? q1
      refine hR _ _ ⟨by walk_at "lk", by walk_at "lk", by walk_at "lk", e.own (hfs0 r hrf), ?_, _, W'.set q1 _, goodWeb_add hG' (by omega) (by omega) hn, by rw [List.length_set]; exact hlen', fun j hj hjm => ?_⟩
      · rw [Hp.put_ne (fun z => hs3 hrf z.symm)]; exact hs
      · by_cases z : sp j = sp k
        · rw [z, getD_set_self (by omega)]
          by_cases hjk : j = k
          · subst hjk; simp
          · have := hed j (by omega) hjm
            rw [z] at this
            exact List.mem_append_left _ this
        · rw [getD_set_ne (fun q => z q.symm)]
          exact hed j (by have : j ≠ k := fun q => z (by rw [q]); omega) hjm
    · walk_at "E"
      refine hR _ _ ⟨by walk_at "lk", by walk_at "lk", by walk_at "lk", e, hs, web', W', hG', hlen', fun j hj hjm => ?_⟩
      by_cases hjk : j = k
      · subst hjk; exact Decidable.of_not_not hn
      · exact hed j (by omega) hjm
  · rintro l' H' ⟨g1, g2, g3, e, hs, web', W', hG', hlen', hed⟩
    rw [spanZ_length] at hed
    walk_at "E"
    exact hq H' f web' e ⟨fs, W', hf0, hfs0⟩ hG' hlen' ⟨many, sp, hmany1, fun k hk => by rw [hlen']; exact hsp k, fun k hk => hed k (by omega) hk⟩

end

-- L01n
set_option maxRecDepth 10000
set_option maxHeartbeats 4000000
section
variable {cx : Cx} {d : Nat} {H : Hp} {Q : AV → Hp → Prop}
theorem spoilt_spec (hE : PD cx) {fa : Addr} (hf : HasDef cx (defAt p01 45) fa) {a : Addr} {web : List (List Nat)} {c : Int} (hW : IsWeb H a web) (hG : GoodWeb web) (h40 : web.length ≤ 40)
    (hq : ∀ H' v, Ext H H' → BadWeb H' v → Q v H') : CW cx (d + 2) (.ref fa) [.ref a, .int c] H Q := by
  have hB := hE.bs
  have hpos := hG.pos
  have hm := hG.most
  obtain ⟨ca, hca⟩ := hE.defs 44 (by decide)
  obtain ⟨rs, W⟩ := id hW
  have hl := W.len
  refine CW_fn hf bind_law_spoilt ?_
  show EX cx (d + 1) _ (upd (upd (fun _ => none) "_law_web" (.ref a)) "_law_cell" (.int c)) _ H _
  obtain ⟨p, hp, hpl⟩ := modN (c / 14) hpos
  obtain ⟨k, hk, hkl⟩ : ∃ k : Nat, c % 14 = k ∧ k < 14 := modN c (n := 14) (by decide)
  refine EX_cons ?_
  walk_at "E"
  refine CW_len W.top (by walk_at "ln") ?_
  rw [List.length_map, hl]
  walk_at "E"
  rw [hp]
  refine EV_List ?_
  walk_at "E"
  refine CW_len W.top (by walk_at "ln") ?_
  rw [List.length_map, hl]
  walk_at "E"
  refine EV_Neg ?_
  walk_at "E"
  refine int_ok ?_
  walk_at "E"
  refine EV_List ?_
  walk_at "E"
  refine ⟨by simp, fun z hz => ?_⟩
  generalize hH1 : H.put z _ = H₁
  obtain ⟨e1, hz1⟩ := put_as (o' := .list false [.int 0]) hH1 hz rfl
  clear hH1
  walk_at "E"
  refine Op_pow (by decide) (by decide) ?_
  walk_at "E"
  refine ⟨by simp, fun o ho => ?_⟩
  generalize hH2 : H₁.put o _ = H₂
  obtain ⟨e2, ho2⟩ := put_as (o' := .list false (oddV web.length z)) hH2 ho rfl
  clear hH2
  walk_at "E"
  refine EV_CallD hca ?_
  walk_at "E"
  refine copied_spec hE hca (hW.ext (e1.trans e2)) hG fun H₃ f e3 N3 => ?_
  have e12 := e1.trans e2
  have e03 := e12.trans e3
  have hz2 := e2 _ _ hz1
  have hz3 := e3 _ _ hz2
  have ho3 := e3 _ _ ho2
  obtain ⟨fs, Wf, hf2, hfs2⟩ := N3
  have hf0 : H f = none := e12.none hf2
  have hfs0 : ∀ r ∈ fs, H r = none := fun r hr => e12.none (hfs2 r hr)
  have hfl := Wf.len
  clear hz ho e1 e2 e3 hz1 ho2 e12
  obtain ⟨r, q1, q2, q3⟩ := Wf.at hpl
  have hrf : r ∈ fs := List.mem_of_getElem? q1
  have hns := hG.row p
  have hrl := Nat.le_trans (hG.rowLen p) hm
  generalize hnsd : web.getD p [] = ns at q3 hns hrl
  refine at_next ?_
  generalize hl0 : upd _ "_law_found" (.ref f) = l0
  have gw : l0 "_law_web" = some (.ref a) := by rw [← hl0]; walk_at "lk"
  have gc : l0 "_law_cell" = some (.int c) := by rw [← hl0]; walk_at "lk"
  have ga : l0 "_law_at" = some (.int p) := by rw [← hl0]; walk_at "lk"
  have go : l0 "_law_odd" = some (.ref o) := by rw [← hl0]; walk_at "lk"
  have gf : l0 "_law_found" = some (.ref f) := by rw [← hl0]; walk_at "lk"
  clear hl0
  walk_at "E"
  rw [hk]
  refine ite_decL (n := 7) (fun h7 => ?_) (fun h7 => ?_)
  · -- an odd thing in a row
    obtain ⟨w, hw⟩ := oddV_get (n := web.length) (z := z) (k := k) h7
    obtain ⟨j, hj, hjl⟩ := modS (c / 14) ns.length
    walk_at "E"
    refine EV_Meth F.slot_list_insert F.type_list_insert ?_
    walk_at "E"
    refine Get_list Wf.top (by walk_at "nn") (by walk_at "ln") (v := .ref r) (by rw [Int.toNat_natCast]; exact q2) ?_
    refine ⟨r, false, _, rfl, q3, ?_⟩
    walk_at "E"
    refine Get_list Wf.top (by walk_at "nn") (by walk_at "ln") (v := .ref r) (by rw [Int.toNat_natCast]; exact q2) ?_
    walk_at "E"
    refine CW_len q3 (by walk_at "ln") ?_
    rw [rowV_length]
    walk_at "E"
    rw [hj, hk]
    refine Get_list ho3 (by walk_at "nn") (by simp [oddV]) (v := w) (by rw [Int.toNat_natCast]; exact hw) ?_
    walk_at "E"
    refine CW_insert q3 (by walk_at "ln") (by walk_at "nn") (by rw [rowV_length]; omega) ?_
    refine ⟨rfl, ?_⟩
    rw [Int.toNat_natCast, show (rowV ns).take j = rowV (ns.take j) by simp [rowV, List.map_take], show (rowV ns).drop j = rowV (ns.drop j) by simp [rowV, List.map_drop]]
    have hzr : z ≠ r := fun q => by rw [q, hfs2 r hrf] at hz2; cases hz2
    have e4 : Ext H (H₃.put r (.list false (rowV (ns.take j) ++ w :: rowV (ns.drop j)))) := e03.own (hfs0 r hrf)
    have hz4 : (H₃.put r (.list false (rowV (ns.take j) ++ w :: rowV (ns.drop j)))) z = _ := (Hp.put_ne hzr).trans hz3
    have hr4 : (H₃.put r (.list false (rowV (ns.take j) ++ w :: rowV (ns.drop j)))) r = _ := Hp.put_self ..
    have hoth : ∀ x, x ≠ r → (H₃.put r (.list false (rowV (ns.take j) ++ w :: rowV (ns.drop j)))) x = H₃ x := fun x hx => Hp.put_ne hx
    generalize H₃.put r _ = H₄ at e4 hz4 hr4 hoth ⊢
    walk_at "E"
    refine hq _ _ e4 ?_
    refine badWeb_of (n := web.length) (at_ := p) ((hoth f fun q => Wf.apart (q ▸ hrf)).trans Wf.top) (by rw [List.length_map]; exact hfl) hm hpl (fun i v hi hne => ?_) (fun v hv => ?_)
    · obtain ⟨x, ms, rfl, hx, hx2⟩ := Wf.good hG (Nat.le_refl _) hi
      refine ⟨x, ms, rfl, (hoth x fun q => ?_).trans hx, hx2⟩
      subst q
      rw [List.getElem?_map] at hi
      obtain ⟨x', hx', e'⟩ := Option.map_eq_some_iff.mp hi
      cases e'
      exact hne (nodup_idx Wf.nodup hx' q1)
    · rw [q2] at hv
      cases hv
      exact .inr ⟨r, false, ns.take j, w, _, rfl, hr4, hns.1.sublist (List.take_sublist ..), fun g hg => hns.2 g (List.mem_of_mem_take hg), .inl (odd_no hz4 hm hw)⟩
  refine EX_nil (at_next ?_)
  refine EX_cutR (fun l' H' => l' "_law_cell" = some (.int c) ∧ l' "_law_web" = some (.ref a) ∧ l' "_law_at" = some (.int p) ∧ l' "_law_found" = some (.ref f) ∧ Ext H H' ∧ ((k < 8 ∧ BadWeb H' (.ref f)) ∨ (8 ≤ k ∧ WebAt H' f fs web))) (fun R hR => ?_) ?_
  · walk_at "E"
    rw [hk]
    refine ite_decN (n := 7) (fun h => ?_) (fun h => ?_)
    · -- one spot twice
      obtain ⟨dbl, hd, hdl⟩ := modN (c / 14 % 7) hpos
      walk_at "E"
      refine CW_len (e03 _ _ W.top) (by walk_at "ln") ?_
      rw [List.length_map, hl]
      walk_at "E"
      rw [hd]
      refine EX_AssignComp ?_
      walk_at "E"
      refine Get_list Wf.top (by walk_at "nn") (by walk_at "ln") (v := .ref r) (by rw [Int.toNat_natCast]; exact q2) ?_
      refine ⟨_, _, .list q3, by walk_at "ln", ?_⟩
      refine CompW_filter ns (fun (x : Nat) => AV.int (x : Int)) (fun (x : Nat) => AV.int (x : Int)) (fun x => decide (x ≠ dbl)) q3 (fun x hx => ?_) (fun x hx _ => ?_) (fun s1 hs1 => ?_)
      · walk_at "E"
        refine ⟨?_, rfl⟩
        rw [decide_eq_decide]; omega
      · walk_at "E"
        exact ⟨rfl, rfl⟩
      have hoth : ∀ x ∈ ns.filter fun x => decide (x ≠ dbl), x ∈ ns ∧ x ≠ dbl := fun x hx => by simpa using hx
      have hon : (ns.filter fun x => decide (x ≠ dbl)).Nodup := hns.1.filter _
      have hol : (ns.filter fun x => decide (x ≠ dbl)).length ≤ 200 := Nat.le_trans (List.length_filter_le ..) (by omega)
      generalize (ns.filter fun x => decide (x ≠ dbl)) = ot at hoth hon hol ⊢
      generalize hH : H₃.put s1 _ = H₄
      obtain ⟨e4, h4⟩ := put_as (o' := .list false (rowV ot)) hH hs1 rfl
      clear hH
      obtain ⟨fr, hfr, hfrl⟩ := modS (c / 98) ot.length
      walk_at "E"
      refine CW_len h4 (by walk_at "ln") ?_
      rw [rowV_length]
      walk_at "E"
      rw [hfr]
      refine EV_List ?_
      walk_at "E"
      refine ⟨by simp, fun s2 hs2 => ?_⟩
      generalize hH : H₄.put s2 _ = H₅
      obtain ⟨e5, h5⟩ := put_as (o' := .list false (rowV [dbl])) hH hs2 rfl
      clear hH
      walk_at "E"
      refine EV_Slice ?_
      walk_at "E"
      refine int_ok ?_
      walk_at "E"
      refine ⟨s1, false, _, rfl, e5 _ _ h4, by walk_at "ln", fun s3 hs3 => ?_⟩
      rw [pySlice_to, show (rowV ot).take fr = rowV (ot.take fr) by simp [rowV, List.map_take]]
      generalize hH : H₅.put s3 _ = H₆
      obtain ⟨e6, h6⟩ := put_as hH hs3 rfl
      clear hH
      have htl : (ot.take fr).length ≤ 200 := Nat.le_trans (List.length_take_le' ..) hol
      refine Op_addList (e6 _ _ h5) h6 (by simp [rowV]) (by walk_at "ln") fun s4 hs4 => ?_
      rw [← rowV_append]
      generalize hH : H₆.put s4 _ = H₇
      obtain ⟨e7, h7⟩ := put_as hH hs4 rfl
      clear hH
      walk_at "E"
      refine EV_List ?_
      walk_at "E"
      refine ⟨by simp, fun s5 hs5 => ?_⟩
      generalize hH : H₇.put s5 _ = H₈
      obtain ⟨e8, h8⟩ := put_as (o' := .list false [.int (dbl : Nat)]) hH hs5 rfl
      clear hH
      refine Op_addList (e8 _ _ h7) h8 (by rw [rowV_length, List.length_append, List.length_singleton]; omega) (by simp) fun s6 hs6 => ?_
      generalize hH : H₈.put s6 _ = H₉
      obtain ⟨e9, h9⟩ := put_as hH hs6 rfl
      clear hH
      walk_at "E"
      refine EV_Slice ?_
      walk_at "E"
      refine int_ok ?_
      walk_at "E"
      have e59 := (((e5.trans e6).trans e7).trans e8).trans e9
      refine ⟨s1, false, _, rfl, e59 _ _ h4, by walk_at "ln", fun s7 hs7 => ?_⟩
      rw [pySlice_from _ (by rw [rowV_length]; exact Nat.le_of_lt_succ hfrl), show (rowV ot).drop fr = rowV (ot.drop fr) by simp [rowV, List.map_drop]]
      generalize hH : H₉.put s7 _ = Ha
      obtain ⟨ea, ha⟩ := put_as hH hs7 rfl
      clear hH
      have hdl' : (ot.drop fr).length ≤ 200 := Nat.le_trans (by rw [List.length_drop]; exact Nat.sub_le ..) hol
      refine Op_addList (ea _ _ h9) ha (by rw [List.length_append, rowV_length, List.length_append, List.length_singleton, List.length_singleton]; omega) (by walk_at "ln") fun s8 hs8 => ?_
      generalize hH : Ha.put s8 _ = Hb
      obtain ⟨eb, hb⟩ := put_as hH hs8 rfl
      clear hH
      have e3b := ((e4.trans e59).trans ea).trans eb
      have Wb := Wf.ext e3b
      have hs8f : s8 ≠ f := fun q => by
        have := (((e4.trans e59).trans ea) _ _ Wf.top); rw [← q, hs8] at this; cases this
      walk_at "E"
      refine Set_list Wb.top (by walk_at "nn") (by rw [List.length_map, hfl]; exact Int.ofNat_lt.mpr hpl) (by walk_at "ln") ?_
      rw [Int.toNat_natCast]
      walk_at "E"
      refine hR _ _ ⟨by walk_at "lk", by walk_at "lk", by walk_at "lk", by walk_at "lk", (e03.trans e3b).own hf0, .inl ⟨by omega, badWeb_set Wb hG hpl (.inr ⟨s8, false, [dbl] ++ ot.take fr, .int (dbl : Nat), rowV (ot.drop fr), rfl, ?_, ?_, ?_, .inr ⟨dbl, by simp, rfl⟩⟩)⟩⟩
      · rw [Hp.put_ne hs8f, hb]; simp
      · refine List.nodup_cons.mpr ⟨fun hmem => (hoth dbl (List.mem_of_mem_take hmem)).2 rfl, hon.sublist (List.take_sublist ..)⟩
      · intro g hg
        rcases List.mem_cons.mp hg with rfl | hg
        · exact hdl
        · exact hns.2 g (hoth g (List.mem_of_mem_take hg)).1
    · walk_at "E"
      exact hR _ _ ⟨by walk_at "lk", by walk_at "lk", by walk_at "lk", by walk_at "lk", e03, .inr ⟨by omega, Wf⟩⟩
  clear q3 ho3 hz3
  rintro l1 Ha ⟨g1, g2, g3, g4, ea, hS⟩
  refine EX_cutR (fun l' H' => l' "_law_cell" = some (.int c) ∧ l' "_law_web" = some (.ref a) ∧ l' "_law_at" = some (.int p) ∧ l' "_law_found" = some (.ref f) ∧ Ext H H' ∧ ((k < 9 ∧ BadWeb H' (.ref f)) ∨ (9 ≤ k ∧ WebAt H' f fs web))) (fun R hR => ?_) ?_
  · walk_at "E"
    rw [hk]
    refine ite_decN (n := 8) (fun h => ?_) (fun h => ?_)
    · obtain ⟨_, Wa⟩ := hS.resolve_left (fun z => absurd h (Nat.ne_of_lt z.1))
      obtain ⟨r', u1, u2, u3⟩ := Wa.at hpl
      rw [hnsd] at u3
      walk_at "E"
      refine Get_list Wa.top (by walk_at "nn") (by walk_at "ln") (v := .ref r') (by rw [Int.toNat_natCast]; exact u2) ?_
      walk_at "E"
      refine CW_tuple u3 (by walk_at "ln") fun s1 hs1 => ?_
      have e4 : Ext Ha (Ha.put s1 (.tuple (rowV ns))) := .put hs1
      have h4 : (Ha.put s1 (.tuple (rowV ns))) s1 = _ := Hp.put_self ..
      have hsf : s1 ≠ f := fun q => by have := Wa.top; rw [← q, hs1] at this; cases this
      generalize Ha.put s1 _ = Hb at e4 h4 ⊢
      have Wb := Wa.ext e4
      walk_at "E"
      refine Set_list Wb.top (by walk_at "nn") (by rw [List.length_map, hfl]; exact Int.ofNat_lt.mpr hpl) (by walk_at "ln") ?_
      rw [Int.toNat_natCast]
      walk_at "E"
      exact hR _ _ ⟨by walk_at "lk", by walk_at "lk", by walk_at "lk", by walk_at "lk", (ea.trans e4).own hf0, .inl ⟨by omega, badWeb_set Wb hG hpl (.inl (.inl ⟨_, (Hp.put_ne hsf).trans h4⟩))⟩⟩
    · walk_at "E"
      exact hR _ _ ⟨by walk_at "lk", by walk_at "lk", by walk_at "lk", by walk_at "lk", ea, hS.imp (fun z => ⟨Nat.lt_succ_of_lt z.1, z.2⟩) (fun z => ⟨ge_ne z.1 h, z.2⟩)⟩
  clear g1 g2 g3 g4 ea hS
  rintro l2 Hb ⟨g1, g2, g3, g4, ea, hS⟩
  refine EX_cutR (fun l' H' => l' "_law_cell" = some (.int c) ∧ l' "_law_web" = some (.ref a) ∧ l' "_law_at" = some (.int p) ∧ l' "_law_found" = some (.ref f) ∧ Ext H H' ∧ ((k < 10 ∧ BadWeb H' (.ref f)) ∨ (10 ≤ k ∧ WebAt H' f fs web))) (fun R hR => ?_) ?_
  · walk_at "E"
    rw [hk]
    refine ite_decN (n := 9) (fun h => ?_) (fun h => ?_)
    · obtain ⟨_, Wa⟩ := hS.resolve_left (fun z => absurd h (Nat.ne_of_lt z.1))
      walk_at "E"
      refine Set_list Wa.top (by walk_at "nn") (by rw [List.length_map, hfl]; exact Int.ofNat_lt.mpr hpl) (by walk_at "ln") ?_
      rw [Int.toNat_natCast]
      walk_at "E"
      exact hR _ _ ⟨by walk_at "lk", by walk_at "lk", by walk_at "lk", by walk_at "lk", ea.own hf0, .inl ⟨by omega, badWeb_set Wa hG hpl (.inl trivial)⟩⟩
    · walk_at "E"
      exact hR _ _ ⟨by walk_at "lk", by walk_at "lk", by walk_at "lk", by walk_at "lk", ea, hS.imp (fun z => ⟨Nat.lt_succ_of_lt z.1, z.2⟩) (fun z => ⟨ge_ne z.1 h, z.2⟩)⟩
  clear g1 g2 g3 g4 ea hS
  rintro l3 Hc ⟨g1, g2, g3, g4, ea, hS⟩
  refine EX_cutR (fun l' H' => l' "_law_cell" = some (.int c) ∧ l' "_law_web" = some (.ref a) ∧ l' "_law_found" = some (.ref f) ∧ Ext H H' ∧ ((k < 11 ∧ BadWeb H' (.ref f)) ∨ 11 ≤ k)) (fun R hR => ?_) ?_
  · walk_at "E"
    rw [hk]
    refine ite_decN (n := 10) (fun h => ?_) (fun h => ?_)
    · obtain ⟨_, Wa⟩ := hS.resolve_left (fun z => absurd h (Nat.ne_of_lt z.1))
      walk_at "E"
      refine EV_Meth F.slot_list_insert F.type_list_insert ?_
      walk_at "E"
      refine ⟨f, false, _, rfl, Wa.top, ?_⟩
      walk_at "E"
      refine CW_insert Wa.top (by walk_at "ln") (by walk_at "nn") (by rw [List.length_map]; omega) ?_
      refine ⟨rfl, ?_⟩
      rw [Int.toNat_natCast]
      walk_at "E"
      exact hR _ _ ⟨by walk_at "lk", by walk_at "lk", by walk_at "lk", ea.own hf0, .inl ⟨by omega, badWeb_ins Wa hG h40 5 p (by omega)⟩⟩
    · walk_at "E"
      exact hR _ _ ⟨by walk_at "lk", by walk_at "lk", by walk_at "lk", ea, hS.imp (fun z => ⟨Nat.lt_succ_of_lt z.1, z.2⟩) (fun z => ge_ne z.1 h)⟩
  clear g1 g2 g3 g4 ea hS
  rintro l4 Hd ⟨g1, g2, g4, ea, hS⟩
  refine EX_cons ?_
  walk_at "E"
  rw [hk]
  refine ite_decN (n := 11) (fun h => ?_) (fun h => ?_)
  · walk_at "E"
    refine EV_ListComp ?_
    walk_at "E"
    refine CW_range1 fun r1 hr1 => ?_
    have e1 : Ext Hd (Hd.put r1 (.range 0 201)) := .put hr1
    refine ⟨_, _, .range (Hp.put_self ..) (by decide) (by decide) (by decide) (by decide), by rw [spanZ_length]; decide, ?_⟩
    generalize Hd.put r1 _ = He at e1 ⊢
    rw [show spanZ 0 201 = (List.range 201).map fun (i : Nat) => AV.int (i : Int) from spanZ0 201]
    refine CompW_rows (List.range 201) _ (fun _ => []) (fun _ _ => trivial) (fun i H' Q' hi he kk => ?_) (fun qs H' he hlen _ _ _ s hs => ?_)
    · refine EV_List ?_
      walk_at "E"
      exact ⟨by simp, kk⟩
    · walk_at "E"
      refine hq _ _ ((ea.trans e1).trans (he.put_r hs)) (.inr ⟨s, false, _, rfl, Hp.put_self .., ?_, .inr (.inl ?_)⟩)
      · rw [List.length_map, hlen, List.length_range]; decide
      · rw [List.length_map, hlen, List.length_range]; decide
  walk_at "E"
  rw [hk]
  refine ite_decL (n := 12) (fun h12 => ?_) (fun h12 => ?_)
  · walk_at "E"
    rcases hS with hS | hS
    · exact hq _ _ ea hS.2
    · omega
  obtain ⟨i, hi, hil⟩ : ∃ i : Nat, c / 14 % 6 = i ∧ i < 6 := modN (c / 14) (n := 6) (by decide)
  walk_at "E"
  refine EV_List ?_
  walk_at "E"
  refine EV_List ?_
  walk_at "E"
  refine ⟨by simp, fun s1 hs1 => ?_⟩
  generalize hH : Hd.put s1 _ = He
  obtain ⟨e1, h1⟩ := put_as (o' := .list false []) hH hs1 rfl
  clear hH
  walk_at "E"
  refine CW_tuple (e1 _ _ (ea _ _ W.top)) (by walk_at "ln") fun s2 hs2 => ?_
  generalize hH : He.put s2 _ = Hf
  obtain ⟨e2, h2⟩ := put_as hH hs2 rfl
  clear hH
  walk_at "E"
  refine EV_Dict0 fun s3 hs3 _ => ?_
  generalize hH : Hf.put s3 _ = Hg
  obtain ⟨e3, h3⟩ := put_as hH hs3 rfl
  clear hH
  walk_at "E"
  refine ⟨by simp, fun s4 hs4 => ?_⟩
  generalize hH : Hg.put s4 _ = Hh
  obtain ⟨e4, h4⟩ := put_as (o' := .list false [.ref s1, .none, .ref s2, .ref s3, .str "web", .int 5]) hH hs4 rfl
  clear hH
  have e04 := (((ea.trans e1).trans e2).trans e3).trans e4
  walk_at "E"
  rw [hi]
  obtain rfl | rfl | rfl | rfl | rfl | rfl := lt6 hil
  · refine Get_list h4 (by decide) (by simp) (v := .ref s1) rfl ?_
    walk_at "E"
    exact hq _ _ e04 (.inr ⟨s1, false, [], rfl, e4 _ _ (e3 _ _ (e2 _ _ h1)), by simp, .inl rfl⟩)
  · refine Get_list h4 (by decide) (by simp) (v := .none) rfl ?_
    walk_at "E"
    exact hq _ _ e04 (.inl trivial)
  · refine Get_list h4 (by decide) (by simp) (v := .ref s2) rfl ?_
    walk_at "E"
    exact hq _ _ e04 (.inl (.inl ⟨_, e4 _ _ (e3 _ _ h2)⟩))
  · refine Get_list h4 (by decide) (by simp) (v := .ref s3) rfl ?_
    walk_at "E"
    exact hq _ _ e04 (.inl (.inr ⟨_, e4 _ _ h3⟩))
  · refine Get_list h4 (by decide) (by simp) (v := .str "web") rfl ?_
    walk_at "E"
    exact hq _ _ e04 (.inl trivial)
  · refine Get_list h4 (by decide) (by simp) (v := .int 5) rfl ?_
    walk_at "E"
    exact hq _ _ e04 (.inl trivial)

end

-- L01o
set_option maxRecDepth 10000
set_option maxHeartbeats 4000000
section
variable {cx : Cx} {d : Nat} {H : Hp} {Q : AV → Hp → Prop}
def RowOk (H : Hp) (n : Nat) (v : AV) : Prop := ∃ b ro row, v = .ref b ∧ H b = some (.list ro (rowV row)) ∧ row.length ≤ 24 ∧ ∀ x ∈ row, x < n
theorem told_ok (hE : PD cx) {ta : Addr} (hta : HasDef cx (defAt p01 50) ta) {sc : Scope} {loc : Loc} {k : Nat} (hk : k < 12) {a : Addr} {web : List (List Nat)} {o r m mv : AV} (hW : IsWeb H a web) (hG : GoodWeb web) (h40 : web.length ≤ 40) (hC : 1 ≤ k → k < 10 → Calm web)
    (hr : 4 ≤ k → k < 10 → RowOk H web.length r) (h8 : k ≠ 8) (hm : k = 9 → RowOk H web.length m) (ho : 10 ≤ k → ∃ b other, o = .ref b ∧ IsWeb H b other ∧ GoodWeb other ∧ (k = 10 → web.length + other.length ≤ 200) ∧ (k = 11 → web.length * other.length ≤ 200)) :
    CallV cx (d + 13) sc loc ta [.int k, .ref a, o, r, m, mv] H (.str "") (Ext H) := by
  refine told_n hE hta fun ga hga => ?_
  refine asked_n hE hga hk (fun h g hg => ?_) (fun h => absurd h h8) (fun h g hg => ?_) (fun h g hg => ?_) (fun h g hg => ?_) (fun H' e => e)
  · refine asked_one_n hE hg h (fun e g hg => ?_) (fun e g hg => ?_) (fun e g hg => ?_) (fun e g hg => ?_) (fun e g hg => ?_) (fun e g hg => ?_) (fun e g hg => ?_) (fun e g hg => ?_) (fun H' e => e)
    · exact (ring_in_spec hE hg hW hG (fun H' _ e _ _ => e) (fun H' _ _ e _ _ _ => e)).le (d := d + 10) (d' := 6) (lek rfl)
    · exact (numbers_of_spec hE hg hW hG (hC (by omega) (by omega)) (fun H' _ _ e _ _ _ => e)).le (d := d + 10) (d' := 7) (lek rfl)
    · exact (lengths_of_spec hE hg hW hG (hC (by omega) (by omega)) (fun H' _ _ e _ _ _ => e)).le (d := d + 10) (d' := 7) (lek rfl)
    · obtain ⟨f, hN⟩ := nums_exist hG (hC (by omega) (by omega))
      exact (shown_moves_spec (s := 0) hE hg hW hG (hC (by omega) (by omega)) hN hG.pos (fun H' _ _ e _ _ _ _ => e)).le (d := d + 10) (d' := 8) (lek rfl)
    · obtain ⟨b, ro, row, rfl, hb, hn, hlt⟩ := hr (by omega) (by omega)
      exact (moves_in_spec hE hg hW hG (hC (by omega) (by omega)) h40 hb hn hlt (fun H' _ e _ _ => e)).le (d := d + 10) (d' := 7) (lek rfl)
    · obtain ⟨b, ro, row, rfl, hb, hn, hlt⟩ := hr (by omega) (by omega)
      exact (row_number_w hE hg hW hG (hC (by omega) (by omega)) hb hn hlt (fun H' _ e => e)).le (d := d + 10) (d' := 8) (lek rfl)
    · obtain ⟨b, ro, row, rfl, hb, hn, hlt⟩ := hr (by omega) (by omega)
      exact (is_lost_w hE hg hW hG (hC (by omega) (by omega)) hb hn hlt (fun H' _ e => e)).le (d := d + 10) (d' := 9) (lek rfl)
    · obtain ⟨b, ro, row, rfl, hb, hn, hlt⟩ := hr (by omega) (by omega)
      exact (good_moves_w hE hg hW hG (hC (by omega) (by omega)) h40 hb hn hlt (fun H' _ e => e)).le (d := d + 10) (d' := 8) (lek rfl)
  · obtain ⟨b, ro, row, rfl, hb, hn, hlt⟩ := hr (by omega) (by omega)
    obtain ⟨b', ro', row', rfl, hb', hn', hlt'⟩ := hm h
    exact (parting_row_w hE hg hW hG (hC (by omega) (by omega)) hb hb' hn hn' hlt hlt' (fun H' _ e => e)).le (d := d + 11) (d' := 8) (lek rfl)
  · obtain ⟨b, other, rfl, hW', hG', h1, _⟩ := ho (by omega)
    exact (joined_webs_w hE hg hW hW' hG hG' (h1 h) (fun H' _ e => e)).le (d := d + 11) (d' := 6) (lek rfl)
  · obtain ⟨b, other, rfl, hW', hG', _, h1⟩ := ho (by omega)
    exact (paired_web_w hE hg hW hW' hG hG' (h1 h) (fun H' _ e => e)).le (d := d + 11) (d' := 6) (lek rfl)
theorem told_web (hE : PD cx) {ta : Addr} (hta : HasDef cx (defAt p01 50) ta) {sc : Scope} {loc : Loc} {k : Nat} (hk : k < 12) {v o r m mv : AV} (hb : BadWeb H v) : CallV cx (d + 13) sc loc ta [.int k, v, o, r, m, mv] H (.str "web") (Ext H) := by
  obtain ⟨C, G, X⟩ := errAt hE.errs hE.ve (j := 0) (by decide)
  have w : ∀ {d' : Nat} (g : Addr), HasDef cx (defAt p01 13) g → CR cx (d' + 5) (.ref g) [v] H C (Ext H) := fun g hg => need_web_no hE hg hb X
  have gm : ∀ {d' : Nat} (g : Addr), HasDef cx (defAt p01 20) g → CR cx (d' + 6) (.ref g) [v] H C (Ext H) := fun g hg => need_game_r hE hg w
  have nm : ∀ {d' : Nat} (g : Addr), HasDef cx (defAt p01 22) g → CR cx (d' + 7) (.ref g) [v] H C (Ext H) := fun g hg => numbers_of_r hE hg gm
  refine told_r (j := 0) hE hta (by decide) X fun ga hga => ?_
  refine asked_r hE hga hk (fun h g hg => ?_) (fun h g hg => ?_) (fun h g hg => ?_) (fun h g hg => ?_) (fun h g hg => ?_)
  · refine asked_one_r hE hg h (fun e g hg => ?_) (fun e g hg => ?_) (fun e g hg => ?_) (fun e g hg => ?_) (fun e g hg => ?_) (fun e g hg => ?_) (fun e g hg => ?_) (fun e g hg => ?_)
    · exact (ring_in_r hE hg w).le (d := d + 10) (d' := 6) (lek rfl)
    · exact (numbers_of_r hE hg gm).le (d := d + 10) (d' := 7) (lek rfl)
    · exact (lengths_of_r hE hg gm).le (d := d + 10) (d' := 7) (lek rfl)
    · exact (shown_moves_r hE hg nm).le (d := d + 10) (d' := 8) (lek rfl)
    · exact (moves_in_r hE hg gm).le (d := d + 10) (d' := 7) (lek rfl)
    · exact (row_number_r hE hg nm).le (d := d + 10) (d' := 8) (lek rfl)
    · exact (is_lost_r hE hg fun g hg => row_number_r hE hg nm).le (d := d + 10) (d' := 9) (lek rfl)
    · exact (good_moves_r hE hg nm).le (d := d + 10) (d' := 8) (lek rfl)
  · exact (played_r hE hg gm).le (d := d + 11) (d' := 7) (lek rfl)
  · exact (parting_row_r hE hg nm).le (d := d + 11) (d' := 8) (lek rfl)
  · exact (joined_webs_r hE hg w).le (d := d + 11) (d' := 6) (lek rfl)
  · exact (paired_web_r hE hg w).le (d := d + 11) (d' := 6) (lek rfl)
theorem told_web2 (hE : PD cx) {ta : Addr} (hta : HasDef cx (defAt p01 50) ta) {sc : Scope} {loc : Loc} {k : Nat} (hk : k < 12) (h10 : 10 ≤ k) {a : Addr} {web : List (List Nat)} {o r m mv : AV} (hW : IsWeb H a web) (hG : GoodWeb web) (hb : BadWeb H o) : CallV cx (d + 13) sc loc ta [.int k, .ref a, o, r, m, mv] H (.str "web") (Ext H) := by
  obtain ⟨C, G, X⟩ := errAt hE.errs hE.ve (j := 0) (by decide)
  refine told_r (j := 0) hE hta (by decide) X fun ga hga => ?_
  refine asked_r hE hga hk (fun h g hg => ?_) (fun h g hg => ?_) (fun h g hg => ?_) (fun h g hg => ?_) (fun h g hg => ?_)
  · omega
  · omega
  · omega
  · exact (joined_webs_no hE hg hW hG hb X).le (d := d + 11) (d' := 6) (lek rfl)
  · exact (paired_web_no hE hg hW hG hb X).le (d := d + 11) (d' := 6) (lek rfl)
theorem told_ring (hE : PD cx) {ta : Addr} (hta : HasDef cx (defAt p01 50) ta) {sc : Scope} {loc : Loc} {k : Nat} (hk : k < 10) (h1 : 1 ≤ k) {a : Addr} {web : List (List Nat)} {o r m mv : AV} (hW : IsWeb H a web) (hG : GoodWeb web) (hR : Ringy web) : CallV cx (d + 13) sc loc ta [.int k, .ref a, o, r, m, mv] H (.str "ring") (Ext H) := by
  obtain ⟨C, G, X⟩ := errAt hE.errs hE.ve (j := 1) (by decide)
  have gm : ∀ {d' : Nat} (g : Addr), HasDef cx (defAt p01 20) g → CR cx (d' + 6) (.ref g) [.ref a] H C (Ext H) := fun g hg => need_game_ring hE hg hW hG hR X
  have nm : ∀ {d' : Nat} (g : Addr), HasDef cx (defAt p01 22) g → CR cx (d' + 7) (.ref g) [.ref a] H C (Ext H) := fun g hg => numbers_of_r hE hg gm
  refine told_r (j := 1) hE hta (by decide) X fun ga hga => ?_
  refine asked_r hE hga (by omega) (fun h g hg => ?_) (fun h g hg => ?_) (fun h g hg => ?_) (fun h g hg => ?_) (fun h g hg => ?_)
  · refine asked_one_r hE hg h (fun e g hg => ?_) (fun e g hg => ?_) (fun e g hg => ?_) (fun e g hg => ?_) (fun e g hg => ?_) (fun e g hg => ?_) (fun e g hg => ?_) (fun e g hg => ?_)
    · omega
    · exact (numbers_of_r hE hg gm).le (d := d + 10) (d' := 7) (lek rfl)
    · exact (lengths_of_r hE hg gm).le (d := d + 10) (d' := 7) (lek rfl)
    · exact (shown_moves_r hE hg nm).le (d := d + 10) (d' := 8) (lek rfl)
    · exact (moves_in_r hE hg gm).le (d := d + 10) (d' := 7) (lek rfl)
    · exact (row_number_r hE hg nm).le (d := d + 10) (d' := 8) (lek rfl)
    · exact (is_lost_r hE hg fun g hg => row_number_r hE hg nm).le (d := d + 10) (d' := 9) (lek rfl)
    · exact (good_moves_r hE hg nm).le (d := d + 10) (d' := 8) (lek rfl)
  · exact (played_r hE hg gm).le (d := d + 11) (d' := 7) (lek rfl)
  · exact (parting_row_r hE hg nm).le (d := d + 11) (d' := 8) (lek rfl)
  · omega
  · omega
theorem told_row (hE : PD cx) {ta : Addr} (hta : HasDef cx (defAt p01 50) ta) {sc : Scope} {loc : Loc} {k : Nat} (hk : k < 10) (h4 : 4 ≤ k) {a : Addr} {web : List (List Nat)} {o r m mv : AV} (hW : IsWeb H a web) (hG : GoodWeb web) (hC : Calm web)
    (hb : NoRowArg H web.length r ∨ (k = 9 ∧ RowOk H web.length r ∧ NoRowArg H web.length m)) : CallV cx (d + 13) sc loc ta [.int k, .ref a, o, r, m, mv] H (.str "row") (Ext H) := by
  obtain ⟨C, G, X⟩ := errAt hE.errs hE.ve (j := 2) (by decide)
  refine told_r (j := 2) hE hta (by decide) X fun ga hga => ?_
  refine asked_r hE hga (by omega) (fun h g hg => ?_) (fun h g hg => ?_) (fun h g hg => ?_) (fun h g hg => ?_) (fun h g hg => ?_)
  · have hb := hb.resolve_right fun z => by omega
    refine asked_one_r hE hg h (fun e g hg => ?_) (fun e g hg => ?_) (fun e g hg => ?_) (fun e g hg => ?_) (fun e g hg => ?_) (fun e g hg => ?_) (fun e g hg => ?_) (fun e g hg => ?_)
    · omega
    · omega
    · omega
    · omega
    · exact (moves_in_row hE hg hW hG hC hb X).le (d := d + 10) (d' := 7) (lek rfl)
    · exact (row_number_row hE hg hW hG hC hb X).le (d := d + 10) (d' := 8) (lek rfl)
    · exact (is_lost_r hE hg fun g hg => row_number_row hE hg hW hG hC hb X).le (d := d + 10) (d' := 9) (lek rfl)
    · exact (good_moves_row hE hg hW hG hC hb X).le (d := d + 10) (d' := 8) (lek rfl)
  · have hb := hb.resolve_right fun z => by omega
    exact (played_row hE hg hW hG hC hb X).le (d := d + 11) (d' := 7) (lek rfl)
  · exact (parting_row_row hE hg hW hG hC (hb.imp id fun z => ⟨z.2.1, z.2.2⟩) X).le (d := d + 11) (d' := 8) (lek rfl)
  · omega
  · omega
theorem told_move (hE : PD cx) {ta : Addr} (hta : HasDef cx (defAt p01 50) ta) {sc : Scope} {loc : Loc} {a b : Addr} {web : List (List Nat)} {ro : Bool} {row : List Nat} {o m mv : AV} (hW : IsWeb H a web) (hG : GoodWeb web) (hC : Calm web) (hb : H b = some (.list ro (rowV row))) (hn : row.length ≤ 24) (hlt : ∀ x ∈ row, x < web.length)
    (hbad : NoMoveArg H web row mv) : CallV cx (d + 13) sc loc ta [.int ((8 : Nat) : Int), .ref a, o, .ref b, m, mv] H (.str "move") (Ext H) := by
  obtain ⟨C, G, X⟩ := errAt hE.errs hE.ve (j := 3) (by decide)
  refine told_r (j := 3) hE hta (by decide) X fun ga hga => ?_
  refine asked_r hE hga (by decide) (fun h g hg => ?_) (fun h g hg => ?_) (fun h g hg => ?_) (fun h g hg => ?_) (fun h g hg => ?_)
  · omega
  · exact (played_bad hE hg hW hG hC hb hn hlt hbad X).le (d := d + 11) (d' := 7) (lek rfl)
  · omega
  · omega
  · omega
theorem told_many (hE : PD cx) {ta : Addr} (hta : HasDef cx (defAt p01 50) ta) {sc : Scope} {loc : Loc} {k : Nat} (hk : k < 12) (h10 : 10 ≤ k) {a b : Addr} {web wide : List (List Nat)} {r m mv : AV} (hW : IsWeb H a web) (hG : GoodWeb web) (hW' : IsWeb H b wide) (hG' : GoodWeb wide)
    (h1 : k = 10 → 200 < web.length + wide.length) (h2 : k = 11 → 200 < web.length * wide.length) : CallV cx (d + 13) sc loc ta [.int k, .ref a, .ref b, r, m, mv] H (.str "many") (Ext H) := by
  obtain ⟨C, G, X⟩ := errAt hE.errs hE.ve (j := 4) (by decide)
  refine told_r (j := 4) hE hta (by decide) X fun ga hga => ?_
  refine asked_r hE hga hk (fun h g hg => ?_) (fun h g hg => ?_) (fun h g hg => ?_) (fun h g hg => ?_) (fun h g hg => ?_)
  · omega
  · omega
  · omega
  · exact (joined_webs_many hE hg hW hG hW' hG' (h1 h) X).le (d := d + 11) (d' := 6) (lek rfl)
  · exact (paired_web_many hE hg hW hG hW' hG' (h2 h) X).le (d := d + 11) (d' := 6) (lek rfl)

end

-- L01p
set_option maxRecDepth 10000
set_option maxHeartbeats 4000000
section
variable {cx : Cx} {d : Nat} {H : Hp} {Q : AV → Hp → Prop}
theorem TVf.mono {sc : Scope} {loc : Loc} {e : Expr} {Q₁ QB : Bool → Hp → Prop} (h : TVf cx d sc loc e H Q₁) (hq : ∀ b H', Q₁ b H' → QB b H') : TVf cx d sc loc e H QB :=
  fun env A P s E Q' he F hA hf R k => h env A P s E Q' he F hA hf R fun b H' h' tk q => k b H' h' tk (hq _ _ q)
theorem EXf_if {sc : Scope} {loc : Loc} {t : Expr} {b rest : List Stmt} {pos : Pos} {QF : AF → Loc → Hp → Prop} (h : TVf cx d sc loc t H fun c H' => c = false ∧ Ext H H') (h2 : ∀ H', Ext H H' → EXf cx d sc loc rest H' QF) : EXf cx d sc loc (.If t b [] pos :: rest) H QF := by
  refine EXf_cons (EX1f_If (h.mono fun c H' q => ?_))
  obtain ⟨rfl, e⟩ := q
  simp only [Bool.false_eq_true, if_false]
  exact EXf_nil (atF (h2 H' e))
theorem EXf_assign {sc : Scope} {loc : Loc} {x : Str} {px pos : Pos} {e : Expr} {rest : List Stmt} {QF : AF → Loc → Hp → Prop} (v : AV) (h : EV cx d sc loc e H fun w H' => w = v ∧ H' = H) (h2 : EXf cx d sc (upd loc x v) rest H QF) (hx : storable sc x = true := by rfl)
    (hs : ∀ env, swapsWith e (some (.Name x px)) pos.line env = pure false := by intro _; rfl) : EXf cx d sc loc (.Assign [.Name x px] e pos :: rest) H QF := by
  refine EXf_cons (EX1.toF (EX_Assign (h.mono fun w H' q => ?_) hx hs))
  obtain ⟨rfl, rfl⟩ := q
  exact atF h2
theorem Op_neSelf {x : Str} (hq : Q (.bool false) H) : OpW cx d (compareOp .NotEq) (.str x) (.str x) H Q := Op_neStr (by simpa using hq)
theorem webOne {s1 s2 : Addr} {r : List Nat} (h1 : H s1 = some (.list false (rowV r))) (h2 : H s2 = some (.list false [.ref s1])) (hne : s1 ≠ s2) : IsWeb H s2 [r] := by
  refine ⟨[s1], h2, rfl, fun i x ns hx hn => ?_, by simp, by simpa using hne.symm⟩
  match i, hx, hn with
  | 0, hx, hn => cases hx; cases hn; exact h1
theorem good00 : GoodWeb [[0]] := ⟨by decide, by decide, by decide, by decide⟩
theorem good0 : GoodWeb [[]] := ⟨by decide, by decide, by decide, by decide⟩
theorem emptyWeb_good {m : Nat} (h1 : 1 ≤ m) (h2 : m ≤ 200) : GoodWeb ((List.range m).map fun _ => []) := by
  refine ⟨by simpa using h1, by simpa using h2, fun ns hn => ?_, fun ns hn g hg => ?_⟩
  · obtain ⟨_, _, rfl⟩ := List.mem_map.mp hn
    exact .nil
  · obtain ⟨_, _, rfl⟩ := List.mem_map.mp hn
    cases hg
theorem one_ok {n : Nat} {r : List Nat} (h : n ≤ 40) : n + [r].length ≤ 200 ∧ n * [r].length ≤ 200 :=
  ⟨Nat.le_trans (Nat.add_le_add_right h 1) (by decide), Nat.le_trans (Nat.le_of_eq (Nat.mul_one n)) (Nat.le_trans h (by decide))⟩
theorem pair_no {web : List (List Nat)} {row : List Nat} {t : Addr} {i j : Int} (h : H t = some (.tuple [.int i, .int j])) (q : False ∨ (¬ (0 ≤ i ∧ i < (row.length : Int)) ∨ ∀ n ∈ web.getD (row.getD i.toNat 0) [], j ≠ (n : Int))) : NoMoveArg H web row (.ref t) := by
  refine .inr ⟨t, _, rfl, h, by simp, .inr ⟨_, _, rfl, .inr ⟨_, rfl, .inr ⟨_, rfl, ?_⟩⟩⟩⟩
  rcases q with q | q | q
  · exact q.elim
  · exact .inl q
  · by_cases h0 : 0 ≤ i ∧ i < (row.length : Int)
    · exact .inr ⟨h0.1, h0.2, q⟩
    · exact .inl h0
theorem law01_spec (hE : PD cx) {fa : Addr} (hf : HasDef cx (defAt p01 51) fa) (hlen : cx.nums.length ≤ 63)
    (hq : ∀ H', Q (.bool true) H') : CWt cx (d + 14) (.ref fa) [.ref cx.script] H Q := by
  have hB := hE.bs
  obtain ⟨xa, hxa⟩ := hE.defs 40 (by decide)
  obtain ⟨wa, hwa⟩ := hE.defs 43 (by decide)
  obtain ⟨sa, hsa⟩ := hE.defs 45 (by decide)
  obtain ⟨ra, hra⟩ := hE.defs 46 (by decide)
  obtain ⟨ba, hba'⟩ := hE.defs 47 (by decide)
  obtain ⟨ia, hia⟩ := hE.defs 12 (by decide)
  obtain ⟨ta, hta⟩ := hE.defs 50 (by decide)
  obtain ⟨ca, hca⟩ := hE.defs 44 (by decide)
  refine CWt_fn hf bind_law ?_
  show EXf cx (d + 13) _ (upd (fun _ => none) "_law_script" (.ref cx.script)) _ H _
  refine EXf_cons (EX1.toF ?_)
  walk_at "E"
  refine EV_CallD hwa ?_
  walk_at "E"
  refine (web_by_spec hE hwa hlen (at_ := 5) fun H₁ a web e1 N1 hG hC h40 => ?_).le (d := d + 13) (d' := 3) (lek rfl)
  have hpos := hG.pos
  have hm := hG.most
  have hW1 := N1.isWeb
  obtain ⟨rs, W1⟩ := id hW1
  have hl := W1.len
  refine atF (EXf_cons (EX1.toF ?_))
  refine EX_AssignComp ?_
  refine EV.scr fun hscr => ?_
  refine EV_Slice ?_
  walk_at "E"
  refine int_ok ?_
  walk_at "E"
  refine int_ok ?_
  refine ⟨cx.script, true, _, rfl, hscr, by rw [List.length_map]; omega, fun s1 hs1 => ?_⟩
  rw [pySlice_map]
  have hsl : (pySlice cx.nums (some 9) (some 12)).length ≤ 3 := pySlice_mid_length cx.nums 9 12
  generalize pySlice cx.nums (some 9) (some 12) = cs at hsl ⊢
  generalize hH : H₁.put s1 _ = H₂
  obtain ⟨e2, h2⟩ := put_as hH hs1 rfl
  clear hH
  have W2 := W1.ext e2
  refine ⟨_, _, .list h2, by rw [List.length_map]; omega, ?_⟩
  refine CompW_map cs AV.int (fun c => AV.int (((c % (web.length : Int)).toNat : Nat) : Int)) h2 (fun c hc => ?_) (fun b hb => ?_)
  · walk_at "E"
    refine CW_len W2.top (by walk_at "ln") ?_
    rw [List.length_map, hl]
    walk_at "E"
    refine ⟨?_, rfl⟩
    congr 1
    rw [Int.toNat_of_nonneg (Int.emod_nonneg _ (by omega))]
  generalize hH : H₂.put b _ = H₃
  obtain ⟨e3, h3⟩ := put_as (o' := .list false (rowV (cs.map fun c => (c % (web.length : Int)).toNat))) hH hb (by simp [rowV])
  clear hH
  have hn3 : (cs.map fun c => (c % (web.length : Int)).toNat).length ≤ 3 := by rw [List.length_map]; exact hsl
  have hlt : ∀ x ∈ cs.map fun c => (c % (web.length : Int)).toNat, x < web.length := fun x hx => by
    obtain ⟨c, _, rfl⟩ := List.mem_map.mp hx
    have h1 := Int.emod_lt_of_pos c (show (0 : Int) < web.length by omega)
    have h2 := Int.emod_nonneg c (show (web.length : Int) ≠ 0 by omega)
    omega
  generalize (cs.map fun c => (c % (web.length : Int)).toNat) = row at h3 hn3 hlt
  have hn : row.length ≤ 24 := by omega
  have hW3 := (hW1.ext e2).ext e3
  clear e1 e2 e3 hW1 W1 W2 N1 hs1 h2 hb hscr hsl
  refine atF (EXf_cons (EX1.toF ?_))
  walk_at "E"
  refine EV_CallD hxa ?_
  walk_at "E"
  refine (cell_at_spec hE hxa hlen (by decide) ?_).le (d := d + 13) (d' := 1) (lek rfl)
  generalize cx.nums.getD _ 0 = c0
  walk_at "E"
  obtain ⟨k, hk, hkl⟩ : ∃ k : Nat, c0 % 12 = k ∧ k < 12 := modN c0 (n := 12) (by decide)
  rw [hk]
  refine atF (EXf_cons (EX1.toF ?_))
  walk_at "E"
  refine EV_CallD hsa ?_
  walk_at "E"
  refine EV_CallD hxa ?_
  walk_at "E"
  refine (cell_at_spec hE hxa hlen (by decide) ?_).le (d := d + 13) (d' := 1) (lek rfl)
  generalize cx.nums.getD _ 0 = c1
  walk_at "E"
  refine (spoilt_spec hE hsa hW3 hG h40 fun H₄ v e4 hbad => ?_).le (d := d + 13) (d' := 2) (lek rfl)
  refine atF (EXf_cons (EX1.toF ?_))
  walk_at "E"
  refine EV_CallD hra ?_
  walk_at "E"
  refine EV_CallD hxa ?_
  walk_at "E"
  refine (cell_at_spec hE hxa hlen (by decide) ?_).le (d := d + 13) (d' := 1) (lek rfl)
  generalize cx.nums.getD _ 0 = c2
  walk_at "E"
  refine (ringed_spec hE hra (hW3.ext e4) hG fun H₅ f rweb e5 N5 hGr hrl hRr => ?_).le (d := d + 13) (d' := 2) (lek rfl)
  refine atF (EXf_cons (EX1.toF ?_))
  obtain ⟨rs5, W5⟩ := (hW3.ext e4).ext e5
  have hl5 := W5.len
  walk_at "E"
  refine EV_CallD hba' ?_
  walk_at "E"
  refine CW_len W5.top (by walk_at "ln") ?_
  rw [List.length_map, hl5]
  walk_at "E"
  refine EV_CallD hxa ?_
  walk_at "E"
  refine (cell_at_spec hE hxa hlen (by decide) ?_).le (d := d + 13) (d' := 1) (lek rfl)
  generalize cx.nums.getD _ 0 = c3
  walk_at "E"
  have e45 := e4.trans e5
  refine (bad_row_spec hE hba' (e45 _ _ h3) hn hlt hm fun H₆ w e6 hbr => ?_).le (d := d + 13) (d' := 1) (lek rfl)
  have e36 := e45.trans e6
  have hWa := hW3.ext e36
  have hba := e36 _ _ h3
  have hbad := hbad.ext (e5.trans e6)
  have hWr := N5.isWeb.ext e6
  clear e4 e5 e6 e45 e36 hW3 h3 N5 W5 hl hl5 rs5 rs
  have hr40 : rweb.length ≤ 40 := by omega
  refine atF ?_
  generalize hl0 : upd _ "_law_bad" w = l0
  have g0 : l0 "_law_script" = some (.ref cx.script) := by rw [← hl0]; walk_at "lk"
  have gw : l0 "_law_web" = some (.ref a) := by rw [← hl0]; walk_at "lk"
  have gr : l0 "_law_row" = some (.ref b) := by rw [← hl0]; walk_at "lk"
  have gk : l0 "_law_which" = some (.int k) := by rw [← hl0]; walk_at "lk"
  have gs : l0 "_law_spoilt_here" = some v := by rw [← hl0]; walk_at "lk"
  have gq : l0 "_law_ringed_here" = some (.ref f) := by rw [← hl0]; walk_at "lk"
  have gb : l0 "_law_bad" = some w := by rw [← hl0]; walk_at "lk"
  clear hl0
  -- is_web of the three
  refine EXf_if (TV.toTF ?_) fun H₇ e7 => ?_
  · walk_at "E"
    refine EV_CallD hia ?_
    walk_at "E"
    refine (is_web_spec hE hia hWa hG fun H₇ e7 => ?_).le (d := d + 13) (d' := 4) (lek rfl)
    walk_at "E"
    refine Op_isNotBool ?_
    rw [show ((true : Bool) != true) = false from rfl]
    walk_at "E"
    refine EV_CallD hia ?_
    walk_at "E"
    refine (is_web_spec hE hia (hWr.ext e7) hGr fun H₈ e8 => ?_).le (d := d + 13) (d' := 4) (lek rfl)
    walk_at "E"
    refine Op_isNotBool ?_
    rw [show ((true : Bool) != true) = false from rfl]
    walk_at "E"
    refine EV_CallD hia ?_
    walk_at "E"
    refine (is_web_no hE hia (hbad.ext (e7.trans e8)) fun H₉ e9 => ?_).le (d := d + 13) (d' := 4) (lek rfl)
    walk_at "E"
    refine Op_isNotBool ?_
    rw [show ((false : Bool) != false) = false from rfl]
    walk_at "E"
    exact ⟨rfl, (e7.trans e8).trans e9⟩
  -- a web of 200, the spoilt one
  refine EXf_if (TVf_Or2 ?_) fun H₈ e8 => ?_
  · walk_at "E"
    refine EV_CallD hia ?_
    walk_at "E"
    refine EV_ListComp ?_
    walk_at "E"
    refine CW_range1 fun r1 hr1 => ?_
    have e1 : Ext H₇ (H₇.put r1 (.range 0 200)) := .put hr1
    refine ⟨_, _, .range (Hp.put_self ..) (by decide) (by decide) (by decide) (by decide), by rw [spanZ_length]; decide, ?_⟩
    generalize H₇.put r1 _ = Ha at e1 ⊢
    rw [show spanZ 0 200 = (List.range 200).map fun (i : Nat) => AV.int (i : Int) from spanZ0 200]
    refine CompW_rows (List.range 200) _ (fun _ => rowV []) (fun _ _ => trivial) (fun i H' Q' hi he kk => ?_) (fun qs H' he hlen' hnd hfr hrow s hs => ?_)
    · refine EV_List ?_
      walk_at "E"
      exact ⟨by simp, kk⟩
    have N := webOf_rows (c := fun _ => []) he hlen' hnd hfr hrow hs
    have es : Ext Ha (H'.put s (.list false (qs.map .ref))) := he.put_r hs
    generalize H'.put s _ = Hb at N es ⊢
    walk_at "E"
    refine (is_web_spec hE hia N.isWeb (emptyWeb_good (by decide) (by decide)) fun Hc ec => ?_).le (d := d + 13) (d' := 4) (lek rfl)
    have e7c := (e1.trans es).trans ec
    walk_at "E"
    refine Op_isNotBool ?_
    rw [show ((true : Bool) != true) = false from rfl]
    walk_at "E"
    refine TVf_neCall hta ?_
    walk_at "E"
    refine ⟨_, _, told_web hE hta hkl (hbad.ext (e7.trans e7c)), fun H₂ e => ?_⟩
    walk_at "E"
    refine Op_neSelf ?_
    exact asB_b ⟨rfl, e7c.trans e⟩
  have e68 := e7.trans e8
  -- the spoilt one as the other
  refine EXf_if (TVf_And2 ?_) fun H₉ e9 => ?_
  · walk_at "E"
    refine ite_decL (k := 9) (n := k) (fun h => ?_) (fun h => ?_)
    · refine TVf_neCall hta ?_
      walk_at "E"
      refine ⟨_, _, told_web2 hE hta hkl h (hWa.ext e68) hG (hbad.ext e68), fun H₂ e => ?_⟩
      walk_at "E"
      refine Op_neSelf ?_
      exact asB_b ⟨rfl, e⟩
    · exact ⟨rfl, .refl _⟩
  have e69 := e68.trans e9
  clear e68 e7 e8 e9 hbad
  -- the ringed one
  refine EXf_assign (.str (if 0 < k ∧ k < 10 then "ring" else "")) ?_ ?_
  · walk_at "E"
    refine ite_decL (k := 0) (n := k) (fun h1 => ?_) (fun h1 => ?_)
    · walk_at "E"
      refine ite_decL (n := 10) (fun h2 => ?_) (fun h2 => ?_)
      · walk_at "E"
        exact ⟨by rw [if_pos ⟨h1, h2⟩], rfl⟩
      · walk_at "E"
        exact ⟨by rw [if_neg fun z => Nat.not_lt.mpr h2 z.2], rfl⟩
    · walk_at "E"
      exact ⟨by rw [if_neg fun z => Nat.not_lt.mpr h1 z.1], rfl⟩
  generalize hdue : (if 0 < k ∧ k < 10 then ("ring" : Str) else "") = due
  refine EXf_if (TVf_neCall hta ?_) fun Ha ea => ?_
  · walk_at "E"
    refine EV_List ?_
    walk_at "E"
    refine EV_List ?_
    walk_at "E"
    refine ⟨by simp, fun s1 hs1 => ?_⟩
    generalize hH : H₉.put s1 _ = H₁
    obtain ⟨e1, h1⟩ := put_as (o' := .list false (rowV [0])) hH hs1 rfl
    clear hH
    walk_at "E"
    refine ⟨by simp, fun s2 hs2 => ?_⟩
    have hne : s1 ≠ s2 := fun q => by rw [q, hs2] at h1; cases h1
    generalize hH : H₁.put s2 _ = H₂
    obtain ⟨e2, h2⟩ := put_as (o' := .list false [.ref s1]) hH hs2 rfl
    clear hH
    walk_at "E"
    refine ⟨.str due, Ext H₂, ?_, fun H₃ e3 => ?_⟩
    · have e62 := (e69.trans e1).trans e2
      by_cases hk1 : 0 < k ∧ k < 10
      · rw [← hdue, if_pos hk1]
        exact told_ring hE hta hk1.2 hk1.1 (hWr.ext e62) hGr hRr
      · rw [← hdue, if_neg hk1]
        exact told_ok hE hta hkl (hWr.ext e62) hGr hr40 (fun x y => absurd ⟨x, y⟩ hk1) (fun x y => absurd ⟨Nat.lt_of_lt_of_le (by decide) x, y⟩ hk1) (fun z => hk1 (z ▸ by decide)) (fun z => absurd (z ▸ by decide) hk1) fun h => ⟨s2, [[0]], rfl, webOne (e2 _ _ h1) h2 hne, good00, fun _ => (one_ok hr40).1, fun _ => (one_ok hr40).2⟩
    · walk_at "E"
      refine Op_neSelf ?_
      exact asB_b ⟨rfl, (e1.trans e2).trans e3⟩
  have e6a := e69.trans ea
  clear hdue ea e69 hWr
  -- the bad row
  refine EXf_assign (.str (if 3 < k ∧ k < 10 then "row" else "")) ?_ ?_
  · walk_at "E"
    refine ite_decL (k := 3) (n := k) (fun h1 => ?_) (fun h1 => ?_)
    · walk_at "E"
      refine ite_decL (n := 10) (fun h2 => ?_) (fun h2 => ?_)
      · walk_at "E"
        exact ⟨by rw [if_pos ⟨h1, h2⟩], rfl⟩
      · walk_at "E"
        exact ⟨by rw [if_neg fun z => Nat.not_lt.mpr h2 z.2], rfl⟩
    · walk_at "E"
      exact ⟨by rw [if_neg fun z => Nat.not_lt.mpr h1 z.1], rfl⟩
  generalize hdue : (if 3 < k ∧ k < 10 then ("row" : Str) else "") = due2
  refine EXf_if (TVf_neCall hta ?_) fun Hb eb => ?_
  · walk_at "E"
    refine EV_List ?_
    walk_at "E"
    refine EV_List ?_
    walk_at "E"
    refine ⟨by simp, fun s1 hs1 => ?_⟩
    generalize hH : Ha.put s1 _ = H₁
    obtain ⟨e1, h1⟩ := put_as (o' := .list false (rowV [])) hH hs1 rfl
    clear hH
    walk_at "E"
    refine ⟨by simp, fun s2 hs2 => ?_⟩
    have hne : s1 ≠ s2 := fun q => by rw [q, hs2] at h1; cases h1
    generalize hH : H₁.put s2 _ = H₂
    obtain ⟨e2, h2⟩ := put_as (o' := .list false [.ref s1]) hH hs2 rfl
    clear hH
    walk_at "E"
    refine ⟨.str due2, Ext H₂, ?_, fun H₃ e3 => ?_⟩
    · have e62 := (e6a.trans e1).trans e2
      by_cases hk1 : 3 < k ∧ k < 10
      · rw [← hdue, if_pos hk1]
        exact told_row hE hta hk1.2 hk1.1 (hWa.ext e62) hG hC (.inl (hbr.ext e62))
      · rw [← hdue, if_neg hk1]
        exact told_ok hE hta hkl (hWa.ext e62) hG h40 (fun _ _ => hC) (fun x y => absurd ⟨x, y⟩ hk1) (fun z => hk1 (z ▸ by decide)) (fun z => absurd (z ▸ by decide) hk1) fun h => ⟨s2, [[]], rfl, webOne (e2 _ _ h1) h2 hne, good0, fun _ => (one_ok h40).1, fun _ => (one_ok h40).2⟩
    · walk_at "E"
      refine Op_neSelf ?_
      exact asB_b ⟨rfl, (e1.trans e2).trans e3⟩
  have e6b := e6a.trans eb
  clear hdue eb e6a
  refine EXf_if (TVf_And2 ?_) fun Hc ec => ?_
  · walk_at "E"
    refine ite_decN (n := 9) (fun h => ?_) (fun h => ?_)
    · refine TVf_neCall hta ?_
      walk_at "E"
      refine ⟨_, _, told_row (k := 9) hE hta (by decide) (by decide) (hWa.ext e6b) hG hC (.inr ⟨rfl, ⟨b, false, row, rfl, e6b _ _ hba, hn, hlt⟩, hbr.ext e6b⟩), fun H₂ e => ?_⟩
      walk_at "E"
      refine Op_neSelf ?_
      exact asB_b ⟨rfl, e⟩
    · exact ⟨rfl, .refl _⟩
  have e6c := e6b.trans ec
  have hWa := hWa.ext e6c
  have hba := e6c _ _ hba
  clear ec e6b e6c hbr
  -- what is handed over
  refine EXf_cons (EX1.toF ?_)
  walk_at "E"
  refine EV_List ?_
  walk_at "E"
  refine EV_CallD hca ?_
  walk_at "E"
  refine (copied_spec hE hca hWa hG fun H₁ w' e1 N1 => ?_).le (d := d + 13) (d' := 1) (lek rfl)
  walk_at "E"
  refine CW_list_copy (e1 _ _ hba) (by walk_at "ln") fun b' hb' => ?_
  generalize hH : H₁.put b' _ = H₂
  obtain ⟨e2, h2⟩ := put_as hH hb' rfl
  clear hH
  walk_at "E"
  refine ⟨by simp, fun hd hhd => ?_⟩
  generalize hH : H₂.put hd _ = H₃
  obtain ⟨e3, hd3⟩ := put_as (o' := .list false [.ref w', .ref b']) hH hhd rfl
  clear hH
  have ec3 := (e1.trans e2).trans e3
  have hWa := hWa.ext ec3
  have hba := ec3 _ _ hba
  have hWh := (N1.isWeb.ext e2).ext e3
  have hbh := e3 _ _ h2
  clear e1 e2 e3 ec3 N1 hb' hhd h2
  obtain ⟨rs3, W3⟩ := id hWa
  have hl3 := W3.len
  -- odd moves
  refine atF (EXf_cutR (fun l' H' => Ext H₃ H' ∧ l' "_law_script" = some (.ref cx.script) ∧ l' "_law_web" = some (.ref a) ∧ l' "_law_row" = some (.ref b) ∧ l' "_law_which" = some (.int k) ∧ l' "_law_handed" = some (.ref hd) ∧
      ∃ o vs, l' "_law_odd" = some (.ref o) ∧ H' o = some (.list false vs) ∧ 1 ≤ vs.length ∧ vs.length ≤ 10 ∧ ∀ x ∈ vs, NoMoveArg H' web row x) (fun R hR => EX1.toF ?_) ?_)
  · walk_at "E"
    refine EV_ListAll (fun x H => NoMoveArg H web row x) (fun x H H' e h => h.ext e) (fun x hx K1 e1 => ?_) (fun o vs K1 e1 hvl hvs ho => ?_)
    · have hrow := e1 _ _ hba
      have W1 := W3.ext e1
      clear hR hWa hWh hbh hd3 hba
      simp only [List.mem_cons, List.not_mem_nil, or_false] at hx
      rcases hx with rfl | rfl | rfl | rfl | rfl | rfl | rfl | rfl | rfl | rfl
      · walk_at "E"
        exact ⟨.refl _, .inl trivial⟩
      · refine EV_Tuple ?_
        walk_at "E"
        exact ⟨by simp, fun t ht => ⟨.put ht, .inr ⟨t, _, rfl, Hp.put_self .., by simp, .inl (by simp)⟩⟩⟩
      · refine EV_Tuple ?_
        walk_at "E"
        refine EV_Neg ?_
        walk_at "E"
        refine int_ok ?_
        walk_at "E"
        exact ⟨by simp, fun t ht => ⟨.put ht, pair_no (Hp.put_self ..) (.inr (.inl (by omega)))⟩⟩
      · refine EV_Tuple ?_
        walk_at "E"
        refine CW_len hrow (by walk_at "ln") ?_
        rw [rowV_length]
        walk_at "E"
        exact ⟨by simp, fun t ht => ⟨.put ht, pair_no (Hp.put_self ..) (.inr (.inl (by omega)))⟩⟩
      · refine EV_Tuple ?_
        walk_at "E"
        refine CW_len W1.top (by walk_at "ln") ?_
        rw [List.length_map, hl3]
        walk_at "E"
        exact ⟨by simp, fun t ht => ⟨.put ht, pair_no (Hp.put_self ..) (.inr (.inr fun n hn e => by have := (hG.row _).2 n hn; omega))⟩⟩
      · refine EV_Tuple ?_
        walk_at "E"
        refine EV_Neg ?_
        walk_at "E"
        refine int_ok ?_
        walk_at "E"
        exact ⟨by simp, fun t ht => ⟨.put ht, pair_no (Hp.put_self ..) (.inr (.inr fun n hn e => by omega))⟩⟩
      · refine EV_List ?_
        walk_at "E"
        exact ⟨by simp, fun t ht => ⟨.put ht, .inl ⟨_, _, Hp.put_self ..⟩⟩⟩
      · refine EV_Tuple ?_
        walk_at "E"
        exact ⟨by simp, fun t ht => ⟨.put ht, .inr ⟨t, _, rfl, Hp.put_self .., by simp, .inr ⟨_, _, rfl, .inl (.inl ⟨_, rfl⟩)⟩⟩⟩⟩
      · refine EV_Tuple ?_
        walk_at "E"
        exact ⟨by simp, fun t ht => ⟨.put ht, .inr ⟨t, _, rfl, Hp.put_self .., by simp, .inr ⟨_, _, rfl, .inr ⟨_, rfl, .inl (.inr trivial)⟩⟩⟩⟩⟩
      · walk_at "E"
        exact ⟨.refl _, .inl trivial⟩
    have hvl : vs.length = 10 := hvl
    have eo : Ext K1 (K1.put o (.list false vs)) := .put ho
    walk_at "E"
    exact hR _ _ ⟨e1.trans eo, by walk_at "lk", by walk_at "lk", by walk_at "lk", by walk_at "lk", by walk_at "lk", o, vs, by walk_at "lk", Hp.put_self .., by omega, by omega, fun x hx => (hvs x hx).ext eo⟩
  rintro l1 H₄ ⟨e4, g1, g2, g3, g4, g5, o4, vs4, g6, h4, hp4, hq4, hno4⟩
  refine EXf_cutR (fun l' H' => Ext H₃ H' ∧ l' "_law_script" = some (.ref cx.script) ∧ l' "_law_web" = some (.ref a) ∧ l' "_law_row" = some (.ref b) ∧ l' "_law_which" = some (.int k) ∧ l' "_law_handed" = some (.ref hd) ∧
      ∃ o vs, l' "_law_odd" = some (.ref o) ∧ H' o = some (.list false vs) ∧ 1 ≤ vs.length ∧ vs.length ≤ 22 ∧ ∀ x ∈ vs, NoMoveArg H' web row x) (fun R hR => EX1.toF ?_) ?_
  · refine EX_ForR ?_
    walk_at "E"
    refine CW_len (e4 _ _ hba) (by walk_at "ln") ?_
    rw [rowV_length]
    walk_at "E"
    refine CW_range1 fun r1 hr1 => ?_
    have er : Ext H₄ (H₄.put r1 (.range 0 row.length)) := .put hr1
    refine forQ ⟨_, _, .range (Hp.put_self ..) (by decide) (by decide) (by omega) (by omega), fun i l' H' => Ext H₃ H' ∧ l' "_law_script" = some (.ref cx.script) ∧ l' "_law_web" = some (.ref a) ∧ l' "_law_row" = some (.ref b) ∧ l' "_law_which" = some (.int k) ∧ l' "_law_handed" = some (.ref hd) ∧
      ∃ o vs, l' "_law_odd" = some (.ref o) ∧ H' o = some (.list false vs) ∧ 1 ≤ vs.length ∧ vs.length ≤ 10 + 4 * i ∧ ∀ x ∈ vs, NoMoveArg H' web row x,
      ⟨e4.trans er, by walk_at "lk", by walk_at "lk", by walk_at "lk", by walk_at "lk", by walk_at "lk", o4, vs4, by walk_at "lk", er _ _ h4, hp4, hq4, fun x hx => (hno4 x hx).ext er⟩, ?_, ?_, ?_⟩
    · intros; trivial
    · rintro i v l' H' hi ⟨e, u1, u2, u3, u4, u5, o5, vs5, u6, h5, hp5, hq5, hno5⟩ R2 hR2
      obtain ⟨hi1, rfl⟩ := spanZ_get hi
      rw [Int.zero_add]
      have hil : i < row.length := by omega
      have hxs := getD_some hil
      have hx := hlt _ (List.mem_of_getElem? hxs)
      obtain ⟨r, p1, p2, p3⟩ := (W3.ext e).at hx
      have hrl := hG.rowLen (row.getD i 0)
      refine EX_cons ?_
      refine EX_ForR ?_
      refine EV_Slice ?_
      walk_at "E"
      refine Get_list (e _ _ hba) (by walk_at "nn") (by walk_at "ln") (v := .int (row.getD i 0 : Nat)) (by rw [Int.toNat_natCast]; simp only [rowV, List.getElem?_map, hxs]; rfl) ?_
      refine Get_list (e _ _ W3.top) (by walk_at "nn") (by walk_at "ln") (v := .ref r) p2 ?_
      walk_at "E"
      refine int_ok ?_
      refine ⟨r, false, _, rfl, p3, by rw [rowV_length]; omega, fun s1 hs1 => ?_⟩
      rw [show (some (1 : Int)) = some ((1 : Nat) : Int) from rfl, pySlice_to, show (rowV (web.getD (row.getD i 0) [])).take 1 = rowV ((web.getD (row.getD i 0) []).take 1) by simp [rowV, List.map_take]]
      have es : Ext H' (H'.put s1 (.list false (rowV ((web.getD (row.getD i 0) []).take 1)))) := .put hs1
      have hs : (H'.put s1 (.list false (rowV ((web.getD (row.getD i 0) []).take 1)))) s1 = _ := Hp.put_self ..
      have ht1 : ((web.getD (row.getD i 0) []).take 1).length ≤ 1 := by rw [List.length_take]; omega
      generalize H'.put s1 _ = H'' at es hs ⊢
      refine forQ ⟨_, _, .list hs, fun j l' H' => Ext H'' H' ∧ l' "_law_script" = some (.ref cx.script) ∧ l' "_law_web" = some (.ref a) ∧ l' "_law_row" = some (.ref b) ∧ l' "_law_which" = some (.int k) ∧ l' "_law_handed" = some (.ref hd) ∧ l' "_law_place" = some (.int i) ∧
        ∃ o vs, l' "_law_odd" = some (.ref o) ∧ H' o = some (.list false vs) ∧ 1 ≤ vs.length ∧ vs.length ≤ 10 + 4 * i + 4 * j ∧ ∀ x ∈ vs, NoMoveArg H' web row x,
        ⟨.refl _, by walk_at "lk", by walk_at "lk", by walk_at "lk", by walk_at "lk", by walk_at "lk", by walk_at "lk", o5, vs5, by walk_at "lk", es _ _ h5, hp5, hq5, fun x hx => (hno5 x hx).ext es⟩, ?_, ?_, ?_⟩
      · rintro j l' H' ⟨e, _⟩; exact e _ _ hs
      · rintro j v l' Hx hj ⟨ex, w1, w2, w3, w4, w5, w6, o6, vs6, w7, h6, hp6, hq6, hno6⟩ R3 hR3
        have hj1 : j < 1 := by have := (List.getElem?_eq_some_iff.mp hj).1; rw [rowV_length] at this; omega
        obtain ⟨n, hn', rfl⟩ := rowV_get hj
        have hnm : n ∈ web.getD (row.getD i 0) [] := List.mem_of_mem_take (List.mem_of_getElem? hn')
        refine EX_cons ?_
        walk_at "E"
        refine EV_ListAll (fun x H => NoMoveArg H web row x) (fun x H H' e h => h.ext e) (fun x hx K1 e1 => ?_) (fun o vs K1 e1 hvl hvs ho => ?_)
        · clear hR2 hR3 hR hWa hWh hbh hd3 hba hno6
          simp only [List.mem_cons, List.not_mem_nil, or_false] at hx
          rcases hx with rfl | rfl | rfl | rfl
          · refine EV_List ?_
            walk_at "E"
            exact ⟨by simp, fun t ht => ⟨.put ht, .inl ⟨_, _, Hp.put_self ..⟩⟩⟩
          · refine EV_Tuple ?_
            walk_at "E"
            exact ⟨by simp, fun t ht => ⟨.put ht, .inr ⟨t, _, rfl, Hp.put_self .., by simp, .inl (by simp)⟩⟩⟩
          · refine EV_Tuple ?_
            walk_at "E"
            refine EV_CallT (b_bool hB) ?_
            walk_at "E"
            refine CW_bool_int ?_
            walk_at "E"
            exact ⟨by simp, fun t ht => ⟨.put ht, .inr ⟨t, _, rfl, Hp.put_self .., by simp, .inr ⟨_, _, rfl, .inr ⟨_, rfl, .inl (.inl ⟨_, rfl⟩)⟩⟩⟩⟩⟩
          · refine EV_Tuple ?_
            walk_at "E"
            refine EV_CallT (b_bool hB) ?_
            walk_at "E"
            refine CW_bool_int ?_
            walk_at "E"
            exact ⟨by simp, fun t ht => ⟨.put ht, .inr ⟨t, _, rfl, Hp.put_self .., by simp, .inr ⟨_, _, rfl, .inl (.inl ⟨_, rfl⟩)⟩⟩⟩⟩
        have hvl : vs.length = 4 := hvl
        have eo : Ext K1 (K1.put o (.list false vs)) := .put ho
        have e2 := e1.trans eo
        refine Op_addList (e2 _ _ h6) (Hp.put_self ..) (by omega) (by omega) fun o7 ho7 => ?_
        have e7 := e2.put_r (o := .list false (vs6 ++ vs)) ho7
        walk_at "E"
        refine hR3 _ _ ⟨ex.trans e7, by walk_at "lk", by walk_at "lk", by walk_at "lk", by walk_at "lk", by walk_at "lk", by walk_at "lk", o7, _, by walk_at "lk", Hp.put_self .., by rw [List.length_append]; omega, by rw [List.length_append]; omega, fun x hx => ?_⟩
        rcases List.mem_append.mp hx with hx | hx
        · exact (hno6 x hx).ext e7
        · exact ((hvs x hx).ext eo).ext (.put ho7)
      · rintro l' Hx ⟨ex, w1, w2, w3, w4, w5, w6, o6, vs6, w7, h6, hp6, hq6, hno6⟩
        rw [rowV_length] at hq6
        walk_at "E"
        exact hR2 _ _ ⟨(e.trans es).trans ex, w1, w2, w3, w4, w5, o6, vs6, w7, h6, hp6, by omega, hno6⟩
    · rintro l' H' ⟨e, u1, u2, u3, u4, u5, o5, vs5, u6, h5, hp5, hq5, hno5⟩
      rw [spanZ_length] at hq5
      exact nxt (hR _ _ ⟨e, u1, u2, u3, u4, u5, o5, vs5, u6, h5, hp5, by omega, hno5⟩)
  clear g1 g2 g3 g4 g5 g6 h4 hp4 hq4 hno4 e4
  rintro l2 H₅ ⟨e5, g1, g2, g3, g4, g5, o5, vs5, g6, h5, hp5, hq5, hno5⟩
  refine EXf_cons (EX1.toF ?_)
  walk_at "E"
  refine EV_CallD hxa ?_
  walk_at "E"
  refine (cell_at_spec hE hxa hlen (by decide) ?_).le (d := d + 13) (d' := 1) (lek rfl)
  generalize cx.nums.getD _ 0 = c4
  walk_at "E"
  refine CW_len h5 (by omega) ?_
  refine Op_mod (by omega) ?_
  obtain ⟨j, hj, hjl⟩ := modN c4 hp5
  rw [hj]
  refine Get_list h5 (by walk_at "nn") (by omega) (v := vs5[j]) (by rw [Int.toNat_natCast]; exact List.getElem?_eq_getElem hjl) ?_
  have hmv := hno5 _ (List.getElem_mem hjl)
  generalize vs5[j] = mv at hmv ⊢
  clear hno5 hq5 h5 hj hjl g6
  refine atF (EXf_if (TVf_neCall hta ?_) fun H₆ e6 => ?_)
  · walk_at "E"
    refine Get_list (e5 _ _ hd3) (by walk_at "nn") (by simp) (v := .ref w') rfl ?_
    walk_at "E"
    refine EV_List ?_
    walk_at "E"
    refine EV_List ?_
    walk_at "E"
    refine ⟨by simp, fun s1 hs1 => ?_⟩
    generalize hH : H₅.put s1 _ = K1
    obtain ⟨x1, y1⟩ := put_as (o' := .list false (rowV [0])) hH hs1 rfl
    clear hH
    walk_at "E"
    refine ⟨by simp, fun s2 hs2 => ?_⟩
    have hne : s1 ≠ s2 := fun q => by rw [q, hs2] at y1; cases y1
    generalize hH : K1.put s2 _ = K2
    obtain ⟨x2, y2⟩ := put_as (o' := .list false [.ref s1]) hH hs2 rfl
    clear hH
    have z2 := (e5.trans x1).trans x2
    walk_at "E"
    refine Get_list (z2 _ _ hd3) (by walk_at "nn") (by simp) (v := .ref b') rfl ?_
    walk_at "E"
    refine ⟨.str (if k = 8 then "move" else ""), Ext K2, ?_, fun K3 x3 => ?_⟩
    · by_cases hk8 : k = 8
      · rw [if_pos hk8]
        subst hk8
        exact told_move hE hta (hWh.ext z2) hG hC (z2 _ _ hbh) hn hlt ((hmv.ext x1).ext x2)
      · rw [if_neg hk8]
        exact told_ok hE hta hkl (hWh.ext z2) hG h40 (fun _ _ => hC) (fun _ _ => ⟨b', false, row, rfl, z2 _ _ hbh, hn, hlt⟩) hk8 (fun _ => ⟨b, false, row, rfl, z2 _ _ hba, hn, hlt⟩) fun h => ⟨s2, [[0]], rfl, webOne (x2 _ _ y1) y2 hne, good00, fun _ => (one_ok h40).1, fun _ => (one_ok h40).2⟩
    · walk_at "E"
      refine EV_List ?_
      walk_at "E"
      refine ⟨by simp, fun s3 hs3 => ?_⟩
      generalize hH : K3.put s3 _ = K4
      obtain ⟨x4, y4⟩ := put_as (o' := .list false [.str "", .str "move"]) hH hs3 rfl
      clear hH
      walk_at "E"
      refine EV_CallT (b_int hB) ?_
      walk_at "E"
      refine CW_int_bool ?_
      have hx := ((x1.trans x2).trans x3).trans x4
      by_cases hk8 : k = 8
      · rw [if_pos hk8, decide_eq_true (show (k : Int) = 8 from congrArg Int.ofNat hk8)]
        refine Get_list y4 (by decide) (by simp) (v := .str "move") rfl ?_
        refine Op_neSelf ?_
        exact asB_b ⟨rfl, hx⟩
      · rw [if_neg hk8, decide_eq_false (show ¬ (k : Int) = 8 from fun z => hk8 (Int.ofNat.inj z))]
        refine Get_list y4 (by decide) (by simp) (v := .str "") rfl ?_
        refine Op_neSelf ?_
        exact asB_b ⟨rfl, hx⟩
  have e36 := e5.trans e6
  clear e5 e6 hmv
  -- too wide
  refine EXf_cutR (fun l' H' => Ext H₃ H' ∧ l' "_law_web" = some (.ref a) ∧ l' "_law_row" = some (.ref b) ∧ l' "_law_which" = some (.int k) ∧ l' "_law_handed" = some (.ref hd) ∧
      ∃ s, l' "_law_wide" = some (.ref s) ∧ (10 ≤ k → ∃ m : Nat, 1 ≤ m ∧ m ≤ 201 ∧ IsWeb H' s ((List.range m).map fun _ => []))) (fun R hR => EX1.toF ?_) ?_
  · walk_at "E"
    refine ite_decL (k := 9) (n := k) (fun h => ?_) (fun h => ?_)
    · refine EV_ListComp ?_
      walk_at "E"
      refine EV_List ?_
      walk_at "E"
      refine CW_len (e36 _ _ W3.top) (by walk_at "ln") ?_
      rw [List.length_map, hl3]
      walk_at "E"
      refine CW_max2 ?_
      rw [show max (1 : Int) (web.length : Int) = web.length by omega]
      walk_at "E"
      refine ⟨by simp, fun s1 hs1 => ?_⟩
      generalize hH : H₆.put s1 _ = K1
      obtain ⟨x1, y1⟩ := put_as (o' := .list false [.int 199, .int (201 / (web.length : Int))]) hH hs1 rfl
      clear hH
      walk_at "E"
      obtain ⟨m, hm1, hm2, hget⟩ : ∃ m : Nat, 1 ≤ m ∧ m ≤ 201 ∧ ([AV.int 199, .int (201 / (web.length : Int))])[((k : Int) - 10).toNat]? = some (.int m) := by
        obtain rfl | rfl : k = 10 ∨ k = 11 := by omega
        · exact ⟨199, by decide, by decide, rfl⟩
        · refine ⟨201 / web.length, ?_, Nat.div_le_self .., by rw [Int.natCast_ediv]; rfl⟩
          exact (Nat.le_div_iff_mul_le (by omega)).mpr (by omega)
      refine Get_list y1 (by omega) (by simp) (v := .int m) hget ?_
      walk_at "E"
      refine CW_range1 fun r1 hr1 => ?_
      have e1 : Ext K1 (K1.put r1 (.range 0 m)) := .put hr1
      refine ⟨_, _, .range (Hp.put_self ..) (by decide) (by decide) (by omega) (by omega), by rw [spanZ_length]; omega, ?_⟩
      generalize K1.put r1 _ = K2 at e1 ⊢
      rw [spanZ0]
      refine CompW_rows (List.range m) _ (fun _ => rowV []) (fun _ _ => trivial) (fun i H' Q' hi he kk => ?_) (fun qs H' he hlen' hnd hfr hrow s hs => ?_)
      · refine EV_List ?_
        walk_at "E"
        exact ⟨by simp, kk⟩
      have N := webOf_rows (c := fun _ => []) he hlen' hnd hfr hrow hs
      have es : Ext K2 (H'.put s (.list false (qs.map .ref))) := he.put_r hs
      generalize H'.put s _ = K3 at N es ⊢
      walk_at "E"
      exact hR _ _ ⟨((e36.trans x1).trans e1).trans es, by walk_at "lk", by walk_at "lk", by walk_at "lk", by walk_at "lk", s, by walk_at "lk", fun _ => ⟨m, hm1, hm2, N.isWeb⟩⟩
    · walk_at "E"
      refine EV_List ?_
      walk_at "E"
      refine EV_List ?_
      walk_at "E"
      refine ⟨by simp, fun s1 hs1 => ?_⟩
      generalize hH : H₆.put s1 _ = K1
      obtain ⟨x1, y1⟩ := put_as hH hs1 rfl
      clear hH
      walk_at "E"
      refine ⟨by simp, fun s2 hs2 => ?_⟩
      have x2 := e36.trans (x1.put_r (o := .list false [.ref s1]) hs2)
      walk_at "E"
      exact hR _ _ ⟨x2, by walk_at "lk", by walk_at "lk", by walk_at "lk", by walk_at "lk", s2, by walk_at "lk", fun h' => absurd h' (Nat.not_lt.mpr h)⟩
  clear g1 g2 g3 g4 g5 e36
  rintro l3 H₇ ⟨e7, g2, g3, g4, g5, s7, g7, hs7⟩
  refine EXf_cutR (fun l' H' => Ext H₃ H' ∧ l' "_law_web" = some (.ref a) ∧ l' "_law_row" = some (.ref b) ∧ l' "_law_handed" = some (.ref hd)) (fun R hR => EX1f_If (TV.toTF ?_)) ?_
  · walk_at "E"
    refine ite_decL (k := 9) (n := k) (fun h => ?_) (fun h => ?_)
    · obtain ⟨m, hm1, hm2, hWm⟩ := hs7 h
      obtain ⟨qs, Wm⟩ := id hWm
      have hlm := Wm.len
      rw [List.length_map, List.length_range] at hlm
      walk_at "E"
      refine EV_CallD hia ?_
      walk_at "E"
      by_cases h200 : m ≤ 200
      · refine (is_web_spec hE hia hWm (emptyWeb_good hm1 h200) fun H₈ e8 => ?_).le (d := d + 13) (d' := 4) (lek rfl)
        have e38 := e7.trans e8
        walk_at "E"
        refine EXf_cutR (fun l' H' => Ext H₈ H' ∧ l' "_law_web" = some (.ref a) ∧ l' "_law_row" = some (.ref b) ∧ l' "_law_which" = some (.int k) ∧ l' "_law_handed" = some (.ref hd) ∧ l' "_law_wide" = some (.ref s7) ∧
          l' "_law_due" = some (.str (if 200 < (if k = 10 then web.length + m else web.length * m) then "many" else ""))) (fun R2 hR2 => EX1.toF ?_) ?_
        · have hmul : web.length * m ≤ 40 * 200 := Nat.mul_le_mul h40 h200
          walk_at "E"
          refine EV_List ?_
          walk_at "E"
          refine CW_len (e38 _ _ W3.top) (by walk_at "ln") ?_
          rw [List.length_map, hl3]
          walk_at "E"
          refine CW_len (e8 _ _ Wm.top) (by walk_at "ln") ?_
          rw [List.length_map, hlm]
          walk_at "E"
          refine CW_len (e38 _ _ W3.top) (by walk_at "ln") ?_
          rw [List.length_map, hl3]
          walk_at "E"
          refine CW_len (e8 _ _ Wm.top) (by walk_at "ln") ?_
          rw [List.length_map, hlm]
          refine Op_mul (mulR (by omega)) ?_
          walk_at "E"
          refine ⟨by simp, fun s1 hs1 => ?_⟩
          generalize hH : H₈.put s1 _ = K1
          obtain ⟨x1, y1⟩ := put_as (o' := .list false [.int ((web.length : Int) + m), .int ((web.length : Int) * m)]) hH hs1 rfl
          clear hH
          walk_at "E"
          have hget : ([AV.int ((web.length : Int) + m), .int ((web.length : Int) * m)])[((k : Int) - 10).toNat]? = some (.int ((if k = 10 then web.length + m else web.length * m : Nat) : Int)) := by
            obtain rfl | rfl : k = 10 ∨ k = 11 := by omega
            · rw [if_pos rfl]; rfl
            · rw [if_neg (by decide), Int.natCast_mul]; rfl
          refine Get_list y1 (by omega) (by simp) (v := .int ((if k = 10 then web.length + m else web.length * m : Nat) : Int)) hget ?_
          walk_at "E"
          refine ite_dec (fun hx => ?_) (fun hx => ?_)
          · walk_at "E"
            exact hR2 _ _ ⟨x1, by walk_at "lk", by walk_at "lk", by walk_at "lk", by walk_at "lk", by walk_at "lk", by rw [if_pos (by omega)]; walk_at "lk"⟩
          · walk_at "E"
            exact hR2 _ _ ⟨x1, by walk_at "lk", by walk_at "lk", by walk_at "lk", by walk_at "lk", by walk_at "lk", by rw [if_neg (by omega)]; walk_at "lk"⟩
        rintro l4 H₉ ⟨e9, u1, u2, u3, u4, u5, u6⟩
        have e39 := e38.trans e9
        refine EXf_if (TVf_neCall hta ?_) fun Ha ea => EXf_nil (nxt (hR _ _ ⟨e39.trans ea, u1, u2, u4⟩))
        walk_at "E"
        refine ⟨.str (if 200 < (if k = 10 then web.length + m else web.length * m) then "many" else ""), Ext H₉, ?_, fun K2 x2 => ?_⟩
        · have hgw := emptyWeb_good hm1 h200
          have hlw : ((List.range m).map fun _ => ([] : List Nat)).length = m := by rw [List.length_map, List.length_range]
          by_cases hx : 200 < (if k = 10 then web.length + m else web.length * m)
          · rw [if_pos hx]
            refine told_many hE hta hkl h (hWa.ext e39) hG ((hWm.ext e8).ext e9) hgw (fun h => ?_) (fun h => ?_)
            · rw [hlw]; rw [if_pos h] at hx; exact hx
            · rw [hlw]; rw [if_neg (by omega)] at hx; exact hx
          · rw [if_neg hx]
            refine told_ok hE hta hkl (hWa.ext e39) hG h40 (fun _ _ => hC) (fun _ y => absurd y (Nat.not_lt.mpr h)) (fun z => by rw [z] at h; exact absurd h (by decide)) (fun z => by rw [z] at h; exact absurd h (by decide)) fun _ => ⟨s7, _, rfl, (hWm.ext e8).ext e9, hgw, fun h => ?_, fun h => ?_⟩
            · rw [hlw]; rw [if_pos h] at hx; omega
            · rw [hlw]; rw [if_neg (by omega)] at hx; omega
        · walk_at "E"
          refine Op_neSelf ?_
          exact asB_b ⟨rfl, x2⟩
      · have hbw : BadWeb H₇ (.ref s7) := .inr ⟨s7, false, _, rfl, Wm.top, by rw [List.length_map]; omega, .inr (.inl (by rw [List.length_map]; omega))⟩
        refine (is_web_no hE hia hbw fun H₈ e8 => ?_).le (d := d + 13) (d' := 4) (lek rfl)
        walk_at "E"
        exact EXf_nil (nxt (hR _ _ ⟨e7.trans e8, g2, g3, g5⟩))
    · exact EXf_nil (nxt (hR _ _ ⟨e7, g2, g3, g5⟩))
  clear g2 g3 g4 g5 g7 hs7 e7
  rintro l5 H₈ ⟨e8, g2, g3, g5⟩
  refine EXf_cons (EX1.toF ?_)
  walk_at "E"
  refine EV_List ?_
  walk_at "E"
  refine ⟨by simp, fun z hz => ?_⟩
  generalize hH : H₈.put z _ = H₉
  obtain ⟨e9, h9⟩ := put_as (o' := .list false [.ref a, .ref b]) hH hz rfl
  clear hH
  have e39 := e8.trans e9
  refine Op_eqHandWR (d := d + 12) (e39 _ _ hd3) h9 (hWh.ext e39) (e39 _ _ hbh) (hWa.ext e39) (e39 _ _ hba) ?_
  exact hq _

end
end Mine

open PySem PySem.W PyProof.Rows
set_option maxRecDepth 100000
set_option maxHeartbeats 8000000
open Mine
theorem Mine.headRecs : recsOf headView = [9, 10, 11, 12, 13, 14, 15, 16, 17, 18, 20, 21, 22, 23, 24, 25, 26, 29, 30, 31, 32, 33, 34, 36, 37, 38, 40, 41, 42, 43, 44, 45, 46, 47, 48, 49, 50, 51].map fun k => (⟨(defAt p01 k).name, (defAt p01 k).params, (defAt p01 k).body, (defAt p01 k).scope, posAt p01 k⟩ : DefRec) := by kernel_rfl
theorem PySem.Challenge.cw_uf050033_01_holds : PySem.Challenge.rw_uf050033_01.Holds := by
  w_on
  refine holds_law headSaid fun said => ?_
  refine holds_open (q := headView) (loose := []) (Xt := headSees) (XP := XL headView []) (Yf := Hook.obs headHk) (Ya := Hook.val headHk) (YP := Hook.says headHk) (N := 4948) headLeft (Hook.of headHk) (Hook.keeps headHk) (fun s e => xl_of s (Bool.and_eq_true_iff.mp e).1) XL.keeps (by rfl) (by rfl) (by rfl) (fun s e => recFacts_of (Bool.and_eq_true_iff.mp e).2) (by rfl) said (by decide +kernel) ⟨rfl, rfl, rfl, rfl, rfl, by decide +kernel⟩ ?hw ?hc
  case hw => w_witness2
  intro w s₀ s₁ mg mb G Y fa o pm cd doc dV kV ho hd hcd hD hmg hg args vals as hpre hlay hrd hwl hlo
  have T := Ground.T G
  have hY := errs_at T.g Y
  clear hd hcd hD Y G
  wrow_args hpre hlay hrd hwl hlo
  rename_i ns _ _ hL _ _ _ _ l vs _ hl _ hW _ hI _ hc _
  have hget := well_get hW hl
  let cx := mkCx Challenge.rw_uf050033_01.prog w s₁.heap l ns mg mb T.g T.b T.nolimit ⟨_, hget⟩ T.builtins
  have hB : Bs cx := bs_of T rfl (by decide +kernel)
  have mem : ∀ k ∈ [9, 10, 11, 12, 13, 14, 15, 16, 17, 18, 20, 21, 22, 23, 24, 25, 26, 29, 30, 31, 32, 33, 34, 36, 37, 38, 40, 41, 42, 43, 44, 45, 46, 47, 48, 49, 50, 51], (⟨(defAt p01 k).name, (defAt p01 k).params, (defAt p01 k).body, (defAt p01 k).scope, posAt p01 k⟩ : DefRec) ∈ recsOf headView := fun k hk => by rw [Mine.headRecs]; exact List.mem_map_of_mem hk
  obtain ⟨fl, hl1, el⟩ := hasDef_of T (cx := cx) rfl rfl (defAt p01 51) (posAt p01 51) (mem 51 (by decide))
  have e : some (Value.ref fa) = some (.ref fl) := hmg.symm.trans el
  cases e
  have hE : PD cx := ⟨hB, fun k hk => (hasDef_of T (cx := cx) rfl rfl (defAt p01 k) (posAt p01 k) (mem k hk)).imp fun _ z => z.1, const_of T rfl (by decide +kernel), const_of T rfl (by decide +kernel), hY, free_of T rfl (by decide +kernel)⟩
  refine law_inT (l := Challenge.rw_uf050033_01) (cx := cx) rfl rfl hget hI hg fun H => ?_
  exact law01_spec (d := 46) hE hl1 (by show ns.length ≤ 63; omega) (fun _ => rfl)
