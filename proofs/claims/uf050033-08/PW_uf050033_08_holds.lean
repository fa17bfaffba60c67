import PyProof.Rows.All
import Wide.All
import Open.Boot
import Wide.FinOn
import PyProof.Cells
import PyProof.ForAny
import PyProof.WalksMore
import PyProof.DictRoads
import PyProof.SliceList
import PyProof.Boot
import PyProof.Rules3
import PyProof.PureInt
import PyProof.NoPylong
import PyProof.FitsBits
import PyProof.Rows.RuleB_floordiv
import PyProof.Rows.RuleB_mod
import PyProof.Rows.RuleB_pow
import PyProof.Calls
import PyProof.CompFree
import PyProof.AttrMissSeq
import KE.KDictOf
import PyProof.WalkInts
import PyProof.Rows.CallKwBuiltin
import PyProof.Rows.SetFrom
import PyProof.SetRoads
import PyProof.Rows.TupAssign
import PyProof.Rows.SortWalk
import PyProof.IsiHeapPairs
import PyProof.Rows.Tup
import PyProof.TupleIter
import PyProof.Raises
import PyProof.TupleKey
import PyProof.DictRoadsH
import PyProof.TupleOfSeq
import PyProof.P3In
import PySem.Challenge.RW_uf050033_08
set_option Elab.async false
-- Core1
namespace Mine
open PySem

/-! ## abstract values, objects, heaps -/
inductive AV where
  | none | bool (b : Bool) | int (i : Int) | str (s : Str) | ref (a : Addr) | ty (n : String)
  deriving DecidableEq

def VR : AV → Value → Prop
  | .none, v => v = .none
  | .bool b, v => v = .bool b
  | .int i, v => ∃ t, v = .int i t
  | .str x, v => ∃ t, v = .str x t
  | .ref a, v => v = .ref a
  | .ty n, v => v = .type n

def VRs : List AV → List Value → Prop
  | [], [] => True
  | a :: as, v :: vs => VR a v ∧ VRs as vs
  | _, _ => False

theorem VRs.length : ∀ {as : List AV} {vs : List Value}, VRs as vs → as.length = vs.length
  | [], [], _ => rfl
  | _ :: _, _ :: _, h => by simp [VRs.length h.2]
  | [], _ :: _, h => h.elim
  | _ :: _, [], h => h.elim
theorem VRs.get : ∀ {as : List AV} {vs : List Value} {i : Nat} {a : AV}, VRs as vs → as[i]? = some a → ∃ v, vs[i]? = some v ∧ VR a v
  | _ :: _, v :: _, 0, _, h, e => by cases e; exact ⟨v, rfl, h.1⟩
  | _ :: _, _ :: _, i + 1, _, h, e => VRs.get (i := i) h.2 e
  | [], _, _, _, _, e => by simp at e
  | _ :: _, [], _, _, h, _ => h.elim
theorem VRs.append : ∀ {as bs : List AV} {vs ws : List Value}, VRs as vs → VRs bs ws → VRs (as ++ bs) (vs ++ ws)
  | [], _, [], _, _, h => h
  | _ :: _, _, _ :: _, _, h, h' => ⟨h.1, VRs.append h.2 h'⟩
  | [], _, _ :: _, _, h, _ => h.elim
  | _ :: _, _, [], _, h, _ => h.elim
theorem VRs.one {a : AV} {v : Value} (h : VR a v) : VRs [a] [v] := ⟨h, trivial⟩
theorem VRs.snoc {as : List AV} {vs : List Value} {a : AV} {v : Value} (h : VRs as vs) (h' : VR a v) : VRs (as ++ [a]) (vs ++ [v]) := h.append (.one h')
theorem VRs.set : ∀ {as : List AV} {vs : List Value} {a : AV} {v : Value} (i : Nat), VRs as vs → VR a v → VRs (as.set i a) (vs.set i v)
  | [], [], _, _, _, _, _ => trivial
  | _ :: _, _ :: _, _, _, 0, h, h' => ⟨h', h.2⟩
  | _ :: _, _ :: _, _, _, i + 1, h, h' => ⟨h.1, VRs.set i h.2 h'⟩
  | [], _ :: _, _, _, _, h, _ => h.elim
  | _ :: _, [], _, _, _, h, _ => h.elim
theorem VRs.take : ∀ {as : List AV} {vs : List Value} (n : Nat), VRs as vs → VRs (as.take n) (vs.take n)
  | [], [], n, _ => by cases n <;> exact trivial
  | _ :: _, _ :: _, 0, _ => trivial
  | _ :: _, _ :: _, n + 1, h => ⟨h.1, VRs.take n h.2⟩
  | [], _ :: _, _, h => h.elim
  | _ :: _, [], _, h => h.elim
theorem VRs.drop : ∀ {as : List AV} {vs : List Value} (n : Nat), VRs as vs → VRs (as.drop n) (vs.drop n)
  | [], [], n, _ => by cases n <;> exact trivial
  | _ :: _, _ :: _, 0, h => h
  | _ :: _, _ :: _, n + 1, h => VRs.drop n h.2
  | [], _ :: _, _, h => h.elim
  | _ :: _, [], _, h => h.elim
theorem VRs.reverse : ∀ {as : List AV} {vs : List Value}, VRs as vs → VRs as.reverse vs.reverse
  | [], [], _ => trivial
  | _ :: _, _ :: _, h => by simp only [List.reverse_cons]; exact (VRs.reverse h.2).snoc h.1
  | [], _ :: _, h => h.elim
  | _ :: _, [], h => h.elim
theorem VRs.eraseIdx : ∀ {as : List AV} {vs : List Value} (n : Nat), VRs as vs → VRs (as.eraseIdx n) (vs.eraseIdx n)
  | [], [], n, _ => by cases n <;> exact trivial
  | _ :: _, _ :: _, 0, h => h.2
  | _ :: _, _ :: _, n + 1, h => ⟨h.1, VRs.eraseIdx n h.2⟩
  | [], _ :: _, _, h => h.elim
  | _ :: _, [], _, h => h.elim
inductive AObj where
  | list (ro : Bool) (vs : List AV)
  | tuple (vs : List AV)
  | dict (kvs : List (Int × AV))
  | range (lo hi : Int)
  | raw (p : Obj → Prop)

def KVs : List (Int × AV) → List (Int × Value) → Prop
  | [], [] => True
  | a :: as, v :: vs => (a.1 = v.1 ∧ VR a.2 v.2) ∧ KVs as vs
  | _, _ => False

abbrev PH := Addr → Option Obj
abbrev Hp := Addr → Option AObj
abbrev Loc := Str → Option AV

def Hp.put (H : Hp) (a : Addr) (o : AObj) : Hp := fun b => if b = a then some o else H b
@[simp] theorem Hp.put_self (H : Hp) (a : Addr) (o : AObj) : H.put a o a = some o := by simp [Hp.put]
theorem Hp.put_ne {H : Hp} {a b : Addr} {o : AObj} (h : b ≠ a) : H.put a o b = H b := by simp [Hp.put, h]
def upd (loc : Loc) (x : Str) (v : AV) : Loc := fun y => if y = x then some v else loc y
@[simp] theorem upd_self (loc : Loc) (x : Str) (v : AV) : upd loc x v x = some v := by simp [upd]
theorem upd_ne {loc : Loc} {x y : Str} {v : AV} (h : y ≠ x) : upd loc x v y = loc y := by simp [upd, h]

structure Cx where
  prog : Program
  w : World
  base : Heap
  script : Addr
  nums : List Int
  mg : Str → Option Value
  mb : Str → Option Value
  g : base.Ns mainGlobals mg
  b : base.Ns builtinsNs mb
  nolimit : base.NoLimit
  scriptIn : ∃ o, base.get? script = some o
  builtins : ∀ x : Str, x ≠ "__name__" → mb x = bootBuiltins x

def OR (cx : Cx) : AObj → Obj → Prop
  | .list _ vs, O => ∃ items n, O = { cls := .type "list", dict := none, data := .seq items n, slots := #[] } ∧ VRs vs items.toList
  | .tuple vs, O => ∃ items n, O = { cls := .type "tuple", dict := none, data := .seq items n, slots := #[] } ∧ VRs vs items.toList
  | .dict kvs, O => ∃ es ep vs, O.ExactDict ∧ O.data = .dict es ep ∧ KeysOf (intKind cx.prog cx.w) es ∧ Pairs (intKind cx.prog cx.w) es.toList vs ∧ (vs.map (·.1)).Nodup ∧ KVs kvs vs
  | .range lo hi, O => ∃ t u v, O = { cls := .type "range", dict := none, data := .fields #[.int lo t, .int hi u, .int 1 v], slots := #[] }
  | .raw p, O => p O

structure Rep (cx : Cx) (P : PH) (H : Hp) (h : Heap) : Prop where
  base : ∀ a o, cx.base.get? a = some o → P a = some o
  ext : ∀ a o, P a = some o → h.get? a = some o
  obj : ∀ a o, H a = some o → ∃ O, h.get? a = some O ∧ OR cx o O
  sep : ∀ a o O, H a = some o → P a = some O → a = cx.script
  scr : H cx.script = some (.list true (cx.nums.map .int))

/-- a name that the frame may bear -/
def plainName (x : Str) : Bool := !(x == ("__debug__" : Str)) && !(x == ("__classdict__" : Str))

def NsG (g : PH) (a : Addr) (m : Str → Option Value) : Prop := ∃ o es ep, g a = some o ∧ o.data = .dict es ep ∧ StrKeys es ∧ ∀ name, nsFind es name = m name
def CellG (g : PH) (c : Addr) (v : Option Value) : Prop := ∃ o, g c = some o ∧ o.data = .cell v
theorem NsG.heap {h : Heap} {a : Addr} {m : Str → Option Value} (x : NsG h.get? a m) : h.Ns a m := x
theorem CellG.heap {h : Heap} {c : Addr} {v : Option Value} (x : CellG h.get? c v) : h.IsCell c v := x

/-- the frame's names as the objects in g bear them -/
structure FrameAt (env : Env) (loc : Loc) (g : PH) : Prop where
  ns : ∃ m, NsG g env.locals m ∧ ∀ x v, loc x = some v → env.kindOf x = some .local → ∃ V, m x = some V ∧ VR v V
  cells : ∀ x v, loc x = some v → (env.kindOf x = some .cell ∨ env.kindOf x = some .free) → ∃ c V, env.cells.lookup x = some c ∧ CellG g c (some V) ∧ VR v V
  dom : ∀ x v, loc x = some v → (env.kindOf x = some .local ∨ env.kindOf x = some .cell ∨ env.kindOf x = some .free) ∧ plainName x = true
  cellOk : ∀ x c, env.cells.lookup x = some c → ∃ ov, CellG g c ov

structure EnvOk (sc : Scope) (env : Env) : Prop where
  scope : env.scope = sc
  kind : env.scope.kind = .function
  glob : env.globals = mainGlobals
  blt : env.builtins = builtinsNs
  apart : env.cells.Pairwise fun x y => x.2 ≠ y.2
  has : ∀ x, env.kindOf x = some .cell ∨ env.kindOf x = some .free → (env.cells.lookup x).isSome = true

abbrev FrameP (env : Env) (loc : Loc) (P : PH) : Prop := FrameAt env loc P

def fp (env : Env) (a : Addr) : Prop := a = env.locals ∨ ∃ x, env.cells.lookup x = some a

theorem FrameAt.eq_on {env : Env} {loc : Loc} {g g' : PH} (F : FrameAt env loc g) (e : ∀ a, fp env a → ∀ o, g a = some o → g' a = some o) : FrameAt env loc g' where
  ns := by
    obtain ⟨m, ⟨o, es, ep, ho, r⟩, hm⟩ := F.ns
    exact ⟨m, ⟨o, es, ep, e _ (.inl rfl) o ho, r⟩, hm⟩
  cells := fun x v hx hk => by
    obtain ⟨c, V, hc, ⟨o, ho, hd⟩, hr⟩ := F.cells x v hx hk
    exact ⟨c, V, hc, ⟨o, e c (.inr ⟨x, hc⟩) o ho, hd⟩, hr⟩
  dom := F.dom
  cellOk := fun x c hc => by
    obtain ⟨ov, o, ho, hd⟩ := F.cellOk x c hc
    exact ⟨ov, o, e c (.inr ⟨x, hc⟩) o ho, hd⟩

structure Room (d : Nat) (A : Around) : Prop where
  handled : A.handled = none
  depth : A.depth + d < recursionLimit
  units : A.units + 8 * d < cLine

abbrev XP := AV → Hp → Prop
def noX : XP := fun _ _ => False

def EV (cx : Cx) (d : Nat) (sc : Scope) (loc : Loc) (e : Expr) (H : Hp) (Q : AV → Hp → Prop) : Prop :=
  ∀ (env : Env) (A : Around) (P : PH) (s : Shared) (E : Value → Shared → Prop) (Q' : Value → Shared → Prop), EnvOk sc env → FrameP env loc P → Room d A → Rep cx P H s.heap →
    (∀ v V H' h' tk, Q v H' → VR v V → Rep cx P H' h' → Q' V { s with heap := h', toks := tk }) →
    wpAny (model cx.prog cx.w) A (eval e env) Q' E s

def TV (cx : Cx) (d : Nat) (sc : Scope) (loc : Loc) (e : Expr) (H : Hp) (Q : Bool → Hp → Prop) : Prop :=
  ∀ (env : Env) (A : Around) (P : PH) (s : Shared) (E : Value → Shared → Prop) (Q' : Bool → Shared → Prop), EnvOk sc env → FrameP env loc P → Room d A → Rep cx P H s.heap →
    (∀ b H' h' tk, Q b H' → Rep cx P H' h' → Q' b { s with heap := h', toks := tk }) →
    wpAny (model cx.prog cx.w) A (isTrue e env (eval e env)) Q' E s

section
variable {cx : Cx} {d : Nat} {sc : Scope} {loc : Loc} {H : Hp} {Q : AV → Hp → Prop} {QB : Bool → Hp → Prop}

theorem EV.mono {e : Expr} {Q₁ : AV → Hp → Prop} (h : EV cx d sc loc e H Q₁) (hq : ∀ v H', Q₁ v H' → Q v H') : EV cx d sc loc e H Q :=
  fun env A P s E Q' he hF hA R k => h env A P s E Q' he hF hA R fun v V H' h' tk q => k v V H' h' tk (hq v H' q)
theorem TV.mono {e : Expr} {Q₁ : Bool → Hp → Prop} (h : TV cx d sc loc e H Q₁) (hq : ∀ v H', Q₁ v H' → QB v H') : TV cx d sc loc e H QB :=
  fun env A P s E Q' he hF hA R k => h env A P s E Q' he hF hA R fun v H' h' tk q => k v H' h' tk (hq v H' q)

theorem EV_Name {x : Str} {pos : Pos} {v : AV} (hx : loc x = some v) (hq : Q v H) : EV cx d sc loc (.Name x pos) H Q := by
  intro env A P s E Q' he hF hA R k
  have F : FrameAt env loc s.heap.get? := hF.eq_on fun a _ o e => R.ext a o e
  obtain ⟨hk, hp⟩ := F.dom x v hx
  simp only [plainName, Bool.and_eq_true, Bool.not_eq_true'] at hp
  rcases hk with hk | hk | hk
  · obtain ⟨m, hn, hm⟩ := F.ns
    obtain ⟨V, hV, hr⟩ := hm x v hx hk
    exact wpAny_Name (wpAny_loadName_local he.kind hk hn hV (k v V H s.heap s.toks hq hr R)) hp.1
  · obtain ⟨c, V, hc, hv, hr⟩ := F.cells x v hx (.inl hk)
    exact wpAny_Name (wpAny_loadName_cell he.kind hk hc hv (k v V H s.heap s.toks hq hr R)) hp.1
  · obtain ⟨c, V, hc, hv, hr⟩ := F.cells x v hx (.inr hk)
    exact wpAny_Name (wpAny_loadName_free he.kind hk hc hv (k v V H s.heap s.toks hq hr R) hp.2) hp.1

theorem EV_int {i : Int} {k : Nat} {pos : Pos} (hq : Q (.int i) H) : EV cx d sc loc (.Constant (.int i) k pos) H Q :=
  fun _ _ _ s _ _ _ _ _ R kk => wpAny_Constant_int (kk _ _ H s.heap _ hq ⟨_, rfl⟩ R)
theorem EV_bool {b : Bool} {k : Nat} {pos : Pos} (hq : Q (.bool b) H) : EV cx d sc loc (.Constant (.bool b) k pos) H Q :=
  fun _ _ _ s _ _ _ _ _ R kk => wpAny_Constant_bool (kk _ _ H s.heap s.toks hq rfl R)
end

/-! ## statements -/
inductive AF where
  | next | brk | cont | ret (v : AV)

def FR : AF → Flow → Prop
  | .next, f => f = .next
  | .brk, f => f = .brk
  | .cont, f => f = .cont
  | .ret v, f => ∃ V, f = .ret V ∧ VR v V

/-- the frame; the names in W may be stored into -/
structure FrameW (W : Str → Prop) (env : Env) (loc : Loc) (P : PH) (H : Hp) (h : Heap) : Prop where
  at_ : FrameAt env loc h.get?
  cellHas : ∀ x, env.kindOf x = some .cell → (env.cells.lookup x).isSome = true
  apart : env.cells.Pairwise fun x y => x.2 ≠ y.2
  cellNe : ∀ x c, (x, c) ∈ env.cells → c ≠ env.locals
  locP : P env.locals = none
  cellP : ∀ x c, W x → env.cells.lookup x = some c → P c = none
  offH : ∀ a, fp env a → H a = none
abbrev FrameOwn := FrameW fun _ => True

theorem FrameW.eq_on {W : Str → Prop} {env : Env} {loc : Loc} {P : PH} {H H' : Hp} {h h' : Heap} (F : FrameW W env loc P H h) (e : ∀ a, fp env a → ∀ o, h.get? a = some o → h'.get? a = some o)
    (hH : ∀ a, fp env a → H' a = none) : FrameW W env loc P H' h' where
  at_ := F.at_.eq_on e
  cellHas := F.cellHas
  apart := F.apart
  cellNe := F.cellNe
  locP := F.locP
  cellP := F.cellP
  offH := hH

theorem FrameW.live {W : Str → Prop} {env : Env} {loc : Loc} {P : PH} {H : Hp} {h : Heap} (F : FrameW W env loc P H h) : ∀ a, fp env a → ∃ o, h.get? a = some o := by
  intro a ha
  rcases ha with rfl | ⟨x, hm⟩
  · obtain ⟨m, ⟨o, _, _, ho, _⟩, _⟩ := F.at_.ns; exact ⟨o, ho⟩
  · obtain ⟨ov, o, ho, _⟩ := F.at_.cellOk x a hm; exact ⟨o, ho⟩

open Classical in
/-- the frame's own objects laid aside with what must stay -/
noncomputable def aside (P : PH) (env : Env) (h : Heap) : PH := fun a => if fp env a then h.get? a else P a

theorem aside_rep {cx : Cx} {W : Str → Prop} {env : Env} {loc : Loc} {P : PH} {H : Hp} {h : Heap} (F : FrameW W env loc P H h) (R : Rep cx P H h) : Rep cx (aside P env h) H h where
  base := fun a o e => by
    have hP := R.base a o e
    unfold aside
    split
    · exact R.ext a o hP
    · exact hP
  ext := fun a o e => by
    unfold aside at e
    split at e
    · exact e
    · exact R.ext a o e
  obj := R.obj
  sep := fun a o O ho hO => by
    unfold aside at hO
    split at hO
    · rename_i hm; rw [F.offH a hm] at ho; cases ho
    · exact R.sep a o O ho hO
  scr := R.scr

theorem aside_frame {W : Str → Prop} {env : Env} {loc : Loc} {P : PH} {H : Hp} {h : Heap} (F : FrameW W env loc P H h) : FrameP env loc (aside P env h) :=
  F.at_.eq_on fun a ha o ho => by unfold aside; rw [if_pos ha]; exact ho

theorem aside_back {cx : Cx} {W : Str → Prop} {env : Env} {loc : Loc} {P : PH} {H H' : Hp} {h h' : Heap} (F : FrameW W env loc P H h) (R : Rep cx P H h) (R' : Rep cx (aside P env h) H' h') :
    FrameW W env loc P H' h' ∧ Rep cx P H' h' := by
  have up : ∀ a, fp env a → ∀ o, h.get? a = some o → h'.get? a = some o := fun a ha o ho => R'.ext a o (by unfold aside; rw [if_pos ha]; exact ho)
  have off : ∀ a, fp env a → H' a = none := fun a ha => by
    cases q : H' a with
    | none => rfl
    | some o =>
      obtain ⟨O, hO⟩ := F.live a ha
      have := R'.sep a o O q (by unfold aside; rw [if_pos ha]; exact hO)
      subst this
      have := F.offH _ ha; rw [R.scr] at this; cases this
  refine ⟨F.eq_on up off, ⟨R.base, fun a o e => ?_, R'.obj, fun a o O ho hO => ?_, R'.scr⟩⟩
  · refine R'.ext a o ?_
    unfold aside
    split
    · exact R.ext a o e
    · exact e
  · refine R'.sep a o O ho ?_
    unfold aside
    split
    · rename_i hm; rw [off a hm] at ho; cases ho
    · exact hO

def EX1 (cx : Cx) (d : Nat) (sc : Scope) (loc : Loc) (st : Stmt) (H : Hp) (Q : AF → Loc → Hp → Prop) : Prop :=
  ∀ (env : Env) (A : Around) (P : PH) (s : Shared) (E : Value → Shared → Prop) (Q' : Flow → Shared → Prop), EnvOk sc env → FrameOwn env loc P H s.heap → Room d A → Rep cx P H s.heap →
    (∀ f F loc' H' h' tk, Q f loc' H' → FR f F → FrameOwn env loc' P H' h' → Rep cx P H' h' → Q' F { s with heap := h', toks := tk }) →
    wpAny (model cx.prog cx.w) A (exec st env) Q' E s

def EX (cx : Cx) (d : Nat) (sc : Scope) (loc : Loc) (ss : List Stmt) (H : Hp) (Q : AF → Loc → Hp → Prop) : Prop :=
  ∀ (env : Env) (A : Around) (P : PH) (s : Shared) (E : Value → Shared → Prop) (Q' : Flow → Shared → Prop), EnvOk sc env → FrameOwn env loc P H s.heap → Room d A → Rep cx P H s.heap →
    (∀ f F loc' H' h' tk, Q f loc' H' → FR f F → FrameOwn env loc' P H' h' → Rep cx P H' h' → Q' F { s with heap := h', toks := tk }) →
    wpAny (model cx.prog cx.w) A (execs ss env) Q' E s

section
variable {cx : Cx} {d : Nat} {sc : Scope} {loc : Loc} {H : Hp} {Q : AF → Loc → Hp → Prop}

theorem EX1.mono {e : Stmt} {Q₁ : AF → Loc → Hp → Prop} (h : EX1 cx d sc loc e H Q₁) (hq : ∀ f l H', Q₁ f l H' → Q f l H') : EX1 cx d sc loc e H Q :=
  fun env A P s E Q' he hF hA R k => h env A P s E Q' he hF hA R fun f F l H' h' tk q => k f F l H' h' tk (hq f l H' q)
theorem EV.here {W : Str → Prop} {e : Expr} {Q₁ : AV → Hp → Prop} (h : EV cx d sc loc e H Q₁) {env : Env} {A : Around} {P : PH} {s : Shared} {E : Value → Shared → Prop} {Q' : Value → Shared → Prop}
    (he : EnvOk sc env) (F : FrameW W env loc P H s.heap) (hA : Room d A) (R : Rep cx P H s.heap)
    (k : ∀ v V H' h' tk, Q₁ v H' → VR v V → FrameW W env loc P H' h' → Rep cx P H' h' → Q' V { s with heap := h', toks := tk }) :
    wpAny (model cx.prog cx.w) A (eval e env) Q' E s :=
  h env A _ s E Q' he (aside_frame F) hA (aside_rep F R) fun v V H' h' tk q hv R' => k v V H' h' tk q hv (aside_back F R R').1 (aside_back F R R').2
theorem TV.here {W : Str → Prop} {e : Expr} {Q₁ : Bool → Hp → Prop} (h : TV cx d sc loc e H Q₁) {env : Env} {A : Around} {P : PH} {s : Shared} {E : Value → Shared → Prop} {Q' : Bool → Shared → Prop}
    (he : EnvOk sc env) (F : FrameW W env loc P H s.heap) (hA : Room d A) (R : Rep cx P H s.heap)
    (k : ∀ v H' h' tk, Q₁ v H' → FrameW W env loc P H' h' → Rep cx P H' h' → Q' v { s with heap := h', toks := tk }) :
    wpAny (model cx.prog cx.w) A (isTrue e env (eval e env)) Q' E s :=
  h env A _ s E Q' he (aside_frame F) hA (aside_rep F R) fun v H' h' tk q R' => k v H' h' tk q (aside_back F R R').1 (aside_back F R R').2

theorem EX_nil (hq : Q .next loc H) : EX cx d sc loc [] H Q := fun _ _ _ s _ _ _ F _ R k => wpAny_execs_nil (k .next .next loc H s.heap s.toks hq rfl F R)

/-- the rest of a block behind one statement -/
def andThen (cx : Cx) (d : Nat) (sc : Scope) (rest : List Stmt) (Q : AF → Loc → Hp → Prop) : AF → Loc → Hp → Prop
  | .next, loc, H => EX cx d sc loc rest H Q
  | f, loc, H => Q f loc H
theorem EX_cons {st : Stmt} {rest : List Stmt} (h : EX1 cx d sc loc st H (andThen cx d sc rest Q)) : EX cx d sc loc (st :: rest) H Q := by
  intro env A P s E Q' he F hA R k
  refine wpAny_execs_cons (h env A P s E _ he F hA R fun f Fl loc' H' h' tk q hf F' R' => ?_)
  cases f with
  | next => cases hf; exact q env A P _ E Q' he F' hA R' fun f₂ Fl₂ l₂ H₂ h₂ tk₂ => k f₂ Fl₂ l₂ H₂ h₂ tk₂
  | brk => cases hf; exact k .brk _ _ _ _ _ q rfl F' R'
  | cont => cases hf; exact k .cont _ _ _ _ _ q rfl F' R'
  | ret v => obtain ⟨V, rfl, hv⟩ := hf; exact k (.ret v) _ _ _ _ _ q ⟨V, rfl, hv⟩ F' R'

theorem EX_Return {e : Expr} {pos : Pos} (h : EV cx d sc loc e H fun v H' => Q (.ret v) loc H') : EX1 cx d sc loc (.Return (some e) pos) H Q := by
  intro env A P s E Q' he F hA R k
  exact wpAny_Return_some (h.here he F hA R fun v V H' h' tk q hv F' R' => k (.ret v) (.ret V) loc H' h' tk q ⟨V, rfl, hv⟩ F' R')

theorem EX_If {t : Expr} {b o : List Stmt} {pos : Pos} (h : TV cx d sc loc t H fun c H' => if c = true then EX cx d sc loc b H' Q else EX cx d sc loc o H' Q) : EX1 cx d sc loc (.If t b o pos) H Q := by
  intro env A P s E Q' he F hA R k
  refine wpAny_If (h.here he F hA R fun c H' h' tk q F' R' => ?_)
  cases c with
  | true => simp only [if_true] at q ⊢; exact q env A P _ E Q' he F' hA R' fun f₂ Fl₂ l₂ H₂ h₂ tk₂ => k f₂ Fl₂ l₂ H₂ h₂ tk₂
  | false => simp only [Bool.false_eq_true, if_false] at q ⊢; exact q env A P _ E Q' he F' hA R' fun f₂ Fl₂ l₂ H₂ h₂ tk₂ => k f₂ Fl₂ l₂ H₂ h₂ tk₂

/-- a name that a store may bind -/
def storable (sc : Scope) (x : Str) : Bool := (sc.names.lookup x == some .local || sc.names.lookup x == some .cell) && plainName x

theorem storable_of {sc : Scope} {x : Str} (h : storable sc x = true) : (sc.names.lookup x = some .local ∨ sc.names.lookup x = some .cell) ∧ plainName x = true := by
  simp only [storable, Bool.and_eq_true, Bool.or_eq_true, beq_iff_eq] at h
  exact h

theorem upd_some {loc : Loc} {x y : Str} {v w : AV} (h : upd loc x v y = some w) : (y = x ∧ w = v) ∨ (y ≠ x ∧ loc y = some w) := by
  unfold upd at h
  split at h
  · rename_i e; cases h; exact .inl ⟨e, rfl⟩
  · rename_i e; exact .inr ⟨e, h⟩

theorem store_own {W : Str → Prop} {env : Env} {A : Around} {P : PH} {s : Shared} {E : Value → Shared → Prop} {Q' : Unit → Shared → Prop} {x : Str} {v : AV} {V : Value}
    (he : EnvOk sc env) (F : FrameW W env loc P H s.heap) (R : Rep cx P H s.heap) (hx : storable sc x = true) (hv : VR v V)
    (k : ∀ h' tk, FrameW W env (upd loc x v) P H h' → Rep cx P H h' → Q' () { s with heap := h', toks := tk }) (hW : W x := by trivial) :
    wpAny (model cx.prog cx.w) A (storeName env x V) Q' E s := by
  obtain ⟨hk, hp⟩ := storable_of hx
  have repBut : ∀ b h', fp env b → P b = none → Heap.SameBut b s.heap h' → Rep cx P H h' := fun b h' hb hPb hs => by
    refine ⟨R.base, fun a o e => ?_, fun a o e => ?_, R.sep, R.scr⟩
    · have hne : a ≠ b := fun q => by rw [q, hPb] at e; cases e
      exact (hs.2 a hne).trans (R.ext a o e)
    · have hne : a ≠ b := fun q => by rw [q, F.offH b hb] at e; cases e
      obtain ⟨O, hO, r⟩ := R.obj a o e
      exact ⟨O, (hs.2 a hne).trans hO, r⟩
  rw [← he.scope] at hk
  rcases hk with hk | hk
  · obtain ⟨m, hn, hm⟩ := F.at_.ns
    refine wpAny_storeName_local hk hn.heap (fun h' hn' hs' => k h' _ ⟨⟨⟨_, hn', fun y w hy hl => ?_⟩, fun y w hy hc => ?_, fun y w hy => ?_, fun y c hm' => ?_⟩, F.cellHas, F.apart, F.cellNe, F.locP, F.cellP, F.offH⟩ (repBut _ h' (.inl rfl) F.locP hs')) (by rw [he.kind]; rfl)
    · rcases upd_some hy with ⟨rfl, rfl⟩ | ⟨hne, hy⟩
      · exact ⟨V, by simp, hv⟩
      · obtain ⟨W, hW, hr⟩ := hm y w hy hl
        exact ⟨W, by simp [hne, hW], hr⟩
    · rcases upd_some hy with ⟨rfl, rfl⟩ | ⟨hne, hy⟩
      · exact absurd hk (by unfold Env.kindOf at hc; rcases hc with e | e <;> rw [e] <;> simp)
      · obtain ⟨c, W, hc', hW, hr⟩ := F.at_.cells y w hy hc
        exact ⟨c, W, hc', hW.heap.sameBut hs' (F.cellNe y c (mem_of_lookup hc')), hr⟩
    · rcases upd_some hy with ⟨rfl, rfl⟩ | ⟨hne, hy⟩
      · exact ⟨.inl hk, hp⟩
      · exact F.at_.dom y w hy
    · obtain ⟨ov, ho⟩ := F.at_.cellOk y c hm'
      exact ⟨ov, ho.heap.sameBut hs' (F.cellNe y c (mem_of_lookup hm'))⟩
  · obtain ⟨c, hc⟩ := Option.isSome_iff_exists.mp (F.cellHas x hk)
    have hcm := mem_of_lookup hc
    obtain ⟨ov, hov⟩ := F.at_.cellOk x c hc
    have hcf : fp env c := .inr ⟨x, hc⟩
    refine wpAny_storeName_cell he.kind hk hc hov.heap fun h' hc' hs' => k h' s.toks ⟨⟨?_, fun y w hy hl => ?_, fun y w hy => ?_, fun y c' hm' => ?_⟩, F.cellHas, F.apart, F.cellNe, F.locP, F.cellP, F.offH⟩ (repBut _ h' hcf (F.cellP x c hW hc) hs')
    · obtain ⟨m, hn, hm⟩ := F.at_.ns
      refine ⟨m, hn.heap.sameBut hs' (Ne.symm (F.cellNe x c hcm)), fun y w hy hl => ?_⟩
      rcases upd_some hy with ⟨rfl, rfl⟩ | ⟨hne, hy⟩
      · exact absurd hk (by unfold Env.kindOf at hl; rw [hl]; simp)
      · exact hm y w hy hl
    · rcases upd_some hy with ⟨rfl, rfl⟩ | ⟨hne, hy⟩
      · exact ⟨c, V, hc, hc', hv⟩
      · obtain ⟨c₂, W, hc₂, hW, hr⟩ := F.at_.cells y w hy hl
        exact ⟨c₂, W, hc₂, hW.heap.sameBut hs' fun e => hne (name_of_addr F.apart (mem_of_lookup hc₂) (e ▸ hcm)), hr⟩
    · rcases upd_some hy with ⟨rfl, rfl⟩ | ⟨hne, hy⟩
      · exact ⟨.inr (.inl hk), hp⟩
      · exact F.at_.dom y w hy
    · by_cases hcc : c' = c
      · exact ⟨some V, hcc ▸ hc'⟩
      · obtain ⟨ov', ho'⟩ := F.at_.cellOk y c' hm'
        exact ⟨ov', ho'.heap.sameBut hs' hcc⟩
end
end Mine

-- Core2
namespace Mine
open PySem

/-- a step of the machine upon two values -/
def OpW (cx : Cx) (d : Nat) (t : Value → Value → Sem Value) (a b : AV) (H : Hp) (Q : AV → Hp → Prop) : Prop :=
  ∀ (A : Around) (P : PH) (s : Shared) (E : Value → Shared → Prop) (Q' : Value → Shared → Prop) (V W : Value), Room d A → Rep cx P H s.heap → VR a V → VR b W →
    (∀ v V H' h' tk, Q v H' → VR v V → Rep cx P H' h' → Q' V { s with heap := h', toks := tk }) → wpAny (model cx.prog cx.w) A (t V W) Q' E s

section
variable {cx : Cx} {d : Nat} {sc : Scope} {loc : Loc} {H : Hp} {Q : AV → Hp → Prop} {QB : Bool → Hp → Prop} {l r e : Expr} {pos : Pos}

theorem EV_BinOp {op : Operator} (h : EV cx d sc loc l H fun a H₁ => EV cx d sc loc r H₁ fun b H₂ => OpW cx d (binaryOp op) a b H₂ Q) : EV cx d sc loc (.BinOp l op r pos) H Q := by
  intro env A P s E Q' he hF hA R k
  refine wpAny_BinOp (h env A P s E _ he hF hA R fun a V H₁ h₁ tk₁ q₁ ha R₁ => ?_)
  refine q₁ env A P _ E _ he hF hA R₁ fun b W H₂ h₂ tk₂ q₂ hb R₂ => ?_
  exact q₂ A P _ E Q' V W hA R₂ ha hb fun v V H' h' tk => k v V H' h' tk

theorem EV_Compare1 {op : CmpOp} (h : EV cx d sc loc l H fun a H₁ => EV cx d sc loc r H₁ fun b H₂ => OpW cx d (compareOp op) a b H₂ Q)
    (hm : behindInMarks op r = false := by with_unfolding_all rfl) : EV cx d sc loc (.Compare l [op] [r] pos) H Q := by
  intro env A P s E Q' he hF hA R k
  refine wpAny_Compare1 (h env A P s E _ he hF hA R fun a V H₁ h₁ tk₁ q₁ ha R₁ => ?_) hm
  refine q₁ env A P _ E _ he hF hA R₁ fun b W H₂ h₂ tk₂ q₂ hb R₂ => ?_
  exact q₂ A P _ E Q' V W hA R₂ ha hb fun v V H' h' tk => k v V H' h' tk

/-- what a test gives: a bool -/
def asB (QB : Bool → Hp → Prop) : AV → Hp → Prop
  | .bool b, H => QB b H
  | _, _ => False

theorem asB_of {v : AV} {H : Hp} (h : asB QB v H) : ∃ b, v = .bool b ∧ QB b H := by
  cases v <;> first | exact h.elim | exact ⟨_, rfl, h⟩

theorem TV_Compare1 {op : CmpOp} (h : EV cx d sc loc l H fun a H₁ => EV cx d sc loc r H₁ fun b H₂ => OpW cx d (compareOp op) a b H₂ (asB QB))
    (hm : behindInMarks op r = false := by with_unfolding_all rfl) : TV cx d sc loc (.Compare l [op] [r] pos) H QB := by
  intro env A P s E Q' he hF hA R k
  refine wpAny_isTrue_Compare1 (h env A P s E _ he hF hA R fun a V H₁ h₁ tk₁ q₁ ha R₁ => ?_) hm
  refine q₁ env A P _ E _ he hF hA R₁ fun b W H₂ h₂ tk₂ q₂ hb R₂ => ?_
  refine q₂ A P _ E _ V W hA R₂ ha hb fun v V' H' h' tk q hv R' => ?_
  obtain ⟨c, rfl, q⟩ := asB_of q
  cases hv
  exact wpAny_truthy_bool (k c H' h' tk q R')

theorem TV_val (h : EV cx d sc loc e H (asB QB)) (ht : ∀ env whole, isTrue e env whole = (do let v ← whole; standAt e.pos; holding [v] (truthy v)) := by intro _ _; rfl) : TV cx d sc loc e H QB := by
  intro env A P s E Q' he hF hA R k
  refine wpAny_isTrue_value (h env A P s E _ he hF hA R fun v V H' h' tk q hv R' => ?_) (ht env _)
  obtain ⟨c, rfl, q⟩ := asB_of q
  cases hv
  exact wpAny_truthy_bool (k c H' h' tk q R')

theorem TV_Not (h : TV cx d sc loc e H fun b H' => QB (!b) H') : TV cx d sc loc (.UnaryOp .Not e pos) H QB := by
  intro env A P s E Q' he hF hA R k
  exact wpAny_isTrue_Not (h env A P s E _ he hF hA R fun b H' h' tk q R' => k _ H' h' tk q R')

theorem EV_Not (h : EV cx d sc loc e H (asB fun b H' => Q (.bool (!b)) H')) : EV cx d sc loc (.UnaryOp .Not e pos) H Q := by
  intro env A P s E Q' he hF hA R k
  refine wpAny_UnaryOp (h env A P s E _ he hF hA R fun v V H' h' tk q hv R' => ?_)
  obtain ⟨c, rfl, q⟩ := asB_of q
  cases hv
  exact not_value (wpAny_truthy_bool (k _ _ H' h' tk q rfl R'))

/-- the tests of an «and», one behind the other -/
def TAnd (cx : Cx) (d : Nat) (sc : Scope) (loc : Loc) : List Expr → Hp → (Bool → Hp → Prop) → Prop
  | [], H, QB => QB true H
  | e :: r, H, QB => TV cx d sc loc e H fun b H' => if b = true then TAnd cx d sc loc r H' QB else QB false H'
def TOr (cx : Cx) (d : Nat) (sc : Scope) (loc : Loc) : List Expr → Hp → (Bool → Hp → Prop) → Prop
  | [], H, QB => QB false H
  | e :: r, H, QB => TV cx d sc loc e H fun b H' => if b = true then QB true H' else TOr cx d sc loc r H' QB

theorem TV_Or {es : List Expr} (h : TOr cx d sc loc es H QB) : TV cx d sc loc (.BoolOp .Or es pos) H QB := by
  intro env A P s E Q' he hF hA R k
  refine wpAny_isTrue_BoolOp ?_
  induction es generalizing H s with
  | nil => exact wpAny_allTrue_Or_nil (k false H s.heap s.toks h R)
  | cons e r ih =>
    refine wpAny_allTrue_Or_cons (h env A P s E _ he hF hA R fun b H' h' tk q R' => ?_)
    cases b with
    | false => simp only [Bool.false_eq_true, if_false] at q ⊢; exact ih q _ R' fun b H₂ h₂ tk₂ => k b H₂ h₂ tk₂
    | true => simp only [if_true] at q ⊢; exact k true H' h' tk q R'

theorem EV_And2 {x y : Expr} (h : EV cx d sc loc x H (asB fun b H' => if b = true then EV cx d sc loc y H' Q else Q (.bool false) H')) : EV cx d sc loc (.BoolOp .And [x, y] pos) H Q := by
  intro env A P s E Q' he hF hA R k
  refine wpAny_And2 (h env A P s E _ he hF hA R fun v V H' h' tk q hv R' => ?_)
  obtain ⟨c, rfl, q⟩ := asB_of q
  cases hv
  refine wpAny_truthy_bool ?_
  cases c with
  | true => simp only [if_true] at q ⊢; exact q env A P _ E Q' he hF hA R' fun v V H₂ h₂ tk₂ => k v V H₂ h₂ tk₂
  | false => simp only [Bool.false_eq_true, if_false] at q ⊢; exact k _ _ H' h' tk q rfl R'
/-! two comparisons in a chain -/
theorem wpAny_release {M : Model} {A : Around} {E : Value → Shared → Prop} {s : Shared} {vs ks : List Value} {Q : Unit → Shared → Prop} (h : Q () s) : wpAny M A (release vs ks) Q E s :=
  fun Γ p hΓ => by rw [Sem.wp_release]; exact h

theorem EV_Compare2 {a b c : Expr} {op₁ op₂ : CmpOp}
    (h : EV cx d sc loc a H fun x H₁ => EV cx d sc loc b H₁ fun y H₂ => OpW cx d (compareOp op₁) x y H₂ (asB fun t H₃ =>
      if t = true then EV cx d sc loc c H₃ fun z H₄ => OpW cx d (compareOp op₂) y z H₄ Q else Q (.bool false) H₃))
    (hm : behindInMarks op₂ c = false := by with_unfolding_all rfl) : EV cx d sc loc (.Compare a [op₁, op₂] [b, c] pos) H Q := by
  intro env A P s E Q' he hF hA R k
  show wpAny _ A (eval a env >>= fun left => (do
    let rv ← holding [left] (eval b env)
    standAt pos
    let c' ← holding [left, rv] (compareOp op₁ left rv)
    release [left, rv] [c']
    if ← holding [c', rv] (truthy c') then (do
      let rv' ← holding [rv] (markedBehindIn op₂ c (eval c env))
      standAt pos
      operate [rv, rv'] (compareOp op₂ rv rv')) else pure c')) Q' E s
  rw [markedBehindIn_of_false hm]
  refine wpAny_bind (h env A P s E _ he hF hA R fun x V H₁ h₁ tk₁ q₁ hx R₁ => ?_)
  refine wpAny_bind (wpAny_holding (q₁ env A P _ E _ he hF hA R₁ fun y W H₂ h₂ tk₂ q₂ hy R₂ => ?_))
  refine wpAny_bind (wpAny_standAt (wpAny_bind (wpAny_holding (q₂ A P _ E _ V W hA R₂ hx hy fun t T H₃ h₃ tk₃ q₃ ht R₃ => ?_))))
  obtain ⟨t, rfl, q₃⟩ := asB_of q₃
  cases ht
  refine wpAny_bind (wpAny_release (wpAny_bind (wpAny_holding (wpAny_truthy_bool ?_))))
  cases t with
  | false => simp only [Bool.false_eq_true, if_false] at q₃ ⊢; exact wpAny_pure (k _ _ H₃ h₃ tk₃ q₃ rfl R₃)
  | true =>
    simp only [if_true] at q₃ ⊢
    refine wpAny_bind (wpAny_holding (q₃ env A P _ E _ he hF hA R₃ fun z Z H₄ h₄ tk₄ q₄ hz R₄ => ?_))
    exact wpAny_bind (wpAny_standAt (wpAny_operating (q₄ A P _ E Q' W Z hA R₄ hy hz fun v V H' h' tk => k v V H' h' tk)))

theorem TV_Compare2 {a b c : Expr} {op₁ op₂ : CmpOp}
    (h : EV cx d sc loc a H fun x H₁ => EV cx d sc loc b H₁ fun y H₂ => OpW cx d (compareOp op₁) x y H₂ (asB fun t H₃ =>
      if t = true then EV cx d sc loc c H₃ fun z H₄ => OpW cx d (compareOp op₂) y z H₄ (asB QB) else QB false H₃))
    (hm : behindInMarks op₂ c = false := by with_unfolding_all rfl) : TV cx d sc loc (.Compare a [op₁, op₂] [b, c] pos) H QB := by
  intro env A P s E Q' he hF hA R k
  show wpAny _ A (eval a env >>= fun left => (do
    let rv ← holding [left] (eval b env)
    standAt pos
    let c' ← holding [left, rv] (compareOp op₁ left rv)
    release [left, rv] [c']
    if ← holding [c', rv] (truthy c') then (do
      let rv' ← holding [rv] (markedBehindIn op₂ c (eval c env))
      standAt pos
      let c'' ← operate [rv, rv'] (compareOp op₂ rv rv')
      holding [c''] (truthy c'')) else pure false)) Q' E s
  rw [markedBehindIn_of_false hm]
  refine wpAny_bind (h env A P s E _ he hF hA R fun x V H₁ h₁ tk₁ q₁ hx R₁ => ?_)
  refine wpAny_bind (wpAny_holding (q₁ env A P _ E _ he hF hA R₁ fun y W H₂ h₂ tk₂ q₂ hy R₂ => ?_))
  refine wpAny_bind (wpAny_standAt (wpAny_bind (wpAny_holding (q₂ A P _ E _ V W hA R₂ hx hy fun t T H₃ h₃ tk₃ q₃ ht R₃ => ?_))))
  obtain ⟨t, rfl, q₃⟩ := asB_of q₃
  cases ht
  refine wpAny_bind (wpAny_release (wpAny_bind (wpAny_holding (wpAny_truthy_bool ?_))))
  cases t with
  | false => simp only [Bool.false_eq_true, if_false] at q₃ ⊢; exact wpAny_pure (k _ H₃ h₃ tk₃ q₃ R₃)
  | true =>
    simp only [if_true] at q₃ ⊢
    refine wpAny_bind (wpAny_holding (q₃ env A P _ E _ he hF hA R₃ fun z Z H₄ h₄ tk₄ q₄ hz R₄ => ?_))
    refine wpAny_bind (wpAny_standAt (wpAny_bind (wpAny_operating (q₄ A P _ E _ W Z hA R₄ hy hz fun v V' H' h' tk q hv R' => ?_))))
    obtain ⟨c', rfl, q⟩ := asB_of q
    cases hv
    exact wpAny_holding (wpAny_truthy_bool (k c' H' h' tk q R'))
end

section
variable {cx : Cx} {d : Nat} {H : Hp} {Q : AV → Hp → Prop} {a b : Int}

theorem Op_add (hq : Q (.int (a + b)) H) : OpW cx d (binaryOp .Add) (.int a) (.int b) H Q := by
  rintro A P s E Q' V W hA R ⟨t, rfl⟩ ⟨u, rfl⟩ k
  exact PySem.P.add_int (k _ _ H s.heap _ hq ⟨_, rfl⟩ R)
theorem Op_sub (hq : Q (.int (a - b)) H) : OpW cx d (binaryOp .Sub) (.int a) (.int b) H Q := by
  rintro A P s E Q' V W hA R ⟨t, rfl⟩ ⟨u, rfl⟩ k
  exact PySem.P.sub_int (k _ _ H s.heap _ hq ⟨_, rfl⟩ R)
theorem Op_mul (hm : IntMulOk a b) (hq : Q (.int (a * b)) H) : OpW cx d (binaryOp .Mult) (.int a) (.int b) H Q := by
  rintro A P s E Q' V W hA R ⟨t, rfl⟩ ⟨u, rfl⟩ k
  exact PySem.P.mul_int (k _ _ H s.heap _ hq ⟨_, rfl⟩ R) hm
theorem Op_eq (hq : Q (.bool (decide (a = b))) H) : OpW cx d (compareOp .Eq) (.int a) (.int b) H Q := by
  rintro A P s E Q' V W hA R ⟨t, rfl⟩ ⟨u, rfl⟩ k
  exact PySem.P.eq_int (k _ _ H s.heap s.toks hq (by show Value.bool (a == b) = .bool (decide (a = b)); rw [show (a == b) = decide (a = b) from rfl]) R)
theorem Op_ne (hq : Q (.bool (decide (a ≠ b))) H) : OpW cx d (compareOp .NotEq) (.int a) (.int b) H Q := by
  rintro A P s E Q' V W hA R ⟨t, rfl⟩ ⟨u, rfl⟩ k
  exact PySem.P.ne_int (k _ _ H s.heap s.toks hq (by show Value.bool (a != b) = .bool (decide (a ≠ b)); rw [show (a != b) = !(decide (a = b)) from rfl]; simp) R)
theorem Op_lt (hq : Q (.bool (decide (a < b))) H) : OpW cx d (compareOp .Lt) (.int a) (.int b) H Q := by
  rintro A P s E Q' V W hA R ⟨t, rfl⟩ ⟨u, rfl⟩ k
  exact PySem.P.lt_int (k _ _ H s.heap s.toks hq rfl R)
theorem Op_le (hq : Q (.bool (decide (a ≤ b))) H) : OpW cx d (compareOp .LtE) (.int a) (.int b) H Q := by
  rintro A P s E Q' V W hA R ⟨t, rfl⟩ ⟨u, rfl⟩ k
  exact PySem.P.le_int (k _ _ H s.heap s.toks hq rfl R)
theorem Op_gt (hq : Q (.bool (decide (b < a))) H) : OpW cx d (compareOp .Gt) (.int a) (.int b) H Q := by
  rintro A P s E Q' V W hA R ⟨t, rfl⟩ ⟨u, rfl⟩ k
  exact PySem.P.gt_int (k _ _ H s.heap s.toks hq rfl R)
theorem Op_ge (hq : Q (.bool (decide (b ≤ a))) H) : OpW cx d (compareOp .GtE) (.int a) (.int b) H Q := by
  rintro A P s E Q' V W hA R ⟨t, rfl⟩ ⟨u, rfl⟩ k
  exact PySem.P.ge_int (k _ _ H s.heap s.toks hq rfl R)
end

section
variable {cx : Cx} {d : Nat} {sc : Scope} {loc : Loc} {H : Hp} {Q : AF → Loc → Hp → Prop}

theorem EX_Assign {x : Str} {px pos : Pos} {e : Expr} (h : EV cx d sc loc e H fun v H' => Q .next (upd loc x v) H') (hx : storable sc x = true := by rfl)
    (hs : ∀ env, swapsWith e (some (.Name x px)) pos.line env = pure false := by intro _; rfl) : EX1 cx d sc loc (.Assign [.Name x px] e pos) H Q := by
  intro env A P s E Q' he F hA R k
  refine wpAny_Assign_Name (h.here he F hA R fun v V H' h' tk q hv F' R' => ?_) (hs env)
  exact store_own he F' R' hx hv fun h₂ tk₂ F₂ R₂ => k .next .next _ H' h₂ tk₂ q rfl F₂ R₂

theorem EX_Expr {e : Expr} {pos : Pos} (h : EV cx d sc loc e H fun v H' => v = .none ∧ Q .next loc H') (hs : ∀ env, swapsWith e none pos.line env = pure false := by intro _; rfl) : EX1 cx d sc loc (.Expr e pos) H Q := by
  intro env A P s E Q' he F hA R k
  refine wpAny_Expr (h.here he F hA R fun v V H' h' tk q hv F' R' => ?_) (by unfold interactive; rw [he.kind]; rfl) (hs env)
  obtain ⟨rfl, q⟩ := q
  cases hv
  exact k .next .next _ H' h' tk q rfl F' R'
end
end Mine

-- Core2b
namespace Mine
open PySem
section
variable {cx : Cx} {d : Nat} {H : Hp} {Q : AV → Hp → Prop} {a b : Int}
theorem Op_floordiv (hb : 0 < b) (hb' : b < 1073741824) (hq : Q (.int (a / b)) H) : OpW cx d (binaryOp .FloorDiv) (.int a) (.int b) H Q := by
  rintro A P s E Q' V W hA R ⟨t, rfl⟩ ⟨u, rfl⟩ k
  refine PyProof.Rows.floordiv_int (by omega) ?_ (.inl (PyProof.noPylong_small (by omega)))
  rw [Int.fdiv_eq_ediv_of_nonneg _ (by omega)]
  exact k _ _ H s.heap _ hq ⟨_, rfl⟩ R
theorem Op_mod (hb : 0 < b) (hq : Q (.int (a % b)) H) : OpW cx d (binaryOp .Mod) (.int a) (.int b) H Q := by
  rintro A P s E Q' V W hA R ⟨t, rfl⟩ ⟨u, rfl⟩ k
  refine PyProof.Rows.mod_int' (by omega) ?_
  rw [Int.fmod_eq_emod_of_nonneg _ (by omega)]
  exact k _ _ H s.heap _ hq ⟨_, rfl⟩ R
end
end Mine

-- Core3
namespace Mine
open PySem

/-! ## arguments, calls of the text's own defs -/
def EVs (cx : Cx) (d : Nat) (sc : Scope) (loc : Loc) : List Expr → Hp → (List AV → Hp → Prop) → Prop
  | [], H, Q => Q [] H
  | e :: r, H, Q => EV cx d sc loc e H fun v H₁ => EVs cx d sc loc r H₁ fun vs H₂ => Q (v :: vs) H₂

def notStar : Expr → Bool
  | .Starred _ _ => false
  | _ => true
theorem starEach_cons {e : Expr} {rest : List Expr} {env : Env} (h : notStar e = true) : starEach (e :: rest) env = (false, eval e env) :: starEach rest env := by
  cases e <;> first | rfl | cases h

section
variable {cx : Cx} {d : Nat} {sc : Scope} {loc : Loc} {H : Hp} {Q : AV → Hp → Prop}

theorem EVs.sound : ∀ {es : List Expr} {H : Hp} {QL : List AV → Hp → Prop}, EVs cx d sc loc es H QL → es.all notStar = true →
    ∀ {env : Env} {A : Around} {P : PH} {s : Shared} {E : Value → Shared → Prop} {Q' : List Value → Shared → Prop} {pos : Pos}, EnvOk sc env → FrameP env loc P → Room d A → Rep cx P H s.heap →
    (∀ vs Vs H' h' tk, QL vs H' → VRs vs Vs → Rep cx P H' h' → Q' Vs { s with heap := h', toks := tk }) →
    wpAny (model cx.prog cx.w) A (spliced (backTo pos (starEach es env))) Q' E s
  | [], H, _, h, _, _, _, _, s, _, _, _, _, _, _, R, k => wpAny_items_nil (k [] [] H s.heap s.toks h trivial R)
  | e :: r, H, _, h, hn, env, A, P, s, E, _, pos, he, hF, hA, R, k => by
    simp only [List.all_cons, Bool.and_eq_true] at hn
    refine wpAny_items_cons (h env A P s E _ he hF hA R fun v V H₁ h₁ tk₁ q hv R₁ => ?_) (starEach_cons hn.1)
    exact EVs.sound q hn.2 he hF hA R₁ fun vs Vs H' h' tk q' hvs R' => k (v :: vs) (V :: Vs) H' h' tk q' ⟨hv, hvs⟩ R'

/-- what a call of the value V with these arguments does -/
def CW (cx : Cx) (d : Nat) (V : Value) (args : List AV) (H : Hp) (Q : AV → Hp → Prop) : Prop :=
  ∀ (A : Around) (P : PH) (s : Shared) (E : Value → Shared → Prop) (Q' : Value → Shared → Prop) (vs : List Value), Room d A → Rep cx P H s.heap → VRs args vs →
    (∀ v V H' h' tk, Q v H' → VR v V → Rep cx P H' h' → Q' V { s with heap := h', toks := tk }) → wpAny (model cx.prog cx.w) A (call V vs) Q' E s

/-- the text's def f stands at fa -/
structure IsFn (cx : Cx) (f : Str) (fa : Addr) (fd : FuncData) : Prop where
  g : cx.mg f = some (.ref fa)
  o : ∃ o, cx.base.get? fa = some o ∧ o.data = .func fd
  code : cx.base.CodeRec fd.code fd.qualname

theorem Rep.keeps {P : PH} {h : Heap} (R : Rep cx P H h) : ∀ b o, cx.base.get? b = some o → h.get? b = some o := fun b o e => R.ext b o (R.base b o e)

def globalName (sc : Scope) (x : Str) : Bool := sc.names.lookup x == some .globalImplicit && !(x == ("__debug__" : Str))

theorem load_global {x : Str} {pos : Pos} {V : Value} {env : Env} {A : Around} {P : PH} {s : Shared} {E : Value → Shared → Prop} {Q' : Value → Shared → Prop}
    (he : EnvOk sc env) (R : Rep cx P H s.heap) (hx : globalName sc x = true) (hg : cx.mg x = some V) (h : Q' V s) : wpAny (model cx.prog cx.w) A (eval (.Name x pos) env) Q' E s := by
  simp only [globalName, Bool.and_eq_true, beq_iff_eq, Bool.not_eq_true'] at hx
  rw [← he.scope] at hx
  refine Calls.Name_function_global he.kind hx.1 (Calls.loadGlobal_global (mg := cx.mg) ?_ hg h) hx.2
  rw [he.glob]; exact cx.g.keeps R.keeps
theorem load_builtin {x : Str} {pos : Pos} {V : Value} {env : Env} {A : Around} {P : PH} {s : Shared} {E : Value → Shared → Prop} {Q' : Value → Shared → Prop}
    (he : EnvOk sc env) (R : Rep cx P H s.heap) (hx : globalName sc x = true) (hg : cx.mg x = none) (hn : x ≠ "__name__") (hb : bootBuiltins x = some V) (h : Q' V s) :
    wpAny (model cx.prog cx.w) A (eval (.Name x pos) env) Q' E s := by
  simp only [globalName, Bool.and_eq_true, beq_iff_eq, Bool.not_eq_true'] at hx
  rw [← he.scope] at hx
  refine Calls.Name_function_global he.kind hx.1 (Calls.loadGlobal_builtin (mg := cx.mg) (mb := cx.mb) ?_ hg ?_ ((cx.builtins x hn).trans hb) h) hx.2
  · rw [he.glob]; exact cx.g.keeps R.keeps
  · rw [he.blt]; exact cx.b.keeps R.keeps

/-- a global int, bool .. of the text -/
theorem EV_Global {x : Str} {pos : Pos} {v : AV} {V : Value} (hg : cx.mg x = some V) (hv : VR v V) (hq : Q v H) (hx : globalName sc x = true := by rfl) : EV cx d sc loc (.Name x pos) H Q :=
  fun _ _ _ s _ _ he _ _ R k => load_global he R hx hg (k v V H s.heap s.toks hq hv R)

theorem eval_Call_Name (f : Str) (p : Pos) (args : List Expr) (kws : List Keyword) (pos : Pos) (env : Env) :
    eval (.Call (.Name f p) args kws pos) env = (do callWith pos (← eval (.Name f p) env) [] (backTo pos (starEach args env)) (backToKw pos (keywordEach kws env))) := rfl

theorem EV_CallF {f : Str} {fa : Addr} {fd : FuncData} {e : Expr} {r : List Expr} {p pos : Pos} (hf : IsFn cx f fa fd)
    (h : EVs cx d sc loc (e :: r) H fun vs H' => CW cx d (.ref fa) vs H' Q) (hx : globalName sc f = true := by rfl) (hn : (e :: r).all notStar = true := by rfl) :
    EV cx d sc loc (.Call (.Name f p) (e :: r) [] pos) H Q := by
  intro env A P s E Q' he hF hA R k
  obtain ⟨o, ho, hd⟩ := hf.o
  rw [eval_Call_Name]
  refine wpAny_bind (load_global he R hx hf.g (Calls.callWith_function (o := o) (fd := fd) ?_))
  have hn1 : notStar e = true := by simp only [List.all_cons, Bool.and_eq_true] at hn; exact hn.1
  have hs := EVs.sound (env := env) (A := A) (P := P) (s := s) (E := E) (pos := pos) h hn he hF hA R (Q' := fun vs s₁ => (s₁.heap.get? fa = some o ∧ o.data = .func fd) ∧ wpAny (model cx.prog cx.w) A (call (.ref fa) vs) Q' E s₁)
    (fun vs Vs H' h' tk q hvs R' => ⟨⟨R'.keeps _ _ ho, hd⟩, q A P _ E Q' Vs hA R' hvs fun v V H₂ h₂ tk₂ => k v V H₂ h₂ tk₂⟩)
  rw [starEach_cons hn1] at hs ⊢
  exact Calls.evalArgs_plain hs

theorem backTo_plain {pos : Pos} : ∀ {es : List Expr} {env : Env}, es.all notStar = true → (backTo pos (starEach es env)).any (·.1) = false
  | [], _, _ => rfl
  | e :: r, env, h => by
    simp only [List.all_cons, Bool.and_eq_true] at h
    rw [starEach_cons h.1]
    show (false || (backTo pos (starEach r env)).any (·.1)) = false
    rw [backTo_plain h.2]; rfl

/-- the name of a built-in function -/
structure IsBuiltin (cx : Cx) (x : Str) (V : Value) : Prop where
  g : cx.mg x = none
  n : x ≠ "__name__"
  b : bootBuiltins x = some V

theorem EV_CallB {f : Str} {id : String} {e : Expr} {r : List Expr} {p pos : Pos} (hf : IsBuiltin cx f (.builtin id))
    (h : EVs cx d sc loc (e :: r) H fun vs H' => CW cx d (.builtin id) vs H' Q) (hx : globalName sc f = true := by rfl) (hn : (e :: r).all notStar = true := by rfl) :
    EV cx d sc loc (.Call (.Name f p) (e :: r) [] pos) H Q := by
  intro env A P s E Q' he hF hA R k
  rw [eval_Call_Name]
  refine wpAny_bind (load_builtin he R hx hf.g hf.n hf.b (Calls.callWith_builtin (backTo_plain hn) ?_))
  have hn1 : notStar e = true := by simp only [List.all_cons, Bool.and_eq_true] at hn; exact hn.1
  have hs := EVs.sound (env := env) (A := A) (P := P) (s := s) (E := E) (pos := pos) h hn he hF hA R (Q' := fun vs s₁ => wpAny (model cx.prog cx.w) A (call (.builtin id) vs) Q' E s₁)
    (fun vs Vs H' h' tk q hvs R' => q A P _ E Q' Vs hA R' hvs fun v V H₂ h₂ tk₂ => k v V H₂ h₂ tk₂)
  rw [starEach_cons hn1] at hs ⊢
  exact Calls.evalArgs_plain hs

/-! entering a def -/
def bindA : List (Str × AV) → Loc → Loc
  | [], loc => loc
  | (n, v) :: r, loc => bindA r (upd loc n v)

theorem cells_some {x : Str} : ∀ (names : List (Str × NameKind)) (n : Nat) (acc : List (Str × Addr)), names.lookup x = some .cell ∨ (acc.lookup x).isSome = true → ((cellsFrom n names acc).lookup x).isSome = true
  | [], _, _, h => h.elim (fun e => by cases e) id
  | (y, k) :: r, n, acc, h => by
    unfold cellsFrom
    by_cases hk : (k == .cell) = true
    · rw [if_pos hk]
      refine cells_some r (n + 1) ((y, n) :: acc) ?_
      by_cases hy : (x == y) = true
      · exact .inr (by rw [List.lookup_cons, hy]; rfl)
      · refine h.imp (fun e => ?_) fun e => ?_
        · rw [List.lookup_cons] at e; simpa only [hy] using e
        · rw [List.lookup_cons]; simpa only [hy] using e
    · rw [if_neg hk]
      refine cells_some r n acc ?_
      by_cases hy : (x == y) = true
      · refine .inr (h.elim (fun e => ?_) id)
        rw [List.lookup_cons, hy] at e
        exact absurd (by rw [Option.some.inj e]; rfl) hk
      · refine h.imp (fun e => ?_) id
        rw [List.lookup_cons] at e; simpa only [hy] using e

theorem bind_frame {kd : Str → Option NameKind} : ∀ (names : List Str) (as : List AV) (vs : List Value) (loc : Loc) (m cm : Str → Option Value), VRs as vs →
    (∀ x v, loc x = some v → kd x = some .local → ∃ V, m x = some V ∧ VR v V) → (∀ x v, loc x = some v → kd x ≠ some .local → ∃ V, cm x = some V ∧ VR v V) →
    (∀ x v, bindA (names.zip as) loc x = some v → kd x = some .local → ∃ V, bindL kd (names.zip vs) m x = some V ∧ VR v V) ∧
    (∀ x v, bindA (names.zip as) loc x = some v → kd x ≠ some .local → ∃ V, bindC kd (names.zip vs) cm x = some V ∧ VR v V)
  | [], _, _, _, _, _, _, h1, h2 => ⟨by simpa [bindA, bindL] using h1, by simpa [bindA, bindC] using h2⟩
  | n :: ns, [], [], _, _, _, _, h1, h2 => ⟨by simpa [bindA, bindL] using h1, by simpa [bindA, bindC] using h2⟩
  | n :: ns, a :: as, v :: vs, loc, m, cm, hr, h1, h2 => by
    simp only [List.zip_cons_cons, bindA, bindL, bindC]
    refine bind_frame ns as vs _ _ _ hr.2 (fun x w hx hk => ?_) (fun x w hx hk => ?_)
    · rcases upd_some hx with ⟨rfl, rfl⟩ | ⟨hne, hx⟩
      · rw [if_pos hk]; exact ⟨v, by simp, hr.1⟩
      · obtain ⟨V, hV, hv⟩ := h1 x w hx hk
        refine ⟨V, ?_, hv⟩
        split
        · simpa [hne] using hV
        · exact hV
    · rcases upd_some hx with ⟨rfl, rfl⟩ | ⟨hne, hx⟩
      · rw [if_neg hk]; exact ⟨v, by simp, hr.1⟩
      · obtain ⟨V, hV, hv⟩ := h2 x w hx hk
        refine ⟨V, ?_, hv⟩
        split
        · exact hV
        · simpa [hne] using hV
  | _ :: _, [], _ :: _, _, _, _, h, _, _ => h.elim
  | _ :: _, _ :: _, [], _, _, _, h, _, _ => h.elim

theorem bindA_dom : ∀ (names : List Str) (as : List AV) (loc : Loc) (x : Str) (v : AV), bindA (names.zip as) loc x = some v → x ∈ names ∨ loc x = some v
  | [], _, _, _, _, h => .inr (by simpa [bindA] using h)
  | n :: ns, [], _, _, _, h => .inr (by simpa [bindA] using h)
  | n :: ns, a :: as, loc, x, v, h => by
    simp only [List.zip_cons_cons, bindA] at h
    rcases bindA_dom ns as _ x v h with h | h
    · exact .inl (.tail _ h)
    · rcases upd_some h with ⟨rfl, rfl⟩ | ⟨_, h⟩
      · exact .inl (.head _)
      · exact .inr h

/-- what a def gives back -/
def retQ (Q : AV → Hp → Prop) : AF → Loc → Hp → Prop
  | .ret v, _, H => Q v H
  | .next, _, H => Q .none H
  | _, _, _ => False

theorem CW_def {f : Str} {fa : Addr} {fd : FuncData} {body : List Stmt} {names : List Str} {args : List AV} (hf : IsFn cx f fa fd) (hb : fd.body = .stmts body) (hc : fd.closure = [])
    (hbind : ∀ vs : List Value, vs.length = args.length → bindArgs fd ⟨vs, []⟩ = pure (names.zip vs)) (hnm : names.all (storable fd.scope) = true)
    (hgl : fd.globals = mainGlobals) (hbl : fd.builtins = builtinsNs)
    (h : EX cx d fd.scope (bindA (names.zip args) fun _ => none) body H (retQ Q)) (hnf : fd.scope.names.all (fun y => y.2 != .free) = true := by rfl)
    (hco : fd.scope.isCoroutine = false := by rfl) (hgen : fd.scope.isGenerator = false := by rfl) (hk : fd.scope.kind = .function := by rfl) :
    CW cx (d + 1) (.ref fa) args H Q := by
  intro A P s E Q' vs hA R hvs k
  obtain ⟨o, ho, hd⟩ := hf.o
  have hroom : A.depth < recursionLimit := Nat.lt_of_le_of_lt (Nat.le_add_right _ _) hA.depth
  refine wpAny_call (codeAny_call_cells (fd := fd) (body := body) (binds := names.zip vs) hroom (R.keeps _ _ ho) hd (cx.nolimit.keeps R.keeps) (hf.code.keeps R.keeps) hb (hbind vs hvs.length.symm) hc ?_ ?_ hco hgen hk)
  · intro x hx
    have hx1 : x.1 ∈ names := (List.of_mem_zip hx).1
    have := (storable_of (List.all_eq_true.mp hnm x.1 hx1)).1
    exact this.imp id fun e => ⟨e, cells_some _ _ _ (.inl e)⟩
  · intro s₁ X
    obtain ⟨h₁, tk₁, rfl⟩ := X.toInCall.same
    have hup := X.toInCall.keep
    have R₁ : Rep cx P H h₁ := ⟨R.base, fun a o e => hup a o (R.ext a o e), fun a o e => by obtain ⟨O, hO, r⟩ := R.obj a o e; exact ⟨O, hup a O hO, r⟩, R.sep, R.scr⟩
    have hL : (callEnvC fd s.heap.objs.size fa).locals = s.heap.objs.size := rfl
    have big : ∀ a, fp (callEnvC fd s.heap.objs.size fa) a → s.heap.objs.size ≤ a := by
      intro a ha
      rcases ha with rfl | ⟨x, hm⟩
      · exact Nat.le_refl _
      · exact Nat.le_of_lt (X.above x a (mem_of_lookup hm))
    have none_of : ∀ a, s.heap.objs.size ≤ a → s.heap.get? a = none := fun a ha => by
      cases q : s.heap.get? a with
      | none => rfl
      | some o => exact absurd (Heap.lt_size q) (Nat.not_lt.mpr ha)
    have bf := bind_frame (kd := (callEnvC fd s.heap.objs.size fa).kindOf) names args vs (fun _ => none) (fun _ => none) (fun _ => none) hvs (fun _ _ e => by cases e) (fun _ _ e => by cases e)
    have hdom : ∀ x v, bindA (names.zip args) (fun _ => none) x = some v → storable fd.scope x = true := fun x v hx => by
      rcases bindA_dom names args _ x v hx with hm | e
      · exact List.all_eq_true.mp hnm x hm
      · cases e
    have offP : ∀ a, fp (callEnvC fd s.heap.objs.size fa) a → P a = none := fun a ha => by
      cases q : P a with
      | none => rfl
      | some o => have := R.ext a o q; rw [none_of a (big a ha)] at this; cases this
    have F : FrameOwn (callEnvC fd s.heap.objs.size fa) (bindA (names.zip args) fun _ => none) P H h₁ := by
      refine ⟨⟨⟨_, X.toInCall.ns, bf.1⟩, fun x v hx hc' => ?_, fun x v hx => ?_, fun x c hm => ?_⟩, fun x hx => cells_some _ _ _ (.inl hx), X.apart, fun x c hm => Nat.ne_of_gt (X.above x c hm), offP _ (.inl rfl), fun x c _ hc => offP c (.inr ⟨x, hc⟩), fun a ha => ?_⟩
      · have hnl : (callEnvC fd s.heap.objs.size fa).kindOf x ≠ some .local := by rcases hc' with e | e <;> rw [e] <;> simp
        have hcell : (callEnvC fd s.heap.objs.size fa).kindOf x = some .cell := (storable_of (hdom x v hx)).1.elim (fun e => absurd e hnl) id
        obtain ⟨c, hcl⟩ := Option.isSome_iff_exists.mp (cells_some fd.scope.names (s.heap.objs.size + 1) [] (.inl hcell))
        obtain ⟨V, hV, hv⟩ := bf.2 x v hx hnl
        have hcc := X.cell x c hcl
        rw [hV] at hcc
        exact ⟨c, V, hcl, hcc, hv⟩
      · obtain ⟨hk', hp⟩ := storable_of (hdom x v hx)
        exact ⟨hk'.imp id .inl, hp⟩
      · exact ⟨_, X.cell x c hm⟩
      · cases q : H a with
        | none => rfl
        | some o => obtain ⟨O, hO, _⟩ := R.obj a o q; rw [none_of a (big a ha)] at hO; cases hO
    have hA' : Room d (A.deeper (callEnvC fd s.heap.objs.size fa)) := ⟨hA.handled, by have := hA.depth; show A.depth + 1 + d < recursionLimit; omega, by have := hA.units; show A.units + 3 + 8 * d < cLine; omega⟩
    have hnofree : ∀ x, fd.scope.names.lookup x ≠ some .free := fun x e => by
      have := List.all_eq_true.mp hnf _ (mem_of_lookup e)
      simp at this
    refine h _ _ P _ _ _ ⟨rfl, hk, hgl, hbl, X.apart, fun x hx => cells_some _ _ _ (.inl (hx.elim id fun e => absurd e (hnofree x)))⟩ F hA' R₁ fun fl Fl loc' H' h' tk q hfl F' R' => ?_
    · cases fl with
      | next => cases hfl; exact k .none .none H' h' tk q rfl R'
      | brk => exact q.elim
      | cont => exact q.elim
      | ret v => obtain ⟨V, rfl, hv⟩ := hfl; exact k v V H' h' tk q hv R'
end
end Mine

-- Core4
namespace Mine
open PySem

/-! ## new objects, what is laid aside -/
section
variable {cx : Cx} {P : PH} {H : Hp} {h : Heap}

theorem Rep.fresh (R : Rep cx P H h) {a : Addr} (ha : h.get? a = none) : P a = none ∧ H a = none := by
  constructor
  · cases q : P a with
    | none => rfl
    | some o => have := R.ext a o q; rw [ha] at this; cases this
  · cases q : H a with
    | none => rfl
    | some o => obtain ⟨O, hO, _⟩ := R.obj a o q; rw [ha] at hO; cases hO

theorem get_size (h : Heap) : h.get? h.objs.size = none := by
  cases q : h.get? h.objs.size with
  | none => rfl
  | some o => exact absurd (Heap.lt_size q) (Nat.lt_irrefl _)

/-- the heap has grown, or an object that nobody keeps has turned -/
theorem Rep.ext_to (R : Rep cx P H h) {h' : Heap} {I : Addr} (hP : P I = none) (hH : H I = none) (e : Heap.ExtBut I h h') : Rep cx P H h' :=
  ⟨R.base, fun a o q => e a o (fun z => by rw [z, hP] at q; cases q) (R.ext a o q), fun a o q => by
    obtain ⟨O, hO, r⟩ := R.obj a o q
    exact ⟨O, e a O (fun z => by rw [z, hH] at q; cases q) hO, r⟩, R.sep, R.scr⟩
theorem Rep.grow (R : Rep cx P H h) {h' : Heap} (e : ∀ b o, h.get? b = some o → h'.get? b = some o) : Rep cx P H h' :=
  ⟨R.base, fun a o q => e a o (R.ext a o q), fun a o q => by
    obtain ⟨O, hO, r⟩ := R.obj a o q
    exact ⟨O, e a O hO, r⟩, R.sep, R.scr⟩

theorem Rep.put_new (R : Rep cx P H h) {h' : Heap} {a : Addr} {o : AObj} {O : Obj} (ha : h.get? a = none) (e : ∀ b o, h.get? b = some o → h'.get? b = some o) (hO : h'.get? a = some O) (r : OR cx o O) :
    Rep cx P (H.put a o) h' := by
  have hf := R.fresh ha
  refine ⟨R.base, fun b ob q => e b ob (R.ext b ob q), fun b ob q => ?_, fun b ob Ob q hq => ?_, ?_⟩
  · by_cases hb : b = a
    · subst hb; rw [Hp.put_self] at q; cases q; exact ⟨O, hO, r⟩
    · rw [Hp.put_ne hb] at q; obtain ⟨O', hO', r'⟩ := R.obj b ob q; exact ⟨O', e b O' hO', r'⟩
  · by_cases hb : b = a
    · subst hb; rw [hf.1] at hq; cases hq
    · rw [Hp.put_ne hb] at q; exact R.sep b ob Ob q hq
  · have hne : cx.script ≠ a := fun z => by have := R.scr; rw [z, hf.2] at this; cases this
    rw [Hp.put_ne hne]; exact R.scr

theorem Rep.push (R : Rep cx P H h) {o : AObj} {O : Obj} (r : OR cx o O) (hf : O.isFreed = false) : Rep cx P (H.put h.objs.size o) (h.push O) :=
  R.put_new (get_size h) (fun _ _ q => Heap.get?_push_of_some _ q) (Heap.get?_push_size _ hf) r

/-- an object of the call's own has turned -/
theorem Rep.put_own (R : Rep cx P H h) {h' : Heap} {a : Addr} {o : AObj} {O : Obj} (hP : P a = none) (hs : a ≠ cx.script) (e : Heap.SameBut a h h') (hO : h'.get? a = some O) (r : OR cx o O) :
    Rep cx P (H.put a o) h' := by
  refine ⟨R.base, fun b ob q => ?_, fun b ob q => ?_, fun b ob Ob q hq => ?_, ?_⟩
  · have hb : b ≠ a := fun z => by rw [z, hP] at q; cases q
    exact (e.2 b hb).trans (R.ext b ob q)
  · by_cases hb : b = a
    · subst hb; rw [Hp.put_self] at q; cases q; exact ⟨O, hO, r⟩
    · rw [Hp.put_ne hb] at q; obtain ⟨O', hO', r'⟩ := R.obj b ob q; exact ⟨O', (e.2 b hb).trans hO', r'⟩
  · by_cases hb : b = a
    · subst hb; rw [hP] at hq; cases hq
    · rw [Hp.put_ne hb] at q; exact R.sep b ob Ob q hq
  · rw [Hp.put_ne (Ne.symm hs)]; exact R.scr

theorem Rep.own_free (R : Rep cx P H h) {a : Addr} {o : AObj} (ha : H a = some o) (hro : ∀ vs, o ≠ .list true vs) : P a = none ∧ a ≠ cx.script := by
  have hs : a ≠ cx.script := fun z => by rw [z, R.scr] at ha; cases ha; exact hro _ rfl
  refine ⟨?_, hs⟩
  cases q : P a with
  | none => rfl
  | some O => exact absurd (R.sep a o O ha q) hs

def addP (P : PH) (I : Addr) (O : Obj) : PH := fun a => if a = I then some O else P a
theorem Rep.add (R : Rep cx P H h) {I : Addr} {O : Obj} (hI : h.get? I = some O) (hP : P I = none) (hH : H I = none) : Rep cx (addP P I O) H h := by
  refine ⟨fun a o q => ?_, fun a o q => ?_, R.obj, fun a o O' q hq => ?_, R.scr⟩
  · have : a ≠ I := fun z => by have := R.base a o q; rw [z, hP] at this; cases this
    unfold addP; rw [if_neg this]; exact R.base a o q
  · unfold addP at q
    split at q
    · rename_i z; cases q; rw [z]; exact hI
    · exact R.ext a o q
  · unfold addP at hq
    split at hq
    · rename_i z; rw [z, hH] at q; cases q
    · exact R.sep a o O' q hq
theorem Rep.drop {I : Addr} {O : Obj} (R : Rep cx (addP P I O) H h) (hP : P I = none) (hb : ∀ a o, cx.base.get? a = some o → P a = some o) : Rep cx P H h ∧ h.get? I = some O ∧ H I = none := by
  have hI : h.get? I = some O := R.ext I O (by simp [addP])
  refine ⟨⟨hb, fun a o q => ?_, R.obj, fun a o O' q hq => ?_, R.scr⟩, hI, ?_⟩
  · have : a ≠ I := fun z => by rw [z, hP] at q; cases q
    exact R.ext a o (by unfold addP; rw [if_neg this]; exact q)
  · have : a ≠ I := fun z => by rw [z, hP] at hq; cases hq
    exact R.sep a o O' q (by unfold addP; rw [if_neg this]; exact hq)
  · cases q : H I with
    | none => rfl
    | some o =>
      have := R.sep I o O q (by simp [addP])
      obtain ⟨ob, hob⟩ := cx.scriptIn
      have h2 := hb _ _ hob
      rw [← this, hP] at h2; cases h2
end

theorem VRs.get' : ∀ {as : List AV} {vs : List Value} {i : Nat} {v : Value}, VRs as vs → vs[i]? = some v → ∃ a, as[i]? = some a ∧ VR a v
  | a :: _, _ :: _, 0, _, h, e => by cases e; exact ⟨a, rfl, h.1⟩
  | _ :: _, _ :: _, i + 1, _, h, e => VRs.get' (i := i) h.2 e
  | _, [], _, _, _, e => by simp at e
  | [], _ :: _, _, _, h, _ => h.elim

section
variable {cx : Cx} {d : Nat} {sc : Scope} {loc : Loc} {H : Hp} {Q : AV → Hp → Prop} {pos : Pos}

theorem EV_List {es : List Expr} (h : EVs cx d sc loc es H fun vs H' => vs.length ≤ 2 ^ 20 ∧ ∀ a, H' a = none → Q (.ref a) (H'.put a (.list false vs))) (hn : es.all notStar = true := by rfl) :
    EV cx d sc loc (.List es pos) H Q := by
  intro env A P s E Q' he hF hA R k
  refine wpAny_List (EVs.sound h hn he hF hA R fun vs Vs H' h' tk q hvs R' => ⟨?_, ?_⟩)
  · have := hvs.length; have := q.1; show Vs.length ≤ 2 ^ 24; omega
  · exact k _ _ _ _ _ (q.2 _ (R'.fresh (get_size _)).2) rfl (R'.push (o := .list false vs) ⟨_, _, rfl, by simpa using hvs⟩ rfl)
theorem EV_Tuple {es : List Expr} {n : Nat} (h : EVs cx d sc loc es H fun vs H' => vs.length ≤ 2 ^ 20 ∧ ∀ a, H' a = none → Q (.ref a) (H'.put a (.tuple vs))) (hn : es.all notStar = true := by rfl) :
    EV cx d sc loc (.Tuple es n pos) H Q := by
  intro env A P s E Q' he hF hA R k
  refine wpAny_Tuple (EVs.sound h hn he hF hA R fun vs Vs H' h' tk q hvs R' => ⟨?_, ?_⟩)
  · have := hvs.length; have := q.1; show Vs.length ≤ 2 ^ 24; omega
  · exact k _ _ _ _ _ (q.2 _ (R'.fresh (get_size _)).2) rfl (R'.push (o := .tuple vs) ⟨_, _, rfl, by simpa using hvs⟩ rfl)
end

/-! ## what may be iterated -/
/-- the nums of a range by ones -/
def spanZ (lo hi : Int) : List AV := (List.range (hi - lo).toNat).map fun (i : Nat) => AV.int (lo + i)

inductive Src (H : Hp) : AV → List AV → (Hp → Prop) → Prop where
  | list {a : Addr} {ro : Bool} {vs : List AV} : H a = some (.list ro vs) → Src H (.ref a) vs (fun H' => H' a = some (.list ro vs))
  | range {a : Addr} {lo hi : Int} : H a = some (.range lo hi) → -2 ^ 31 < lo → lo < 2 ^ 31 → hi < 2 ^ 31 → -2 ^ 31 < hi → Src H (.ref a) (spanZ lo hi) (fun _ => True)

structure ItP (cx : Cx) (I : Addr) (els : List AV) (keep : Hp → Prop) (St : Nat → Obj → Prop) : Prop where
  item : ∀ (i : Nat) (v : AV) (A : Around) (P : PH) (H : Hp) (s : Shared) (E : Value → Shared → Prop) (Q' : Option Value → Shared → Prop) (O : Obj), els[i]? = some v → keep H → Rep cx P H s.heap → H I = none →
    s.heap.get? I = some O → St i O → (∀ V h' O' tk, VR v V → Heap.SameBut I s.heap h' → h'.get? I = some O' → St (i + 1) O' → Q' (some V) { s with heap := h', toks := tk }) →
    wpAny (model cx.prog cx.w) A (pyNext (.ref I)) Q' E s
  done : ∀ (A : Around) (P : PH) (H : Hp) (s : Shared) (E : Value → Shared → Prop) (Q' : Option Value → Shared → Prop) (O : Obj), A.handled = none → keep H → Rep cx P H s.heap → H I = none →
    s.heap.get? I = some O → St els.length O → (∀ h' tk, Heap.ExtBut I s.heap h' → Q' none { s with heap := h', toks := tk }) → wpAny (model cx.prog cx.w) A (pyNext (.ref I)) Q' E s
  self : ∀ (i : Nat) (A : Around) (s : Shared) (E : Value → Shared → Prop) (Q' : Value → Shared → Prop) (O : Obj), s.heap.get? I = some O → St i O → Q' (.ref I) s → wpAny (model cx.prog cx.w) A (pyIter (.ref I)) Q' E s

theorem Rep.isList {cx : Cx} {P : PH} {H : Hp} {h : Heap} (R : Rep cx P H h) {a : Addr} {ro : Bool} {vs : List AV} (ha : H a = some (.list ro vs)) :
    ∃ items n, h.get? a = some { cls := .type "list", dict := none, data := .seq items n, slots := #[] } ∧ VRs vs items.toList := by
  obtain ⟨O, hO, items, n, rfl, hv⟩ := R.obj a _ ha
  exact ⟨items, n, hO, hv⟩

theorem spanZ_length (lo hi : Int) : (spanZ lo hi).length = (hi - lo).toNat := by simp [spanZ]
theorem spanZ_get {lo hi : Int} {i : Nat} {v : AV} (h : (spanZ lo hi)[i]? = some v) : i < (hi - lo).toNat ∧ v = .int (lo + i) := by
  have hlt : i < (spanZ lo hi).length := by
    rcases Nat.lt_or_ge i (spanZ lo hi).length with h1 | h1
    · exact h1
    · rw [List.getElem?_eq_none h1] at h; cases h
  rw [spanZ_length] at hlt
  simp [spanZ, hlt] at h
  exact ⟨hlt, h.symm⟩

theorem rangeSize_one (lo hi : Int) : Builtin.Range.rangeSize lo hi 1 = ((hi - lo).toNat : Int) := by
  unfold Builtin.Range.rangeSize
  simp
  omega

theorem iter_of {cx : Cx} {H : Hp} {v : AV} {els : List AV} {keep : Hp → Prop} (S : Src H v els keep) {A : Around} {P : PH} {s : Shared} {E : Value → Shared → Prop} {Q' : Value → Shared → Prop} {V : Value} (hv : VR v V)
    (R : Rep cx P H s.heap)
    (k : ∀ I O St, ItP cx I els keep St → s.heap.get? I = none → keep H → St 0 O → I = s.heap.objs.size → O.isFreed = false → Q' (.ref I) { s with heap := s.heap.push O }) :
    wpAny (model cx.prog cx.w) A (pyIter V) Q' E s := by
  cases S with
  | @list a ro vs ha =>
    cases hv
    obtain ⟨items, n, hO, hr⟩ := R.isList ha
    have hl : s.heap.IsList a items := ⟨_, hO, rfl, n, rfl⟩
    refine wpAny_pyIter_list hl (k _ _ (fun i O => O.cls = .type "list_iterator" ∧ O.data = .fields #[.ref a, .int i 0]) ⟨?_, ?_, ?_⟩ (get_size _) ha ⟨rfl, rfl⟩ rfl rfl)
    · intro i v A P H s₁ E Q' O hi hk R₁ hH hI hSt hQ
      obtain ⟨items₁, n₁, hO₁, hr₁⟩ := R₁.isList hk
      obtain ⟨V, hV, hvV⟩ := hr₁.get hi
      refine wpAny_pyNext_list_item (items := items₁) ⟨O, hI, hSt.1, hSt.2⟩ ⟨_, hO₁, rfl, n₁, rfl⟩ (by simpa using hV) fun h' hit hs => ?_
      obtain ⟨O', hO', hc, hd⟩ := hit
      exact hQ V h' O' s₁.toks hvV hs hO' ⟨hc, hd⟩
    · intro A P H s₁ E Q' O hh hk R₁ hH hI hSt hQ
      obtain ⟨items₁, n₁, hO₁, hr₁⟩ := R₁.isList hk
      refine wpAny_pyNext_list_end (items := items₁) hh ⟨O, hI, hSt.1, hSt.2⟩ ⟨_, hO₁, rfl, n₁, rfl⟩ ?_ fun h' e => hQ h' s₁.toks e
      have := hr₁.length
      simp only [Array.length_toList] at this
      rw [this]; simp
    · intro i A s₁ E Q' O hI hSt hQ
      exact wpAny_pyIter_listiter ⟨O, hI, hSt.1, hSt.2⟩ hQ
  | @range a lo hi ha h1 h2 h3 h4 =>
    cases hv
    obtain ⟨O, hO, t, u, v, rfl⟩ := R.obj a _ ha
    have hsm : Builtin.Range.small lo hi 1 = true := by
      unfold Builtin.Range.small
      rw [rangeSize_one]
      simp [Builtin.Range.rangeFitsLong]
      omega
    refine wpAny_pyIter_range hO hsm (k _ _ (fun i O => O = { cls := .type "range_iterator", dict := none, data := .fields #[rawInt (lo + i), rawInt ((hi - lo).toNat - i), rawInt 1], slots := #[] }) ⟨?_, ?_, ?_⟩ (get_size _) trivial ?_ rfl rfl)
    · rintro i v A P H s₁ E Q' O hget hk R₁ hH hI rfl hQ
      obtain ⟨hlt, rfl⟩ := spanZ_get hget
      refine wpAny_pyNext_range_item hI (by omega) fun h' hit hs => hQ _ h' _ _ ⟨_, rfl⟩ hs hit ?_
      have e1 : lo + (i : Int) + 1 = lo + ((i + 1 : Nat) : Int) := by omega
      have e2 : ((hi - lo).toNat : Int) - (i : Int) - 1 = ((hi - lo).toNat : Int) - ((i + 1 : Nat) : Int) := by omega
      rw [e1, e2]
    · rintro A P H s₁ E Q' O hh hk R₁ hH hI rfl hQ
      refine wpAny_pyNext_range_end hh hI ?_ fun h' e => hQ h' s₁.toks e
      rw [spanZ_length]; omega
    · rintro i A s₁ E Q' O hI rfl hQ
      exact wpAny_pyIter_rangeiter hI hQ
    · rw [rangeSize_one]; simp

/-! ## loops -/
def loopQ (J : Loc → Hp → Prop) (Q : AF → Loc → Hp → Prop) : AF → Loc → Hp → Prop
  | .next, l, H => J l H
  | .cont, l, H => J l H
  | .brk, l, H => Q .next l H
  | .ret v, l, H => Q (.ret v) l H

section
variable {cx : Cx} {d : Nat} {sc : Scope} {loc : Loc} {H : Hp} {Q : AF → Loc → Hp → Prop} {pos : Pos}

theorem EX_While {t : Expr} {b : List Stmt} (I : Nat → Loc → Hp → Prop) (n : Nat) (h0 : I n loc H)
    (turn : ∀ n loc H, I n loc H → TV cx d sc loc t H fun c H' => if c = true then EX cx d sc loc b H' (loopQ (fun l₂ H₂ => ∃ m, m < n ∧ I m l₂ H₂) Q) else Q .next loc H') :
    EX1 cx d sc loc (.While t b [] pos) H Q := by
  intro env A P s E Q' he F hA R k
  refine wpAny_While (codeAny_whileLoop (fun n s' => ∃ l₁ H₁ h₁ tk₁, s' = { s with heap := h₁, toks := tk₁ } ∧ I n l₁ H₁ ∧ FrameOwn env l₁ P H₁ h₁ ∧ Rep cx P H₁ h₁) ?_ n ⟨loc, H, s.heap, s.toks, rfl, h0, F, R⟩)
  rintro n s' ⟨l₁, H₁, h₁, tk₁, rfl, hI, F₁, R₁⟩
  refine (turn n l₁ H₁ hI).here he F₁ hA R₁ fun c H₂ h₂ tk₂ q F₂ R₂ => ?_
  cases c with
  | false => simp only [Bool.false_eq_true, if_false] at q ⊢; exact wpAny_execs_nil (k .next .next l₁ H₂ h₂ tk₂ q rfl F₂ R₂)
  | true =>
    simp only [if_true] at q ⊢
    refine q env A P _ _ _ he F₂ hA R₂ fun f Fl l₃ H₃ h₃ tk₃ q₃ hf F₃ R₃ => ?_
    cases f with
    | next => cases hf; obtain ⟨m, hm, hI⟩ := q₃; exact ⟨m, hm, l₃, H₃, h₃, tk₃, rfl, hI, F₃, R₃⟩
    | cont => cases hf; obtain ⟨m, hm, hI⟩ := q₃; exact ⟨m, hm, l₃, H₃, h₃, tk₃, rfl, hI, F₃, R₃⟩
    | brk => cases hf; exact k .next .next l₃ H₃ h₃ tk₃ q₃ rfl F₃ R₃
    | ret v => obtain ⟨V, rfl, hv⟩ := hf; exact k (.ret v) (.ret V) l₃ H₃ h₃ tk₃ q₃ ⟨V, rfl, hv⟩ F₃ R₃

theorem FrameW.add {W : Str → Prop} {env : Env} {P : PH} {h : Heap} {I : Addr} {O : Obj} (F : FrameW W env loc P H h) (hI : ¬ fp env I) : FrameW W env loc (addP P I O) H h :=
  ⟨F.at_, F.cellHas, F.apart, F.cellNe, by unfold addP; rw [if_neg (fun z => hI (.inl z.symm))]; exact F.locP,
    fun x c hW hc => by unfold addP; rw [if_neg (fun (z : c = I) => hI (.inr ⟨x, z ▸ hc⟩))]; exact F.cellP x c hW hc, F.offH⟩
theorem FrameW.drop {W : Str → Prop} {env : Env} {P : PH} {h : Heap} {I : Addr} {O : Obj} (F : FrameW W env loc (addP P I O) H h) : FrameW W env loc P H h :=
  have up : ∀ a, addP P I O a = none → P a = none := fun a e => by
    unfold addP at e
    split at e
    · cases e
    · exact e
  ⟨F.at_, F.cellHas, F.apart, F.cellNe, up _ F.locP, fun x c hW hc => up _ (F.cellP x c hW hc), F.offH⟩

theorem EX_For {x : Str} {px : Pos} {iter : Expr} {body : List Stmt}
    (h : EV cx d sc loc iter H fun v H₁ => ∃ els keep, Src H₁ v els keep ∧ ∃ J : Nat → Loc → Hp → Prop, J 0 loc H₁ ∧ (∀ i l₂ H₂, J i l₂ H₂ → keep H₂) ∧
      (∀ i w l₂ H₂, els[i]? = some w → J i l₂ H₂ → EX cx d sc (upd l₂ x w) body H₂ (loopQ (J (i + 1)) Q)) ∧ ∀ l₂ H₂, J els.length l₂ H₂ → Q .next l₂ H₂)
    (hx : storable sc x = true := by rfl) (hs : ∀ env v, foldedSetIterable iter env v = pure v := by intro _ _; rfl) : EX1 cx d sc loc (.For (.Name x px) iter body [] pos) H Q := by
  intro env A P s E Q' he F hA R k
  refine wpAny_For (h.here he F hA R fun v V H₁ h₁ tk₁ q hv F₁ R₁ => ?_) (hs env)
  obtain ⟨els, keep, S, J, hJ0, hkeep, turn, fin⟩ := q
  refine iter_of S hv R₁ fun I O St W hI hk hSt eI hfr => ?_
  have hIf : ¬ fp env I := fun z => by obtain ⟨o, ho⟩ := F₁.live I z; rw [show ({ s with heap := h₁, toks := tk₁ } : Shared).heap.get? I = h₁.get? I from rfl] at hI; rw [ho] at hI; cases hI
  have hfr₁ := R₁.fresh hI
  have hup : ∀ b o, h₁.get? b = some o → (h₁.push O).get? b = some o := fun b o e => Heap.get?_push_of_some _ e
  have hOI : (h₁.push O).get? I = some O := by rw [eI]; exact Heap.get?_push_size _ hfr
  refine codeAny_forLoop (fun n s' => ∃ i l₂ H₂ h₂ tk₂ O₂, s' = { s with heap := h₂, toks := tk₂ } ∧ J i l₂ H₂ ∧ FrameOwn env l₂ P H₂ h₂ ∧ Rep cx P H₂ h₂ ∧ h₂.get? I = some O₂ ∧ St i O₂ ∧ H₂ I = none ∧ i ≤ els.length ∧ n = els.length + 1 - i) ?_ (els.length + 1)
    ⟨0, loc, H₁, _, tk₁, O, rfl, hJ0, F₁.eq_on (fun a _ o e => hup a o e) F₁.offH, R₁.grow hup, hOI, hSt, hfr₁.2, Nat.zero_le _, rfl⟩ (by intro _; rfl)
  rintro n s' ⟨i, l₂, H₂, h₂, tk₂, O₂, rfl, hJ, F₂, R₂, hO₂, hSt₂, hH₂, hi, rfl⟩
  cases hel : els[i]? with
  | none =>
    have hil : i = els.length := Nat.le_antisymm hi (by simpa using hel)
    subst hil
    refine W.done A P H₂ _ _ _ O₂ hA.handled (hkeep _ _ _ hJ) R₂ hH₂ hO₂ hSt₂ fun h₃ tk₃ e₃ => wpAny_execs_nil ?_
    exact k .next .next l₂ H₂ h₃ tk₃ (fin _ _ hJ) rfl (F₂.eq_on (fun a ha o e => e₃ a o (fun z => hIf (z ▸ ha)) e) F₂.offH) (R₂.ext_to hfr₁.1 hH₂ e₃)
  | some w =>
    have hlt : i < els.length := (List.getElem?_eq_some_iff.mp hel).1
    refine W.item i w A P H₂ _ _ _ O₂ hel (hkeep _ _ _ hJ) R₂ hH₂ hO₂ hSt₂ fun V' h₃ O₃ tk₃ hV e₃ hO₃ hSt₃ => ?_
    have F₃ : FrameOwn env l₂ P H₂ h₃ := F₂.eq_on (fun a ha o e => (e₃.2 a fun z => hIf (z ▸ ha)).trans e) F₂.offH
    have R₃ : Rep cx P H₂ h₃ := R₂.ext_to hfr₁.1 hH₂ e₃.extBut
    have F₃' := F₃.add (O := O₃) hIf
    have R₃' := R₃.add hO₃ hfr₁.1 hH₂
    refine wpAny_assign_Name (store_own he F₃' R₃' hx hV fun h₄ tk₄ F₄ R₄ => ?_)
    refine turn i w l₂ H₂ hel hJ env A (addP P I O₃) _ _ _ he F₄ hA R₄ fun f Fl l₅ H₅ h₅ tk₅ q₅ hf F₅ R₅ => ?_
    obtain ⟨R₆, hO₆, hH₆⟩ := R₅.drop hfr₁.1 R.base
    have F₆ := F₅.drop
    cases f with
    | next => cases hf; exact ⟨els.length + 1 - (i + 1), by omega, i + 1, l₅, H₅, h₅, tk₅, O₃, rfl, q₅, F₆, R₆, hO₆, hSt₃, hH₆, hlt, rfl⟩
    | cont => cases hf; exact ⟨els.length + 1 - (i + 1), by omega, i + 1, l₅, H₅, h₅, tk₅, O₃, rfl, q₅, F₆, R₆, hO₆, hSt₃, hH₆, hlt, rfl⟩
    | brk => cases hf; exact k .next .next l₅ H₅ h₅ tk₅ q₅ rfl F₆ R₆
    | ret v => obtain ⟨V, rfl, hv⟩ := hf; exact k (.ret v) (.ret V) l₅ H₅ h₅ tk₅ q₅ ⟨V, rfl, hv⟩ F₆ R₆
end
end Mine

-- Core5
namespace Mine
open PySem

/-! ## comprehensions -/
def clOf (cells : List (Str × Addr)) : List (Str × NameKind) → List (Str × Addr) → List (Str × Addr)
  | [], acc => acc
  | (n, k) :: r, acc => if k == .free then clOf cells r ((n, (cells.lookup n).getD 0) :: acc) else clOf cells r acc

theorem clOf_mem {cells : List (Str × Addr)} : ∀ (names : List (Str × NameKind)) (acc : List (Str × Addr)) {y : Str} {c : Addr}, (∀ x ∈ names, x.2 = .free → (cells.lookup x.1).isSome = true) →
    (y, c) ∈ clOf cells names acc → (y, c) ∈ acc ∨ cells.lookup y = some c
  | [], _, _, _, _, h => .inl h
  | (n, k) :: r, acc, y, c, hall, h => by
    unfold clOf at h
    split at h
    · rename_i hk
      rcases clOf_mem r _ (fun x hx => hall x (.tail _ hx)) h with h | h
      · rcases List.mem_cons.mp h with e | h
        · cases e
          obtain ⟨c, hc⟩ := Option.isSome_iff_exists.mp (hall (n, k) (.head _) (by simpa using hk))
          exact .inr (by simp only at hc; rw [hc]; rfl)
        · exact .inl h
      · exact .inr h
    · exact clOf_mem r acc (fun x hx => hall x (.tail _ hx)) h
theorem clOf_has {cells : List (Str × Addr)} : ∀ (names : List (Str × NameKind)) (acc : List (Str × Addr)) {y : Str}, ((y, NameKind.free) ∈ names ∨ ∃ c, (y, c) ∈ acc) → ∃ c, (y, c) ∈ clOf cells names acc
  | [], _, _, h => h.elim (fun h => by cases h) id
  | (n, k) :: r, acc, y, h => by
    unfold clOf
    split
    · refine clOf_has r _ ?_
      rcases h with h | ⟨c, h⟩
      · rcases List.mem_cons.mp h with e | h
        · cases e; exact .inr ⟨_, .head _⟩
        · exact .inl h
      · exact .inr ⟨c, .tail _ h⟩
    · rename_i hk
      refine clOf_has r _ ?_
      rcases h with h | h
      · rcases List.mem_cons.mp h with e | h
        · cases e; simp at hk
        · exact .inl h
      · exact .inr h

theorem lookup_some_of_mem {α : Type} : ∀ {l : List (Str × α)} {y : Str} {c : α}, (y, c) ∈ l → ∃ c', l.lookup y = some c'
  | (n, a) :: r, y, c, h => by
    rw [List.lookup_cons]
    cases hb : y == n with
    | true => exact ⟨a, rfl⟩
    | false =>
      rcases List.mem_cons.mp h with e | h
      · cases e; simp at hb
      · exact lookup_some_of_mem h

theorem closureFor_eq {scope : Scope} {env : Env} (h : ∀ x ∈ scope.names, x.2 = .free → (env.cells.lookup x.1).isSome = true) : closureFor scope env = pure (clOf env.cells scope.names []) := by
  unfold closureFor
  have key : ∀ (names : List (Str × NameKind)) (acc : List (Str × Addr)), (∀ x ∈ names, x.2 = .free → (env.cells.lookup x.1).isSome = true) →
      (forIn names acc fun x r => match x with
        | (name, kind) => if (kind == .free) = true then do let __do_lift ← cellOf env name; pure (ForInStep.yield ((name, __do_lift) :: r)) else pure (ForInStep.yield r) : Sem (List (Str × Addr))) = pure (clOf env.cells names acc) := by
    intro names
    induction names with
    | nil => intro acc _; rfl
    | cons x r ih =>
      intro acc hall
      obtain ⟨n, k⟩ := x
      rw [List.forIn_cons]
      have ih' := fun acc => ih acc fun x hx => hall x (.tail _ hx)
      unfold clOf
      by_cases hk : (k == .free) = true
      · obtain ⟨c, hc⟩ := Option.isSome_iff_exists.mp (hall (n, k) (.head _) (by simpa using hk))
        simp only at hc
        have e : cellOf env n = pure c := by unfold cellOf; rw [hc]
        simp only [hk, if_true, e, hc, Option.getD_some, pure_bind]
        exact ih' _
      · rw [if_neg hk]
        simp only [hk]
        exact ih' _
  have := key scope.names [] h
  refine Eq.trans (b := (forIn scope.names [] fun x r => match x with
        | (name, kind) => if (kind == .free) = true then do let __do_lift ← cellOf env name; pure (ForInStep.yield ((name, __do_lift) :: r)) else pure (ForInStep.yield r) : Sem (List (Str × Addr))) >>= pure) ?_ ?_
  · rfl
  · rw [this]; rfl

theorem cells_where : ∀ (names : List (Str × NameKind)) (h : Heap) (acc : List (Str × Addr)) {y : Str} {c : Addr}, (cellsFrom h.objs.size names acc).lookup y = some c →
    (h.objs.size ≤ c ∧ (pushCells h names).IsCell c none ∧ (y, NameKind.cell) ∈ names) ∨ (acc.lookup y = some c ∧ (y, NameKind.cell) ∉ names)
  | [], _, _, _, _, e => .inr ⟨e, by simp⟩
  | (n, k) :: r, h, acc, y, c, e => by
    unfold cellsFrom at e
    unfold pushCells
    split at e
    · rename_i hk
      rw [if_pos hk]
      have hk' : k = .cell := by simpa using hk
      subst hk'
      have := cells_where r (h.push { cls := .type "cell", data := .cell none }) ((n, h.objs.size) :: acc) (y := y) (c := c) (by rw [Heap.size_push]; exact e)
      rw [Heap.size_push] at this
      rcases this with ⟨h1, h2, h3⟩ | ⟨h1, h2⟩
      · exact .inl ⟨by omega, h2, .tail _ h3⟩
      · rw [List.lookup_cons] at h1
        cases hb : y == n with
        | true =>
          rw [hb] at h1; cases h1
          rw [beq_iff_eq.mp hb]
          exact .inl ⟨Nat.le_refl _, ⟨_, pushCells_keeps _ _ _ _ (Heap.get?_push_size _ rfl), rfl⟩, .head _⟩
        | false =>
          rw [hb] at h1
          refine .inr ⟨h1, fun hm => ?_⟩
          rcases List.mem_cons.mp hm with e' | hm
          · cases e'; simp at hb
          · exact h2 hm
    · rename_i hk
      rw [if_neg hk]
      rcases cells_where r h acc e with ⟨h1, h2, h3⟩ | ⟨h1, h2⟩
      · exact .inl ⟨h1, h2, .tail _ h3⟩
      · refine .inr ⟨h1, fun hm => ?_⟩
        rcases List.mem_cons.mp hm with e' | hm
        · cases e'; simp at hk
        · exact h2 hm
theorem cells_ge : ∀ (names : List (Str × NameKind)) (n : Nat) (acc : List (Str × Addr)) {y : Str} {c : Addr}, (y, c) ∈ cellsFrom n names acc → (y, c) ∈ acc ∨ n ≤ c
  | [], _, _, _, _, h => .inl h
  | (m, k) :: r, n, acc, y, c, h => by
    unfold cellsFrom at h
    split at h
    · rcases cells_ge r (n + 1) _ h with h | h
      · rcases List.mem_cons.mp h with e | h
        · cases e; exact .inr (Nat.le_refl _)
        · exact .inl h
      · exact .inr (by omega)
    · exact cells_ge r n acc h
theorem cells_apart : ∀ (names : List (Str × NameKind)) (n : Nat) (acc : List (Str × Addr)), (acc.Pairwise fun x y => x.2 ≠ y.2) → (∀ x ∈ acc, x.2 < n) → (cellsFrom n names acc).Pairwise fun x y => x.2 ≠ y.2
  | [], _, _, h, _ => h
  | (m, k) :: r, n, acc, h, hlt => by
    unfold cellsFrom
    split
    · refine cells_apart r (n + 1) _ (List.pairwise_cons.mpr ⟨fun y hy e => ?_, h⟩) fun x hx => ?_
      · have := hlt y hy
        simp only at e
        rw [← e] at this; exact absurd this (Nat.lt_irrefl _)
      · rcases List.mem_cons.mp hx with rfl | hx
        · exact Nat.lt_succ_self _
        · exact Nat.lt_succ_of_lt (hlt x hx)
    · exact cells_apart r n acc h hlt

theorem clOf_apart {cells : List (Str × Addr)} (hp : cells.Pairwise fun x y => x.2 ≠ y.2) : ∀ (names : List (Str × NameKind)) (acc : List (Str × Addr)), (∀ x ∈ names, x.2 = .free → (cells.lookup x.1).isSome = true) →
    (names.map (·.1)).Nodup → (∀ x ∈ acc, cells.lookup x.1 = some x.2) → (∀ x ∈ acc, x.1 ∉ names.map (·.1)) → (acc.Pairwise fun x y => x.2 ≠ y.2) → (clOf cells names acc).Pairwise fun x y => x.2 ≠ y.2
  | [], _, _, _, _, _, h => h
  | (n, k) :: r, acc, hall, hnd, ha, hn, h => by
    simp only [List.map_cons, List.nodup_cons] at hnd
    unfold clOf
    split
    · rename_i hk
      obtain ⟨c, hc⟩ := Option.isSome_iff_exists.mp (hall (n, k) (.head _) (by simpa using hk))
      simp only at hc
      rw [hc, Option.getD_some]
      refine clOf_apart hp r _ (fun x hx => hall x (.tail _ hx)) hnd.2 (fun x hx => ?_) (fun x hx => ?_) (List.pairwise_cons.mpr ⟨fun y hy e => ?_, h⟩)
      · rcases List.mem_cons.mp hx with rfl | hx
        · exact hc
        · exact ha x hx
      · rcases List.mem_cons.mp hx with rfl | hx
        · exact hnd.1
        · exact fun hm => hn x hx (.tail _ hm)
      · simp only at e
        have h1 := ha y hy
        rw [← e] at h1
        have := name_of_addr hp (mem_of_lookup hc) (mem_of_lookup h1)
        exact hn y hy (by rw [← this]; exact .head _)
    · exact clOf_apart hp r acc (fun x hx => hall x (.tail _ hx)) hnd.2 ha (fun x hx hm => hn x hx (.tail _ hm)) h

/-- the comprehension's scope as its frame has it -/
def relab (sc scope : Scope) : Scope :=
  { scope with names := scope.names.map fun (n, k) => if (k == .free && sc.kind == .function && sc.names.lookup n == some .cell) then (n, .cell) else (n, k) }

/-- the names that a comprehension takes from around -/
def capt (scope : Scope) (loc : Loc) : Loc := fun y => if scope.names.lookup y = some .free then loc y else none

def compOk (sc scope : Scope) (x : Str) : Bool :=
  scope.kind == .function && decide ((scope.names.map (·.1)).Nodup) && (scope.names.lookup x == some .local || scope.names.lookup x == some .cell) && plainName x &&
    scope.names.all fun y => y.2 != .free || sc.names.lookup y.1 == some .cell || sc.names.lookup y.1 == some .free

theorem relab_free {sc scope : Scope} {y : Str} (h : scope.names.lookup y = some .free) : (relab sc scope).names.lookup y = some .cell ∨ (relab sc scope).names.lookup y = some .free := by
  unfold relab
  dsimp only
  generalize scope.names = l at h
  induction l with
  | nil => cases h
  | cons p r ih =>
    obtain ⟨n, k⟩ := p
    rw [List.lookup_cons] at h
    simp only [List.map_cons]
    cases hb : y == n with
    | true =>
      rw [hb] at h; cases h
      split
      · left; simp [List.lookup_cons, hb]
      · right; simp [List.lookup_cons, hb]
    | false =>
      rw [hb] at h
      have ih' := ih h
      split <;> simp only [List.lookup_cons, hb] <;> exact ih'
theorem relab_own {sc scope : Scope} {y : Str} {k : NameKind} (hk : k ≠ .free) (h : scope.names.lookup y = some k) : (relab sc scope).names.lookup y = some k := by
  unfold relab
  dsimp only
  generalize scope.names = l at h
  induction l with
  | nil => cases h
  | cons p r ih =>
    obtain ⟨n, k'⟩ := p
    rw [List.lookup_cons] at h
    simp only [List.map_cons]
    cases hb : y == n with
    | true =>
      rw [hb] at h; cases h
      have : (k == NameKind.free) = false := by simpa using hk
      simp [List.lookup_cons, hb, this]
    | false =>
      rw [hb] at h
      have ih' := ih h
      split <;> simp only [List.lookup_cons, hb] <;> exact ih'
theorem relab_cell {sc scope : Scope} {y : Str} (h : (relab sc scope).names.lookup y = some .cell) : (y, NameKind.cell) ∈ scope.names ∨ (y, NameKind.free) ∈ scope.names := by
  unfold relab at h
  dsimp only at h
  generalize scope.names = l at h
  induction l with
  | nil => cases h
  | cons p r ih =>
    obtain ⟨n, k⟩ := p
    simp only [List.map_cons] at h
    cases hb : y == n with
    | true =>
      have e := beq_iff_eq.mp hb
      subst e
      split at h
      · rename_i hc
        simp only [Bool.and_eq_true, beq_iff_eq] at hc
        exact .inr (by rw [← hc.1.1]; exact .head _)
      · simp [List.lookup_cons] at h
        subst h; exact .inl (.head _)
    | false =>
      have : List.lookup y (r.map fun (n, k) => if (k == .free && sc.kind == .function && sc.names.lookup n == some .cell) then (n, NameKind.cell) else (n, k)) = some .cell := by
        split at h <;> simpa only [List.lookup_cons, hb] using h
      exact (ih this).imp (.tail _) (.tail _)

end Mine

-- Core6
namespace Mine
open PySem

theorem clOf_free {cells : List (Str × Addr)} : ∀ (names : List (Str × NameKind)) (acc : List (Str × Addr)) {y : Str} {c : Addr}, (y, c) ∈ clOf cells names acc → (y, c) ∈ acc ∨ (y, NameKind.free) ∈ names
  | [], _, _, _, h => .inl h
  | (n, k) :: r, acc, y, c, h => by
    unfold clOf at h
    split at h
    · rename_i hk
      rcases clOf_free r _ h with h | h
      · rcases List.mem_cons.mp h with e | h
        · cases e; exact .inr (by rw [show k = .free by simpa using hk]; exact .head _)
        · exact .inl h
      · exact .inr (.tail _ h)
    · exact (clOf_free r acc h).imp id (.tail _)

theorem nodup_kind : ∀ {l : List (Str × NameKind)} {y : Str} {k k' : NameKind}, (l.map (·.1)).Nodup → (y, k) ∈ l → (y, k') ∈ l → k = k'
  | (n, a) :: r, y, k, k', hnd, h, h' => by
    simp only [List.map_cons, List.nodup_cons] at hnd
    rcases List.mem_cons.mp h with e | h <;> rcases List.mem_cons.mp h' with e' | h'
    · cases e; cases e'; rfl
    · cases e; exact absurd (List.mem_map.mpr ⟨_, h', rfl⟩) hnd.1
    · cases e'; exact absurd (List.mem_map.mpr ⟨_, h, rfl⟩) hnd.1
    · exact nodup_kind hnd.2 h h'
theorem nodup_lookup {l : List (Str × NameKind)} {y : Str} {k : NameKind} (hnd : (l.map (·.1)).Nodup) (h : (y, k) ∈ l) : l.lookup y = some k := by
  obtain ⟨k', hk'⟩ := lookup_some_of_mem h
  rw [hk', nodup_kind hnd h (mem_of_lookup hk')]

theorem wpAny_newCompEnv {M : Model} {A : Around} {E : Value → Shared → Prop} {s : Shared} {scope : Scope} {cl : List (Str × Addr)} {env : Env} {Q : Env → Shared → Prop}
    (h : Q (newEnv scope s.heap.objs.size env.globals (cellsFrom (s.heap.objs.size + 1) scope.names cl) env.qual none .none (some env) builtinsNs)
      { s with heap := pushCells (s.heap.push { cls := .type "dict", data := .dict #[] }) scope.names }) :
    wpAny M A (newFunctionEnv scope env.globals cl [] env.qual none .none (some env)) Q E s := by
  simp only [newFunctionEnv, Option.isSome_some, if_true]
  refine wpAny_bind (wpAny_alloc ?_)
  refine wpAny_bind (wpAny_layCells _ (fun name kind cells => by cases hkc : kind == NameKind.cell <;> simp [hkc]) _ _ _ _ ?_)
  rw [show ({ s with heap := s.heap.push { cls := .type "dict", data := .dict #[] } } : Shared).heap.objs.size = s.heap.objs.size + 1 from Heap.size_push ..]
  exact wpAny_bind (wpAny_pure (wpAny_pure h))

/-- the tests of a comprehension: none or one -/
def Tests (cx : Cx) (d : Nat) (sc : Scope) (loc : Loc) : List Expr → Hp → (Bool → Hp → Prop) → Prop
  | [], H, QB => QB true H
  | [c], H, QB => TV cx d sc loc c H QB
  | _, _, _ => False

/-- what a comprehension does, item by item -/
def CompW (cx : Cx) (d : Nat) (sc scope : Scope) (loc : Loc) (x : Str) (ifs : List Expr) (elt : Expr) (els : List AV) (keep : Hp → Prop) (H : Hp) (Qf : List AV → Hp → Prop) : Prop :=
  ∃ J : Nat → List AV → Hp → Prop, J 0 [] H ∧ (∀ i ys H₂, J i ys H₂ → keep H₂) ∧
    (∀ i w ys H₂, els[i]? = some w → J i ys H₂ → Tests cx d (relab sc scope) (upd (capt scope loc) x w) ifs H₂ fun ok H₃ =>
      if ok = true then EV cx d (relab sc scope) (upd (capt scope loc) x w) elt H₃ fun y H₄ => J (i + 1) (ys ++ [y]) H₄ else J (i + 1) ys H₃) ∧
    ∀ ys H₂, J els.length ys H₂ → Qf ys H₂

theorem upd_upd (loc : Loc) (x : Str) (v w : AV) : upd (upd loc x v) x w = upd loc x w := by
  funext y; unfold upd; split <;> rfl

section
variable {cx : Cx} {d : Nat} {sc scope : Scope} {loc : Loc} {H : Hp} {x : Str} {ifs : List Expr} {elt : Expr}

theorem Rep.cell_off {P : PH} {h : Heap} (R : Rep cx P H h) {c : Addr} {ov : Option Value} (hc : CellG P c ov) : H c = none := by
  obtain ⟨o, ho, hd⟩ := hc
  cases q : H c with
  | none => rfl
  | some ob =>
    have := R.sep c ob o q ho
    subst this
    obtain ⟨O, hO, items, n, rfl, _⟩ := R.obj _ _ R.scr
    rw [R.ext _ _ ho] at hO
    cases hO
    cases hd

theorem comp_frame {env : Env} {P : PH} {h₃ : Heap} (he : EnvOk sc env) (hF : FrameP env loc P) (R : Rep cx P H h₃) (hok : compOk sc scope x = true) :
    let L := h₃.objs.size
    let cells := cellsFrom (L + 1) scope.names (clOf env.cells scope.names [])
    let cenv : Env := { newEnv scope L env.globals cells env.qual none .none (some env) builtinsNs with scope := relabel scope env }
    EnvOk (relab sc scope) cenv ∧ FrameW (· = x) cenv (capt scope loc) P H (pushCells (h₃.push { cls := .type "dict", data := .dict #[] }) scope.names) ∧ storable (relab sc scope) x = true ∧
      closureFor scope env = pure (clOf env.cells scope.names []) ∧ scope.kind = .function ∧ (∀ y ∈ scope.names, y.2 = .local → scope.names.lookup y.1 = some .local) ∧
      (∀ a, fp cenv a → P a = none → h₃.get? a = none) := by
  intro L cells cenv
  simp only [compOk, Bool.and_eq_true, beq_iff_eq, decide_eq_true_eq, Bool.or_eq_true] at hok
  obtain ⟨⟨⟨⟨hkind, hnd⟩, hx⟩, hpx⟩, hall⟩ := hok
  have hfree : ∀ y, (y, NameKind.free) ∈ scope.names → env.kindOf y = some .cell ∨ env.kindOf y = some .free := fun y hy => by
    have := List.all_eq_true.mp hall _ hy
    simp only [bne_self_eq_false, Bool.false_or, Bool.or_eq_true, beq_iff_eq] at this
    unfold Env.kindOf; rw [he.scope]; exact this
  have hgen : ∀ y ∈ scope.names, y.2 = .free → (env.cells.lookup y.1).isSome = true := fun y hy e => he.has y.1 (hfree y.1 (by rw [← e]; exact hy))
  have clm : ∀ y c, (y, c) ∈ clOf env.cells scope.names [] → env.cells.lookup y = some c ∧ (y, NameKind.free) ∈ scope.names := fun y c hm =>
    ⟨(clOf_mem scope.names [] hgen hm).elim (fun h => by cases h) id, (clOf_free scope.names [] hm).elim (fun h => by cases h) id⟩
  have lift : ∀ b o, h₃.get? b = some o → (pushCells (h₃.push { cls := .type "dict", data := .dict #[] }) scope.names).get? b = some o := fun b o e => pushCells_keeps _ _ b o (Heap.get?_push_of_some _ e)
  have hsz : (h₃.push ({ cls := .type "dict", data := .dict #[] } : Obj)).objs.size = L + 1 := Heap.size_push ..
  have wh : ∀ y c, cells.lookup y = some c → (L + 1 ≤ c ∧ (pushCells (h₃.push { cls := .type "dict", data := .dict #[] }) scope.names).IsCell c none ∧ (y, NameKind.cell) ∈ scope.names) ∨
      (env.cells.lookup y = some c ∧ (y, NameKind.free) ∈ scope.names) := fun y c hc => by
    have := cells_where scope.names (h₃.push { cls := .type "dict", data := .dict #[] }) (clOf env.cells scope.names []) (y := y) (c := c) (by rw [hsz]; exact hc)
    rw [hsz] at this
    exact this.imp id fun h => clm y c (mem_of_lookup h.1)
  have shared : ∀ y c, env.cells.lookup y = some c → ∃ ov, CellG P c ov := fun y c hc => hF.cellOk y c hc
  have newNone : ∀ a, L ≤ a → h₃.get? a = none := fun a ha => by
    cases q : h₃.get? a with
    | none => rfl
    | some o => exact absurd (Heap.lt_size q) (Nat.not_lt.mpr ha)
  have slt : ∀ y c, env.cells.lookup y = some c → c < L := fun y c hc => by
    obtain ⟨ov, o, ho, _⟩ := shared y c hc
    exact Heap.lt_size (R.ext c o ho)
  have hlk : ∀ y, (y, NameKind.free) ∈ scope.names → ∃ c, env.cells.lookup y = some c ∧ cells.lookup y = some c := fun y hy => by
    obtain ⟨c₀, hm⟩ := clOf_has (cells := env.cells) scope.names [] (y := y) (.inl hy)
    obtain ⟨c₁, hc₁⟩ := lookup_some_of_mem hm
    obtain ⟨c, hc⟩ := Option.isSome_iff_exists.mp (cells_some scope.names (L + 1) (clOf env.cells scope.names []) (x := y) (.inr (by rw [hc₁]; rfl)))
    rcases wh y c hc with ⟨_, _, h3⟩ | ⟨h1, _⟩
    · cases nodup_kind hnd h3 hy
    · exact ⟨c, h1, hc⟩
  have escope : cenv.scope = relab sc scope := by
    show relabel scope env = relab sc scope
    unfold relabel relab Env.kindOf
    rw [he.scope]
  have hst : storable (relab sc scope) x = true := by
    simp only [storable, Bool.and_eq_true, Bool.or_eq_true, beq_iff_eq]
    exact ⟨hx.imp (relab_own (by simp)) (relab_own (by simp)), hpx⟩
  have kd : ∀ y, cenv.kindOf y = (relab sc scope).names.lookup y := fun y => by unfold Env.kindOf; rw [escope]
  have hasC : ∀ y, cenv.kindOf y = some .cell → (cells.lookup y).isSome = true := fun y hy => by
    rw [kd] at hy
    rcases relab_cell hy with h | h
    · exact cells_some _ _ _ (.inl (nodup_lookup hnd h))
    · obtain ⟨c, _, hc⟩ := hlk y h; rw [hc]; rfl
  have hap : cells.Pairwise fun x y => x.2 ≠ y.2 := by
    refine cells_apart _ _ _ (clOf_apart he.apart scope.names [] hgen hnd (fun _ h => by cases h) (fun _ h => by cases h) .nil) fun z hz => ?_
    obtain ⟨y, c⟩ := z
    exact Nat.lt_succ_of_lt (slt y c (clm y c hz).1)
  have freeMem : ∀ y, scope.names.lookup y = some .free → (y, NameKind.free) ∈ scope.names := fun y h => mem_of_lookup h
  have hR := R.fresh (newNone L (Nat.le_refl _))
  refine ⟨⟨escope, by rw [escope]; exact hkind, he.glob, he.blt, hap, fun y hy => hy.elim (hasC y) fun e => ?_⟩, ⟨⟨⟨fun _ => none, ?_, ?_⟩, ?_, ?_, ?_⟩, hasC, hap, ?_, hR.1, ?_, ?_⟩, hst, closureFor_eq hgen, hkind, fun y hy e => ?_, ?_⟩
  · -- a free name of the frame is free in the scope
    rw [kd] at e
    have : (y, NameKind.free) ∈ scope.names := by
      unfold relab at e
      dsimp only at e
      have hm := mem_of_lookup e
      obtain ⟨⟨n, k⟩, hm', e'⟩ := List.mem_map.mp hm
      simp only at e'
      split at e'
      · cases e'
      · cases e'; exact hm'
    obtain ⟨c, _, hc⟩ := hlk y this
    show (cells.lookup y).isSome = true
    rw [hc]; rfl
  · exact (Heap.Ns.new h₃ (.type "dict")).keeps (pushCells_keeps _ _)
  · intro y v hy hl
    unfold capt at hy
    split at hy
    · rename_i hf
      rw [kd] at hl
      rcases relab_free (sc := sc) hf with e | e <;> (rw [e] at hl; cases hl)
    · cases hy
  · intro y v hy _
    unfold capt at hy
    split at hy
    · rename_i hf
      obtain ⟨c, hc, hc'⟩ := hlk y (freeMem y hf)
      obtain ⟨c₂, V, hc₂, ⟨o, ho, hd⟩, hr⟩ := hF.cells y v hy (hfree y (freeMem y hf))
      rw [hc] at hc₂; cases hc₂
      exact ⟨c, V, hc', ⟨o, lift c o (R.ext c o ho), hd⟩, hr⟩
    · cases hy
  · intro y v hy
    unfold capt at hy
    split at hy
    · rename_i hf
      exact ⟨by rw [kd]; exact .inr (relab_free hf), (hF.dom y v hy).2⟩
    · cases hy
  · intro y c hc
    rcases wh y c hc with ⟨_, h2, _⟩ | ⟨h1, _⟩
    · exact ⟨none, h2⟩
    · obtain ⟨ov, o, ho, hd⟩ := shared y c h1
      exact ⟨ov, o, lift c o (R.ext c o ho), hd⟩
  · intro y c hm e
    rcases cells_ge _ _ _ hm with h | h
    · have := slt y c (clm y c h).1
      rw [e] at this; exact Nat.lt_irrefl _ this
    · rw [e] at h; exact absurd h (Nat.not_succ_le_self _)
  · intro y c hy hc
    have hy' : y = x := hy
    subst hy'
    rcases wh y c hc with ⟨h1, _, _⟩ | ⟨_, h2⟩
    · exact (R.fresh (newNone c (Nat.le_of_succ_le h1))).1
    · exfalso
      rcases hx with e | e
      · cases nodup_kind hnd (mem_of_lookup e) h2
      · cases nodup_kind hnd (mem_of_lookup e) h2
  · intro a ha
    rcases ha with rfl | ⟨y, hc⟩
    · exact hR.2
    · rcases wh y a hc with ⟨h1, _, _⟩ | ⟨h1, _⟩
      · exact (R.fresh (newNone a (Nat.le_of_succ_le h1))).2
      · obtain ⟨ov, hcell⟩ := shared y a h1
        exact R.cell_off hcell
  · exact nodup_lookup hnd (by rw [← e]; exact hy)
  · intro a ha hPa
    rcases ha with rfl | ⟨y, hc⟩
    · exact newNone _ (Nat.le_refl _)
    · rcases wh y a hc with ⟨h1, _, _⟩ | ⟨h1, _⟩
      · exact newNone a (Nat.le_of_succ_le h1)
      · obtain ⟨ov, o, ho, _⟩ := shared y a h1
        rw [hPa] at ho; cases ho
end
end Mine

-- Core7
namespace Mine
open PySem

/-- an object that the heap bears and nobody tracks is taken over -/
theorem Rep.adopt {cx : Cx} {P : PH} {H : Hp} {h : Heap} (R : Rep cx P H h) {a : Addr} {o : AObj} {O : Obj} (hP : P a = none) (hH : H a = none) (hO : h.get? a = some O) (r : OR cx o O) : Rep cx P (H.put a o) h := by
  refine ⟨R.base, R.ext, fun b ob q => ?_, fun b ob Ob q hq => ?_, ?_⟩
  · by_cases hb : b = a
    · subst hb; rw [Hp.put_self] at q; cases q; exact ⟨O, hO, r⟩
    · rw [Hp.put_ne hb] at q; exact R.obj b ob q
  · by_cases hb : b = a
    · subst hb; rw [hP] at hq; cases hq
    · rw [Hp.put_ne hb] at q; exact R.sep b ob Ob q hq
  · have hne : cx.script ≠ a := fun z => by have := R.scr; rw [z, hH] at this; cases this
    rw [Hp.put_ne hne]; exact R.scr

section
variable {cx : Cx} {d : Nat} {sc scope : Scope} {loc : Loc} {H : Hp} {x : Str} {px : Pos} {ifs : List Expr} {elt iter : Expr} {pos : Pos}

theorem Tests.sound {csc : Scope} {cloc : Loc} {ifs : List Expr} {H : Hp} {QB : Bool → Hp → Prop} (h : Tests cx d csc cloc ifs H QB) {W : Str → Prop} {env : Env} {A : Around} {P : PH} {s : Shared} {E : Value → Shared → Prop}
    {Q' : Bool → Shared → Prop} (he : EnvOk csc env) (F : FrameW W env cloc P H s.heap) (hA : Room d A) (R : Rep cx P H s.heap)
    (k : ∀ v H' h' tk, QB v H' → FrameW W env cloc P H' h' → Rep cx P H' h' → Q' v { s with heap := h', toks := tk }) :
    wpAny (model cx.prog cx.w) A (forIn ifs true fun c r => if r = true then do let ok ← isTrue c env (eval c env); pure (ForInStep.yield ok) else pure (ForInStep.yield r)) Q' E s := by
  match ifs, h with
  | [], h => exact wpAny_tests_nil (k true H s.heap s.toks h F R)
  | [c], h => exact wpAny_tests_one (TV.here h he F hA R k)
  | _ :: _ :: _, h => exact h.elim

theorem comp_block {env : Env} {A : Around} {P : PH} {s : Shared} {E : Value → Shared → Prop} {els : List AV} {keep : Hp → Prop} {Qf : List AV → Hp → Prop} {I : Addr} {O : Obj} {St : Nat → Obj → Prop} {RR : Value → Addr → Result → Shared → Prop}
    (he : EnvOk sc env) (hF : FrameP env loc P) (hA : Room d A) (R : Rep cx P H s.heap) (hok : compOk sc scope x = true) (hlen : els.length ≤ 2 ^ 20) (W : ItP cx I els keep St) (hI : s.heap.get? I = some O) (hSt : St 0 O)
    (hPI : P I = none) (hHI : H I = none) (C : CompW cx d sc scope loc x ifs elt els keep H Qf)
    (hRR : ∀ D C h' tk m' ys H' items n, h'.Ns C m' → Rep cx P H' h' → P D = none → P C = none → H' D = none → H' C = none → D ≠ C → s.heap.get? D = none → s.heap.get? C = none →
      h'.get? D = some { cls := .type "list", dict := none, data := .seq items n, slots := #[] } → VRs ys items.toList → Qf ys H' → RR (.ref D) C (.ok .next) { s with heap := h', toks := tk }) :
    wpAny (model cx.prog cx.w) A (newList []) (fun acc s₃ => wpAny (model cx.prog cx.w) A (newFunctionEnv scope env.globals (clOf env.cells scope.names []) [] env.qual none .none (some env)) (fun cenv s₄ =>
      codeAny (model cx.prog cx.w) A (.compStart (.ListComp elt [⟨.Name x px, iter, ifs, 0⟩] scope pos) 0 (.ref I) acc { cenv with scope := relabel scope env }) (RR acc cenv.locals) s₄) E s₃) E s := by
  obtain ⟨J, hJ0, hkeep, turn, fin⟩ := C
  refine wpAny_newObj_type (wpAny_newCompEnv ?_)
  -- the list that is built, the frame
  generalize hD : s.heap.objs.size = D
  generalize hh₃ : s.heap.push { cls := .type "list", dict := none, data := .seq ([] : List Value).toArray } = h₃
  have hDs : s.heap.get? D = none := hD ▸ get_size _
  have fD := R.fresh hDs
  have up₃ : ∀ b o, s.heap.get? b = some o → h₃.get? b = some o := fun b o e => hh₃ ▸ Heap.get?_push_of_some _ e
  have hD₃ : h₃.get? D = some { cls := .type "list", dict := none, data := .seq ([] : List Value).toArray 0, slots := #[] } := by rw [← hh₃, ← hD]; exact Heap.get?_push_size _ rfl
  have R₃ : Rep cx P H h₃ := R.grow up₃
  obtain ⟨eok, F₄, hst, _, _, _, hfree⟩ := comp_frame he hF R₃ hok
  have up₄ : ∀ b o, h₃.get? b = some o → (pushCells (h₃.push { cls := .type "dict", data := .dict #[] }) scope.names).get? b = some o := fun b o e => pushCells_keeps _ _ b o (Heap.get?_push_of_some _ e)
  generalize hh₄ : pushCells (h₃.push { cls := .type "dict", data := .dict #[] }) scope.names = h₄ at F₄ up₄
  show codeAny _ A (.compStart _ 0 (.ref I) (.ref D) { newEnv scope h₃.objs.size env.globals (cellsFrom (h₃.objs.size + 1) scope.names (clOf env.cells scope.names [])) env.qual none .none (some env) builtinsNs with scope := relabel scope env })
    (RR (.ref D) h₃.objs.size) { s with heap := h₄ }
  generalize hcenv : ({ newEnv scope h₃.objs.size env.globals (cellsFrom (h₃.objs.size + 1) scope.names (clOf env.cells scope.names [])) env.qual none .none (some env) builtinsNs with scope := relabel scope env } : Env) = cenv at eok F₄ hfree
  have hL : cenv.locals = h₃.objs.size := by rw [← hcenv]; rfl
  rw [← hL]
  have R₄ : Rep cx P H h₄ := R₃.grow up₄
  have hI₄ : h₄.get? I = some O := up₄ I O (up₃ I O hI)
  have hD₄ := up₄ D _ hD₃
  have hID : I ≠ D := fun z => by rw [z, hDs] at hI; cases hI
  have offI : ¬ fp cenv I := fun z => by have := hfree I z hPI; rw [up₃ I O hI] at this; cases this
  have offD : ¬ fp cenv D := fun z => by have := hfree D z fD.1; rw [hD₃] at this; cases this
  have hCs : s.heap.get? cenv.locals = none := by
    cases q : s.heap.get? cenv.locals with
    | none => rfl
    | some o => have := hfree _ (.inl rfl) F₄.locP; rw [up₃ _ o q] at this; cases this
  have hDC : D ≠ cenv.locals := fun z => offD (.inl z)
  have loop : codeAny (model cx.prog cx.w) A (.compLoop (.ListComp elt [⟨.Name x px, iter, ifs, 0⟩] scope pos) 0 (.ref I) (.ref D) cenv) (RR (.ref D) cenv.locals) { s with heap := h₄ } := by
    refine codeAny_compLoop_tests (fun m s' => ∃ i ys H₂ h₂ tk₂ O₂ items n lc, s' = { s with heap := h₂, toks := tk₂ } ∧ J i ys H₂ ∧ (lc = capt scope loc ∨ ∃ w, lc = upd (capt scope loc) x w) ∧ FrameW (· = x) cenv lc P H₂ h₂ ∧
      Rep cx P H₂ h₂ ∧ h₂.get? I = some O₂ ∧ St i O₂ ∧ H₂ I = none ∧ h₂.get? D = some { cls := .type "list", dict := none, data := .seq items n, slots := #[] } ∧ VRs ys items.toList ∧ H₂ D = none ∧ ys.length ≤ i ∧ i ≤ els.length ∧ m = els.length + 1 - i)
      ?_ (els.length + 1) ⟨0, [], H, h₄, s.toks, O, #[], 0, capt scope loc, rfl, hJ0, .inl rfl, F₄, R₄, hI₄, hSt, hHI, hD₄, trivial, fD.2, Nat.le_refl _, Nat.zero_le _, rfl⟩ (by intro _; rfl)
    rintro m s' ⟨i, ys, H₂, h₂, tk₂, O₂, items, n, lc, rfl, hJ, hlc, F₂, R₂, hI₂, hSt₂, hHI₂, hD₂, hys, hHD₂, hyl, hi, rfl⟩
    cases hel : els[i]? with
    | none =>
      have hil : i = els.length := Nat.le_antisymm hi (by simpa using hel)
      subst hil
      refine W.done A P H₂ _ _ _ O₂ hA.handled (hkeep _ _ _ hJ) R₂ hHI₂ hI₂ hSt₂ fun h₅ tk₅ e₅ => ?_
      obtain ⟨m', hn, _⟩ := F₂.at_.ns
      refine hRR D cenv.locals h₅ tk₅ m' ys H₂ items n (hn.heap.at' fun o e => e₅ _ o (fun z => offI (.inl z.symm)) e) (R₂.ext_to hPI hHI₂ e₅) fD.1 F₄.locP hHD₂ (F₂.offH _ (.inl rfl)) hDC hDs hCs (e₅ D _ (Ne.symm hID) hD₂) hys (fin _ _ hJ)
    | some w =>
      have hlt : i < els.length := (List.getElem?_eq_some_iff.mp hel).1
      refine W.item i w A P H₂ _ _ _ O₂ hel (hkeep _ _ _ hJ) R₂ hHI₂ hI₂ hSt₂ fun V h₅ O₅ tk₅ hV e₅ hI₅ hSt₅ => ?_
      have F₅ : FrameW (· = x) cenv lc P H₂ h₅ := F₂.eq_on (fun a ha o e => (e₅.2 a fun z => offI (z ▸ ha)).trans e) F₂.offH
      have R₅ : Rep cx P H₂ h₅ := R₂.ext_to hPI hHI₂ e₅.extBut
      have hD₅ := (e₅.2 D (Ne.symm hID)).trans hD₂
      -- the iterator and the list are laid aside
      have PD : addP P I O₅ D = none := by unfold addP; rw [if_neg (Ne.symm hID)]; exact fD.1
      have R₅' := (R₅.add hI₅ hPI hHI₂).add hD₅ PD hHD₂
      have F₅' := (F₅.add (O := O₅) offI).add (O := { cls := .type "list", dict := none, data := .seq items n, slots := #[] }) offD
      have hb : ∀ a o, cx.base.get? a = some o → addP P I O₅ a = some o := (R₅.add hI₅ hPI hHI₂).base
      refine wpAny_assign_Name (store_own eok F₅' R₅' hst hV (fun h₆ tk₆ F₆ R₆ => ?_) rfl)
      have elc : upd lc x w = upd (capt scope loc) x w := by
        rcases hlc with rfl | ⟨w', rfl⟩
        · rfl
        · exact upd_upd ..
      rw [elc] at F₆
      refine (turn i w ys H₂ hel hJ).sound eok F₆ hA R₆ fun ok H₇ h₇ tk₇ q₇ F₇ R₇ => ?_
      cases ok with
      | false =>
        simp only [Bool.false_eq_true, if_false] at q₇ ⊢
        obtain ⟨R₈, hD₈, hHD₈⟩ := R₇.drop PD hb
        obtain ⟨R₉, hI₉, hHI₉⟩ := R₈.drop hPI R.base
        exact ⟨els.length + 1 - (i + 1), by omega, i + 1, ys, H₇, h₇, tk₇, O₅, items, n, _, rfl, q₇, .inr ⟨w, rfl⟩, F₇.drop.drop, R₉, hI₉, hSt₅, hHI₉, hD₈, hys, hHD₈, by omega, hlt, rfl⟩
      | true =>
        simp only [if_true] at q₇ ⊢
        refine q₇.here eok F₇ hA R₇ fun y Y H₈ h₈ tk₈ q₈ hY F₈ R₈ => ?_
        obtain ⟨R₉, hD₉, hHD₉⟩ := R₈.drop PD hb
        obtain ⟨R₁₀, hI₁₀, hHI₁₀⟩ := R₉.drop hPI R.base
        have F₁₀ := F₈.drop.drop
        have hz : items.size ≤ sizeLine := by
          have := hys.length
          simp only [Array.length_toList] at this
          show items.size ≤ 2 ^ 24
          omega
        refine wpAny_list_append_plain (items := items) ⟨n, hD₉⟩ (fun h₁₁ hpl e₁₁ => ?_) hz
        obtain ⟨n', hD₁₁⟩ := hpl
        refine ⟨els.length + 1 - (i + 1), by omega, i + 1, ys ++ [y], H₈, h₁₁, tk₈, O₅, items.push Y, n', _, rfl, q₈, .inr ⟨w, rfl⟩, F₁₀.eq_on (fun a ha o e => (e₁₁.2 a fun z => offD (z ▸ ha)).trans e) F₁₀.offH,
          R₁₀.ext_to fD.1 hHD₉ e₁₁.extBut, (e₁₁.2 I hID).trans hI₁₀, hSt₅, hHI₁₀, hD₁₁, ?_, hHD₉, by rw [List.length_append, List.length_singleton]; omega, hlt, rfl⟩
        rw [Array.toList_push]
        exact hys.snoc hY
  exact codeAny_compStart_list loop (W.self 0 A _ _ _ O hI₄ hSt loop)

theorem EV_ListComp {Q : AV → Hp → Prop}
    (h : EV cx d sc loc iter H fun v H₁ => ∃ els keep, Src H₁ v els keep ∧ els.length ≤ 2 ^ 20 ∧ CompW cx d sc scope loc x ifs elt els keep H₁ fun ys H₂ => ∀ a, H₂ a = none → Q (.ref a) (H₂.put a (.list false ys)))
    (hok : compOk sc scope x = true := by rfl) (hs : ∀ env v, foldedSetIterable iter env v = pure v := by intro _ _; rfl) : EV cx d sc loc (.ListComp elt [⟨.Name x px, iter, ifs, 0⟩] scope pos) H Q := by
  intro env A P s E Q' he hF hA R k
  rw [eval_ListComp]
  obtain ⟨_, _, _, hcl, hkd, hnm, _⟩ := comp_frame he hF R hok
  refine wpAny_comprehension_free (use := none) rfl (hs env) hcl hkd hnm (h env A P s E _ he hF hA R fun v V H₁ h₁ tk₁ q hv R₁ => ?_)
  obtain ⟨els, keep, S, hlen, C⟩ := q
  refine iter_of S hv R₁ fun I O St W hI hk hSt eI hfr => ?_
  have f₁ := R₁.fresh hI
  have up : ∀ b o, h₁.get? b = some o → (h₁.push O).get? b = some o := fun b o e => Heap.get?_push_of_some _ e
  refine comp_block (RR := fun acc C => compPost (model cx.prog cx.w) A E none Q' acc C) he hF hA (R₁.grow up) hok hlen W (by show (h₁.push O).get? I = some O; rw [eI]; exact Heap.get?_push_size _ hfr) hSt f₁.1 f₁.2 C ?_
  intro D C' h' tk m' ys H' items n hn R' hPD hPC hHD hHC hDC hDs hCs hD' hys q'
  refine ⟨m', hn, fun h'' e'' => ?_⟩
  have R'' := R'.ext_to hPC hHC e''.extBut
  exact k (.ref D) (.ref D) _ h'' tk (q' D hHD) rfl (R''.adopt hPD hHD ((e''.2 D hDC).trans hD') ⟨items, n, rfl, hys⟩)

theorem EX_AssignComp {Q : AF → Loc → Hp → Prop} {y : Str} {py spos : Pos}
    (h : EV cx d sc loc iter H fun v H₁ => ∃ els keep, Src H₁ v els keep ∧ els.length ≤ 2 ^ 20 ∧ CompW cx d sc scope loc x ifs elt els keep H₁ fun ys H₂ => ∀ a, H₂ a = none → Q .next (upd loc y (.ref a)) (H₂.put a (.list false ys)))
    (hok : compOk sc scope x = true := by rfl) (hy : storable sc y = true := by rfl) (hs : ∀ env v, foldedSetIterable iter env v = pure v := by intro _ _; rfl) :
    EX1 cx d sc loc (.Assign [.Name y py] (.ListComp elt [⟨.Name x px, iter, ifs, 0⟩] scope pos) spos) H Q := by
  intro env A P s E Q' he F hA R k
  obtain ⟨b, hsw⟩ : ∃ b, swapsWith (.ListComp elt [⟨.Name x px, iter, ifs, 0⟩] scope pos) (some (.Name y py)) spos.line env = pure b := ⟨_, rfl⟩
  cases b with
  | false =>
    refine wpAny_Assign_Name (EV.here (EV_ListComp (Q := fun v H' => Q .next (upd loc y v) H') h hok hs) he F hA R fun v V H' h' tk q hv F' R' => ?_) hsw
    exact store_own he F' R' hy hv fun h₂ tk₂ F₂ R₂ => k .next .next _ H' h₂ tk₂ q rfl F₂ R₂
  | true =>
    rw [exec_Assign_Name_used _ _ _ _ hsw]
    have hF := aside_frame F
    have RA := aside_rep F R
    obtain ⟨_, _, _, hcl, hkd, hnm, _⟩ := comp_frame he hF RA hok
    refine wpAny_bind (wpAny_standAt (wpAny_bind ?_))
    show wpAny _ A (do let _ ← comprehension (.ListComp elt [⟨.Name x px, iter, ifs, 0⟩] scope pos) scope env _ (newList []) false (eval iter env) (some (assign (.Name y py) env))) _ _ s
    refine wpAny_bind (wpAny_mono (wpAny_comprehension_free (use := some (assign (.Name y py) env)) (Q := fun _ s' => Q' .next s') rfl (hs env) hcl hkd hnm
      (h env A _ s E _ he hF hA RA fun v V H₁ h₁ tk₁ q hv R₁ => ?_)) (fun _ s' hq => wpAny_pure (wpAny_pure hq)) fun _ _ e => e)
    obtain ⟨els, keep, S, hlen, C⟩ := q
    refine iter_of S hv R₁ fun I O St W hI hk hSt eI hfr => ?_
    have f₁ := R₁.fresh hI
    have up : ∀ b o, h₁.get? b = some o → (h₁.push O).get? b = some o := fun b o e => Heap.get?_push_of_some _ e
    refine comp_block (RR := fun acc C => compPost (model cx.prog cx.w) A E (some (assign (.Name y py) env)) (fun _ s' => Q' .next s') acc C) he hF hA (R₁.grow up) hok hlen W
      (by show (h₁.push O).get? I = some O; rw [eI]; exact Heap.get?_push_size _ hfr) hSt f₁.1 f₁.2 C ?_
    intro D C' h' tk m' ys H' items n hn R' hPD hPC hHD hHC hDC hDs hCs hD' hys q'
    show wpAny _ A (assign (.Name y py) env (.ref D)) _ _ _
    have RD := R'.adopt hPD hHD hD' (o := .list false ys) ⟨items, n, rfl, hys⟩
    obtain ⟨F₂, R₂⟩ := aside_back F R RD
    obtain ⟨oC, es, ep, hoC, hdC, hkC, hfC⟩ := id hn
    have offC : ¬ fp env C' := fun z => by
      obtain ⟨o, ho⟩ := F.live C' z
      have : aside P env s.heap C' = some o := by unfold aside; rw [if_pos z]; exact ho
      rw [hPC] at this; cases this
    have PC : P C' = none := by
      cases qq : P C' with
      | none => rfl
      | some o => have : aside P env s.heap C' = some o := by unfold aside; rw [if_neg offC]; exact qq
                  rw [hPC] at this; cases this
    have HC : (H'.put D (.list false ys)) C' = none := by rw [Hp.put_ne (Ne.symm hDC)]; exact hHC
    refine wpAny_assign_Name (store_own he (F₂.add (O := oC) offC) (R₂.add hoC PC HC) hy (v := .ref D) rfl fun h₃ tk₃ F₃ R₃ => ?_)
    obtain ⟨R₄, hC₄, hHC₄⟩ := R₃.drop PC R.base
    have F₄ := F₃.drop
    refine ⟨m', ⟨oC, es, ep, hC₄, hdC, hkC, hfC⟩, fun h₅ e₅ => ?_⟩
    exact k .next .next _ _ h₅ tk₃ (q' D hHD) rfl (F₄.eq_on (fun a ha o e => (e₅.2 a fun z => offC (z ▸ ha)).trans e) F₄.offH) (R₄.ext_to PC hHC₄ e₅.extBut)
end
end Mine

-- Core8
namespace Mine
open PySem

/-! ## methods of lists -/
section
variable {cx : Cx} {d : Nat} {sc : Scope} {loc : Loc} {H : Hp} {Q : AV → Hp → Prop} {pos : Pos}

theorem EV_Meth {o : Expr} {name : Str} {id : String} {apos : Pos} {args : List Expr} (slot : Slot "list" name id) (hty : typeOf (.builtin id) = pure (.type "method_descriptor"))
    (h : EV cx d sc loc o H fun v H₁ => ∃ a ro vs, v = .ref a ∧ H₁ a = some (.list ro vs) ∧ EVs cx d sc loc args H₁ fun ws H₂ => CW cx d (.builtin id) (.ref a :: ws) H₂ Q)
    (hn : args.all notStar = true := by rfl)
    (he : ∀ env, ∃ pl : Sem Bool, eval (.Call (.Attribute o name apos) args [] pos) env = (do
      let ov ← eval o env
      standAt apos.atName
      let (f, first) ← holding [ov] (getMethod ov name pl)
      callWith pos f first (backTo pos (starEach args env)) []) := by intro _; exact ⟨_, rfl⟩) : EV cx d sc loc (.Call (.Attribute o name apos) args [] pos) H Q := by
  intro env A P s E Q' hE hF hA R k
  obtain ⟨pl, he⟩ := he env
  refine PyProof.Rows.MethodCall_ (pl := pl) (h env A P s E _ hE hF hA R fun v V H₁ h₁ tk₁ q hv R₁ => ?_) he
  obtain ⟨a, ro, vs, rfl, ha, q⟩ := q
  cases hv
  obtain ⟨items, n, hO, hr⟩ := R₁.isList ha
  refine getMethod_builtin (T := "list") ⟨_, hO, rfl⟩ F.plainAttrs_list slot hty (fun b e => by cases e; exact ⟨_, hO, rfl⟩) ?_
  cases args with
  | nil => exact PyProof.Rows.callWith_method0 (q A P _ E Q' [.ref a] hA R₁ ⟨rfl, trivial⟩ fun v V H₂ h₂ tk₂ => k v V H₂ h₂ tk₂)
  | cons e r =>
    have hn1 : notStar e = true := by simp only [List.all_cons, Bool.and_eq_true] at hn; exact hn.1
    have hn2 : r.all notStar = true := by simp only [List.all_cons, Bool.and_eq_true] at hn; exact hn.2
    refine PyProof.Rows.callWith_method1 (EVs.sound q hn hE hF hA R₁ fun ws Ws H₂ h₂ tk₂ q₂ hw R₂ => ?_) (starEach_cons hn1) (backTo_plain hn2)
    exact q₂ A P _ E Q' (.ref a :: Ws) hA R₂ ⟨rfl, hw⟩ fun v V H₃ h₃ tk₃ => k v V H₃ h₃ tk₃

theorem own_list {P : PH} {s : Shared} {a : Addr} {vs : List AV} (R : Rep cx P H s.heap) (ha : H a = some (.list false vs)) :
    ∃ items n, s.heap.get? a = some { cls := .type "list", dict := none, data := .seq items n, slots := #[] } ∧ VRs vs items.toList ∧ P a = none ∧ a ≠ cx.script := by
  obtain ⟨items, n, hO, hr⟩ := R.isList ha
  obtain ⟨h1, h2⟩ := R.own_free ha (by intro _ e; cases e)
  exact ⟨items, n, hO, hr, h1, h2⟩

theorem VRs.size {vs : List AV} {items : Array Value} (h : VRs vs items.toList) : vs.length = items.size := by have := h.length; simpa using this

theorem set_list {P : PH} {s : Shared} {a : Addr} {vs : List AV} {items : Array Value} {n : Nat} {f : Array Value → Array Value} (R : Rep cx P H s.heap) (hO : s.heap.get? a = some { cls := .type "list", dict := none, data := .seq items n, slots := #[] })
    (hP : P a = none) (hs : a ≠ cx.script) (hv : VRs vs (f items).toList) : Rep cx P (H.put a (.list false vs)) (s.heap.update a (Obj.mapSeq f)) :=
  R.put_own hP hs (Heap.SameBut.update ..) (IsL.update hO f) ⟨_, _, rfl, hv⟩

theorem CW_append {a : Addr} {vs : List AV} {v : AV} (ha : H a = some (.list false vs)) (hl : vs.length ≤ 2 ^ 20) (hq : Q .none (H.put a (.list false (vs ++ [v])))) :
    CW cx d (.builtin "list.append") [.ref a, v] H Q := by
  rintro A P s E Q' (_ | ⟨V, _ | ⟨W, _ | ⟨_, _⟩⟩⟩) hA R hr k
  all_goals try exact hr.elim
  all_goals try exact hr.2.elim
  all_goals try exact hr.2.2.elim
  obtain ⟨h1, h2, _⟩ := hr
  cases h1
  obtain ⟨items, n, hO, hv, hP, hs⟩ := own_list R ha
  have hz : items.size ≤ sizeLine := by have := hv.size; show items.size ≤ 2 ^ 24; omega
  refine call_meets F.slot_list_append ⟨_, hO, rfl⟩ F.entry_list_append (F.args_list_append_2 _ _) (list_append a items n W hz) ⟨hO, ?_⟩
  exact k .none .none _ _ _ hq rfl (set_list R hO hP hs (by rw [Array.toList_push]; exact hv.snoc h2))

theorem CW_reverse {a : Addr} {vs : List AV} (ha : H a = some (.list false vs)) (hl : vs.length ≤ 2 ^ 20) (hq : Q .none (H.put a (.list false vs.reverse))) :
    CW cx d (.builtin "list.reverse") [.ref a] H Q := by
  rintro A P s E Q' (_ | ⟨V, _ | ⟨_, _⟩⟩) hA R hr k
  all_goals try exact hr.elim
  all_goals try exact hr.2.elim
  cases hr.1
  obtain ⟨items, n, hO, hv, hP, hs⟩ := own_list R ha
  have hz : items.size ≤ sizeLine := by have := hv.size; show items.size ≤ 2 ^ 24; omega
  refine call_meets F.slot_list_reverse ⟨_, hO, rfl⟩ F.entry_list_reverse (F.args_list_reverse_1 _) (AutoSeq1.list_reverse_list_0 a items n hz) ⟨hO, ?_⟩
  exact k .none .none _ _ _ hq rfl (set_list R hO hP hs (by rw [Array.toList_reverse]; exact hv.reverse))

theorem CW_pop {a : Addr} {vs : List AV} {i : Int} {v : AV} (ha : H a = some (.list false vs)) (hl : vs.length ≤ 2 ^ 20) (h0 : 0 ≤ i) (hv : vs[i.toNat]? = some v) (hq : Q v (H.put a (.list false (vs.eraseIdx i.toNat)))) :
    CW cx d (.builtin "list.pop") [.ref a, .int i] H Q := by
  rintro A P s E Q' (_ | ⟨V, _ | ⟨W, _ | ⟨_, _⟩⟩⟩) hA R hr k
  all_goals try exact hr.elim
  all_goals try exact hr.2.elim
  all_goals try exact hr.2.2.elim
  obtain ⟨h1, ⟨t, rfl⟩, _⟩ := hr
  cases h1
  obtain ⟨items, n, hO, hr, hP, hs⟩ := own_list R ha
  have hsz := hr.size
  have hz : items.size ≤ sizeLine := by show items.size ≤ 2 ^ 24; omega
  obtain ⟨Y, hY, hy⟩ := hr.get hv
  have hlt : i.toNat < items.size := by
    rcases Nat.lt_or_ge i.toNat items.size with h | h
    · exact h
    · rw [List.getElem?_eq_none (by rw [Array.length_toList]; exact h)] at hY; cases hY
  refine call_meets F.slot_list_pop ⟨_, hO, rfl⟩ F.entry_list_pop (F.args_list_pop_2 _ _) (MeetsSeq.list_pop_at a items n i t i.toNat Y (fitsIndex_of h0 (by omega)) (seqIndex_of h0 (by omega)) (by simpa using hY) hz) ⟨hO, ?_⟩
  refine k v Y _ _ _ hq hy (set_list R hO hP hs ?_)
  rw [Array.eraseIdxIfInBounds, dif_pos hlt, Array.toList_eraseIdx]
  exact hr.eraseIdx _

end
end Mine

-- Core9
namespace Mine
open PySem

section
variable {cx : Cx} {d : Nat} {sc : Scope} {loc : Loc} {H : Hp} {Q : AV → Hp → Prop} {pos : Pos}

/-! ## built-in names, calls of built-in types -/
theorem EV_BType {x : Str} {T : String} (hf : IsBuiltin cx x (.type T)) (hq : Q (.ty T) H) (hx : globalName sc x = true := by rfl) : EV cx d sc loc (.Name x pos) H Q :=
  fun _ _ _ s _ _ he _ _ R k => load_builtin he R hx hf.g hf.n hf.b (k (.ty T) (.type T) H s.heap s.toks hq rfl R)

theorem EV_CallT {f : Str} {T : String} {e : Expr} {r : List Expr} {p pos : Pos} (hf : IsBuiltin cx f (.type T))
    (h : EVs cx d sc loc (e :: r) H fun vs H' => CW cx d (.type T) vs H' Q) (hx : globalName sc f = true := by rfl) (hn : (e :: r).all notStar = true := by rfl) :
    EV cx d sc loc (.Call (.Name f p) (e :: r) [] pos) H Q := by
  intro env A P s E Q' he hF hA R k
  rw [eval_Call_Name]
  refine wpAny_bind (load_builtin he R hx hf.g hf.n hf.b (callWith_type (backTo_plain hn) ?_))
  have hn1 : notStar e = true := by simp only [List.all_cons, Bool.and_eq_true] at hn; exact hn.1
  have hs := EVs.sound (env := env) (A := A) (P := P) (s := s) (E := E) (pos := pos) h hn he hF hA R (Q' := fun vs s₁ => wpAny (model cx.prog cx.w) A (call (.type T) vs) Q' E s₁)
    (fun vs Vs H' h' tk q hvs R' => q A P _ E Q' Vs hA R' hvs fun v V H₂ h₂ tk₂ => k v V H₂ h₂ tk₂)
  rw [starEach_cons hn1] at hs ⊢
  exact Calls.evalArgs_plain hs

theorem vrs1 {a : AV} {vs : List Value} (h : VRs [a] vs) : ∃ V, vs = [V] ∧ VR a V := by
  match vs, h with
  | [V], h => exact ⟨V, rfl, h.1⟩
  | [], h => exact h.elim
  | _ :: _ :: _, h => exact h.2.elim
theorem vrs2 {a b : AV} {vs : List Value} (h : VRs [a, b] vs) : ∃ V W, vs = [V, W] ∧ VR a V ∧ VR b W := by
  match vs, h with
  | V :: vs, h => obtain ⟨W, rfl, h2⟩ := vrs1 h.2; exact ⟨V, W, rfl, h.1, h2⟩
  | [], h => exact h.elim

theorem CW_len {a : Addr} {ro : Bool} {vs : List AV} (ha : H a = some (.list ro vs)) (hl : vs.length ≤ 2 ^ 20) (hq : Q (.int vs.length) H) : CW cx d (.builtin "len") [.ref a] H Q := by
  intro A P s E Q' us hA R hr k
  obtain ⟨V, rfl, hv⟩ := vrs1 hr
  cases hv
  obtain ⟨items, n, hO, hr⟩ := R.isList ha
  have hz := hr.size
  refine Calls.call_len_list ⟨_, hO, rfl, n, rfl⟩ (by omega) ?_
  rw [← hz]
  exact k _ _ H s.heap _ hq ⟨_, rfl⟩ R

theorem CW_isinst_list {a : Addr} {ro : Bool} {vs : List AV} (ha : H a = some (.list ro vs)) (hq : Q (.bool true) H) : CW cx d (.builtin "isinstance") [.ref a, .ty "list"] H Q := by
  intro A P s E Q' us hA R hr k
  obtain ⟨V, W, rfl, hv, hw⟩ := vrs2 hr
  cases hv; cases hw
  obtain ⟨items, n, hO, _⟩ := R.isList ha
  exact IsiPair.list_list hO rfl (k _ _ H s.heap s.toks hq rfl R)
theorem CW_isinst_int_int {i : Int} (hq : Q (.bool true) H) : CW cx d (.builtin "isinstance") [.int i, .ty "int"] H Q := by
  intro A P s E Q' us hA R hr k
  obtain ⟨V, W, rfl, ⟨t, rfl⟩, hw⟩ := vrs2 hr
  cases hw
  exact IsiPair.int_int (k _ _ H s.heap s.toks hq rfl R)
theorem CW_isinst_int_bool {i : Int} (hq : Q (.bool false) H) : CW cx d (.builtin "isinstance") [.int i, .ty "bool"] H Q := by
  intro A P s E Q' us hA R hr k
  obtain ⟨V, W, rfl, ⟨t, rfl⟩, hw⟩ := vrs2 hr
  cases hw
  exact IsiPair.int_bool (k _ _ H s.heap _ hq rfl R)
theorem CW_isinst_bool_bool {b : Bool} (hq : Q (.bool true) H) : CW cx d (.builtin "isinstance") [.bool b, .ty "bool"] H Q := by
  intro A P s E Q' us hA R hr k
  obtain ⟨V, W, rfl, hv, hw⟩ := vrs2 hr
  cases hv; cases hw
  exact IsiPair.bool_bool (k _ _ H s.heap s.toks hq rfl R)

/-- list(xs) of a list -/
theorem CW_list_copy {a : Addr} {ro : Bool} {vs : List AV} (ha : H a = some (.list ro vs)) (hl : vs.length ≤ 2 ^ 20) (hq : ∀ b, H b = none → Q (.ref b) (H.put b (.list false vs))) : CW cx d (.type "list") [.ref a] H Q := by
  intro A P s E Q' us hA R hr k
  obtain ⟨V, rfl, hv⟩ := vrs1 hr
  cases hv
  obtain ⟨items, n, hO, hr⟩ := R.isList ha
  have hz := hr.size
  refine call_list_seq a (.inl rfl) hO rfl rfl (fun h' c' up hD => ?_) (by show items.size ≤ 2 ^ 24; omega)
  exact k _ _ _ h' s.toks (hq _ (R.fresh (get_size _)).2) rfl (R.put_new (get_size _) up hD ⟨items, c', rfl, hr⟩)

theorem CW_range1 {n : Int} (hq : ∀ b, H b = none → Q (.ref b) (H.put b (.range 0 n))) : CW cx d (.type "range") [.int n] H Q := by
  intro A P s E Q' us hA R hr k
  obtain ⟨V, rfl, ⟨t, rfl⟩⟩ := vrs1 hr
  exact call_range_1 (k _ _ _ _ _ (hq _ (R.fresh (get_size _)).2) rfl (R.push (o := .range 0 n) ⟨_, _, _, rfl⟩ rfl))
theorem CW_range2 {a n : Int} (hq : ∀ b, H b = none → Q (.ref b) (H.put b (.range a n))) : CW cx d (.type "range") [.int a, .int n] H Q := by
  intro A P s E Q' us hA R hr k
  obtain ⟨V, W, rfl, ⟨t, rfl⟩, ⟨u, rfl⟩⟩ := vrs2 hr
  exact call_range_2 (k _ _ _ _ _ (hq _ (R.fresh (get_size _)).2) rfl (R.push (o := .range a n) ⟨_, _, _, rfl⟩ rfl))

theorem vrs_of_get : ∀ {as : List AV} {vs : List Value}, as.length = vs.length → (∀ (j : Nat) (a : AV) (v : Value), as[j]? = some a → vs[j]? = some v → VR a v) → VRs as vs
  | [], [], _, _ => trivial
  | a :: as, v :: vs, hl, h => ⟨h 0 a v rfl rfl, vrs_of_get (by simpa using hl) fun j a v ha hv => h (j + 1) a v (by simpa using ha) (by simpa using hv)⟩
  | [], _ :: _, hl, _ => by simp at hl
  | _ :: _, [], hl, _ => by simp at hl
theorem items_span {lo : Int} {n : Nat} {acc : Array Value} (h : ItemsOf (fun i v => ∃ t, v = Value.int (lo + i * 1) t) acc n) : VRs ((List.range n).map fun (i : Nat) => AV.int (lo + i)) acc.toList := by
  obtain ⟨h1, h2⟩ := h
  refine vrs_of_get (by simp [h1]) fun j a v ha hv => ?_
  have hj : j < n := by
    rcases Nat.lt_or_ge j n with h | h
    · exact h
    · rw [List.getElem?_eq_none (by simpa using h)] at ha; cases ha
  obtain ⟨t, rfl⟩ := h2 j v (by simpa using hv)
  simp [hj] at ha
  subst ha
  exact ⟨t, by rw [Int.mul_one]⟩

/-- list(range(..)) -/
theorem CW_list_range {a : Addr} {lo hi : Int} (ha : H a = some (.range lo hi)) (h1 : -2 ^ 20 ≤ lo) (h2 : lo ≤ 2 ^ 20) (h3 : hi ≤ 2 ^ 20) (h4 : -2 ^ 20 ≤ hi) (hq : ∀ b, H b = none → Q (.ref b) (H.put b (.list false (spanZ lo hi)))) :
    CW cx d (.type "list") [.ref a] H Q := by
  intro A P s E Q' us hA R hr k
  obtain ⟨V, rfl, hv⟩ := vrs1 hr
  cases hv
  obtain ⟨O, hO, t, u, v, rfl⟩ := R.obj a _ ha
  have hsm : Builtin.Range.small lo hi 1 = true := by
    unfold Builtin.Range.small
    rw [rangeSize_one]
    simp [Builtin.Range.rangeFitsLong]
    omega
  refine call_list_range hA.handled hO hsm (rangeSize_one lo hi) (by omega) fun h' tk acc' c' up hD hit => ?_
  exact k _ _ _ h' tk (hq _ (R.fresh (get_size _)).2) rfl (R.put_new (get_size _) up hD ⟨acc', c', rfl, items_span hit⟩)

theorem Op_addList {a b : Addr} {ro ro' : Bool} {vs ws : List AV} (ha : H a = some (.list ro vs)) (hb : H b = some (.list ro' ws)) (h1 : vs.length ≤ 2 ^ 20) (h2 : ws.length ≤ 2 ^ 20)
    (hq : ∀ c, H c = none → Q (.ref c) (H.put c (.list false (vs ++ ws)))) : OpW cx d (binaryOp .Add) (.ref a) (.ref b) H Q := by
  intro A P s E Q' V W hA R hv hw k
  cases hv; cases hw
  obtain ⟨i1, n1, hO1, hr1⟩ := R.isList ha
  obtain ⟨i2, n2, hO2, hr2⟩ := R.isList hb
  have z1 := hr1.size
  have z2 := hr2.size
  refine PySem.P.add_list hO1 hO2 ?_ (by show i1.size + i2.size ≤ 2 ^ 24; omega)
  exact k _ _ _ _ s.toks (hq _ (R.fresh (get_size _)).2) rfl (R.push (o := .list false (vs ++ ws)) ⟨_, _, rfl, by rw [Array.toList_append]; exact hr1.append hr2⟩ rfl)

/-! ## comparison of data -/
mutual
def Is (H : Hp) : AV → PyData → Prop
  | v, .none => v = .none
  | v, .bool b => v = .bool b
  | v, .int i => v = .int i
  | v, .str x => v = .str x
  | v, .list ds => ∃ a ro vs, v = .ref a ∧ H a = some (.list ro vs) ∧ Iss H vs ds
  | v, .tuple ds => ∃ a vs, v = .ref a ∧ H a = some (.tuple vs) ∧ Iss H vs ds
  | _, .dict _ => False
def Iss (H : Hp) : List AV → List PyData → Prop
  | [], [] => True
  | v :: vs, d :: ds => Is H v d ∧ Iss H vs ds
  | _, _ => False
end

mutual
theorem Is.reads {P : PH} {h : Heap} (R : Rep cx P H h) : ∀ (d : PyData) (v : AV) (V : Value), Is H v d → VR v V → ∃ as, Reads h V d as
  | .none, v, V, hi, hv => by rw [Is] at hi; subst hi; cases hv; exact ⟨_, .none⟩
  | .bool b, v, V, hi, hv => by rw [Is] at hi; subst hi; cases hv; exact ⟨_, .bool b⟩
  | .int i, v, V, hi, hv => by rw [Is] at hi; subst hi; obtain ⟨t, rfl⟩ := hv; exact ⟨_, .int i t⟩
  | .str x, v, V, hi, hv => by rw [Is] at hi; subst hi; obtain ⟨t, rfl⟩ := hv; exact ⟨_, .str x t⟩
  | .list ds, v, V, hi, hv => by
    rw [Is] at hi
    obtain ⟨a, ro, vs, rfl, ha, hs⟩ := hi
    cases hv
    obtain ⟨items, n, hO, hr⟩ := R.isList ha
    obtain ⟨as, q⟩ := Iss.reads R ds vs items.toList hs hr
    exact ⟨_, .list hO rfl rfl q⟩
  | .tuple ds, v, V, hi, hv => by
    rw [Is] at hi
    obtain ⟨a, vs, rfl, ha, hs⟩ := hi
    cases hv
    obtain ⟨O, hO, items, n, rfl, hr⟩ := R.obj a _ ha
    obtain ⟨as, q⟩ := Iss.reads R ds vs items.toList hs hr
    exact ⟨_, .tuple hO rfl rfl q⟩
  | .dict _, v, V, hi, _ => by rw [Is] at hi; exact hi.elim
theorem Iss.reads {P : PH} {h : Heap} (R : Rep cx P H h) : ∀ (ds : List PyData) (vs : List AV) (Vs : List Value), Iss H vs ds → VRs vs Vs → ∃ as, ReadsAll h Vs ds as
  | [], [], [], _, _ => ⟨_, .nil⟩
  | d :: ds, v :: vs, V :: Vs, hi, hv => by
    rw [Iss] at hi
    obtain ⟨as, q⟩ := Is.reads R d v V hi.1 hv.1
    obtain ⟨bs, p⟩ := Iss.reads R ds vs Vs hi.2 hv.2
    exact ⟨_, .cons q p⟩
  | [], [], _ :: _, _, h => h.elim
  | _ :: _, _ :: _, [], _, h => h.elim
  | [], _ :: _, _, h, _ => by rw [Iss] at h; exact h.elim; all_goals intros; simp_all
  | _ :: _, [], _, h, _ => by rw [Iss] at h; exact h.elim; all_goals intros; simp_all
end

theorem Op_eqD {v w : AV} {x y : PyData} (hv : Is H v x) (hw : Is H w y) (hx : x.canLay0 = true) (hy : y.canLay0 = true) (hd : min x.depth y.depth ≤ 8) (hq : Q (.bool (PyData.eqv x y)) H) :
    OpW cx (d + 1) (compareOp .Eq) v w H Q := by
  intro A P s E Q' V W hA R h1 h2 k
  obtain ⟨as, ra⟩ := hv.reads R x v V h1
  obtain ⟨bs, rb⟩ := hw.reads R y w W h2
  exact SeqAt.compareEq_reads ra rb hx hy (by have := hA.units; omega) (k _ _ H s.heap s.toks hq rfl R)
theorem Op_neD {v w : AV} {x y : PyData} (hv : Is H v x) (hw : Is H w y) (hx : x.canLay0 = true) (hy : y.canLay0 = true) (hd : min x.depth y.depth ≤ 8) (hq : Q (.bool (!PyData.eqv x y)) H) :
    OpW cx (d + 1) (compareOp .NotEq) v w H Q := by
  intro A P s E Q' V W hA R h1 h2 k
  obtain ⟨as, ra⟩ := hv.reads R x v V h1
  obtain ⟨bs, rb⟩ := hw.reads R y w W h2
  exact SeqAt.compareNe_reads ra rb hx hy (by have := hA.units; omega) (k _ _ H s.heap s.toks hq rfl R)

/-! int in a list of nums -/
/-! ## subscripts -/
def GetW (cx : Cx) (d : Nat) (o i : AV) (H : Hp) (Q : AV → Hp → Prop) : Prop :=
  ∀ (A : Around) (P : PH) (s : Shared) (E : Value → Shared → Prop) (Q' : Value → Shared → Prop) (V W : Value), Room d A → Rep cx P H s.heap → VR o V → VR i W →
    (∀ v V H' h' tk, Q v H' → VR v V → Rep cx P H' h' → Q' V { s with heap := h', toks := tk }) →
    (∃ T id, s.TypeIs V T ∧ typeLookup (.type T) "__getitem__" = pure (some (.builtin id))) ∧ wpAny (model cx.prog cx.w) A (getItem V W) Q' E s

theorem EV_Sub {value slice : Expr} (h : EV cx d sc loc value H fun o H₁ => EV cx d sc loc slice H₁ fun i H₂ => GetW cx d o i H₂ Q)
    (hs : ∀ o i, subscripted slice false o i = operate [o, i] (getItem o i) := by intro _ _; rfl) : EV cx d sc loc (.Subscript value slice pos) H Q := by
  intro env A P s E Q' he hF hA R k
  refine PyProof.Rows.Subscript_ (h env A P s E _ he hF hA R fun o V H₁ h₁ tk₁ q₁ ho R₁ => ?_)
  refine q₁ env A P _ E _ he hF hA R₁ fun i W H₂ h₂ tk₂ q₂ hi R₂ => ?_
  obtain ⟨⟨T, id, hT, hl⟩, hg⟩ := q₂ A P { s with heap := h₂, toks := tk₂ } E Q' V W hA R₂ ho hi fun v V H₃ h₃ tk₃ => k v V H₃ h₃ tk₃
  exact PyProof.Rows.tail_any hT hl hg (hs V W)

theorem Get_list {a : Addr} {ro : Bool} {vs : List AV} {i : Int} {v : AV} (ha : H a = some (.list ro vs)) (h0 : 0 ≤ i) (hl : vs.length ≤ 2 ^ 20) (hv : vs[i.toNat]? = some v) (hq : Q v H) : GetW cx d (.ref a) (.int i) H Q := by
  intro A P s E Q' V W hA R ho hi k
  cases ho
  obtain ⟨t, rfl⟩ := hi
  obtain ⟨items, n, hO, hr⟩ := R.isList ha
  obtain ⟨X, hX, hx⟩ := hr.get hv
  have hlt : i.toNat < vs.length := (List.getElem?_eq_some_iff.mp hv).1
  refine ⟨⟨"list", _, ⟨_, hO, rfl⟩, list_getitem_lookup⟩, ?_⟩
  exact wpAny_getItem_list ⟨_, hO, rfl, n, rfl⟩ h0 (by omega) (by simpa using hX) (k v X H s.heap s.toks hq hx R)
end
end Mine

-- Core10
namespace Mine
open PySem

/-! ## slices -/
def bnd (n dflt : Nat) : Option Int → Nat
  | none => dflt
  | some i => (max 0 (min (if i < 0 then i + n else i) n)).toNat
def pySlice {α : Type} (vs : List α) (lo hi : Option Int) : List α := (vs.drop (bnd vs.length 0 lo)).take (bnd vs.length vs.length hi - bnd vs.length 0 lo)

theorem slicePick_eq (items : Array Value) (lo hi : Option Int) : slicePick items lo hi none = (pySlice items.toList lo hi).toArray := by
  unfold slicePick pySlice
  have e1 : (sliceBounds lo hi none items.size).1 = ((bnd items.size 0 lo : Nat) : Int) := by
    cases lo with
    | none => simp [sliceBounds, bnd]
    | some i => simp only [sliceBounds, bnd, Option.getD_none]; simp
  have e2 : (sliceBounds lo hi none items.size).2.1 = ((bnd items.size items.size hi : Nat) : Int) := by
    cases hi with
    | none => simp [sliceBounds, bnd]
    | some i => simp only [sliceBounds, bnd, Option.getD_none]; simp
  have e3 : (sliceBounds lo hi none items.size).2.2 = 1 := rfl
  rw [e1, e2, e3, sliceRange_one, pick_run, Array.length_toList]

theorem VRs.slice {as : List AV} {vs : List Value} (lo hi : Option Int) (h : VRs as vs) : VRs (pySlice as lo hi) (pySlice vs lo hi) := by
  unfold pySlice
  rw [h.length]
  exact (h.drop _).take _

def EVo (cx : Cx) (d : Nat) (sc : Scope) (loc : Loc) : Option Expr → Hp → (Option Int → Hp → Prop) → Prop
  | none, H, Q => Q none H
  | some e, H, Q => EV cx d sc loc e H fun v H' => ∃ k, v = .int k ∧ Q (some k) H'

section
variable {cx : Cx} {d : Nat} {sc : Scope} {loc : Loc} {H : Hp} {Q : AV → Hp → Prop} {pos : Pos}

theorem EVo.sound {o : Option Expr} {Qo : Option Int → Hp → Prop} (h : EVo cx d sc loc o H Qo) {env : Env} {A : Around} {P : PH} {s : Shared} {E : Value → Shared → Prop} {Q' : Value → Shared → Prop}
    (he : EnvOk sc env) (hF : FrameP env loc P) (hA : Room d A) (R : Rep cx P H s.heap)
    (k : ∀ x V H' h' tk, Qo x H' → IsPart V x → Rep cx P H' h' → Q' V { s with heap := h', toks := tk }) : wpAny (model cx.prog cx.w) A (evalPart o env) Q' E s := by
  cases o with
  | none => rw [evalPart_none]; exact wpAny_pure (k none .none H s.heap s.toks h .none R)
  | some e =>
    rw [evalPart_some]
    refine h env A P s E Q' he hF hA R fun v V H' h' tk q hv R' => ?_
    obtain ⟨i, rfl, q⟩ := q
    obtain ⟨t, rfl⟩ := hv
    exact k (some i) _ H' h' tk q (.int i t) R'

theorem EV_Slice {value : Expr} {lower upper : Option Expr} {p : Pos}
    (h : EV cx d sc loc value H fun o H₁ => EVo cx d sc loc lower H₁ fun lo H₂ => EVo cx d sc loc upper H₂ fun hi H₃ =>
      ∃ a ro vs, o = .ref a ∧ H₃ a = some (.list ro vs) ∧ vs.length ≤ 2 ^ 20 ∧ ∀ b, H₃ b = none → Q (.ref b) (H₃.put b (.list false (pySlice vs lo hi)))) :
    EV cx d sc loc (.Subscript value (.Slice lower upper none p) pos) H Q := by
  intro env A P s E Q' he hF hA R k
  refine PyProof.Rows.Subscript_ (h env A P s E _ he hF hA R fun o V H₁ h₁ tk₁ q₁ ho R₁ => ?_)
  refine wpAny_Slice (EVo.sound q₁ he hF hA R₁ fun lo VL H₂ h₂ tk₂ q₂ hlo R₂ => EVo.sound q₂ he hF hA R₂ fun hi VU H₃ h₃ tk₃ q₃ hhi R₃ => ?_)
  obtain ⟨a, ro, vs, rfl, ha, hl, q⟩ := q₃
  cases ho
  rw [evalPart_none]
  refine wpAny_pure ?_
  obtain ⟨items, n, hO, hr⟩ := R₃.isList ha
  have hz := hr.size
  have hl3 : h₃.IsList a items := ⟨_, hO, rfl, n, rfl⟩
  refine PyProof.Rows.tail_any (T := "list") (ops := [_, _]) (hl3.push _).typeIs list_getitem_lookup (wpAny_getItem_list_slice (hl3.push _) (Heap.IsSliceOf.new ..) hlo hhi .none (by simp) ?_ (by show items.size ≤ 2 ^ 24; omega)) rfl
  have R₄ : Rep cx P H₃ (h₃.push { cls := .type "slice", data := .fields #[VL, VU, .none] }) := R₃.grow fun b o e => Heap.get?_push_of_some _ e
  have hf := (R₄.fresh (get_size _)).2
  exact k _ _ _ _ tk₃ (q _ hf) rfl (R₄.push (o := .list false (pySlice vs lo hi)) ⟨_, _, rfl, by rw [slicePick_eq]; exact hr.slice lo hi⟩ rfl)

/-! ## all, any over a list of bools -/
theorem vrs_bools {bs : List Bool} {items : Array Value} (h : VRs (bs.map .bool) items.toList) : ∀ (i : Nat) (v : Value), items[i]? = some v → v = .bool (bs.getD i false) := by
  intro i v hv
  obtain ⟨a, ha, hr⟩ := h.get' (i := i) (by simpa using hv)
  simp only [List.getElem?_map, Option.map_eq_some_iff] at ha
  obtain ⟨b, hb, rfl⟩ := ha
  rw [List.getD_eq_getElem?_getD, hb]
  exact hr

theorem range_all (bs : List Bool) : (List.range bs.length).all (fun i => bs.getD i false) = bs.all id := by
  induction bs with
  | nil => rfl
  | cons b r ih =>
    rw [List.length_cons, List.range_succ_eq_map, List.all_cons, List.all_map]
    simp only [List.all_cons, id]
    rw [← ih]
    rfl
theorem range_any (bs : List Bool) : (List.range bs.length).any (fun i => bs.getD i false) = bs.any id := by
  induction bs with
  | nil => rfl
  | cons b r ih =>
    rw [List.length_cons, List.range_succ_eq_map, List.any_cons, List.any_map]
    simp only [List.any_cons, id]
    rw [← ih]
    rfl

theorem CW_all {a : Addr} {ro : Bool} {bs : List Bool} (ha : H a = some (.list ro (bs.map .bool))) (hq : Q (.bool (bs.all id)) H) : CW cx d (.builtin "all") [.ref a] H Q := by
  intro A P s E Q' us hA R hr k
  obtain ⟨V, rfl, hv⟩ := vrs1 hr
  cases hv
  obtain ⟨items, n, hO, hr⟩ := R.isList ha
  have hz : bs.length = items.size := by have := hr.size; simpa using this
  have hl : s.heap.IsList a items := ⟨_, hO, rfl, n, rfl⟩
  have hne : a ≠ s.heap.objs.size := Nat.ne_of_lt (Heap.lt_size hO)
  refine call_all_walk (wpAny_pyIter_list hl ⟨s.heap.objs.size, _, _, _, _, _, fun i => bs.getD i false, rfl, Walks.list (A := A.in1) hA.handled s.heap.objs.size a hne items, ⟨⟨_, Heap.get?_push_size _ rfl, rfl, rfl⟩, hl.push _⟩, ?_, fun h' tk up => ?_⟩)
  · intro i v s' Q₂ E₂ hi hq₂
    rw [vrs_bools hr i v hi]
    exact wpAny_truthy_bool hq₂
  · rw [← hz, range_all]
    refine k _ _ H h' tk hq rfl (R.grow fun b o e => up b o ?_ (Heap.get?_push_of_some _ e))
    intro hm
    simp at hm
    exact absurd (Heap.lt_size e) (by rw [hm]; exact Nat.lt_irrefl _)
theorem CW_any {a : Addr} {ro : Bool} {bs : List Bool} (ha : H a = some (.list ro (bs.map .bool))) (hq : Q (.bool (bs.any id)) H) : CW cx d (.builtin "any") [.ref a] H Q := by
  intro A P s E Q' us hA R hr k
  obtain ⟨V, rfl, hv⟩ := vrs1 hr
  cases hv
  obtain ⟨items, n, hO, hr⟩ := R.isList ha
  have hz : bs.length = items.size := by have := hr.size; simpa using this
  have hl : s.heap.IsList a items := ⟨_, hO, rfl, n, rfl⟩
  have hne : a ≠ s.heap.objs.size := Nat.ne_of_lt (Heap.lt_size hO)
  refine call_any_walk (wpAny_pyIter_list hl ⟨s.heap.objs.size, _, _, _, _, _, fun i => bs.getD i false, rfl, Walks.list (A := A.in1) hA.handled s.heap.objs.size a hne items, ⟨⟨_, Heap.get?_push_size _ rfl, rfl, rfl⟩, hl.push _⟩, ?_, fun h' tk up => ?_⟩)
  · intro i v s' Q₂ E₂ hi hq₂
    rw [vrs_bools hr i v hi]
    exact wpAny_truthy_bool hq₂
  · rw [← hz, range_any]
    refine k _ _ H h' tk hq rfl (R.grow fun b o e => up b o ?_ (Heap.get?_push_of_some _ e))
    intro hm
    simp at hm
    exact absurd (Heap.lt_size e) (by rw [hm]; exact Nat.lt_irrefl _)

/-! ## more values -/
end
end Mine

-- Core11
namespace Mine
open PySem PySem.Calls PyProof.Rows

/-! ## the text's defs -/
structure FDef where
  name : Str
  params : Arguments
  body : List Stmt
  scope : Scope

def defAt (p : Program) (k : Nat) : FDef := match p.main.body[k]? with
  | some (.FunctionDef name args body _ _ _ scope _ _ _) => ⟨name, args, body, scope⟩
  | _ => ⟨⟨#[]⟩, ⟨[], [], none, [], [], none, []⟩, [], { kind := .function, names := [], isGenerator := false, isCoroutine := false, more := [] }⟩

/-- the def stands at fa as the text has it -/
def HasDef (cx : Cx) (D : FDef) (fa : Addr) : Prop := ∃ pm code doc, IsFn cx D.name fa (docDef D.name D.params D.body D.scope pm code doc)

def plainParams (D : FDef) : Bool := match D.params with
  | ⟨[], _, none, [], [], none, []⟩ => true
  | _ => false
def FDef.names (D : FDef) : List Str := D.params.args.map (·.arg)

section
variable {cx : Cx} {d : Nat} {sc : Scope} {loc : Loc} {H : Hp} {Q : AV → Hp → Prop} {pos : Pos}

theorem CW_fn {D : FDef} {fa : Addr} {args : List AV} (hf : HasDef cx D fa)
    (hbind : ∀ (pm code doc : Value) (vs : List Value), vs.length = args.length → bindArgs (docDef D.name D.params D.body D.scope pm code doc) ⟨vs, []⟩ = pure (D.names.zip vs))
    (h : EX cx d D.scope (bindA (D.names.zip args) fun _ => none) D.body H (retQ Q))
    (hnm : D.names.all (storable D.scope) = true := by rfl) (hnf : D.scope.names.all (fun y => y.2 != .free) = true := by rfl)
    (hco : D.scope.isCoroutine = false := by rfl) (hgen : D.scope.isGenerator = false := by rfl) (hk : D.scope.kind = .function := by rfl) : CW cx (d + 1) (.ref fa) args H Q := by
  obtain ⟨pm, code, doc, hf⟩ := hf
  exact CW_def hf rfl rfl (hbind pm code doc) hnm rfl rfl h hnf hco hgen hk

theorem EV_CallD {D : FDef} {f : Str} {fa : Addr} {e : Expr} {r : List Expr} {p pos : Pos} (hf : HasDef cx D fa) 
    (h : EVs cx d sc loc (e :: r) H fun vs H' => CW cx d (.ref fa) vs H' Q) (hn : D.name = f := by rfl) (hx : globalName sc f = true := by rfl) (hns : (e :: r).all notStar = true := by rfl) :
    EV cx d sc loc (.Call (.Name f p) (e :: r) [] pos) H Q := by
  obtain ⟨pm, code, doc, hf⟩ := hf
  subst hn
  exact EV_CallF hf h hx hns
end
end Mine

-- Core12
namespace Mine
open PySem

/-! ## small steps of the walk -/
section
variable {cx : Cx} {d : Nat} {sc : Scope} {loc : Loc} {H : Hp} {Q : AV → Hp → Prop} {QF : AF → Loc → Hp → Prop} {QB : Bool → Hp → Prop} {J : Loc → Hp → Prop}

theorem at_next {rest : List Stmt} (h : EX cx d sc loc rest H QF) : andThen cx d sc rest QF .next loc H := h
theorem at_ret {rest : List Stmt} {v : AV} (h : QF (.ret v) loc H) : andThen cx d sc rest QF (.ret v) loc H := h
theorem ret_ret {v : AV} (h : Q v H) : retQ Q (.ret v) loc H := h
theorem ret_next (h : Q .none H) : retQ Q .next loc H := h
theorem lp_next (h : J loc H) : loopQ J QF .next loc H := h
theorem asB_b {b : Bool} (h : QB b H) : asB QB (.bool b) H := h
/-- only what goes on, not what leaves -/
def nextQ (Q₁ : Loc → Hp → Prop) : AF → Loc → Hp → Prop
  | .next, l, H => Q₁ l H
  | _, _, _ => False
theorem nxt {Q₁ : Loc → Hp → Prop} (h : Q₁ loc H) : nextQ Q₁ .next loc H := h
theorem EX_cut {st : Stmt} {rest : List Stmt} (Q₁ : Loc → Hp → Prop) (h1 : EX1 cx d sc loc st H (nextQ Q₁)) (h2 : ∀ l' H', Q₁ l' H' → EX cx d sc l' rest H' QF) : EX cx d sc loc (st :: rest) H QF :=
  EX_cons (h1.mono fun f l H' q => by cases f <;> first | exact h2 l H' q | exact q.elim)
theorem ite_dec {p : Prop} [Decidable p] {X Y : Prop} (h1 : p → X) (h2 : ¬ p → Y) : if decide p = true then X else Y := by
  by_cases h : p
  · simpa [h] using h1 h
  · simpa [h] using h2 h
theorem ite_ndec {p : Prop} [Decidable p] {X Y : Prop} (h1 : ¬ p → X) (h2 : p → Y) : if (!decide p) = true then X else Y := by
  by_cases h : p
  · simpa [h] using h2 h
  · simpa [h] using h1 h
theorem ite_bool {b : Bool} {X Y : Prop} (h1 : b = true → X) (h2 : b = false → Y) : if b = true then X else Y := by
  cases b
  · simpa using h2 rfl
  · simpa using h1 rfl
theorem ite_t {X Y : Prop} (h : X) : if true = true then X else Y := by simpa using h
theorem ite_f {X Y : Prop} (h : Y) : if false = true then X else Y := by simpa using h
theorem ite_nt {X Y : Prop} (h : Y) : if (!true) = true then X else Y := by simpa using h
theorem evs_nil {QL : List AV → Hp → Prop} (h : QL [] H) : EVs cx d sc loc [] H QL := h
theorem evs_cons {e : Expr} {r : List Expr} {QL : List AV → Hp → Prop} (h : EV cx d sc loc e H fun v H₁ => EVs cx d sc loc r H₁ fun vs H₂ => QL (v :: vs) H₂) : EVs cx d sc loc (e :: r) H QL := h
theorem tor_nil (h : QB false H) : TOr cx d sc loc [] H QB := h
theorem tor_cons {e : Expr} {r : List Expr} (h : TV cx d sc loc e H fun b H' => if b = true then QB true H' else TOr cx d sc loc r H' QB) : TOr cx d sc loc (e :: r) H QB := h
theorem evo_none {Qo : Option Int → Hp → Prop} (h : Qo none H) : EVo cx d sc loc none H Qo := h
theorem evo_some {e : Expr} {Qo : Option Int → Hp → Prop} (h : EV cx d sc loc e H fun v H' => ∃ k, v = .int k ∧ Qo (some k) H') : EVo cx d sc loc (some e) H Qo := h
theorem int_ok {k : Int} {P : Int → Prop} (h : P k) : ∃ i, AV.int k = .int i ∧ P i := ⟨k, rfl, h⟩
end

/-- a new object does not stand where one stands already -/
theorem ne_of_new {H : Hp} {a b : Addr} {o : AObj} (ha : H a = none) (hb : H b = some o) : b ≠ a := fun e => by rw [e, ha] at hb; cases hb
/-- what stood stays: the abstract heap has only grown -/
def Ext (H H' : Hp) : Prop := ∀ a o, H a = some o → H' a = some o
theorem Ext.refl (H : Hp) : Ext H H := fun _ _ h => h
theorem Ext.trans {H₁ H₂ H₃ : Hp} (h : Ext H₁ H₂) (h' : Ext H₂ H₃) : Ext H₁ H₃ := fun a o e => h' a o (h a o e)
theorem Ext.put {H : Hp} {a : Addr} {o : AObj} (ha : H a = none) : Ext H (H.put a o) := fun b ob hb => by rw [Hp.put_ne (ne_of_new ha hb)]; exact hb
theorem Ext.put_r {H H' : Hp} {a : Addr} {o : AObj} (h : Ext H H') (ha : H' a = none) : Ext H (H'.put a o) := h.trans (.put ha)
/-- an object that is new since H may turn -/
theorem Ext.own {H H' : Hp} {a : Addr} {o : AObj} (h : Ext H H') (ha : H a = none) : Ext H (H'.put a o) := fun b ob hb => by rw [Hp.put_ne (ne_of_new ha hb)]; exact h b ob hb
theorem Ext.none {H H' : Hp} {a : Addr} (h : Ext H H') (ha : H' a = none) : H a = none := by
  cases q : H a with
  | none => rfl
  | some o => rw [h a o q] at ha; cases ha
end Mine

-- Core13
namespace Mine
open PySem

def bnames : List String := ["len", "range", "list", "isinstance", "all", "any", "int", "bool", "dict", "set", "tuple", "enumerate", "max", "min", "sorted"]
/-- the text binds none of the built-in names that it uses -/
def Bs (cx : Cx) : Prop := ∀ x ∈ bnames, cx.mg (Str.ofString x) = none

set_option maxRecDepth 100000
section
variable {cx : Cx} (hB : Bs cx)
theorem boot_len : bootBuiltins "len" = some (.builtin "len") := by decide +kernel
theorem boot_range : bootBuiltins "range" = some (.type "range") := by decide +kernel
theorem boot_list : bootBuiltins "list" = some (.type "list") := by decide +kernel
theorem boot_isinstance : bootBuiltins "isinstance" = some (.builtin "isinstance") := by decide +kernel
theorem boot_all : bootBuiltins "all" = some (.builtin "all") := by decide +kernel
theorem boot_any : bootBuiltins "any" = some (.builtin "any") := by decide +kernel
theorem boot_int : bootBuiltins "int" = some (.type "int") := by decide +kernel
theorem boot_bool : bootBuiltins "bool" = some (.type "bool") := by decide +kernel
theorem boot_dict : bootBuiltins "dict" = some (.type "dict") := by decide +kernel
theorem boot_tuple : bootBuiltins "tuple" = some (.type "tuple") := by decide +kernel
theorem boot_enumerate : bootBuiltins "enumerate" = some (.type "enumerate") := by decide +kernel
theorem boot_sorted : bootBuiltins "sorted" = some (.builtin "sorted") := by decide +kernel
include hB
theorem b_len : IsBuiltin cx "len" (.builtin "len") := ⟨hB "len" (by decide), by decide, boot_len⟩
theorem b_range : IsBuiltin cx "range" (.type "range") := ⟨hB "range" (by decide), by decide, boot_range⟩
theorem b_list : IsBuiltin cx "list" (.type "list") := ⟨hB "list" (by decide), by decide, boot_list⟩
theorem b_isinstance : IsBuiltin cx "isinstance" (.builtin "isinstance") := ⟨hB "isinstance" (by decide), by decide, boot_isinstance⟩
theorem b_all : IsBuiltin cx "all" (.builtin "all") := ⟨hB "all" (by decide), by decide, boot_all⟩
theorem b_any : IsBuiltin cx "any" (.builtin "any") := ⟨hB "any" (by decide), by decide, boot_any⟩
theorem b_int : IsBuiltin cx "int" (.type "int") := ⟨hB "int" (by decide), by decide, boot_int⟩
theorem b_bool : IsBuiltin cx "bool" (.type "bool") := ⟨hB "bool" (by decide), by decide, boot_bool⟩
theorem b_dict : IsBuiltin cx "dict" (.type "dict") := ⟨hB "dict" (by decide), by decide, boot_dict⟩
theorem b_tuple : IsBuiltin cx "tuple" (.type "tuple") := ⟨hB "tuple" (by decide), by decide, boot_tuple⟩
theorem b_enumerate : IsBuiltin cx "enumerate" (.type "enumerate") := ⟨hB "enumerate" (by decide), by decide, boot_enumerate⟩
theorem b_sorted : IsBuiltin cx "sorted" (.builtin "sorted") := ⟨hB "sorted" (by decide), by decide, boot_sorted⟩
end

section
variable {cx : Cx} {d : Nat} {sc : Scope} {loc : Loc} {H : Hp} {Q : AV → Hp → Prop} {QF : AF → Loc → Hp → Prop}
theorem CW.scr {V : Value} {args : List AV} (h : H cx.script = some (.list true (cx.nums.map .int)) → CW cx d V args H Q) : CW cx d V args H Q :=
  fun A P s E Q' vs hA R hr k => h R.scr A P s E Q' vs hA R hr k
/-- more room does no harm -/
theorem Room.le {d d' : Nat} {A : Around} (h : Room d A) (hd : d' ≤ d) : Room d' A := ⟨h.handled, by have := h.depth; omega, by have := h.units; omega⟩
theorem CW.le {V : Value} {args : List AV} {d d' : Nat} (h : CW cx d' V args H Q) (hd : d' ≤ d) : CW cx d V args H Q :=
  fun A P s E Q' vs hA R hr k => h A P s E Q' vs (hA.le hd) R hr k

theorem Op_floordiv' {a b : Int} (hb : 0 < b) (hb' : b.natAbs.log2 < 9000) (hq : Q (.int (a / b)) H) : OpW cx d (binaryOp .FloorDiv) (.int a) (.int b) H Q := by
  rintro A P s E Q' V W hA R ⟨t, rfl⟩ ⟨u, rfl⟩ k
  refine PyProof.Rows.floordiv_int (by omega) ?_ (.inl (PyProof.noPylong_of_log2 hb'))
  rw [Int.fdiv_eq_ediv_of_nonneg _ (by omega)]
  exact k _ _ H s.heap _ hq ⟨_, rfl⟩ R
end
end Mine

-- Core14
namespace Mine
open PySem

theorem capt_of {scope : Scope} {loc : Loc} {y : Str} {v : AV} (h : scope.names.lookup y = some .free) (hv : loc y = some v) : capt scope loc y = some v := by unfold capt; rw [if_pos h]; exact hv

section
variable {cx : Cx} {d : Nat} {sc scope : Scope} {loc : Loc} {H : Hp} {x : Str} {elt c : Expr} {keep : Hp → Prop} {Qf : List AV → Hp → Prop} {α : Type}

/-- a comprehension whose elements make nothing -/
theorem CompW_map (xs : List α) (g f : α → AV) (hk : keep H) (h : ∀ a ∈ xs, EV cx d (relab sc scope) (upd (capt scope loc) x (g a)) elt H fun y H' => y = f a ∧ H' = H) (hq : Qf (xs.map f) H) :
    CompW cx d sc scope loc x [] elt (xs.map g) keep H Qf := by
  refine ⟨fun i ys H' => H' = H ∧ ys = (xs.take i).map f, ⟨rfl, rfl⟩, ?_, ?_, ?_⟩
  · rintro i ys H' ⟨rfl, _⟩; exact hk
  · rintro i w ys H' hi ⟨rfl, rfl⟩
    simp only [List.getElem?_map, Option.map_eq_some_iff] at hi
    obtain ⟨a, ha, rfl⟩ := hi
    simp only [Tests, if_true]
    refine EV.mono (h a (List.mem_of_getElem? ha)) ?_
    rintro v H₂ ⟨rfl, rfl⟩
    exact ⟨rfl, by rw [List.take_add_one, ha, List.map_append]; rfl⟩
  · rintro ys H' ⟨rfl, rfl⟩
    rw [List.length_map, List.take_length]; exact hq

theorem CompW_filter (xs : List α) (g f : α → AV) (p : α → Bool) (hk : keep H) (h1 : ∀ a ∈ xs, TV cx d (relab sc scope) (upd (capt scope loc) x (g a)) c H fun b H' => b = p a ∧ H' = H)
    (h : ∀ a ∈ xs, p a = true → EV cx d (relab sc scope) (upd (capt scope loc) x (g a)) elt H fun y H' => y = f a ∧ H' = H) (hq : Qf ((xs.filter p).map f) H) :
    CompW cx d sc scope loc x [c] elt (xs.map g) keep H Qf := by
  refine ⟨fun i ys H' => H' = H ∧ ys = ((xs.take i).filter p).map f, ⟨rfl, rfl⟩, ?_, ?_, ?_⟩
  · rintro i ys H' ⟨rfl, _⟩; exact hk
  · rintro i w ys H' hi ⟨rfl, rfl⟩
    simp only [List.getElem?_map, Option.map_eq_some_iff] at hi
    obtain ⟨a, ha, rfl⟩ := hi
    have hm := List.mem_of_getElem? ha
    refine TV.mono (h1 a hm) ?_
    rintro b H₂ ⟨rfl, rfl⟩
    refine ite_bool (fun hp => ?_) (fun hp => ?_)
    · refine EV.mono (h a hm hp) ?_
      rintro v H₃ ⟨rfl, rfl⟩
      exact ⟨rfl, by rw [List.take_add_one, ha, List.filter_append]; simp [hp]⟩
    · exact ⟨rfl, by rw [List.take_add_one, ha, List.filter_append]; simp [hp]⟩
  · rintro ys H' ⟨rfl, rfl⟩
    rw [List.length_map, List.take_length]; exact hq

/-- a comprehension whose elements may make things: the heap grows, each element is told behind -/
theorem CompW_grow (xs : List α) (g : α → AV) (T : α → AV → Hp → Prop) (hT : ∀ a y H₁ H₂, Ext H₁ H₂ → T a y H₁ → T a y H₂) (hk : ∀ H', Ext H H' → keep H')
    (h : ∀ a H', a ∈ xs → Ext H H' → EV cx d (relab sc scope) (upd (capt scope loc) x (g a)) elt H' fun y H₂ => Ext H' H₂ ∧ T a y H₂)
    (hq : ∀ ys H', Ext H H' → ys.length = xs.length → (∀ (i : Nat) (a : α) (y : AV), xs[i]? = some a → ys[i]? = some y → T a y H') → Qf ys H') :
    CompW cx d sc scope loc x [] elt (xs.map g) keep H Qf := by
  refine ⟨fun i ys H' => Ext H H' ∧ ys.length = min i xs.length ∧ ∀ (j : Nat) (a : α) (y : AV), xs[j]? = some a → ys[j]? = some y → T a y H', ⟨.refl H, by simp, by simp⟩, ?_, ?_, ?_⟩
  · rintro i ys H' ⟨he, _⟩; exact hk H' he
  · rintro i w ys H' hi ⟨he, hl, ht⟩
    simp only [List.getElem?_map, Option.map_eq_some_iff] at hi
    obtain ⟨a, ha, rfl⟩ := hi
    have hlt : i < xs.length := (List.getElem?_eq_some_iff.mp ha).1
    simp only [Tests, if_true]
    refine EV.mono (h a H' (List.mem_of_getElem? ha) he) ?_
    rintro v H₂ ⟨he₂, htv⟩
    refine ⟨he.trans he₂, by rw [List.length_append, List.length_singleton, hl]; omega, fun j b y hb hy => ?_⟩
    rcases Nat.lt_trichotomy j ys.length with h1 | h1 | h1
    · exact hT _ _ _ _ he₂ (ht j b y hb (by rwa [List.getElem?_append_left h1] at hy))
    · have hji : j = i := by omega
      subst hji
      rw [ha] at hb; cases hb
      rw [List.getElem?_append_right (by omega), h1, Nat.sub_self] at hy
      cases hy; exact htv
    · rw [List.getElem?_eq_none (by rw [List.length_append, List.length_singleton]; omega)] at hy; cases hy
  · rintro ys H' ⟨he, hl, ht⟩
    rw [List.length_map, Nat.min_self] at hl
    exact hq ys H' he hl ht
end
end Mine

-- Core15
namespace Mine
open PySem PySem.W PyProof.Rows

/-! ## the way in -/
def mkCx (prog : Program) (w : World) (base : Heap) (a : Addr) (ns : List Int) (mg mb : Str → Option Value) (g : base.Ns mainGlobals mg) (b : base.Ns builtinsNs mb) (nl : base.NoLimit) (hs : ∃ o, base.get? a = some o)
    (hb : ∀ x : Str, x ≠ "__name__" → mb x = bootBuiltins x) : Cx := ⟨prog, w, base, a, ns, mg, mb, g, b, nl, hs, hb⟩

theorem ints_vrs : ∀ {vs : List Value} {ns : List Int}, IntsAre vs ns → VRs (ns.map .int) vs := by
  intro vs ns h
  induction h with
  | nil => exact trivial
  | cons n t _ ih => exact ⟨⟨t, rfl⟩, ih⟩

theorem hasDef_of {p : Program} {loose : List Str} {mean : ExcName → Option Value} {mg mb : Str → Option Value} {h : Heap} (T : Top p loose mean mg mb h) {cx : Cx} (hb : cx.base = h) (hm : cx.mg = mg) (D : FDef) (pos : Pos)
    (hr : (⟨D.name, D.params, D.body, D.scope, pos⟩ : DefRec) ∈ recsOf p) : ∃ fa, HasDef cx D fa ∧ mg D.name = some (.ref fa) := by
  obtain ⟨a, o, pm, code, doc, h1, h2, h3, h4⟩ := T.fn _ hr
  subst hb hm
  exact ⟨a, ⟨pm, code, doc, ⟨h1, ⟨o, h2, h3⟩, h4⟩⟩, h1⟩

theorem law_end {l : OpenLaw} {cl : Str → Option Addr} {mean : ExcName → Option Value} {args : List WData} {s₁ s' : Shared} (hk : ∀ b o, s₁.heap.get? b = some o → s'.heap.get? b = some o) (hos : s'.os = s₁.os) (hg : s'.gens = #[]) :
    GoodW l.row.claim cl mean args s₁ (.ok (.ret (.bool true))) s' :=
  ⟨.inl ⟨.bool true, .bool true, [], rfl, fun _ => rfl, .bool true, by (show (WShape.has [] (.bool true) .bool && WTm.holds [] (.eq .res (.lit (.bool true))) _) = true); rw [Bool.and_eq_true]; exact ⟨by unfold WShape.has; simp [WShape.arms], by unfold WTm.holds; simp [WTm.value, same]⟩, fun _ => ⟨.nil, fun _ h => by cases h⟩⟩, hk, hos, hg⟩

theorem law_in {l : OpenLaw} {cx : Cx} {cl : Str → Option Addr} {mean : ExcName → Option Value} {args : List WData} {s₁ : Shared} {vs : List Value} {fa : Addr} {E : Value → Shared → Prop} (hp : cx.prog = l.prog) (hb : cx.base = s₁.heap)
    (hW : s₁.heap.get? cx.script = some { cls := .type "list", data := .seq vs.toArray }) (hI : IntsAre vs cx.nums) (hg : s₁.gens = #[])
    (h : ∀ H, CW cx 60 (.ref fa) [.ref cx.script] H fun v _ => v = .bool true) :
    wpAny (model l.row.prog cx.w) callerA (call (.ref fa) [.ref cx.script]) (fun v s' => GoodWG l.row.claim cl mean args s₁ (.ok (.ret v)) s') E s₁ := by
  have hprog : l.row.prog = cx.prog := hp.symm
  rw [hprog]
  have R : Rep cx s₁.heap.get? (fun a => if a = cx.script then some (.list true (cx.nums.map .int)) else none) s₁.heap := by
    refine ⟨fun a o e => hb ▸ e, fun a o e => e, fun a o e => ?_, fun a o O e _ => ?_, by simp⟩
    · split at e
      · rename_i z; cases e; subst z; exact ⟨_, hW, vs.toArray, 0, rfl, by simpa using ints_vrs hI⟩
      · cases e
    · split at e
      · rename_i z; exact z
      · cases e
  refine h _ callerA _ s₁ E _ [.ref cx.script] ⟨rfl, by decide, by decide⟩ R ⟨rfl, trivial⟩ fun v V H' h' tk q hv R' => ?_
  subst q
  cases hv
  exact (law_end (s' := { s₁ with heap := h', toks := tk }) (fun b o e => R'.ext b o e) rfl hg).toG

theorem well_get {P : Params} {h : Heap} {l : Addr} {vs : List Value} {ns : List Int} (W : Well P h (.ref l) (ofPy (.list (ns.map .int)))) (hl : h.IsList l vs.toArray) : h.get? l = some { cls := .type "list", data := .seq vs.toArray } := by
  have W' : Well P h (.ref l) (.list (ofPys (ns.map .int))) := W
  cases W' with
  | list ha wa =>
    obtain ⟨o, ho, _, n, hd⟩ := hl
    rw [ha] at ho; cases ho
    obtain ⟨e, _⟩ := Data.seq.inj hd
    obtain rfl := List.toArray_inj e
    exact ha

def posAt (p : Program) (k : Nat) : Pos := match p.main.body[k]? with
  | some (.FunctionDef _ _ _ _ _ _ _ _ _ pos) => pos
  | _ => ⟨0, 0, 0, 0⟩

def freeB (p : Program) (loose : List Str) (x : Str) : Bool :=
  !(startupNames.contains x) && !(loose.contains x) && !(((recsOf p).map (·.name)).contains x) && !(((litsOf p).map (·.1)).contains x) && !(((clssOf p loose).map (·.name)).contains x)
theorem bs_of {p : Program} {loose : List Str} {mean : ExcName → Option Value} {mg mb : Str → Option Value} {h : Heap} (T : Top p loose mean mg mb h) {cx : Cx} (hm : cx.mg = mg) (hf : bnames.all (fun x => freeB p loose (Str.ofString x)) = true) : Bs cx := by
  intro x hx
  have := List.all_eq_true.mp hf x hx
  simp only [freeB, Bool.and_eq_true, Bool.not_eq_true', List.contains_eq_mem, decide_eq_false_iff_not] at this
  rw [hm]
  exact T.free _ this.1.1.1.1 this.1.1.1.2 this.1.1.2 this.1.2 this.2

theorem const_of {p : Program} {loose : List Str} {mean : ExcName → Option Value} {mg mb : Str → Option Value} {h : Heap} (T : Top p loose mean mg mb h) {cx : Cx} {x : Str} {i : Int} (hm : cx.mg = mg) (hv : (match valOf p x with | some (.int j) => decide (j = i) | _ => false) = true) :
    ∃ t, cx.mg x = some (.int i t) := by
  cases q : valOf p x with
  | none => rw [q] at hv; cases hv
  | some d =>
    rw [q] at hv
    cases d with
    | int j =>
      have e : j = i := of_decide_eq_true hv
      subst e
      obtain ⟨v, h1, h2⟩ := T.const x _ q
      have := h2 h
      cases this with
      | int t => exact ⟨_, by rw [hm]; exact h1⟩
    | _ => cases hv
end Mine

-- Core16
namespace Mine
open PySem PySem.Calls PyProof.Rows

section
variable {cx : Cx} {d : Nat} {sc : Scope} {loc : Loc} {H : Hp} {Q : AV → Hp → Prop} {QF : AF → Loc → Hp → Prop} {pos : Pos}

/-! ## stores -/
set_option maxRecDepth 100000 in
/-- l[k] = v, the list's own object kept to the sign -/
theorem setAt_list {prog : Program} {w : World} {A : Around} {E : Value → Shared → Prop} {s : Shared} {l : Addr} {items : Array Value} {n : Nat} {k : Int} {t : Tok} {v : Value} {Q' : Unit → Shared → Prop}
    (ho : s.heap.get? l = some { cls := .type "list", dict := none, data := .seq items n, slots := #[] }) (h0 : 0 ≤ k) (hfit : k < 2 ^ 63) (hn : k < items.size)
    (hQ : Q' () { s with heap := s.heap.update l (Obj.mapSeq (·.setIfInBounds k.toNat v)) }) : wpAny (model prog w) A (setItem (.ref l) (.int k t) v) Q' E s := by
  have hl : s.heap.IsList l items := ⟨_, ho, rfl, n, rfl⟩
  unfold setItem
  try with_reducible refine wpAny_holding ?_
  first | refine wpAny_bind (wpAny_pure ?_) | skip
  refine wpAny_bind (wpAny_sequenceKey hl.typeIs (by decide) ?_)
  refine wpAny_bind (wpAny_callSpecial?_slot (name := Str.ofString "__setitem__") hl.typeIs slot_list_setitem
    (wpAny_call_entry slot_list_setitem hl.typeIs entry_list_setitem ?_ (args_list_setitem _ _ _)))
  show wpAny _ _ (Builtin.List.listSubscript? (.int k t) >>= _) _ _ s
  refine wpAny_bind (wpAny_listSubscript_int (fitsIndex_of h0 hfit) ?_)
  clear hfit
  obtain ⟨j, rfl⟩ := Int.eq_ofNat_of_zero_le h0
  have hj : j < items.size := by omega
  show wpAny _ _ ((seqItemAt l j >>= fun r => pure (r.map (j, ·))) >>= _) _ _ s
  refine wpAny_bind (wpAny_bind (wpAny_seqItemAt ho rfl (wpAny_pure ?_)))
  rw [Array.getElem?_eq_getElem hj]
  show wpAny _ _ (setSeqItemAt l j v >>= _) _ _ s
  refine wpAny_bind (wpAny_setSeqItemAt ho rfl ?_)
  first
    | exact wpAny_bind (wpAny_pure (wpAny_pure ⟨.none, rfl, wpAny_pure hQ⟩))
    | exact wpAny_pure ⟨.none, rfl, wpAny_pure hQ⟩

def SetW (cx : Cx) (d : Nat) (o i v : AV) (H : Hp) (Q : Hp → Prop) : Prop :=
  ∀ (A : Around) (P : PH) (s : Shared) (E : Value → Shared → Prop) (Q' : Unit → Shared → Prop) (V W X : Value), Room d A → Rep cx P H s.heap → VR o V → VR i W → VR v X →
    (∀ H' h' tk, Q H' → Rep cx P H' h' → Q' () { s with heap := h', toks := tk }) → wpAny (model cx.prog cx.w) A (setItem V W X) Q' E s

theorem EX_AssignSub {o i value : Expr} {p pos : Pos} (h : EV cx d sc loc value H fun v H₁ => EV cx d sc loc o H₁ fun ov H₂ => EV cx d sc loc i H₂ fun iv H₃ => SetW cx d ov iv v H₃ fun H₄ => QF .next loc H₄)
    (hs : ∀ env, swapsWith value (some (.Subscript o i p)) pos.line env = pure false := by intro _; rfl) : EX1 cx d sc loc (.Assign [.Subscript o i p] value pos) H QF := by
  intro env A P s E Q' he F hA R k
  refine wpAny_Assign_Subscript (h.here he F hA R fun v X H₁ h₁ tk₁ q₁ hv F₁ R₁ => ?_) (hs env)
  refine q₁.here he F₁ hA R₁ fun ov V H₂ h₂ tk₂ q₂ ho F₂ R₂ => ?_
  refine q₂.here he F₂ hA R₂ fun iv W H₃ h₃ tk₃ q₃ hi F₃ R₃ => ?_
  refine q₃ A _ { s with heap := h₃, toks := tk₃ } E _ V W X hA (aside_rep F₃ R₃) ho hi hv fun H₄ h₄ tk₄ q₄ R₄ => ?_
  obtain ⟨F₅, R₅⟩ := aside_back F₃ R₃ R₄
  exact k .next .next loc H₄ h₄ tk₄ q₄ rfl F₅ R₅

theorem Set_list {a : Addr} {vs : List AV} {i : Int} {v : AV} {Q : Hp → Prop} (ha : H a = some (.list false vs)) (h0 : 0 ≤ i) (hn : i < vs.length) (hl : vs.length ≤ 2 ^ 20) (hq : Q (H.put a (.list false (vs.set i.toNat v)))) : SetW cx d (.ref a) (.int i) v H Q := by
  intro A P s E Q' V W X hA R ho hi hv k
  cases ho
  obtain ⟨t, rfl⟩ := hi
  obtain ⟨items, n, hO, hr, hP, hs⟩ := own_list R ha
  have hz := hr.size
  refine setAt_list hO h0 (by omega) (by omega) (k _ _ s.toks hq ?_)
  exact set_list R hO hP hs (by simpa using hr.set i.toNat hv)

/-! ## dicts -/
def dget (kvs : List (Int × AV)) (k : Int) : Option AV := (kvs.find? fun kv => kv.1 = k).map (·.2)
def dset (kvs : List (Int × AV)) (k : Int) (v : AV) : List (Int × AV) := if kvs.any (fun kv => kv.1 = k) then kvs.map (fun kv => if kv.1 = k then (kv.1, v) else kv) else kvs ++ [(k, v)]

theorem KVs.get : ∀ {as : List (Int × AV)} {vs : List (Int × Value)} (k : Int), KVs as vs → (∀ a, dget as k = some a → ∃ V, valueAt vs k = some V ∧ VR a V) ∧ (dget as k = none → valueAt vs k = none)
  | [], [], _, _ => ⟨fun _ h => by simp [dget] at h, fun _ => rfl⟩
  | a :: as, v :: vs, k, h => by
    have ih := KVs.get k h.2
    obtain ⟨⟨h1, h2⟩, h3⟩ := h
    simp only [dget, valueAt, List.find?_cons, h1] at ih ⊢
    by_cases hk : v.1 = k
    · simp only [decide_eq_true hk]
      refine ⟨fun b hb => ?_, fun hb => by cases hb⟩
      cases hb; exact ⟨_, rfl, h2⟩
    · simp only [decide_eq_false hk]; exact ih
  | [], _ :: _, _, h => h.elim
  | _ :: _, [], _, h => h.elim
theorem KVs.any : ∀ {as : List (Int × AV)} {vs : List (Int × Value)} (k : Int), KVs as vs → (as.any fun kv => kv.1 = k) = vs.any fun kv => kv.1 = k
  | [], [], _, _ => rfl
  | _ :: _, _ :: _, k, h => by simp only [List.any_cons, h.1.1, KVs.any k h.2]
  | [], _ :: _, _, h => h.elim
  | _ :: _, [], _, h => h.elim
theorem KVs.append : ∀ {as bs : List (Int × AV)} {vs ws : List (Int × Value)}, KVs as vs → KVs bs ws → KVs (as ++ bs) (vs ++ ws)
  | [], _, [], _, _, h => h
  | _ :: _, _, _ :: _, _, h, h' => ⟨h.1, KVs.append h.2 h'⟩
  | [], _, _ :: _, _, h, _ => h.elim
  | _ :: _, _, [], _, h, _ => h.elim
theorem KVs.put : ∀ {as : List (Int × AV)} {vs : List (Int × Value)} {a : AV} {v : Value} (k : Int), KVs as vs → VR a v → KVs (as.map fun kv => if kv.1 = k then (kv.1, a) else kv) (vs.map fun kv => if kv.1 = k then (kv.1, v) else kv)
  | [], [], _, _, _, _, _ => trivial
  | x :: _, y :: _, _, _, k, h, h' => by
    refine ⟨?_, KVs.put k h.2 h'⟩
    have e1 := h.1.1
    by_cases e : y.1 = k
    · have e' : x.1 = k := e1.trans e
      simp only [if_pos e, if_pos e']; exact ⟨e1, h'⟩
    · have e' : ¬ x.1 = k := fun z => e (e1.symm.trans z)
      simp only [if_neg e, if_neg e']; exact h.1
  | [], _ :: _, _, _, _, h, _ => h.elim
  | _ :: _, [], _, _, _, h, _ => h.elim
theorem KVs.set {as : List (Int × AV)} {vs : List (Int × Value)} {a : AV} {v : Value} (k : Int) (h : KVs as vs) (h' : VR a v) : KVs (dset as k a) (stored vs k v) := by
  unfold dset stored
  rw [h.any k]
  split
  · exact h.put k h'
  · exact h.append ⟨⟨rfl, h'⟩, trivial⟩
theorem KVs.length : ∀ {as : List (Int × AV)} {vs : List (Int × Value)}, KVs as vs → as.length = vs.length
  | [], [], _ => rfl
  | _ :: _, _ :: _, h => by simp [KVs.length h.2]
  | [], _ :: _, h => h.elim
  | _ :: _, [], h => h.elim

theorem Rep.dict {P : PH} {h : Heap} (R : Rep cx P H h) {a : Addr} {kvs : List (Int × AV)} (ha : H a = some (.dict kvs)) : ∃ vs, h.DictOf (intKind cx.prog cx.w) a vs ∧ KVs kvs vs ∧ P a = none ∧ a ≠ cx.script := by
  obtain ⟨O, hO, es, ep, vs, h1, h2, h3, h4, h5, h6⟩ := R.obj a _ ha
  obtain ⟨h7, h8⟩ := R.own_free ha (by intro _ e; cases e)
  exact ⟨vs, ⟨O, es, ep, hO, h1, h2, h3, h4, h5⟩, h6, h7, h8⟩

theorem notModules {P : PH} {h : Heap} (R : Rep cx P H h) : (h.objs.size == sysModules) = false := by
  have h1 := modules_low cx.nolimit
  obtain ⟨_, hn, _⟩ := cx.nolimit
  obtain ⟨o, _, _, ho, _⟩ := hn
  have h2 := Heap.lt_size (R.ext _ _ (R.base _ _ ho))
  refine beq_eq_false_iff_ne.mpr (Nat.ne_of_gt (Nat.lt_trans (by decide) h2))

theorem EV_Dict0 (hq : ∀ a, H a = none → (a == sysModules) = false → Q (.ref a) (H.put a (.dict []))) : EV cx d sc loc (.Dict [] [] pos) H Q := by
  intro env A P s E Q' he hF hA R k
  refine wpAny_Dict_empty (k _ _ _ _ s.toks (hq _ (R.fresh (get_size _)).2 (notModules R)) rfl (R.push (o := .dict []) ?_ rfl))
  exact ⟨#[], 0, [], ⟨rfl, rfl, rfl⟩, rfl, fun _ he => by simp at he, .nil, by simp, trivial⟩

theorem Op_inDict {a : Addr} {kvs : List (Int × AV)} {i : Int} (ha : H a = some (.dict kvs)) (hm : (a == sysModules) = false) (hq : Q (.bool (dget kvs i).isSome) H) : OpW cx d (compareOp .In) (.int i) (.ref a) H Q := by
  intro A P s E Q' V W hA R hv hw k
  obtain ⟨t, rfl⟩ := hv
  cases hw
  obtain ⟨vs, hD, hk, _⟩ := R.dict ha
  obtain ⟨g1, g2⟩ := hk.get i
  refine wpAny_in_of (intKind_is _ _ i t) hm hD.mapOf ?_
  have e : (valueAt vs i).isSome = (dget kvs i).isSome := by
    cases q : dget kvs i with
    | none => rw [g2 q]; rfl
    | some b => obtain ⟨V, hV, _⟩ := g1 b q; rw [hV]; rfl
  rw [e]
  exact k _ _ _ _ _ hq rfl R
theorem Set_dict {a : Addr} {kvs : List (Int × AV)} {i : Int} {v : AV} {Q : Hp → Prop} (ha : H a = some (.dict kvs)) (hl : kvs.length ≤ 2 ^ 20) (hq : Q (H.put a (.dict (dset kvs i v)))) : SetW cx d (.ref a) (.int i) v H Q := by
  intro A P s E Q' V W X hA R ho hi hv k
  cases ho
  obtain ⟨t, rfl⟩ := hi
  obtain ⟨vs, hD, hk, hP, hs⟩ := R.dict ha
  refine wpAny_setItem_pairs (intKind_is _ _ i t) hD (fun h' hD' hsame => ?_) (by rw [← hk.length]; show _ ≤ 2 ^ 24; omega)
  obtain ⟨o, es, ep, ho, r1, r2, r3, r4, r5⟩ := hD'
  exact k _ h' _ hq (R.put_own hP hs hsame ho ⟨es, ep, _, r1, r2, r3, r4, r5, hk.set i hv⟩)

theorem dget_dset (kvs : List (Int × AV)) (k : Int) (v : AV) (x : Int) : dget (dset kvs k v) x = if x = k then some v else dget kvs x := by
  have key : ∀ kvs : List (Int × AV), dget (kvs.map fun kv => if kv.1 = k then (kv.1, v) else kv) x = if x = k then (if kvs.any (fun kv => kv.1 = k) then some v else none) else dget kvs x := by
    intro kvs
    induction kvs with
    | nil => simp [dget]
    | cons kv r ih =>
      simp only [dget, List.map_cons, List.find?_cons, List.any_cons] at ih ⊢
      by_cases e : kv.1 = k
      · simp only [if_pos e]
        by_cases e2 : x = k
        · simp [e, e2]
        · have e3 : ¬ k = x := fun z => e2 z.symm
          simp only [e, e3, if_neg e2, decide_false] at ih ⊢
          exact ih
      · simp only [if_neg e]
        by_cases e4 : kv.1 = x
        · have : ¬ x = k := fun z => e (e4.trans z)
          simp [e4, this]
        · simp only [decide_eq_false e4, decide_eq_false e, Bool.false_or]; exact ih
  unfold dset
  split
  · rename_i h; rw [key, h, if_pos rfl]
  · rename_i h
    unfold dget
    rw [List.find?_append]
    by_cases e : x = k
    · have hn : kvs.find? (fun kv => decide (kv.1 = x)) = none := by
        simp only [List.find?_eq_none, decide_eq_true_eq]
        intro kv hm z
        exact h (List.any_eq_true.mpr ⟨kv, hm, by simp [z, e]⟩)
      rw [hn, if_pos e]; simp [e]
    · rw [if_neg e]
      have : ¬ k = x := fun z => e z.symm
      simp [this]

/-! ## list * n -/
theorem foldl_flat (vs : List Value) : ∀ (n : Nat) (acc : Array Value), (List.foldl (fun x1 x2 => x1 ++ x2) acc (List.replicate n vs.toArray)).toList = acc.toList ++ (List.replicate n vs).flatten
  | 0, acc => by simp
  | n + 1, acc => by rw [List.replicate_succ, List.foldl_cons, foldl_flat vs n]; simp [List.replicate_succ]
theorem VRs.flat {as : List AV} {vs : List Value} (h : VRs as vs) : ∀ n : Nat, VRs (List.replicate n as).flatten (List.replicate n vs).flatten
  | 0 => trivial
  | n + 1 => by rw [List.replicate_succ, List.replicate_succ, List.flatten_cons, List.flatten_cons]; exact h.append (VRs.flat h n)

theorem Op_mulList {a : Addr} {ro : Bool} {vs : List AV} {n : Int} (ha : H a = some (.list ro vs)) (h1 : -2 ^ 20 ≤ n) (h2 : n ≤ 2 ^ 20) (h3 : vs.length ≤ 4) (hq : ∀ c, H c = none → Q (.ref c) (H.put c (.list false (List.replicate n.toNat vs).flatten))) :
    OpW cx d (binaryOp .Mult) (.ref a) (.int n) H Q := by
  intro A P s E Q' V W hA R hv hw k
  cases hv
  obtain ⟨u, rfl⟩ := hw
  obtain ⟨items, m, hl, hr⟩ := R.isList ha
  have hz := hr.size
  have hsz : items.size * n.toNat ≤ 2 ^ 24 := by
    have : items.size * n.toNat ≤ 4 * 2 ^ 20 := Nat.mul_le_mul (by omega) (by omega)
    omega
  have hlist : items = items.toList.toArray := rfl
  refine wpAny_binaryOp_repeat_ref (T := "list") (U := "int") (by decide) ⟨_, hl, rfl⟩ (fun s' => typeIs_int s' n u) noFill_list_mul F.fills_int_mul F.slot_int_rmul repeat_list F.slot_int_index.lookup
    (call_meets F.slot_int_rmul (typeIs_int s n u) F.entry_int_rmul (F.args_int_rmul_2 _ _) (int___rmul___int_list n u a items m)
      ⟨hl, rfl, ⟨_, hl, rfl⟩, call_meets F.slot_list_mul ⟨_, hl, rfl⟩ F.entry_list_mul (F.args_list_mul_2 _ _)
        (AutoListH.list___mul___list_int_3 a items m n u (by simp [Builtin.List.listFitsIndex]; omega) (by omega) (by simp [Builtin.List.listTooLong, sizeLine]; omega))
        ⟨hl, ?_⟩⟩)
  refine k _ _ _ _ s.toks (hq _ (R.fresh (get_size _)).2) rfl (R.push (o := .list false _) ⟨_, _, rfl, ?_⟩ rfl)
  by_cases e : items.isEmpty = true
  · have e0 : items.toList = [] := by simpa using e
    have e1 : vs = [] := by cases vs with
      | nil => rfl
      | cons x r => rw [e0] at hr; exact hr.elim
    rw [if_pos e, e1]; simp [VRs]
  · rw [if_neg e, hlist, foldl_flat]
    simpa using hr.flat n.toNat
end
end Mine

-- Core17
namespace Mine
open PySem PySem.Calls PyProof.Rows

section
variable {cx : Cx} {d : Nat} {sc : Scope} {loc : Loc} {H : Hp} {Q : AV → Hp → Prop} {QF : AF → Loc → Hp → Prop} {pos : Pos}

theorem callT_here {f : Str} {T : String} {e : Expr} {p pos : Pos} {Q₁ : AV → Hp → Prop} (hf : IsBuiltin cx f (.type T)) (h : EV cx d sc loc e H Q₁) (hx : globalName sc f = true) (hn : notStar e = true)
    {W : Str → Prop} {env : Env} {A : Around} {P : PH} {s : Shared} {E : Value → Shared → Prop} {Q' : Value → Shared → Prop} (he : EnvOk sc env) (F : FrameW W env loc P H s.heap) (hA : Room d A) (R : Rep cx P H s.heap)
    (k : ∀ v V H' h' tk, Q₁ v H' → VR v V → FrameW W env loc P H' h' → Rep cx P H' h' → wpAny (model cx.prog cx.w) A (call (.type T) [V]) Q' E { s with heap := h', toks := tk }) :
    wpAny (model cx.prog cx.w) A (eval (.Call (.Name f p) [e] [] pos) env) Q' E s := by
  rw [eval_Call_Name]
  refine wpAny_bind (load_builtin he (aside_rep F R) hx hf.g hf.n hf.b (PyProof.Rows.callWith_type (backTo_plain (by simp [hn])) ?_))
  have h' : EVs cx d sc loc [e] H fun vs H' => ∃ v, vs = [v] ∧ Q₁ v H' := evs_cons (h.mono fun v H' q => evs_nil ⟨v, rfl, q⟩)
  have hs := EVs.sound (env := env) (A := A) (P := aside P env s.heap) (s := s) (E := E) (pos := pos) h' (by simp [hn]) he (aside_frame F) hA (aside_rep F R) (Q' := fun vs s₁ => wpAny (model cx.prog cx.w) A (call (.type T) vs) Q' E s₁)
    (fun vs Vs H' h' tk q hvs R' => by
      obtain ⟨v, rfl, q⟩ := q
      obtain ⟨V, rfl, hv⟩ := vrs1 hvs
      obtain ⟨F', R''⟩ := aside_back F R R'
      exact k v V H' h' tk q hv F' R'')
  rw [starEach_cons hn] at hs ⊢
  exact Calls.evalArgs_plain hs

theorem Rep.off {P : PH} {h h' : Heap} (R : Rep cx P H h) (bad : Addr → Prop) (hb : ∀ b, bad b → P b = none ∧ H b = none) (e : ∀ b o, ¬ bad b → h.get? b = some o → h'.get? b = some o) : Rep cx P H h' :=
  ⟨R.base, fun a o q => e a o (fun z => by rw [(hb a z).1] at q; cases q) (R.ext a o q), fun a o q => by
    obtain ⟨O, hO, r⟩ := R.obj a o q
    exact ⟨O, e a O (fun z => by rw [(hb a z).2] at q; cases q) hO, r⟩, R.sep, R.scr⟩

theorem EX_ForEnum (hB : Bs cx) {xi xv : Str} {pi pv pt p pos pos' : Pos} {n : Nat} {e : Expr} {body : List Stmt}
    (h : EV cx d sc loc e H fun v H₁ => ∃ a ro vs, v = .ref a ∧ H₁ a = some (.list ro vs) ∧ ∃ J : Nat → Loc → Hp → Prop, J 0 loc H₁ ∧ (∀ i l₂ H₂, J i l₂ H₂ → H₂ a = some (.list ro vs)) ∧
      (∀ i w l₂ H₂, vs[i]? = some w → J i l₂ H₂ → EX cx d sc (upd (upd l₂ xi (.int i)) xv w) body H₂ (loopQ (J (i + 1)) QF)) ∧ ∀ l₂ H₂, J vs.length l₂ H₂ → QF .next l₂ H₂)
    (hxi : storable sc xi = true := by rfl) (hxv : storable sc xv = true := by rfl) (hx : globalName sc "enumerate" = true := by rfl) (hn : notStar e = true := by rfl)
    (hs : ∀ env v, foldedSetIterable (.Call (.Name "enumerate" p) [e] [] pos') env v = pure v := by intro _ _; rfl) :
    EX1 cx d sc loc (.For (.Tuple [.Name xi pi, .Name xv pv] n pt) (.Call (.Name "enumerate" p) [e] [] pos') body [] pos) H QF := by
  intro env A P s E Q' he F hA R k
  refine wpAny_For (callT_here (b_enumerate hB) h hx hn he F hA R fun v V H₁ h₁ tk₁ q hv F₁ R₁ => ?_) (hs env)
  obtain ⟨a, ro, vs, rfl, ha, J, hJ0, hkeep, turn, fin⟩ := q
  cases hv
  obtain ⟨items₁, n₁, hO₁, hr₁⟩ := R₁.isList ha
  refine call_enumerate_1 hO₁ fun h₂ he₂ hit₂ hz₂ hk₂ => ?_
  refine wpAny_pyIter_enum he₂ ?_
  replace he₂ : IsEnum h₂ (h₁.objs.size + 1) h₁.objs.size 0 .none := he₂
  replace hit₂ : h₂.IsListIter h₁.objs.size a 0 := hit₂
  replace hk₂ : ∀ b o, h₁.get? b = some o → h₂.get? b = some o := hk₂
  have hnI : h₁.get? h₁.objs.size = none := get_size _
  have hnE : h₁.get? (h₁.objs.size + 1) = none := by
    cases q : h₁.get? (h₁.objs.size + 1) with
    | none => rfl
    | some o => exact absurd (Heap.lt_size q) (Nat.not_lt.mpr (Nat.le_succ _))
  generalize hI : h₁.objs.size = I at he₂ hit₂ hz₂ hnI hnE ⊢
  generalize hEn : I + 1 = Er at he₂ hnE ⊢
  have hne : Er ≠ I := by omega
  have fI := R₁.fresh hnI
  have fE := R₁.fresh hnE
  have pI : ¬ fp env I := fun z => by obtain ⟨o, ho⟩ := F₁.live I z; rw [show ({ s with heap := h₁, toks := tk₁ } : Shared).heap.get? I = h₁.get? I from rfl, hnI] at ho; cases ho
  have pE : ¬ fp env Er := fun z => by obtain ⟨o, ho⟩ := F₁.live Er z; rw [show ({ s with heap := h₁, toks := tk₁ } : Shared).heap.get? Er = h₁.get? Er from rfl, hnE] at ho; cases ho
  have hIE : ∀ a o (H₂ : Hp), H₂ a = some o → H₂ I = none → a ≠ I := fun a o H₂ q z w => by rw [w, z] at q; cases q
  refine codeAny_forLoop_any (fun n s' => ∃ i l₂ H₂ h₂ tk₂ old OI, s' = { s with heap := h₂, toks := tk₂ } ∧ J i l₂ H₂ ∧ FrameOwn env l₂ P H₂ h₂ ∧ Rep cx P H₂ h₂ ∧ IsEnum h₂ Er I ((i : Nat) : Int) old ∧
      h₂.get? I = some OI ∧ OI.cls = .type "list_iterator" ∧ OI.data = .fields #[.ref a, .int i 0] ∧ H₂ I = none ∧ H₂ Er = none ∧ i ≤ vs.length ∧ n = vs.length + 1 - i) ?_ (vs.length + 1)
    (by
      obtain ⟨OI, hOI, hc, hd⟩ := hit₂
      exact ⟨0, loc, H₁, h₂, tk₁, .none, OI, rfl, hJ0, F₁.eq_on (fun a _ o e => hk₂ a o e) F₁.offH, R₁.grow hk₂, he₂, hOI, hc, hd, fI.2, fE.2, Nat.zero_le _, rfl⟩)
  rintro m s' ⟨i, l₂, H₂, h₂, tk₂, old, OI, rfl, hJ, F₂, R₂, he₂, hO₂, hc₂, hd₂, hHI, hHE, hi, rfl⟩
  obtain ⟨items, n', hO, hr⟩ := R₂.isList (hkeep _ _ _ hJ)
  have hl : h₂.IsList a items := ⟨_, hO, rfl, n', rfl⟩
  have hit : h₂.IsListIter I a i := ⟨OI, hO₂, hc₂, hd₂⟩
  have hsz := hr.size
  cases hel : vs[i]? with
  | none =>
    have hil : i = vs.length := Nat.le_antisymm hi (by simpa using hel)
    subst hil
    refine wpAny_pyNext_enum_end hA.handled he₂ hit hl (by rw [hsz]; simp) fun h₃ e₃ => wpAny_execs_nil ?_
    replace e₃ : Heap.ExtBut I h₂ h₃ := e₃
    exact k .next .next l₂ H₂ h₃ tk₂ (fin _ _ hJ) rfl (F₂.eq_on (fun a ha o e => e₃ a o (fun z => pI (z ▸ ha)) e) F₂.offH) (R₂.ext_to fI.1 hHI e₃)
  | some w =>
    have hlt : i < vs.length := (List.getElem?_eq_some_iff.mp hel).1
    obtain ⟨V', hV', hv'⟩ := hr.get hel
    have hx : items[i]? = some V' := by simpa using hV'
    refine wpAny_pyNext_enum_item he₂ hit hl hx hne fun h₃ heo hit₃ ht₃ hz₃ hk₃ => ?_
    replace hz₃ : h₃.objs.size = h₂.objs.size + 1 := hz₃
    replace hk₃ : ∀ b o, b ≠ Er → b ≠ I → h₂.get? b = some o → h₃.get? b = some o := hk₃
    have hEl : Er < h₂.objs.size := Heap.lt_size he₂
    have hIl : I < h₂.objs.size := Heap.lt_size hO₂
    refine wpAny_letOwnedTupleGo_enum heo fun h₄ he₄ hs₄ => ?_
    replace hs₄ : Heap.SameBut Er h₃ h₄ := hs₄
    replace he₄ : IsEnum h₄ Er I ((i : Int) + 1) V' := he₄
    have ht₄ : h₄.IsTuple h₂.objs.size #[.int i tk₂, V'] := ⟨_, (hs₄.2 _ (Nat.ne_of_gt hEl)).trans ht₃, rfl, _, rfl⟩
    have hz₄ : h₄.objs.size = h₂.objs.size + 1 := hs₄.1.trans hz₃
    refine wpAny_assign_Tuple hA.handled ht₄ rfl rfl fun h₅ hx₅ => ?_
    replace hx₅ : Heap.ExtBut h₄.objs.size h₄ h₅ := hx₅
    have old₅ : ∀ b o, b < h₂.objs.size → h₄.get? b = some o → h₅.get? b = some o := fun b o hb x => hx₅ b o (by rw [hz₄]; exact Nat.ne_of_lt (Nat.lt_succ_of_lt hb)) x
    have up : ∀ b o, ¬ (b = Er ∨ b = I) → h₂.get? b = some o → h₅.get? b = some o := fun b o hb q => by
      have hlb := Heap.lt_size q
      exact old₅ b o hlb ((hs₄.2 b fun z => hb (.inl z)).trans (hk₃ b o (fun z => hb (.inl z)) (fun z => hb (.inr z)) q))
    have R₅ : Rep cx P H₂ h₅ := R₂.off (fun b => b = Er ∨ b = I) (by rintro b (rfl | rfl); exact ⟨fE.1, hHE⟩; exact ⟨fI.1, hHI⟩) up
    have F₅ : FrameOwn env l₂ P H₂ h₅ := F₂.eq_on (fun a ha o e => up a o (by rintro (rfl | rfl); exact pE ha; exact pI ha) e) F₂.offH
    obtain ⟨OI₃, hOI₃, hc₃, hd₃⟩ := hit₃
    have hOI₅ : h₅.get? I = some OI₃ := old₅ I _ hIl ((hs₄.2 I (Ne.symm hne)).trans hOI₃)
    have hOE₅ := old₅ Er _ hEl he₄
    have F₆ := (F₅.add (O := OI₃) pI).add (O := { cls := .type "enumerate", dict := none, data := .fields #[.none, .bool false, .ref I, rawInt ((i : Int) + 1), .none, V'], slots := #[] }) pE
    have R₆ := (R₅.add hOI₅ fI.1 hHI).add hOE₅ (by unfold addP; rw [if_neg hne]; exact fE.1) hHE
    show wpAny _ A (do holding [V'] (assign (.Name xi pi) env (.int i tk₂)); do holding [] (assign (.Name xv pv) env V'); pure ()) _ _ _
    refine wpAny_bind (wpAny_holding (wpAny_assign_Name (store_own he F₆ R₆ hxi (v := .int i) ⟨_, rfl⟩ fun h₇ tk₇ F₇ R₇ => ?_)))
    refine wpAny_bind (wpAny_holding (wpAny_assign_Name (store_own he F₇ R₇ hxv hv' fun h₈ tk₈ F₈ R₈ => wpAny_pure ?_)))
    refine turn i w l₂ H₂ hel hJ env A _ _ _ _ he F₈ hA R₈ fun f Fl l₉ H₉ h₉ tk₉ q₉ hf F₉ R₉ => ?_
    have hbI : ∀ a o, cx.base.get? a = some o → addP P I OI₃ a = some o := fun a o q => by
      have := R.base a o q
      unfold addP; rw [if_neg (fun z => by rw [z, fI.1] at this; cases this)]; exact this
    obtain ⟨R₁₀, hO₁₀, hH₁₀⟩ := R₉.drop (by unfold addP; rw [if_neg hne]; exact fE.1) hbI
    obtain ⟨R₁₁, hO₁₁, hH₁₁⟩ := R₁₀.drop fI.1 R.base
    have F₁₁ := F₉.drop.drop
    cases f with
    | next => cases hf; exact ⟨vs.length + 1 - (i + 1), by omega, i + 1, l₉, H₉, h₉, tk₉, V', OI₃, rfl, q₉, F₁₁, R₁₁, hO₁₀, hO₁₁, hc₃, hd₃, hH₁₁, hH₁₀, hlt, rfl⟩
    | cont => cases hf; exact ⟨vs.length + 1 - (i + 1), by omega, i + 1, l₉, H₉, h₉, tk₉, V', OI₃, rfl, q₉, F₁₁, R₁₁, hO₁₀, hO₁₁, hc₃, hd₃, hH₁₁, hH₁₀, hlt, rfl⟩
    | brk => cases hf; exact k .next .next l₉ H₉ h₉ tk₉ q₉ rfl F₁₁ R₁₁
    | ret v => obtain ⟨V, rfl, hv⟩ := hf; exact k (.ret v) (.ret V) l₉ H₉ h₉ tk₉ q₉ ⟨V, rfl, hv⟩ F₁₁ R₁₁
end
end Mine

-- Core18
namespace Mine
open PySem

/-! ## webs -/
def rowV (ns : List Nat) : List AV := ns.map fun (n : Nat) => AV.int (n : Int)
@[simp] theorem rowV_length (ns : List Nat) : (rowV ns).length = ns.length := by simp [rowV]
theorem rowV_eq (ns : List Nat) : rowV ns = (ns.map fun (n : Nat) => (n : Int)).map AV.int := by simp [rowV]
theorem rowV_get {ns : List Nat} {i : Nat} {w : AV} (h : (rowV ns)[i]? = some w) : ∃ n, ns[i]? = some n ∧ w = .int (n : Int) := by
  simp only [rowV, List.getElem?_map, Option.map_eq_some_iff] at h
  obtain ⟨n, h, rfl⟩ := h; exact ⟨n, h, rfl⟩
theorem lek {a k d : Nat} (h : Nat.ble a k = true) : a ≤ d + k := Nat.le_trans (Nat.le_of_ble_eq_true h) (Nat.le_add_left k d)
theorem lenOk {α β : Type} {f : α → β} {l : List α} {n k : Nat} (h : l.length = n) (h2 : n ≤ k) (hk : Nat.ble k 1048576 = true) : (l.map f).length ≤ 2 ^ 20 := by
  rw [List.length_map, h]; exact Nat.le_trans h2 (Nat.le_of_ble_eq_true hk)
theorem lenRow {ns : List Nat} {k : Nat} (h2 : ns.length ≤ k) (hk : Nat.ble k 1048576 = true) : (rowV ns).length ≤ 2 ^ 20 := by
  rw [rowV_length]; exact Nat.le_trans h2 (Nat.le_of_ble_eq_true hk)
theorem rowV_append (ns ms : List Nat) : rowV (ns ++ ms) = rowV ns ++ rowV ms := by simp [rowV]

structure WebAt (H : Hp) (a : Addr) (rs : List Addr) (web : List (List Nat)) : Prop where
  top : H a = some (.list false (rs.map .ref))
  len : rs.length = web.length
  row : ∀ (i : Nat) (r : Addr) (ns : List Nat), rs[i]? = some r → web[i]? = some ns → H r = some (.list false (rowV ns))
  nodup : rs.Nodup
  apart : a ∉ rs
def IsWeb (H : Hp) (a : Addr) (web : List (List Nat)) : Prop := ∃ rs, WebAt H a rs web

theorem WebAt.ext {H H' : Hp} {a : Addr} {rs : List Addr} {web : List (List Nat)} (W : WebAt H a rs web) (e : Ext H H') : WebAt H' a rs web :=
  ⟨e _ _ W.top, W.len, fun i r ns h1 h2 => e _ _ (W.row i r ns h1 h2), W.nodup, W.apart⟩
theorem IsWeb.ext {H H' : Hp} {a : Addr} {web : List (List Nat)} (W : IsWeb H a web) (e : Ext H H') : IsWeb H' a web := let ⟨rs, w⟩ := W; ⟨rs, w.ext e⟩

theorem WebAt.at {H : Hp} {a : Addr} {rs : List Addr} {web : List (List Nat)} (W : WebAt H a rs web) {i : Nat} (hi : i < web.length) : ∃ r, rs[i]? = some r ∧ (rs.map AV.ref)[i]? = some (.ref r) ∧ H r = some (.list false (rowV (web.getD i []))) := by
  have h1 : i < rs.length := by rw [W.len]; exact hi
  refine ⟨rs[i], by simp [h1], by simp [h1], W.row i _ _ (by simp [h1]) ?_⟩
  simp [hi]
theorem WebAt.mem {H : Hp} {a : Addr} {rs : List Addr} {web : List (List Nat)} (W : WebAt H a rs web) {r : Addr} (hr : r ∈ rs) : ∃ ns, ns ∈ web ∧ H r = some (.list false (rowV ns)) := by
  obtain ⟨i, hi, rfl⟩ := List.mem_iff_getElem.mp hr
  have h1 : i < web.length := by rw [← W.len]; exact hi
  exact ⟨web[i], List.getElem_mem h1, W.row i _ _ (by simp [hi]) (by simp [h1])⟩

/-- row i turned -/
theorem WebAt.set {H : Hp} {a : Addr} {rs : List Addr} {web : List (List Nat)} (W : WebAt H a rs web) {i : Nat} {r : Addr} (hr : rs[i]? = some r) (ns : List Nat) : WebAt (H.put r (.list false (rowV ns))) a rs (web.set i ns) := by
  have hm : r ∈ rs := List.mem_of_getElem? hr
  have hi : i < rs.length := (List.getElem?_eq_some_iff.mp hr).1
  refine ⟨?_, by simp [W.len], fun j r' ms h1 h2 => ?_, W.nodup, W.apart⟩
  · rw [Hp.put_ne (fun e => W.apart (by rw [e]; exact hm))]; exact W.top
  · by_cases e : r' = r
    · subst e
      have hj : j < rs.length := (List.getElem?_eq_some_iff.mp h1).1
      have : i = j := by
        have e1 := (List.getElem?_eq_some_iff.mp hr).2
        have e2 := (List.getElem?_eq_some_iff.mp h1).2
        have := List.pairwise_iff_getElem.mp W.nodup
        rcases Nat.lt_trichotomy i j with z | z | z
        · exact absurd (e1.trans e2.symm) (this i j hi hj z)
        · exact z
        · exact absurd (e2.trans e1.symm) (this j i hj hi z)
      subst this
      have hw : i < web.length := by rw [← W.len]; exact hi
      rw [List.getElem?_set_self hw] at h2; cases h2
      exact Hp.put_self ..
    · rw [Hp.put_ne e]
      have : j ≠ i := fun z => by subst z; rw [hr] at h1; cases h1; exact e rfl
      rw [List.getElem?_set_ne (Ne.symm this)] at h2
      exact W.row j r' ms h1 h2

structure GoodWeb (web : List (List Nat)) : Prop where
  pos : 1 ≤ web.length
  most : web.length ≤ 200
  nodup : ∀ ns ∈ web, ns.Nodup
  lt : ∀ ns ∈ web, ∀ g ∈ ns, g < web.length

theorem GoodWeb.row {web : List (List Nat)} (g : GoodWeb web) (i : Nat) : (web.getD i []).Nodup ∧ (∀ x ∈ web.getD i [], x < web.length) := by
  by_cases h : i < web.length
  · have : web.getD i [] = web[i] := by simp [h]
    rw [this]; exact ⟨g.nodup _ (List.getElem_mem h), g.lt _ (List.getElem_mem h)⟩
  · have : web.getD i [] = [] := by simp [Nat.not_lt.mp h]
    rw [this]; exact ⟨.nil, by simp⟩
theorem nodup_length {n : Nat} : ∀ {l : List Nat}, l.Nodup → (∀ x ∈ l, x < n) → l.length ≤ n := by
  induction n with
  | zero => intro l _ h; cases l with
    | nil => simp
    | cons a r => exact absurd (h a (.head _)) (Nat.not_lt_zero _)
  | succ n ih =>
    intro l hn h
    have h1 : (l.erase n).length ≤ n := ih (hn.erase n) fun x hx => by
      have h2 := h x (List.mem_of_mem_erase hx)
      have h3 : x ≠ n := fun e => by rw [e] at hx; exact (hn.not_mem_erase) hx
      omega
    have h2 := List.length_erase (a := n) (l := l)
    split at h2 <;> omega
theorem GoodWeb.rowLen {web : List (List Nat)} (g : GoodWeb web) (i : Nat) : (web.getD i []).length ≤ web.length := nodup_length (g.row i).1 (g.row i).2

/-- a list over all spots -/
def tabV (n : Nat) (f : Nat → AV) : List AV := (List.range n).map f
@[simp] theorem tabV_length (n : Nat) (f : Nat → AV) : (tabV n f).length = n := by simp [tabV]
theorem tabV_get {n : Nat} {f : Nat → AV} {i : Nat} (h : i < n) : (tabV n f)[i]? = some (f i) := by simp [tabV, h]
theorem tabV_set {n : Nat} {f : Nat → AV} {i : Nat} {v : AV} : (tabV n f).set i v = tabV n fun s => if s = i then v else f s := by
  apply List.ext_getElem
  · simp
  · intro j h1 h2
    simp [tabV, List.getElem_set]
    by_cases e : i = j
    · simp [e]
    · simp [e, Ne.symm e]
theorem tabV_congr {n : Nat} {f g : Nat → AV} (h : ∀ s, s < n → f s = g s) : tabV n f = tabV n g := List.map_congr_left fun s hs => h s (List.mem_range.mp hs)
theorem tabV_replicate (n : Nat) (v : AV) : (List.replicate n [v]).flatten = tabV n fun _ => v := by
  induction n with
  | zero => rfl
  | succ n ih =>
    rw [List.replicate_succ', List.flatten_append, ih]
    simp [tabV, List.range_succ]
end Mine

-- Core19
namespace Mine
open PySem

/-! ## the order in which the spots come -/
def wantN (web : List (List Nat)) (fs : List Nat) (s : Nat) : Nat := (web.getD s []).countP fun g => decide (g ∉ fs)

theorem want_zero {web : List (List Nat)} {fs : List Nat} {s : Nat} : wantN web fs s = 0 ↔ ∀ g ∈ web.getD s [], g ∈ fs := by
  unfold wantN
  rw [List.countP_eq_zero]
  simp

theorem count_in {f : Nat} {fs : List Nat} (hf : f ∉ fs) : ∀ {row : List Nat}, row.Nodup → f ∈ row → row.countP (fun g => decide (g ∉ fs)) = row.countP (fun g => decide (g ∉ fs ++ [f])) + 1
  | [], _, h => by cases h
  | x :: r, hn, h => by
    rw [List.nodup_cons] at hn
    simp only [List.countP_cons]
    rcases List.mem_cons.mp h with e | h'
    · subst e
      have e1 : r.countP (fun g => decide (g ∉ fs)) = r.countP (fun g => decide (g ∉ fs ++ [f])) := by
        apply List.countP_congr
        intro g hg
        have : g ≠ f := fun z => hn.1 (z ▸ hg)
        simp [this]
      rw [e1]; simp [hf]
    · have hx : x ≠ f := fun z => hn.1 (z ▸ h')
      rw [count_in hf hn.2 h']
      simp [hx]; omega
theorem count_out {f : Nat} {fs row : List Nat} (h : f ∉ row) : row.countP (fun g => decide (g ∉ fs)) = row.countP (fun g => decide (g ∉ fs ++ [f])) := by
  apply List.countP_congr
  intro g hg
  have : g ≠ f := fun z => h (z ▸ hg)
  simp [this]

theorem nodup_take_not {l : List Nat} (hn : l.Nodup) {i x : Nat} (h : l[i]? = some x) : x ∉ l.take i := by
  obtain ⟨hi, rfl⟩ := List.getElem?_eq_some_iff.mp h
  intro hm
  obtain ⟨j, hj, e⟩ := List.mem_iff_getElem.mp hm
  rw [List.getElem_take] at e
  have hj' : j < i := by rw [List.length_take] at hj; omega
  exact (List.pairwise_iff_getElem.mp hn j i (by omega) hi hj') e

theorem nodup_sub_length : ∀ {l m : List Nat}, l.Nodup → (∀ x ∈ l, x ∈ m) → l.length ≤ m.length
  | [], _, _, _ => by simp
  | a :: r, m, hn, h => by
    rw [List.nodup_cons] at hn
    have h1 := nodup_sub_length (m := m.erase a) hn.2 fun x hx => (List.mem_erase_of_ne (fun (e : x = a) => hn.1 (by rw [← e]; exact hx))).mpr (h x (.tail _ hx))
    have h2 := List.length_erase_of_mem (h a (.head _))
    have h3 := List.length_pos_of_mem (h a (.head _))
    simp only [List.length_cons]; omega

/-- the state between two turns -/
structure KInv (web : List (List Nat)) (at_ : Nat) (found : List Nat) (w : Nat → Nat) : Prop where
  nodup : found.Nodup
  lt : ∀ x ∈ found, x < web.length
  le : at_ ≤ found.length
  want : ∀ s, s < web.length → w s = wantN web (found.take at_) s
  zero : ∀ s, s < web.length → (s ∈ found ↔ w s = 0)
  topo : ∀ i x, found[i]? = some x → ∀ g ∈ web.getD x [], g ∈ found.take i

/-- the state within a turn -/
structure KIn (web : List (List Nat)) (at_ f : Nat) (cs found : List Nat) (w : Nat → Nat) : Prop where
  nodup : found.Nodup
  lt : ∀ x ∈ found, x < web.length
  here : found[at_]? = some f
  want : ∀ s, s < web.length → w s = if s ∈ cs then wantN web (found.take (at_ + 1)) s else wantN web (found.take at_) s
  zero : ∀ s, s < web.length → (s ∈ found ↔ w s = 0)
  topo : ∀ i x, found[i]? = some x → ∀ g ∈ web.getD x [], g ∈ found.take i

theorem KInv.open_ {web : List (List Nat)} {at_ f : Nat} {found : List Nat} {w : Nat → Nat} (K : KInv web at_ found w) (h : found[at_]? = some f) : KIn web at_ f [] found w :=
  ⟨K.nodup, K.lt, h, fun s hs => by simp [K.want s hs], K.zero, K.topo⟩

theorem KIn.close {web : List (List Nat)} {at_ f : Nat} {cs found : List Nat} {w : Nat → Nat} (K : KIn web at_ f cs found w) (hc : ∀ s, s < web.length → (s ∈ cs ↔ f ∈ web.getD s [])) : KInv web (at_ + 1) found w := by
  have hlt := (List.getElem?_eq_some_iff.mp K.here).1
  refine ⟨K.nodup, K.lt, hlt, fun s hs => ?_, K.zero, K.topo⟩
  rw [K.want s hs]
  split
  · rfl
  · rename_i h
    rw [hc s hs] at h
    unfold wantN
    rw [List.take_add_one, K.here]
    exact count_out h

/-- one comer -/
theorem KIn.turn {web : List (List Nat)} {at_ f c : Nat} {cs found : List Nat} {w : Nat → Nat} (G : GoodWeb web) (K : KIn web at_ f cs found w) (hc : c < web.length) (hf : f ∈ web.getD c []) (hn : c ∉ cs) :
    1 ≤ w c ∧ KIn web at_ f (cs ++ [c]) (if w c - 1 = 0 then found ++ [c] else found) (fun s => if s = c then w c - 1 else w s) := by
  have hlt := (List.getElem?_eq_some_iff.mp K.here).1
  have e1 : w c = wantN web (found.take at_) c := by rw [K.want c hc, if_neg hn]
  have e2 : wantN web (found.take at_) c = wantN web (found.take (at_ + 1)) c + 1 := by
    unfold wantN
    rw [List.take_add_one, K.here]
    exact count_in (nodup_take_not K.nodup K.here) (G.row c).1 hf
  have h1 : 1 ≤ w c := by omega
  have hcn : c ∉ found := fun h => by have := (K.zero c hc).mp h; omega
  have tk : ∀ i ≤ found.length, (if w c - 1 = 0 then found ++ [c] else found).take i = found.take i := fun i hi => by
    split
    · rw [List.take_append_of_le_length hi]
    · rfl
  refine ⟨h1, ?_, fun x hx => ?_, ?_, fun s hs => ?_, fun s hs => ?_, fun i x hx g hg => ?_⟩
  · split
    · rw [List.nodup_append]
      refine ⟨K.nodup, by simp, fun a ha b hb => ?_⟩
      rw [List.mem_singleton] at hb
      exact fun e => hcn (by rw [← hb, ← e]; exact ha)
    · exact K.nodup
  · split at hx
    · rcases List.mem_append.mp hx with h | h
      · exact K.lt x h
      · rw [List.mem_singleton.mp h]; exact hc
    · exact K.lt x hx
  · split
    · rw [List.getElem?_append_left hlt]; exact K.here
    · exact K.here
  · rw [tk _ (by omega), tk _ (by omega)]
    by_cases e : s = c
    · subst e
      rw [if_pos rfl, if_pos (by simp)]; omega
    · rw [if_neg e, K.want s hs]
      simp [e]
  · by_cases e : s = c
    · subst e
      rw [if_pos rfl]
      split
      · rename_i h; simp [h]
      · rename_i h; simp [h, hcn]
    · rw [if_neg e, ← K.zero s hs]
      split
      · simp [e]
      · rfl
  · split at hx
    · rename_i h0
      by_cases hi : i < found.length
      · rw [List.getElem?_append_left hi] at hx
        rw [if_pos h0, List.take_append_of_le_length (by omega)]
        exact K.topo i x hx g hg
      · have hi' : i = found.length := by
          have := (List.getElem?_eq_some_iff.mp hx).1
          rw [List.length_append, List.length_singleton] at this; omega
        subst hi'
        rw [List.getElem?_append_right (Nat.le_refl _)] at hx
        simp at hx
        subst hx
        have hz : wantN web (found.take (at_ + 1)) c = 0 := by omega
        have := want_zero.mp hz g hg
        rw [if_pos h0, List.take_append_of_le_length (Nat.le_refl _), List.take_length]
        exact List.mem_of_mem_take this
    · rename_i h0
      rw [if_neg h0]; exact K.topo i x hx g hg

theorem KInv.start (web : List (List Nat)) : KInv web 0 ((List.range web.length).filter fun s => decide ((web.getD s []).length = 0)) (fun s => (web.getD s []).length) := by
  refine ⟨List.nodup_range.filter _, fun x hx => by simpa using (List.mem_filter.mp hx).1, by omega, fun s hs => ?_, fun s hs => ?_, fun i x hx g hg => ?_⟩
  · unfold wantN; simp
  · simp [hs]
  · have hm := List.mem_of_getElem? hx
    have := (List.mem_filter.mp hm).2
    rw [decide_eq_true_eq] at this
    rw [List.length_eq_zero_iff.mp this] at hg; cases hg

/-- what the walk finds -/
structure Found (web : List (List Nat)) (found : List Nat) : Prop where
  nodup : found.Nodup
  lt : ∀ x ∈ found, x < web.length
  topo : ∀ i x, found[i]? = some x → ∀ g ∈ web.getD x [], g ∈ found.take i
  all : ∀ s, s < web.length → (∀ g ∈ web.getD s [], g ∈ found) → s ∈ found
theorem KInv.found {web : List (List Nat)} {found : List Nat} {w : Nat → Nat} (K : KInv web found.length found w) : Found web found :=
  ⟨K.nodup, K.lt, K.topo, fun s hs h => (K.zero s hs).mpr (by rw [K.want s hs, List.take_length]; exact want_zero.mpr h)⟩

/-- no ring: the spots have ranks -/
def Calm (web : List (List Nat)) : Prop := ∃ rank : Nat → Nat, ∀ s < web.length, ∀ g ∈ web.getD s [], rank g < rank s
theorem Found.whole {web : List (List Nat)} {found : List Nat} (F : Found web found) (G : GoodWeb web) (C : Calm web) : found.length = web.length ∧ ∀ s < web.length, s ∈ found := by
  obtain ⟨rank, hr⟩ := C
  have all : ∀ k s, rank s ≤ k → s < web.length → s ∈ found := by
    intro k
    induction k with
    | zero => intro s hk hs; exact F.all s hs fun g hg => absurd (hr s hs g hg) (by omega)
    | succ k ih => intro s hk hs; exact F.all s hs fun g hg => ih g (by have := hr s hs g hg; omega) ((G.row s).2 g hg)
  have hall : ∀ s < web.length, s ∈ found := fun s hs => all (rank s) s (Nat.le_refl _) hs
  refine ⟨Nat.le_antisymm (nodup_length F.nodup F.lt) ?_, hall⟩
  have hsub : (List.range web.length).length ≤ found.length := nodup_sub_length List.nodup_range fun x hx => hall x (List.mem_range.mp hx)
  simpa using hsub

/-! ## the comers -/
def comersTo (web : List (List Nat)) (i g : Nat) : List Nat := (List.range i).filter fun s => decide (g ∈ web.getD s [])
def comersWeb (web : List (List Nat)) (i : Nat) : List (List Nat) := (List.range web.length).map (comersTo web i)
theorem mem_comersTo {web : List (List Nat)} {i g s : Nat} : s ∈ comersTo web i g ↔ s < i ∧ g ∈ web.getD s [] := by simp [comersTo]
theorem comersTo_nodup (web : List (List Nat)) (i g : Nat) : (comersTo web i g).Nodup := List.nodup_range.filter _
theorem comersTo_succ (web : List (List Nat)) (i g : Nat) : comersTo web (i + 1) g = comersTo web i g ++ (if g ∈ web.getD i [] then [i] else []) := by
  unfold comersTo
  rw [List.range_succ, List.filter_append]
  congr 1
  simp only [List.filter_cons, List.filter_nil, decide_eq_true_eq]
def comersIn (web : List (List Nat)) (i j : Nat) : List (List Nat) := (List.range web.length).map fun g => comersTo web i g ++ (if g ∈ (web.getD i []).take j then [i] else [])
theorem comersIn_zero (web : List (List Nat)) (i : Nat) : comersIn web i 0 = comersWeb web i := by simp [comersIn, comersWeb]
theorem comersIn_all (web : List (List Nat)) (i : Nat) : comersIn web i (web.getD i []).length = comersWeb web (i + 1) := by
  unfold comersIn comersWeb
  apply List.map_congr_left
  intro g _
  rw [comersTo_succ, List.take_length]
theorem comersIn_step {web : List (List Nat)} (G : GoodWeb web) {i j g : Nat} (h : (web.getD i [])[j]? = some g) :
    (comersIn web i j)[g]? = some (comersTo web i g) ∧ (comersIn web i j).set g (comersTo web i g ++ [i]) = comersIn web i (j + 1) := by
  have hg : g < web.length := (G.row i).2 g (List.mem_of_getElem? h)
  have hn := nodup_take_not (G.row i).1 h
  refine ⟨?_, ?_⟩
  · unfold comersIn
    rw [List.getElem?_map, List.getElem?_range hg]
    simp only [Option.map_some, if_neg hn, List.append_nil]
  · apply List.ext_getElem
    · simp [comersIn]
    · intro k h1 h2
      simp only [comersIn, List.length_map, List.length_range, List.length_set] at h1 h2
      by_cases e : g = k
      · subst e
        simp only [List.getElem_set_self]
        simp only [comersIn, List.getElem_map, List.getElem_range, List.take_add_one, h]
        simp
      · rw [List.getElem_set_ne e]
        simp only [comersIn, List.getElem_map, List.getElem_range, List.take_add_one, h]
        have : k ≠ g := Ne.symm e
        simp [this]

/-! ## lists made anew -/
theorem refs_eq (rs : List Addr) : rs.map AV.ref = (List.range rs.length).map fun i => AV.ref (rs.getD i 0) := by
  apply List.ext_getElem
  · simp
  · intro i h1 h2
    simp at h1
    simp [h1]
theorem spanZ0 (n : Nat) : spanZ 0 (n : Int) = (List.range n).map fun (i : Nat) => AV.int (i : Int) := by simp [spanZ]

section
variable {cx : Cx} {d : Nat} {sc scope : Scope} {loc : Loc} {x : Str} {elt : Expr} {keep : Hp → Prop} {H : Hp} {Qf : List AV → Hp → Prop} {α : Type}
theorem CompW_rows (xs : List α) (g : α → AV) (c : α → List AV) (hk : ∀ H', Ext H H' → keep H')
    (h : ∀ a H' (Q : AV → Hp → Prop), a ∈ xs → Ext H H' → (∀ b, H' b = none → Q (.ref b) (H'.put b (.list false (c a)))) → EV cx d (relab sc scope) (upd (capt scope loc) x (g a)) elt H' Q)
    (hq : ∀ (rs : List Addr) H', Ext H H' → rs.length = xs.length → rs.Nodup → (∀ r ∈ rs, H r = none) → (∀ (i : Nat) (a : α) (r : Addr), xs[i]? = some a → rs[i]? = some r → H' r = some (.list false (c a))) → Qf (rs.map .ref) H') :
    CompW cx d sc scope loc x [] elt (xs.map g) keep H Qf := by
  refine ⟨fun i ys H' => ∃ rs : List Addr, ys = rs.map .ref ∧ Ext H H' ∧ rs.length = min i xs.length ∧ rs.Nodup ∧ (∀ r ∈ rs, H r = none) ∧ (∀ (i : Nat) (a : α) (r : Addr), xs[i]? = some a → rs[i]? = some r → H' r = some (.list false (c a))),
    ⟨[], rfl, .refl H, by simp, .nil, by simp, by simp⟩, ?_, ?_, ?_⟩
  · rintro i ys H' ⟨rs, _, he, _⟩; exact hk H' he
  · rintro i w ys H' hi ⟨rs, rfl, he, hl, hn, hf, ht⟩
    simp only [List.getElem?_map, Option.map_eq_some_iff] at hi
    obtain ⟨a, ha, rfl⟩ := hi
    have hlt : i < xs.length := (List.getElem?_eq_some_iff.mp ha).1
    simp only [Tests, if_true]
    refine h a H' _ (List.mem_of_getElem? ha) he fun b hb => ?_
    have hnb : b ∉ rs := fun hm => by
      obtain ⟨k, hk', e⟩ := List.mem_iff_getElem.mp hm
      have hkx : k < xs.length := by omega
      have := ht k xs[k] b (by simp [hkx]) (by rw [← e]; simp [hk'])
      rw [hb] at this; cases this
    refine ⟨rs ++ [b], by simp, he.put_r hb, by rw [List.length_append, List.length_singleton, hl]; omega, ?_, fun r hr => ?_, fun k a' r hk1 hk2 => ?_⟩
    · rw [List.nodup_append]
      refine ⟨hn, by simp, fun p hp q hq => ?_⟩
      rw [List.mem_singleton] at hq
      exact fun e => hnb (by rw [← hq, ← e]; exact hp)
    · rcases List.mem_append.mp hr with h1 | h1
      · exact hf r h1
      · rw [List.mem_singleton.mp h1]; exact he.none hb
    · rcases Nat.lt_trichotomy k rs.length with h1 | h1 | h1
      · rw [List.getElem?_append_left h1] at hk2
        have hr := ht k a' r hk1 hk2
        rw [Hp.put_ne (fun e => hnb (by rw [← e]; exact List.mem_of_getElem? hk2))]; exact hr
      · have hki : k = i := by omega
        subst hki
        rw [ha] at hk1; cases hk1
        rw [List.getElem?_append_right (by omega), h1, Nat.sub_self] at hk2
        cases hk2; exact Hp.put_self ..
      · rw [List.getElem?_eq_none (by rw [List.length_append, List.length_singleton]; omega)] at hk2; cases hk2
  · rintro ys H' ⟨rs, rfl, he, hl, hn, hf, ht⟩
    rw [List.length_map, Nat.min_self] at hl
    exact hq rs H' he hl hn hf ht
end

/-- a web that was made anew -/
def NewWeb (H H' : Hp) (f : Addr) (web : List (List Nat)) : Prop := ∃ rs, WebAt H' f rs web ∧ H f = none ∧ ∀ r ∈ rs, H r = none
theorem NewWeb.isWeb {H H' : Hp} {f : Addr} {web : List (List Nat)} (N : NewWeb H H' f web) : IsWeb H' f web := let ⟨rs, W, _⟩ := N; ⟨rs, W⟩
end Mine

-- Core20
namespace Mine
open PySem

theorem mulR {a b : Int} (h : b.natAbs < 2 ^ 64) : IntMulOk a b := .of_right (PyProof.Rows.intBits_le h)
theorem mulL {a b : Int} (h : a.natAbs < 2 ^ 64) : IntMulOk a b := .of_left (PyProof.Rows.intBits_le h)

/-! ## the law's own numbers -/
def mixed (c k : Int) : Int := ((c % 1000000007 + 17) * 48271 % 2147483647 + k) * (k * k + 16807) % 2147483629 * 69621 % 2147483647 / 7
theorem mixed_nonneg (c k : Int) : 0 ≤ mixed c k := by
  unfold mixed
  generalize ((c % 1000000007 + 17) * 48271 % 2147483647 + k) * (k * k + 16807) % 2147483629 * 69621 = z
  omega

theorem perm_eraseIdx {α : Type} : ∀ {l : List α} {i : Nat} {x : α}, l[i]? = some x → (x :: l.eraseIdx i).Perm l
  | a :: r, 0, x, h => by cases h; simp
  | a :: r, i + 1, x, h => by
    simp only [List.getElem?_cons_succ] at h
    rw [List.eraseIdx_cons_succ]
    exact (List.Perm.swap a x _).trans ((perm_eraseIdx h).cons a)
  | [], _, _, h => by simp at h

theorem perm_turn {order left all : List Nat} {i x : Nat} (h : (order ++ left).Perm all) (hx : left[i]? = some x) : (order ++ [x] ++ left.eraseIdx i).Perm all := by
  refine List.Perm.trans ?_ h
  rw [List.append_assoc]
  exact (perm_eraseIdx hx).append_left order

theorem rowV_eraseIdx : ∀ (l : List Nat) (i : Nat), (rowV l).eraseIdx i = rowV (l.eraseIdx i)
  | [], _ => by simp [rowV]
  | a :: r, 0 => by simp [rowV]
  | a :: r, i + 1 => by
    have := rowV_eraseIdx r i
    simp only [rowV, List.map_cons, List.eraseIdx_cons_succ] at this ⊢
    rw [this]

/-- a web as it is being made -/
structure WB (order : List Nat) (b : Nat → Nat) (web : List (List Nat)) : Prop where
  len : web.length = order.length
  row : ∀ i x, order[i]? = some x → (web.getD x []).Nodup ∧ ∀ g ∈ web.getD x [], g ∈ order.take (b i)

theorem getD_set_ne {web : List (List Nat)} {i j : Nat} {ns : List Nat} (h : i ≠ j) : (web.set i ns).getD j [] = web.getD j [] := by
  simp [List.getD_eq_getElem?_getD, List.getElem?_set_ne h]
theorem getD_set_self {web : List (List Nat)} {i : Nat} {ns : List Nat} (h : i < web.length) : (web.set i ns).getD i [] = ns := by
  simp [List.getD_eq_getElem?_getD, h]

theorem nodup_idx {l : List Nat} (hn : l.Nodup) {i j x : Nat} (h : l[i]? = some x) (h' : l[j]? = some x) : i = j := by
  obtain ⟨hi, e1⟩ := List.getElem?_eq_some_iff.mp h
  obtain ⟨hj, e2⟩ := List.getElem?_eq_some_iff.mp h'
  have := List.pairwise_iff_getElem.mp hn
  rcases Nat.lt_trichotomy i j with z | z | z
  · exact absurd (e1.trans e2.symm) (this i j hi hj z)
  · exact z
  · exact absurd (e2.trans e1.symm) (this j i hj hi z)

theorem WB.mono {order : List Nat} {b b' : Nat → Nat} {web : List (List Nat)} (h : WB order b web) (hb : ∀ i, b i ≤ b' i) : WB order b' web :=
  ⟨h.len, fun i x hx => ⟨(h.row i x hx).1, fun g hg => by
    have := (h.row i x hx).2 g hg
    have e : (order.take (b' i)).take (b i) = order.take (b i) := by rw [List.take_take, Nat.min_eq_left (hb i)]
    rw [← e] at this
    exact List.mem_of_mem_take this⟩⟩
theorem WB.set {order : List Nat} {b b' : Nat → Nat} {web : List (List Nat)} (hn : order.Nodup) (hlt : ∀ x ∈ order, x < order.length) (h : WB order b web) {k x : Nat} (hk : order[k]? = some x) {ns : List Nat} (h1 : ns.Nodup) (h2 : ∀ g ∈ ns, g ∈ order.take (b' k))
    (hb : ∀ i, i ≠ k → b i ≤ b' i) : WB order b' (web.set x ns) := by
  have hxl : x < web.length := by rw [h.len]; exact hlt x (List.mem_of_getElem? hk)
  refine ⟨by simp [h.len], fun i y hy => ?_⟩
  by_cases e : y = x
  · subst e
    have : i = k := nodup_idx hn hy hk
    subst this
    rw [getD_set_self hxl]; exact ⟨h1, h2⟩
  · have hik : i ≠ k := fun z => by subst z; rw [hk] at hy; cases hy; exact e rfl
    rw [getD_set_ne (Ne.symm e)]
    refine ⟨(h.row i y hy).1, fun g hg => ?_⟩
    have := (h.row i y hy).2 g hg
    have e' : (order.take (b' i)).take (b i) = order.take (b i) := by rw [List.take_take, Nat.min_eq_left (hb i hik)]
    rw [← e'] at this
    exact List.mem_of_mem_take this
theorem WB.finish {order : List Nat} {web : List (List Nat)} {n : Nat} (hp : order.Perm (List.range n)) (h1 : 1 ≤ n) (h2 : n ≤ 200) (h : WB order (fun i => i) web) : web.length = n ∧ GoodWeb web ∧ Calm web := by
  have hn : order.Nodup := hp.nodup_iff.mpr List.nodup_range
  have hl : order.length = n := by rw [hp.length_eq, List.length_range]
  have hw : web.length = n := by rw [h.len, hl]
  have lt : ∀ x ∈ order, x < n := fun x hx => List.mem_range.mp (hp.mem_iff.mp hx)
  have idx : ∀ s, s < n → ∃ i, order[i]? = some s := fun s hs => by
    have := hp.mem_iff.mpr (List.mem_range.mpr hs)
    obtain ⟨i, hi, e⟩ := List.mem_iff_getElem.mp this
    exact ⟨i, by rw [← e]; exact List.getElem?_eq_getElem hi⟩
  have rows : ∀ ns ∈ web, ns.Nodup ∧ ∀ g ∈ ns, g < n := fun ns hns => by
    obtain ⟨s, hs, e⟩ := List.mem_iff_getElem.mp hns
    obtain ⟨i, hi⟩ := idx s (by omega)
    have := h.row i s hi
    have e' : web.getD s [] = ns := by simp [hs, e]
    rw [e'] at this
    exact ⟨this.1, fun g hg => lt g (List.mem_of_mem_take (this.2 g hg))⟩
  refine ⟨hw, ⟨by omega, by omega, fun ns hns => (rows ns hns).1, fun ns hns g hg => by rw [hw]; exact (rows ns hns).2 g hg⟩, fun s => order.idxOf s, fun s hs g hg => ?_⟩
  obtain ⟨i, hi⟩ := idx s (by omega)
  obtain ⟨hil, e⟩ := List.getElem?_eq_some_iff.mp hi
  have hg' := (h.row i s hi).2 g hg
  obtain ⟨j, hj, ej⟩ := List.mem_iff_getElem.mp hg'
  rw [List.getElem_take] at ej
  rw [List.length_take] at hj
  have e1 : order.idxOf s = i := by rw [← e]; exact hn.idxOf_getElem i hil
  have e2 : order.idxOf g = j := by rw [← ej]; exact hn.idxOf_getElem j (by omega)
  show order.idxOf g < order.idxOf s
  rw [e1, e2]; omega
theorem WB.start (order : List Nat) : WB order (fun _ => 0) (order.map fun _ => []) := by
  refine ⟨by simp, fun i x hx => ?_⟩
  have : (order.map fun _ => ([] : List Nat)).getD x [] = [] := by
    rw [List.getD_eq_getElem?_getD, List.getElem?_map]
    cases order[x]? <;> rfl
  rw [this]; exact ⟨.nil, by simp⟩
end Mine

-- Core21
namespace Mine
open PySem PySem.Calls PyProof.Rows

theorem keys_miss : typeLookup (.type "list") (Str.ofString "keys") = pure none := by rw [typeLookup_type, builtinLookup_eq_fast]; kernel_rfl

theorem getAttrQ_keys {prog : Program} {w : World} {A : Around} {E : Value → Shared → Prop} {s : Shared} {a : Addr} {xs : Array Value} {k : Nat} {Q : Option Value → Shared → Prop}
    (hx : s.heap.get? a = some { cls := .type "list", dict := none, data := .seq xs k, slots := #[] }) (hA : A.handled = none)
    (h : ∀ h' tk, (∀ b o, s.heap.get? b = some o → h'.get? b = some o) → Q none { s with heap := h', toks := tk }) :
    wpAny (model prog w) A (getAttr? (.ref a) (Str.ofString "keys")) Q E s := by
  obtain ⟨hp, g, d, tk, os⟩ := s
  have hT : ∀ tk', (⟨hp, g, d, tk', os⟩ : Shared).TypeIs (.ref a) "list" := fun _ => ⟨_, hx, rfl⟩
  have f1 := sub_AttributeError
  have f3 := F.slot_list_getattribute.lookup
  have f4 := F.slot_list_getattribute.bind (.ref a)
  have f5 := am_list_getattr_none
  unfold getAttr? getAttrBy? getAttrBy
  repeat (any_goals (first | assumption | exact hT _ | ((with_reducible show wpAny _ _ (call (Value.builtin "list.__getattribute__") _ _) _ _ _); refine call_meets F.slot_list_getattribute (hT _) am_entry_list_getattribute (F.args_list_getattribute_2 _ _) (meets_getattribute_miss_list a xs k #[] (Str.ofString "keys") _ keys_miss (by decide) (by decide)) ⟨hx, hA, fun h' tk' e hx' => ?_⟩) | wp_step))
  obtain ⟨t', u', he⟩ := hx'.there
  show wpAny _ _ (getattributeRaised _ _ _ _ _ _ _) _ _ _
  unfold getattributeRaised
  repeat (any_goals (first | assumption | wp_step))
  exact h _ _ hx'.keeps

theorem entry_update_loop : entryFor table "dict.update.loop" = some Builtin.«dict.update.loop» := entryFor_of_tree (by kernel_rfl)
theorem plain_update_loop : plainId "dict.update.loop" = true := by decide +kernel

def mkDict (ks : List (Int × AV)) : List (Int × AV) := ks.foldl (fun m kv => dset m kv.1 kv.2) []
theorem mkDict_snoc (ks : List (Int × AV)) (kv : Int × AV) : mkDict (ks ++ [kv]) = dset (mkDict ks) kv.1 kv.2 := by simp [mkDict]
theorem dset_length (m : List (Int × AV)) (k : Int) (v : AV) : (dset m k v).length ≤ m.length + 1 := by
  unfold dset; split
  · rw [List.length_map]; omega
  · simp
theorem mkDict_length (ks : List (Int × AV)) : (mkDict ks).length ≤ ks.length := by
  have : ∀ (ks m : List (Int × AV)), (ks.foldl (fun m kv => dset m kv.1 kv.2) m).length ≤ m.length + ks.length := by
    intro ks
    induction ks with
    | nil => intro m; simp
    | cons kv r ih => intro m; have := ih (dset m kv.1 kv.2); have := dset_length m kv.1 kv.2; simp only [List.foldl_cons, List.length_cons]; omega
  unfold mkDict
  simpa using this ks []
theorem mkDict_has (ks : List (Int × AV)) (x : Int) : (dget (mkDict ks) x).isSome = decide (x ∈ ks.map (·.1)) := by
  have : ∀ (ks m : List (Int × AV)), (dget (ks.foldl (fun m kv => dset m kv.1 kv.2) m) x).isSome = ((dget m x).isSome || decide (x ∈ ks.map (·.1))) := by
    intro ks
    induction ks with
    | nil => intro m; simp
    | cons kv r ih =>
      intro m
      rw [List.foldl_cons, ih, dget_dset]
      by_cases e : x = kv.1
      · simp [e]
      · have e2 : (x ∈ (kv :: r).map (·.1)) ↔ x ∈ r.map (·.1) := by rw [List.map_cons, List.mem_cons]; simp [e]
        rw [if_neg e, decide_eq_decide.mpr e2]
  rw [mkDict, this]; simp [dget]

theorem put_put (H : Hp) (a : Addr) (o o' : AObj) : (H.put a o).put a o' = H.put a o' := by
  funext b; unfold Hp.put; split <;> rfl

theorem dict_loop {cx : Cx} {A : Around} (hh : A.handled = none) {I D l : Addr} {ro : Bool} {ts : List Addr} {ks : List (Int × AV)} {H : Hp} {P : PH} {s : Shared} {St : Nat → Obj → Prop} {R : Result → Shared → Prop}
    (W : ItP cx I (ts.map .ref) (fun H' => H' l = some (.list ro (ts.map .ref))) St) (hl : H l = some (.list ro (ts.map .ref))) (hlen : ts.length = ks.length) (hsz : ks.length ≤ 2 ^ 20)
    (ht : ∀ (i : Nat) (t : Addr) (kv : Int × AV), ts[i]? = some t → ks[i]? = some kv → H t = some (.tuple [.int kv.1, kv.2]))
    (hP : P I = none) (hH : H I = none) (hDI : D ≠ I) (hD : H D = none) (hk : ∀ h' tk', Rep cx P (H.put D (.dict (mkDict ks))) h' → R (.ok (.ret .none)) { s with heap := h', toks := tk' }) :
    ∀ (n i : Nat) (h : Heap) (tk : Nat) (O : Obj), n + i = ts.length → Rep cx P (H.put D (.dict (mkDict (ks.take i)))) h → h.get? I = some O → St i O →
      codeAny (model cx.prog cx.w) A (.builtin "dict.update.loop" ⟨[.ref D, .ref I, rawInt i, .none], []⟩) R { s with heap := h, toks := tk } := by
  have hlD : l ≠ D := ne_of_new hD hl
  intro n
  induction n with
  | zero =>
    intro i h tk O hn Rr hO hSt
    have hi : i = (ts.map AV.ref).length := by rw [List.length_map]; omega
    refine codeAny_builtin entry_update_loop ?_
    rw [Around.under_plainId plain_update_loop _]
    show wpAny _ A.in1 (pyNext (.ref I) >>= _) _ _ _
    refine wpAny_bind (W.done A.in1 P _ _ _ _ O hh ((Hp.put_ne hlD).trans hl) Rr ((Hp.put_ne (Ne.symm hDI)).trans hH) hO (hi ▸ hSt) fun h' tk' e => ?_)
    show wpAny _ A.in1 (Builtin.Dict.addKeywords D [] >>= _) _ _ _
    have e1 : ks.take i = ks := List.take_of_length_le (by rw [List.length_map] at hi; omega)
    rw [e1] at Rr
    exact wpAny_bind (wpAny_pure (wpAny_pure (hk h' tk' (Rr.ext_to hP ((Hp.put_ne (Ne.symm hDI)).trans hH) e))))
  | succ n ih =>
    intro i h tk O hn Rr hO hSt
    have hi : i < ts.length := by omega
    have hik : i < ks.length := by omega
    have hti : ts[i]? = some ts[i] := by simp [hi]
    have hT := ht i ts[i] ks[i] hti (by simp [hik])
    have hTD : ts[i] ≠ D := ne_of_new hD hT
    refine codeAny_builtin entry_update_loop ?_
    rw [Around.under_plainId plain_update_loop _]
    show wpAny _ A.in1 (pyNext (.ref I) >>= _) _ _ _
    refine wpAny_bind (W.item i (.ref ts[i]) A.in1 P _ _ _ _ O (by simp [hi]) ((Hp.put_ne hlD).trans hl) Rr ((Hp.put_ne (Ne.symm hDI)).trans hH) hO hSt fun V h' O' tk' hV e hO' hSt' => ?_)
    cases hV
    have R' := Rr.ext_to hP ((Hp.put_ne (Ne.symm hDI)).trans hH) e.extBut
    obtain ⟨OT, hOT, items, m, rfl, hr⟩ := R'.obj ts[i] _ ((Hp.put_ne hTD).trans hT)
    obtain ⟨K, V, hKV, hK, hV⟩ := vrs2 hr
    obtain ⟨u, rfl⟩ := hK
    obtain ⟨vs, hDof, hkv, hPD, hDs⟩ := R'.dict (Hp.put_self ..)
    have hTy : ({ s with heap := h', toks := tk' } : Shared).TypeIs (.ref ts[i]) "tuple" := ⟨_, hOT, rfl⟩
    refine wpAny_bind (wpAny_holding (wpAny_bind (wpAny_tryCatch ?_)))
    show wpAny _ A.in1 (Builtin.Dict.pairItems (.ref ts[i])) _ _ _
    unfold Builtin.Dict.pairItems
    refine wpAny_bind (wpAny_typeOf hTy ?_)
    rw [if_pos (by decide)]
    refine wpAny_bind (wpAny_seqItems hOT rfl (wpAny_pure ?_))
    show wpAny _ A.in1 (match items.toList with | [k, v] => _ | _ => _) _ _ _
    rw [hKV]
    show wpAny _ A.in1 (holding _ (dictSet D _ _)) _ _ _
    have hlk : (mkDict (ks.take i)).length ≤ 2 ^ 20 := by have := mkDict_length (ks.take i); rw [List.length_take] at this; omega
    refine wpAny_holding (wpAny_dictSet_pairs (intKind_is _ _ _ u) hDof (fun h₂ hD₂ hs₂ => ?_) (by rw [← hkv.length]; show _ ≤ 2 ^ 24; omega))
    obtain ⟨o, es, ep, ho, r1, r2, r3, r4, r5⟩ := hD₂
    have R₂ := R'.put_own (o := .dict (dset (mkDict (ks.take i)) ks[i].1 ks[i].2)) hPD hDs hs₂ ho ⟨es, ep, _, r1, r2, r3, r4, r5, hkv.set _ hV⟩
    rw [put_put, ← mkDict_snoc] at R₂
    have e1 : ks.take i ++ [ks[i]] = ks.take (i + 1) := by rw [List.take_add_one]; simp [hik]
    rw [e1] at R₂
    have hO₂ : h₂.get? I = some O' := (hs₂.2 I (Ne.symm hDI)).trans hO'
    refine wpAny_pure ⟨plainId_quiet plain_update_loop _, ?_⟩
    exact ih (i + 1) h₂ _ O' (by omega) R₂ hO₂ hSt'

theorem CW_dictPairs {cx : Cx} {d : Nat} {H : Hp} {Q : AV → Hp → Prop} {l : Addr} {ro : Bool} {ts : List Addr} {ks : List (Int × AV)} (hl : H l = some (.list ro (ts.map .ref))) (hlen : ts.length = ks.length) (hsz : ks.length ≤ 2 ^ 20)
    (ht : ∀ (i : Nat) (t : Addr) (kv : Int × AV), ts[i]? = some t → ks[i]? = some kv → H t = some (.tuple [.int kv.1, kv.2]))
    (hq : ∀ D, H D = none → (D == sysModules) = false → Q (.ref D) (H.put D (.dict (mkDict ks)))) : CW cx d (.type "dict") [.ref l] H Q := by
  intro A P s E Q' vs hA Rr hv k
  obtain ⟨V, rfl, hV⟩ := vrs1 hv
  cases hV
  refine callType_codes (Q₁ := fun obj s₁ => obj = .ref s.heap.objs.size ∧ s₁ = { s with heap := s.heap.push { cls := .type "dict", data := .dict #[] } }) F.kt_called_dict (F.kt_typeCall_dict_1 _) F.entry_dict_init (kt_code_dict_new _ ⟨rfl, rfl⟩) ?_
  rintro obj s₁ ⟨rfl, rfl⟩
  have hD := (Rr.fresh (get_size _)).2
  have hm := notModules Rr
  have R₁ : Rep cx P (H.put s.heap.objs.size (.dict [])) (s.heap.push { cls := .type "dict", data := .dict #[] }) := Rr.push (o := .dict []) ⟨#[], 0, [], ⟨rfl, rfl, rfl⟩, rfl, fun _ he => by simp at he, .nil, by simp, trivial⟩ rfl
  have hq' := hq _ hD hm
  generalize hDe : s.heap.objs.size = D at hD hm R₁ hq' ⊢
  generalize s.heap.push { cls := .type "dict", data := .dict #[] } = h₁ at R₁ ⊢
  have hlD : l ≠ D := ne_of_new hD hl
  obtain ⟨OD, hOD, es, ep, vs', hx1, hx2⟩ := R₁.obj D _ (Hp.put_self ..)
  have hTD : ({ s with heap := h₁ } : Shared).TypeIs (.ref D) "dict" := ⟨_, hOD, hx1.1⟩
  refine ⟨hTD, F.args_dict_init_2 _ _, ?_⟩
  obtain ⟨items, n, hO, hr⟩ := R₁.isList ((Hp.put_ne hlD).trans hl)
  unfold Builtin.«dict.__init__»
  refine wpAny_bind ?_
  unfold Builtin.Dict.selfAndRest
  refine wpAny_bind (wpAny_notOrdered_dict hTD ?_)
  show wpAny _ _ (pure (D, [Value.ref l])) _ _ _
  refine wpAny_pure ?_
  show wpAny _ _ (Builtin.Dict.updateFrom "dict.__init__" D (.ref l) [] .none) _ _ _
  unfold Builtin.Dict.updateFrom
  refine wpAny_bind (wpAny_typeOf (T := "list") ⟨_, hO, rfl⟩ ?_)
  rw [if_pos (by decide)]
  refine wpAny_bind (getAttrQ_keys hO hA.handled fun h₂ tk₂ e₂ => ?_)
  replace e₂ : ∀ b o, h₁.get? b = some o → h₂.get? b = some o := e₂
  have R₂ := R₁.grow e₂
  rw [if_pos (by rfl)]
  refine wpAny_bind (wpAny_rule ?_)
  refine wpAny_bind (iter_of (.list ((Hp.put_ne hlD).trans hl)) rfl R₂ fun I O St W hI hkeep hSt eI hfr => ?_)
  have hI' : h₂.get? I = none := hI
  have fI := R₂.fresh hI'
  have hDI : D ≠ I := fun e => by rw [← e, Hp.put_self] at fI; cases fI.2
  have hHI : H I = none := by have := fI.2; rwa [Hp.put_ne (Ne.symm hDI)] at this
  have R₃ : Rep cx P (H.put D (.dict [])) (h₂.push O) := R₂.grow fun b o e => Heap.get?_push_of_some _ e
  have hOI : (h₂.push O).get? I = some O := by rw [eI]; exact Heap.get?_push_size _ hfr
  refine wpAny_pure ⟨plainId_quiet plain_update_loop _, ?_⟩
  refine dict_loop (s := s) (A := A.in1) hA.handled W hl hlen hsz ht fI.1 hHI hDI hD (fun h' tk' R' => ?_) ts.length 0 (h₂.push O) tk₂ O (by omega) (by simpa [mkDict] using R₃) hOI hSt
  exact ⟨rfl, k _ _ _ _ _ hq' rfl R'⟩
end Mine

-- Core22
namespace Mine
open PySem

/-! ## the numbers -/
structure IsMex (ns : List Nat) (m : Nat) : Prop where
  out : m ∉ ns
  low : ∀ j < m, j ∈ ns
theorem IsMex.uniq {ns : List Nat} {a b : Nat} (h : IsMex ns a) (h' : IsMex ns b) : a = b := by
  rcases Nat.lt_trichotomy a b with z | z | z
  · exact absurd (h'.low a z) h.out
  · exact z
  · exact absurd (h.low b z) h'.out
theorem low_le {ns : List Nat} {m : Nat} (h : ∀ j < m, j ∈ ns) : m ≤ ns.length := by
  have := nodup_sub_length (l := List.range m) (m := ns) List.nodup_range fun x hx => h x (List.mem_range.mp hx)
  simpa using this
theorem IsMex.le {ns : List Nat} {m : Nat} (h : IsMex ns m) : m ≤ ns.length := low_le h.low

def Nums (web : List (List Nat)) (f : Nat → Nat) : Prop := ∀ s < web.length, IsMex ((web.getD s []).map f) (f s)
theorem Nums.le {web : List (List Nat)} {f : Nat → Nat} (G : GoodWeb web) (h : Nums web f) {s : Nat} (hs : s < web.length) : f s ≤ web.length := by
  have := (h s hs).le
  rw [List.length_map] at this
  exact Nat.le_trans this (G.rowLen s)
theorem Nums.uniq {web : List (List Nat)} {f g : Nat → Nat} (G : GoodWeb web) (C : Calm web) (hf : Nums web f) (hg : Nums web g) : ∀ s < web.length, f s = g s := by
  obtain ⟨rank, hr⟩ := C
  have : ∀ k s, rank s ≤ k → s < web.length → f s = g s := by
    intro k
    induction k with
    | zero =>
      intro s hk hs
      have e : web.getD s [] = [] := by
        cases q : web.getD s [] with
        | nil => rfl
        | cons x r => have := hr s hs x (by rw [q]; exact .head _); omega
      have h1 := hf s hs; have h2 := hg s hs
      rw [e] at h1 h2
      exact h1.uniq h2
    | succ k ih =>
      intro s hk hs
      have e : (web.getD s []).map f = (web.getD s []).map g := List.map_congr_left fun x hx => ih x (by have := hr s hs x hx; omega) ((G.row s).2 x hx)
      have h1 := hf s hs; have h2 := hg s hs
      rw [e] at h1
      exact h1.uniq h2
  exact fun s hs => this (rank s) s (Nat.le_refl _) hs

/-- numbers of the first spots of an order -/
theorem nums_turn {web : List (List Nat)} {order : List Nat} {f : Nat → Nat} {i x m : Nat} (F : Found web order) (hx : order[i]? = some x)
    (hI : ∀ s ∈ order.take i, IsMex ((web.getD s []).map f) (f s)) (hm : IsMex ((web.getD x []).map f) m) :
    ∀ s ∈ order.take (i + 1), IsMex ((web.getD s []).map fun t => if t = x then m else f t) (if s = x then m else f s) := by
  have hn := nodup_take_not F.nodup hx
  have same : ∀ row : List Nat, (∀ g ∈ row, g ∈ order.take i) → (row.map fun t => if t = x then m else f t) = row.map f := fun row h =>
    List.map_congr_left fun g hg => if_neg fun (e : g = x) => hn (by rw [← e]; exact h g hg)
  intro s hs
  rw [List.take_add_one, hx] at hs
  rcases List.mem_append.mp hs with h | h
  · obtain ⟨j, hj, e⟩ := List.mem_iff_getElem.mp h
    rw [List.getElem_take] at e
    rw [List.length_take] at hj
    have hg : ∀ g ∈ web.getD s [], g ∈ order.take i := fun g hg => by
      have := F.topo j s (by rw [← e]; exact List.getElem?_eq_getElem (by omega)) g hg
      have e2 : (order.take i).take j = order.take j := by rw [List.take_take, Nat.min_eq_left (by omega)]
      rw [← e2] at this; exact List.mem_of_mem_take this
    rw [same _ hg, if_neg (fun (e : s = x) => hn (by rw [← e]; exact h))]
    exact hI s h
  · have : s = x := by simpa using h
    subst this
    rw [same _ (F.topo i s hx), if_pos rfl]; exact hm

/-! ## data to be compared -/
def dInts (ns : List Int) : PyData := .list (ns.map .int)
theorem iss_ints (H : Hp) : ∀ ns : List Int, Iss H (ns.map .int) (ns.map .int)
  | [] => by simp [Iss]
  | n :: r => by rw [List.map_cons, List.map_cons, Iss]; exact ⟨by rw [Is], iss_ints H r⟩
theorem is_ints {H : Hp} {a : Addr} {ro : Bool} {ns : List Int} (h : H a = some (.list ro (ns.map .int))) : Is H (.ref a) (dInts ns) := by
  unfold dInts; rw [Is]; exact ⟨a, ro, _, rfl, h, iss_ints H ns⟩
theorem lay_ints : ∀ ns : List Int, PyData.canLayAll0 (ns.map .int) = true
  | [] => by simp [PyData.canLayAll0]
  | n :: r => by simp only [List.map_cons, PyData.canLayAll0, PyData.canLay0, lay_ints r, Bool.and_self]
theorem lay_dInts (ns : List Int) : (dInts ns).canLay0 = true := by unfold dInts; rw [PyData.canLay0]; exact lay_ints ns
theorem depth_ints : ∀ ns : List Int, PyData.depthAll (ns.map .int) = 0
  | [] => by simp [PyData.depthAll]
  | n :: r => by simp only [List.map_cons, PyData.depthAll, PyData.depth, depth_ints r]; rfl
theorem depth_dInts (ns : List Int) : (dInts ns).depth = 1 := by unfold dInts; rw [PyData.depth, depth_ints]
theorem eqv_ints : ∀ ns ms : List Int, PyData.eqvAll (ns.map .int) (ms.map .int) = decide (ns = ms)
  | [], [] => by simp [PyData.eqvAll]
  | [], _ :: _ => by simp [PyData.eqvAll]
  | _ :: _, [] => by simp [PyData.eqvAll]
  | n :: r, m :: q => by
    simp only [List.map_cons, PyData.eqvAll, PyData.eqv, eqv_ints r q]
    by_cases h1 : n = m <;> by_cases h2 : r = q <;> simp [h1, h2]
theorem eqv_dInts (ns ms : List Int) : PyData.eqv (dInts ns) (dInts ms) = decide (ns = ms) := by unfold dInts; rw [PyData.eqv]; exact eqv_ints ns ms

def castN (ns : List Nat) : List Int := ns.map fun (n : Nat) => (n : Int)
theorem castN_inj {a b : List Nat} (h : castN a = castN b) : a = b := by
  unfold castN at h
  exact (List.map_inj_right (fun (x y : Nat) (e : (x : Int) = (y : Int)) => by omega)).mp h
def dWeb (web : List (List Nat)) : PyData := .list (web.map fun ns => dInts (castN ns))
theorem eqv_rows : ∀ v w : List (List Nat), PyData.eqvAll (v.map fun ns => dInts (castN ns)) (w.map fun ns => dInts (castN ns)) = decide (v = w)
  | [], [] => by simp [PyData.eqvAll]
  | [], _ :: _ => by simp [PyData.eqvAll]
  | _ :: _, [] => by simp [PyData.eqvAll]
  | a :: r, b :: q => by
    simp only [List.map_cons, PyData.eqvAll, eqv_dInts, eqv_rows r q]
    by_cases h1 : a = b
    · subst h1; by_cases h2 : r = q <;> simp [h2]
    · have : castN a ≠ castN b := fun e => h1 (castN_inj e)
      simp [h1, this]
theorem eqv_dWeb (v w : List (List Nat)) : PyData.eqv (dWeb v) (dWeb w) = decide (v = w) := by unfold dWeb; rw [PyData.eqv]; exact eqv_rows v w
theorem lay_rows : ∀ v : List (List Nat), PyData.canLayAll0 (v.map fun ns => dInts (castN ns)) = true
  | [] => by simp [PyData.canLayAll0]
  | n :: r => by simp only [List.map_cons, PyData.canLayAll0, lay_dInts, lay_rows r, Bool.and_self]
theorem lay_dWeb (v : List (List Nat)) : (dWeb v).canLay0 = true := by unfold dWeb; rw [PyData.canLay0]; exact lay_rows v
theorem depth_rows : ∀ v : List (List Nat), PyData.depthAll (v.map fun ns => dInts (castN ns)) ≤ 1
  | [] => by simp [PyData.depthAll]
  | n :: r => by simp only [List.map_cons, PyData.depthAll, depth_dInts]; have := depth_rows r; omega
theorem depth_dWeb (v : List (List Nat)) : (dWeb v).depth ≤ 2 := by unfold dWeb; rw [PyData.depth]; have := depth_rows v; omega
theorem iss_rows {H : Hp} : ∀ {rs : List Addr} {web : List (List Nat)}, rs.length = web.length → (∀ (i : Nat) (r : Addr) (ns : List Nat), rs[i]? = some r → web[i]? = some ns → H r = some (.list false (rowV ns))) → Iss H (rs.map .ref) (web.map fun ns => dInts (castN ns))
  | [], [], _, _ => by simp [Iss]
  | r :: rs, ns :: web, hl, h => by
    simp only [List.map_cons, Iss]
    refine ⟨is_ints (ro := false) (by have := h 0 r ns rfl rfl; rw [rowV_eq] at this; exact this), iss_rows (by simpa using hl) fun i r' ns' h1 h2 => h (i + 1) r' ns' (by simpa using h1) (by simpa using h2)⟩
  | [], _ :: _, hl, _ => by simp at hl
  | _ :: _, [], hl, _ => by simp at hl
theorem IsWeb.is {H : Hp} {a : Addr} {web : List (List Nat)} (W : IsWeb H a web) : Is H (.ref a) (dWeb web) := by
  obtain ⟨rs, W⟩ := W
  unfold dWeb; rw [Is]
  exact ⟨a, false, _, rfl, W.top, iss_rows W.len W.row⟩
theorem tabV_row (n : Nat) (f : Nat → Nat) : (tabV n fun s => AV.int (f s)) = rowV ((List.range n).map f) := by simp [tabV, rowV]

section
variable {cx : Cx} {d : Nat} {H : Hp} {Q : AV → Hp → Prop}
theorem Op_eqWeb {a b : Addr} {v w : List (List Nat)} (hv : IsWeb H a v) (hw : IsWeb H b w) (hq : Q (.bool (decide (v = w))) H) : OpW cx (d + 1) (compareOp .Eq) (.ref a) (.ref b) H Q :=
  Op_eqD hv.is hw.is (lay_dWeb v) (lay_dWeb w) (by have := depth_dWeb v; omega) (by rw [eqv_dWeb]; exact hq)
end

theorem refs_of {p : Addr → Prop} : ∀ {ys : List AV}, (∀ y ∈ ys, ∃ t, y = AV.ref t ∧ p t) → ∃ ts : List Addr, ys = ts.map .ref
  | [], _ => ⟨[], rfl⟩
  | y :: r, h => by
    obtain ⟨t, e, _⟩ := h y (.head _)
    obtain ⟨ts, e'⟩ := refs_of fun z hz => h z (.tail _ hz)
    exact ⟨t :: ts, by rw [e, e']; rfl⟩
end Mine

-- Core23
namespace Mine
open PySem PySem.Calls PyProof.Rows

section
variable {cx : Cx} {d : Nat} {sc : Scope} {loc : Loc} {H : Hp} {Q : AV → Hp → Prop} {pos : Pos}

def IsMax (ns : List Int) (m : Int) : Prop := m ∈ ns ∧ ∀ x ∈ ns, x ≤ m

end

/-! ## the lengths -/
def lenL (ns : List Nat) : List Int := ns.map fun (n : Nat) => 1 + (n : Int)
def IsLen (ns : List Nat) (m : Nat) : Prop := IsMax (0 :: lenL ns) m
def Ruled (R : List Nat → Nat → Prop) (web : List (List Nat)) (f : Nat → Nat) : Prop := ∀ s < web.length, R ((web.getD s []).map f) (f s)
end Mine

-- Core24
set_option linter.unusedVariables false
set_option linter.unusedSimpArgs false
namespace Mine
open PySem PyProof.Rows

/-! ## sets of nums, only their length -/
def setLen (n : Nat) (O : Obj) : Prop := ∃ es ep t, O.ExactSet ∧ O.data = .set es ep t ∧ t.fits es.size = true ∧ es.size < scanBound ∧ es.size = n

theorem intsAre_of : ∀ {ns : List Int} {vs : List Value}, VRs (ns.map .int) vs → IntsAre vs ns
  | [], [], _ => .nil
  | n :: ns, v :: vs, h => by
    obtain ⟨⟨t, rfl⟩, h2⟩ := h
    exact .cons n t (intsAre_of h2)
  | [], _ :: _, h => h.elim
  | _ :: _, [], h => h.elim

section
variable {cx : Cx} {d : Nat} {H : Hp} {Q : AV → Hp → Prop}
end

section
variable {cx : Cx} {d : Nat} {sc scope : Scope} {loc : Loc} {H : Hp} {x : Str} {elt c : Expr} {keep : Hp → Prop} {Qf : List AV → Hp → Prop} {α : Type}
/-- the elements may make things but are told beforehand -/
theorem CompW_mapG (xs : List α) (g f : α → AV) (hk : ∀ H', Ext H H' → keep H')
    (h : ∀ a H', a ∈ xs → Ext H H' → EV cx d (relab sc scope) (upd (capt scope loc) x (g a)) elt H' fun y H₂ => y = f a ∧ Ext H' H₂)
    (hq : ∀ H', Ext H H' → Qf (xs.map f) H') :
    CompW cx d sc scope loc x [] elt (xs.map g) keep H Qf := by
  refine ⟨fun i ys H' => Ext H H' ∧ ys = (xs.take i).map f, ⟨.refl H, rfl⟩, ?_, ?_, ?_⟩
  · rintro i ys H' ⟨e, _⟩; exact hk H' e
  · rintro i w ys H' hi ⟨e, rfl⟩
    simp only [List.getElem?_map, Option.map_eq_some_iff] at hi
    obtain ⟨a, ha, rfl⟩ := hi
    simp only [Tests, if_true]
    refine EV.mono (h a H' (List.mem_of_getElem? ha) e) ?_
    rintro v H₂ ⟨rfl, e2⟩
    exact ⟨e.trans e2, by rw [List.take_add_one, ha, List.map_append]; rfl⟩
  · rintro ys H' ⟨e, rfl⟩
    rw [List.length_map, List.take_length]; exact hq H' e
end

/-! ## rings -/
structure IsRing (web : List (List Nat)) (ring : List Nat) : Prop where
  pos : 0 < ring.length
  nodup : ring.Nodup
  lt : ∀ x ∈ ring, x < web.length
  step : ∀ k x y, ring[k]? = some x → ring[(k + 1) % ring.length]? = some y → y ∈ web.getD x []

structure OnWay (web : List (List Nat)) (found row : List Nat) (spot : Nat) : Prop where
  nodup : row.Nodup
  lt : ∀ x ∈ row, x < web.length
  sl : spot < web.length
  so : spot ∉ found
  chain : ∀ i x y, row[i]? = some x → (row ++ [spot])[i + 1]? = some y → y ∈ web.getD x []

/-! ## slices with plain bounds -/
theorem bnd_nat (n dflt p : Nat) : bnd n dflt (some (p : Int)) = min p n := by simp only [bnd]; omega
theorem pySlice_from {α : Type} (vs : List α) {p : Nat} (h : p ≤ vs.length) : pySlice vs (some (p : Int)) none = vs.drop p := by
  unfold pySlice
  rw [bnd_nat, Nat.min_eq_left h]
  show (vs.drop p).take (vs.length - p) = vs.drop p
  rw [List.take_of_length_le (by rw [List.length_drop]; omega)]
theorem pySlice_to {α : Type} (vs : List α) (p : Nat) : pySlice vs none (some (p : Int)) = vs.take p := by
  unfold pySlice
  rw [bnd_nat]
  show (vs.drop 0).take (min p vs.length - 0) = vs.take p
  rw [List.drop_zero, Nat.sub_zero]
  rcases Nat.le_total p vs.length with h | h
  · rw [Nat.min_eq_left h]
  · rw [Nat.min_eq_right h, List.take_length, List.take_of_length_le h]
end Mine

-- MXor
namespace Mine

/-! ## numbers laid over one another -/
theorem xor_mod_two (a b : Nat) : (a ^^^ b) % 2 = (if a % 2 ≠ b % 2 then 1 else 0) := by
  have h := Nat.testBit_xor a b 0
  simp only [Nat.testBit_zero] at h
  have ha : a % 2 < 2 := Nat.mod_lt _ (by decide)
  have hb : b % 2 < 2 := Nat.mod_lt _ (by decide)
  have hx : (a ^^^ b) % 2 < 2 := Nat.mod_lt _ (by decide)
  rcases (by omega : a % 2 = 0 ∨ a % 2 = 1) with e1 | e1 <;> rcases (by omega : b % 2 = 0 ∨ b % 2 = 1) with e2 | e2 <;>
    rcases (by omega : (a ^^^ b) % 2 = 0 ∨ (a ^^^ b) % 2 = 1) with e3 | e3 <;> rw [e1, e2, e3] at h <;> rw [e1, e2, e3] <;> first | rfl | (exact absurd h (by decide))
theorem xor_split (a b : Nat) : a ^^^ b = 2 * (a / 2 ^^^ b / 2) + (if a % 2 ≠ b % 2 then 1 else 0) := by
  have h1 := Nat.div_add_mod (a ^^^ b) 2
  rw [Nat.xor_div_two, xor_mod_two] at h1
  omega

/-- the nim sum -/
def nx (a b : Int) : Int := ((a.toNat ^^^ b.toNat : Nat) : Int)
theorem nx_nonneg (a b : Int) : 0 ≤ nx a b := Int.natCast_nonneg _
theorem nx_split {x y : Int} (hx : 0 ≤ x) (hy : 0 ≤ y) : nx x y = 2 * nx (x / 2) (y / 2) + (if x % 2 ≠ y % 2 then 1 else 0) := by
  unfold nx
  rw [xor_split]
  have e1 : (x / 2).toNat = x.toNat / 2 := by omega
  have e2 : (y / 2).toNat = y.toNat / 2 := by omega
  rw [e1, e2]
  have e3 : (x % 2 ≠ y % 2) ↔ (x.toNat % 2 ≠ y.toNat % 2) := by omega
  by_cases h : x % 2 ≠ y % 2
  · rw [if_pos h, if_pos (e3.mp h)]; omega
  · rw [if_neg h, if_neg (fun z => h (e3.mpr z))]; omega
theorem nx_zero {a : Int} (h : 0 ≤ a) : nx 0 a = a := by unfold nx; simp; omega
theorem nx_zero' {a : Int} (h : 0 ≤ a) : nx a 0 = a := by unfold nx; simp; omega
theorem nx_assoc (a b c : Int) : nx (nx a b) c = nx a (nx b c) := by unfold nx; simp only [Int.toNat_natCast]; rw [Nat.xor_assoc]
def nxs (ns : List Int) : Int := ns.foldl nx 0
theorem foldl_nx_nonneg : ∀ (ns : List Int) (a : Int), 0 ≤ a → 0 ≤ ns.foldl nx a
  | [], _, h => h
  | _ :: r, _, _ => foldl_nx_nonneg r _ (nx_nonneg _ _)
theorem nxs_nonneg (ns : List Int) : 0 ≤ nxs ns := foldl_nx_nonneg ns 0 (Int.le_refl 0)
theorem foldl_nx (ns : List Int) : ∀ a : Int, 0 ≤ a → ns.foldl nx a = nx a (nxs ns) := by
  unfold nxs
  induction ns with
  | nil => intro a h; rw [List.foldl_nil, List.foldl_nil, nx_zero' h]
  | cons n r ih =>
    intro a ha
    rw [List.foldl_cons, List.foldl_cons, ih _ (nx_nonneg _ _), ih _ (nx_nonneg 0 n), ← nx_assoc, ← nx_assoc]
    have e : nx a n = nx (nx a 0) n := by rw [nx_zero' ha]
    rw [e]
theorem nxs_cons (n : Int) (ns : List Int) (h : 0 ≤ n) : nxs (n :: ns) = nx n (nxs ns) := by
  show ns.foldl nx (nx 0 n) = _
  rw [nx_zero h, foldl_nx ns n h]
/-- the count of those that bear the power -/
def cnt (k : Nat) (ns : List Int) : Nat := (ns.filter fun n => decide (n / ((2 ^ k : Nat) : Int) % 2 = 1)).length

theorem bit_nx (k : Nat) {a b : Int} (ha : 0 ≤ a) (hb : 0 ≤ b) : nx a b / ((2 ^ k : Nat) : Int) % 2 = (if (a / ((2 ^ k : Nat) : Int) % 2 = 1) ↔ (b / ((2 ^ k : Nat) : Int) % 2 = 1) then 0 else 1) := by
  obtain ⟨m, rfl⟩ := Int.eq_ofNat_of_zero_le ha
  obtain ⟨n, rfl⟩ := Int.eq_ofNat_of_zero_le hb
  unfold nx
  simp only [Int.toNat_natCast]
  have h := Nat.testBit_xor m n k
  simp only [Nat.testBit_eq_decide_div_mod_eq] at h
  have e : ∀ x : Nat, ((x : Int) / ((2 ^ k : Nat) : Int) % 2 = 1) ↔ (x / 2 ^ k % 2 = 1) := fun x => by rw [← Int.natCast_ediv]; omega
  have e0 : ((m ^^^ n : Nat) : Int) / ((2 ^ k : Nat) : Int) % 2 = (((m ^^^ n) / 2 ^ k % 2 : Nat) : Int) := by rw [← Int.natCast_ediv]; omega
  rw [e0]
  simp only [e]
  have hx : (m ^^^ n) / 2 ^ k % 2 < 2 := Nat.mod_lt _ (by decide)
  rcases (by omega : (m ^^^ n) / 2 ^ k % 2 = 0 ∨ (m ^^^ n) / 2 ^ k % 2 = 1) with e3 | e3 <;> by_cases h1 : m / 2 ^ k % 2 = 1 <;> by_cases h2 : n / 2 ^ k % 2 = 1 <;> rw [e3] at h ⊢ <;>
    first | (simp [h1, h2]; done) | (exact absurd h (by simp [h1, h2]))

theorem bit_nxs (k : Nat) (ns : List Int) (h : ∀ n ∈ ns, 0 ≤ n) : nxs ns / ((2 ^ k : Nat) : Int) % 2 = ((cnt k ns % 2 : Nat) : Int) := by
  induction ns with
  | nil => simp [nxs, cnt]
  | cons n r ih =>
    have ih' := ih fun m hm => h m (.tail _ hm)
    have hn := h n (.head _)
    rw [nxs_cons n r hn, bit_nx k hn (nxs_nonneg r), ih']
    unfold cnt at *
    rw [List.filter_cons]
    by_cases e : n / ((2 ^ k : Nat) : Int) % 2 = 1
    · simp only [e, decide_true, if_true, List.length_cons, true_iff]
      split <;> omega
    · simp only [e, decide_false, Bool.false_eq_true, if_false, false_iff]
      split <;> omega

theorem mod_succ (x : Int) (hx : 0 ≤ x) (k : Nat) : x % ((2 ^ (k + 1) : Nat) : Int) = x % ((2 ^ k : Nat) : Int) + ((2 ^ k : Nat) : Int) * (x / ((2 ^ k : Nat) : Int) % 2) := by
  obtain ⟨n, rfl⟩ := Int.eq_ofNat_of_zero_le hx
  have h := Nat.mod_mul (x := n) (a := 2 ^ k) (b := 2)
  rw [← Nat.pow_succ] at h
  have e : (n : Int) % ((2 ^ (k + 1) : Nat) : Int) = ((n % 2 ^ (k + 1) : Nat) : Int) := by omega
  rw [e, h]
  push_cast
  rfl
theorem nxs_lt (k : Nat) (ns : List Int) (h : ∀ n ∈ ns, 0 ≤ n ∧ n < ((2 ^ k : Nat) : Int)) : nxs ns < ((2 ^ k : Nat) : Int) := by
  induction ns with
  | nil => show (0 : Int) < _; have := Nat.pow_pos (n := k) (show 0 < 2 by decide); omega
  | cons n r ih =>
    have h1 := h n (.head _)
    have h2 := ih fun m hm => h m (.tail _ hm)
    have h3 := nxs_nonneg r
    rw [nxs_cons n r h1.1]
    unfold nx
    have := Nat.xor_lt_two_pow (x := n.toNat) (y := (nxs r).toNat) (n := k) (by omega) (by omega)
    omega
end Mine

-- Core25
set_option linter.unusedVariables false
set_option linter.unusedSimpArgs false
namespace Mine
open PySem PyProof.Rows

section
variable {cx : Cx} {d : Nat} {H : Hp} {Q : AV → Hp → Prop}
theorem Op_neBool {a b : Bool} (hq : Q (.bool (a != b)) H) : OpW cx (d + 1) (compareOp .NotEq) (.bool a) (.bool b) H Q :=
  Op_neD (x := .bool a) (y := .bool b) (by rw [Is]) (by rw [Is]) (by simp [PyData.canLay0]) (by simp [PyData.canLay0]) (by simp [PyData.depth]) (by
    have : (!PyData.eqv (.bool a) (.bool b)) = (a != b) := by cases a <;> cases b <;> simp [PyData.eqv]
    rw [this]; exact hq)
end

section
variable {cx : Cx} {d : Nat} {sc scope : Scope} {loc : Loc} {x : Str} {elt : Expr} {keep : Hp → Prop} {H : Hp} {Qf : List AV → Hp → Prop} {α : Type}
end

/-- rows told behind make a web -/
theorem webOf_rows {H H' : Hp} {n : Nat} {c : Nat → List Nat} {rs : List Addr} {f : Addr} (he : Ext H H') (hlen : rs.length = (List.range n).length) (hn : rs.Nodup) (hfr : ∀ r ∈ rs, H r = none)
    (hrow : ∀ (i : Nat) (a : Nat) (r : Addr), (List.range n)[i]? = some a → rs[i]? = some r → H' r = some (.list false (rowV (c a)))) (hf : H' f = none) :
    NewWeb H (H'.put f (.list false (rs.map .ref))) f ((List.range n).map c) := by
  refine ⟨rs, ⟨Hp.put_self .., by simpa using hlen, fun i r ns h1 h2 => ?_, hn, fun hmem => ?_⟩, he.none hf, hfr⟩
  · simp only [List.getElem?_map, Option.map_eq_some_iff] at h2
    obtain ⟨j, hj, rfl⟩ := h2
    have hr := hrow i j r hj h1
    rw [Hp.put_ne (ne_of_new hf hr), hr]
  · obtain ⟨k, hk, e⟩ := List.mem_iff_getElem.mp hmem
    have hkx : k < n := by rw [List.length_range] at hlen; omega
    have := hrow k k f (by simp [hkx]) (by rw [← e]; simp [hk])
    rw [hf] at this; cases this

theorem WebAt.off {H : Hp} {a r : Addr} {rs : List Addr} {web : List (List Nat)} {o : AObj} (W : WebAt H a rs web) (h1 : a ≠ r) (h2 : r ∉ rs) : WebAt (H.put r o) a rs web :=
  ⟨(Hp.put_ne h1).trans W.top, W.len, fun i q ns k1 k2 => (Hp.put_ne (fun e => h2 (by rw [← e]; exact List.mem_of_getElem? k1))).trans (W.row i q ns k1 k2), W.nodup, W.apart⟩

/-! ## the number of a row -/
def rowNum (f : Nat → Nat) (ns : List Nat) : Int := nxs (castN (ns.map f))
theorem castN_nonneg {ns : List Nat} : ∀ n ∈ castN ns, 0 ≤ n := fun n hn => by
  obtain ⟨m, _, rfl⟩ := List.mem_map.mp hn; omega
theorem castN_ok {ns : List Nat} {B : Nat} (h : ∀ n ∈ ns, n < 2 ^ B) : ∀ n ∈ castN ns, 0 ≤ n ∧ n < ((2 ^ B : Nat) : Int) := fun n hn => by
  obtain ⟨m, hm, rfl⟩ := List.mem_map.mp hn
  have := h m hm
  omega

/-! ## heaps -/
def heapWeb (n : Nat) (takes : List Nat) : List (List Nat) := (List.range n).map fun k => (takes.filter fun t => decide (t ≤ k)).map fun t => k - t
end Mine

-- Core26
set_option linter.unusedVariables false
set_option linter.unusedSimpArgs false
namespace Mine
open PySem PyProof.Rows

/-! ## one, other = (other, one) -/
section
variable {cx : Cx} {d : Nat} {sc : Scope} {loc : Loc} {H : Hp} {QF : AF → Loc → Hp → Prop}
end

/-! ## a list of webs and rows against its like -/
section
variable {cx : Cx} {d : Nat} {H : Hp} {Q : AV → Hp → Prop}
/-- [web, one, other] -/
def dHand3 (web : List (List Nat)) (one other : List Nat) : List PyData := [dWeb web, dInts (castN one), dInts (castN other)]
end

/-! ## the numbers stand of themselves -/
theorem mex_exist (ns : List Nat) : ∃ m, IsMex ns m := by
  apply Classical.byContradiction
  intro h
  have all : ∀ m, ∀ j < m, j ∈ ns := by
    intro m
    induction m with
    | zero => intro j hj; omega
    | succ m ih =>
      intro j hj
      rcases Nat.lt_or_ge j m with z | z
      · exact ih j z
      · have : j = m := by omega
        subst this
        exact Classical.byContradiction fun hn => h ⟨j, hn, ih⟩
  have := low_le (all (ns.length + 1))
  omega
theorem rank_bound (rank : Nat → Nat) : ∀ n : Nat, ∃ K, ∀ s < n, rank s < K
  | 0 => ⟨0, fun s h => by omega⟩
  | n + 1 => by
    obtain ⟨K, h⟩ := rank_bound rank n
    refine ⟨max K (rank n + 1), fun s hs => ?_⟩
    rcases Nat.lt_or_ge s n with z | z
    · have := h s z; omega
    · have : s = n := by omega
      subst this; omega
open Classical in
theorem nums_exist {web : List (List Nat)} (G : GoodWeb web) (C : Calm web) : ∃ f, Nums web f := by
  obtain ⟨rank, hr⟩ := C
  have key : ∀ k, ∃ f : Nat → Nat, ∀ s < web.length, rank s < k → IsMex ((web.getD s []).map f) (f s) := by
    intro k
    induction k with
    | zero => exact ⟨fun _ => 0, fun s _ h => by omega⟩
    | succ k ih =>
      obtain ⟨f, hf⟩ := ih
      refine ⟨fun s => if rank s = k then (mex_exist ((web.getD s []).map f)).choose else f s, fun s hs hk => ?_⟩
      have hrow : (web.getD s []).map (fun s => if rank s = k then (mex_exist ((web.getD s []).map f)).choose else f s) = (web.getD s []).map f := by
        apply List.map_congr_left
        intro g hg
        have := hr s hs g hg
        rw [if_neg (by omega)]
      rw [hrow]
      by_cases e : rank s = k
      · simp only [e, if_true]
        exact (mex_exist ((web.getD s []).map f)).choose_spec
      · simp only [e, if_false]
        exact hf s hs (by omega)
  obtain ⟨K, hK⟩ := rank_bound rank web.length
  obtain ⟨f, hf⟩ := key K
  exact ⟨f, fun s hs => hf s hs (hK s hs)⟩
end Mine

-- MNim
namespace Mine

theorem lt_of_bit {x y : Nat} (i : Nat) (hx : x.testBit i = false) (hy : y.testBit i = true) (h : ∀ j, i < j → x.testBit j = y.testBit j) : x < y := by
  have e : x / 2 ^ (i + 1) = y / 2 ^ (i + 1) := by
    apply Nat.eq_of_testBit_eq
    intro j
    rw [Nat.testBit_div_two_pow, Nat.testBit_div_two_pow]
    exact h _ (by omega)
  rw [Nat.testBit_eq_decide_div_mod_eq] at hx hy
  have hx' : x / 2 ^ i % 2 = 0 := by simp at hx; omega
  have hy' : y / 2 ^ i % 2 = 1 := by simpa using hy
  rw [Nat.pow_succ, ← Nat.div_div_eq_div_mul, ← Nat.div_div_eq_div_mul] at e
  have hlt : x / 2 ^ i < y / 2 ^ i := by omega
  have hp : 0 < 2 ^ i := Nat.pow_pos (by decide)
  rcases Nat.lt_or_ge x y with z | z
  · exact z
  · have := Nat.div_le_div_right (c := 2 ^ i) z
    omega

theorem top_bit {s : Nat} (h : s ≠ 0) : ∃ k, s.testBit k = true ∧ ∀ j, k < j → s.testBit j = false := by
  refine ⟨s.log2, ?_, fun j hj => ?_⟩
  · have h1 := Nat.log2_self_le h
    have h2 := Nat.lt_log2_self (n := s)
    rw [Nat.testBit_eq_decide_div_mod_eq]
    have : s / 2 ^ s.log2 = 1 := by
      rw [Nat.pow_succ] at h2
      exact Nat.div_eq_of_lt_le (by omega) (by omega)
    rw [this]; rfl
  · apply Nat.testBit_lt_two_pow
    have h2 := Nat.lt_log2_self (n := s)
    exact Nat.lt_of_lt_of_le h2 (Nat.pow_le_pow_right (by decide) hj)
theorem xor_drop {a s k : Nat} (h1 : s.testBit k = true) (h2 : ∀ j, k < j → s.testBit j = false) (h3 : a.testBit k = true) : a ^^^ s < a := by
  refine lt_of_bit k ?_ h3 fun j hj => ?_
  · rw [Nat.testBit_xor, h1, h3]; rfl
  · rw [Nat.testBit_xor, h2 j hj, Bool.xor_false]

def xs (ns : List Nat) : Nat := ns.foldr (fun a b => a ^^^ b) 0
theorem xs_nil : xs [] = 0 := rfl
theorem xs_cons (a : Nat) (r : List Nat) : xs (a :: r) = a ^^^ xs r := rfl
theorem xs_bit {k : Nat} : ∀ {ns : List Nat}, (xs ns).testBit k = true → ∃ (i a : Nat), ns[i]? = some a ∧ a.testBit k = true
  | [], h => by rw [xs_nil, Nat.zero_testBit] at h; cases h
  | a :: r, h => by
    rw [xs_cons, Nat.testBit_xor] at h
    cases ha : a.testBit k with
    | true => exact ⟨0, a, rfl, ha⟩
    | false =>
      rw [ha, Bool.false_xor] at h
      obtain ⟨i, b, h1, h2⟩ := xs_bit h
      exact ⟨i + 1, b, h1, h2⟩
theorem nim_move {ns : List Nat} (h : xs ns ≠ 0) : ∃ (i a : Nat), ns[i]? = some a ∧ a ^^^ xs ns < a := by
  obtain ⟨k, h1, h2⟩ := top_bit h
  obtain ⟨i, a, h3, h4⟩ := xs_bit h1
  exact ⟨i, a, h3, xor_drop h1 h2 h4⟩
theorem xor_swap (x r b : Nat) : b ^^^ r = x ^^^ r ^^^ x ^^^ b := by
  apply Nat.eq_of_testBit_eq; intro j
  simp only [Nat.testBit_xor]
  cases x.testBit j <;> cases r.testBit j <;> cases b.testBit j <;> rfl
theorem xs_set : ∀ {ns : List Nat} {i a b : Nat}, ns[i]? = some a → xs (ns.set i b) = xs ns ^^^ a ^^^ b
  | [], _, _, _, h => by simp at h
  | x :: r, 0, a, b, h => by
    cases h
    rw [List.set_cons_zero, xs_cons, xs_cons]; exact xor_swap ..
  | x :: r, i + 1, a, b, h => by
    rw [List.set_cons_succ, xs_cons, xs_cons, xs_set (ns := r) (i := i) (a := a) (by simpa using h)]
    simp only [Nat.xor_assoc]
theorem xor_right_inj {a b c : Nat} (h : a ^^^ c = b ^^^ c) : a = b := by
  have : a ^^^ c ^^^ c = b ^^^ c ^^^ c := by rw [h]
  simpa [Nat.xor_assoc] using this
theorem xor_left_inj {a b c : Nat} (h : c ^^^ a = c ^^^ b) : a = b := by
  rw [Nat.xor_comm c a, Nat.xor_comm c b] at h; exact xor_right_inj h
theorem nx_cast (a b : Nat) : nx (a : Int) (b : Int) = ((a ^^^ b : Nat) : Int) := by unfold nx; simp
theorem nxs_cast : ∀ ns : List Nat, nxs (ns.map fun (n : Nat) => (n : Int)) = ((xs ns : Nat) : Int)
  | [] => rfl
  | a :: r => by rw [List.map_cons, nxs_cons _ _ (by omega), nxs_cast r, nx_cast]; rfl
end Mine

-- Core27
set_option linter.unusedVariables false
set_option linter.unusedSimpArgs false
namespace Mine
open PySem

/-! ## play in a row -/
theorem rowNum_xs (f : Nat → Nat) (ns : List Nat) : rowNum f ns = ((xs (ns.map f) : Nat) : Int) := nxs_cast _
theorem rowNum_set {f : Nat → Nat} {ns : List Nat} {i x g : Nat} (h : ns[i]? = some x) : rowNum f (ns.set i g) = ((xs (ns.map f) ^^^ f x ^^^ f g : Nat) : Int) := by
  rw [rowNum_xs, List.map_set, xs_set (a := f x) (by simp [h])]
theorem row_play {web : List (List Nat)} {f : Nat → Nat} {ns : List Nat} {i x g : Nat} (hN : Nums web f) (hx : x < web.length) (hi : ns[i]? = some x) (hg : g ∈ web.getD x []) (h : rowNum f ns = 0) : rowNum f (ns.set i g) ≠ 0 := by
  rw [rowNum_set hi]
  rw [rowNum_xs] at h
  have h0 : xs (ns.map f) = 0 := by omega
  rw [h0, Nat.zero_xor]
  intro e
  have e' : f x ^^^ f g = 0 := by omega
  have : f g = f x := xor_left_inj (c := f x) (by rw [e', Nat.xor_self])
  exact (hN x hx).out (by rw [← this]; exact List.mem_map.mpr ⟨g, hg, rfl⟩)
theorem row_win {web : List (List Nat)} {f : Nat → Nat} {ns : List Nat} (hN : Nums web f) (hlt : ∀ x ∈ ns, x < web.length) (h : rowNum f ns ≠ 0) : ∃ i x g, ns[i]? = some x ∧ g ∈ web.getD x [] ∧ rowNum f (ns.set i g) = 0 := by
  rw [rowNum_xs] at h
  obtain ⟨i, a, hi, hlt'⟩ := nim_move (ns := ns.map f) (by omega)
  simp only [List.getElem?_map, Option.map_eq_some_iff] at hi
  obtain ⟨x, hx, rfl⟩ := hi
  obtain ⟨g, hg, e⟩ := List.mem_map.mp ((hN x (hlt x (List.mem_of_getElem? hx))).low _ hlt')
  refine ⟨i, x, g, hx, hg, ?_⟩
  rw [rowNum_set hx, e]
  have : xs (ns.map f) ^^^ f x ^^^ (f x ^^^ xs (ns.map f)) = 0 := by
    rw [Nat.xor_comm (f x) (xs (ns.map f)), Nat.xor_self]
  rw [this]; rfl

/-! ## cut webs -/
def cutWeb (m : Nat) (web : List (List Nat)) : List (List Nat) := (web.take m).map fun ns => ns.filter fun g => decide (g < m)
theorem cutWeb_length (m : Nat) (web : List (List Nat)) : (cutWeb m web).length = min m web.length := by simp [cutWeb]
theorem cutWeb_getD {m : Nat} {web : List (List Nat)} {i : Nat} (h1 : i < m) (h2 : i < web.length) : (cutWeb m web).getD i [] = (web.getD i []).filter fun g => decide (g < m) := by
  simp [cutWeb, List.getElem?_take, h1, h2]
theorem cutWeb_good {m : Nat} {web : List (List Nat)} (hm : 1 ≤ m) (G : GoodWeb web) : GoodWeb (cutWeb m web) := by
  have hp := G.pos
  have hq := G.most
  refine ⟨by rw [cutWeb_length]; omega, by rw [cutWeb_length]; omega, fun ns hns => ?_, fun ns hns g hg => ?_⟩
  · obtain ⟨r, hr, rfl⟩ := List.mem_map.mp hns
    exact (G.nodup r (List.mem_of_mem_take hr)).filter _
  · obtain ⟨r, hr, rfl⟩ := List.mem_map.mp hns
    obtain ⟨h1, h2⟩ := List.mem_filter.mp hg
    have h3 := of_decide_eq_true h2
    have h4 := G.lt r (List.mem_of_mem_take hr) g h1
    rw [cutWeb_length]; omega
theorem cutWeb_calm {m : Nat} {web : List (List Nat)} (C : Calm web) : Calm (cutWeb m web) := by
  obtain ⟨rank, h⟩ := C
  refine ⟨rank, fun s hs g hg => ?_⟩
  rw [cutWeb_length] at hs
  rw [cutWeb_getD (by omega) (by omega)] at hg
  exact h s (by omega) g (List.mem_filter.mp hg).1
end Mine

-- Core28
set_option linter.unusedVariables false
set_option linter.unusedSimpArgs false
namespace Mine
open PySem

/-! ## joined -/
def joinWeb (one other : List (List Nat)) : List (List Nat) := one ++ other.map fun ns => ns.map fun g => one.length + g
def joinF (n : Nat) (f1 f2 : Nat → Nat) (s : Nat) : Nat := if s < n then f1 s else f2 (s - n)
/-! ## paired -/
def pairRow (one other : List (List Nat)) (i k : Nat) : List Nat := ((one.getD i []).map fun g => g * other.length + k) ++ ((other.getD k []).map fun g => i * other.length + g)
def pairWeb (one other : List (List Nat)) : List (List Nat) := (List.range (one.length * other.length)).map fun s => pairRow one other (s / other.length) (s % other.length)
/-- the web with a ring put in -/
def ringedWeb (one : List (List Nat)) : List (List Nat) := one.set 0 ((one.length - 1) :: (one.getD 0 []).filter fun g => decide (g < one.length - 1))
end Mine

-- Core29
set_option linter.unusedVariables false
set_option linter.unusedSimpArgs false
namespace Mine
open PySem PyProof.Rows

theorem WebAt.snoc {H : Hp} {f c : Addr} {fs : List Addr} {web : List (List Nat)} {row : List Nat} (W : WebAt H f fs web) (hc : H c = some (.list false (rowV row))) (h1 : c ≠ f) (h2 : c ∉ fs) :
    WebAt (H.put f (.list false (fs.map .ref ++ [.ref c]))) f (fs ++ [c]) (web ++ [row]) := by
  refine ⟨by rw [Hp.put_self]; simp, by simp [W.len], fun i r ns k1 k2 => ?_, ?_, fun hm => ?_⟩
  · have hl := W.len
    rcases Nat.lt_trichotomy i fs.length with z | z | z
    · rw [List.getElem?_append_left z] at k1
      rw [List.getElem?_append_left (by omega)] at k2
      rw [Hp.put_ne (fun e => W.apart (by rw [← e]; exact List.mem_of_getElem? k1))]
      exact W.row i r ns k1 k2
    · rw [List.getElem?_append_right (by omega), z, Nat.sub_self] at k1
      rw [List.getElem?_append_right (by omega), show i - web.length = 0 by omega] at k2
      cases k1; cases k2
      rw [Hp.put_ne h1]; exact hc
    · rw [List.getElem?_eq_none (by simp; omega)] at k1; cases k1
  · rw [List.nodup_append]
    refine ⟨W.nodup, by simp, fun p hp q hq => ?_⟩
    rw [List.mem_singleton] at hq
    exact fun e => h2 (by rw [← hq, ← e]; exact hp)
  · rcases List.mem_append.mp hm with h | h
    · exact W.apart h
    · exact h1 (List.mem_singleton.mp h).symm

theorem EX1_cut {cx : Cx} {d : Nat} {sc : Scope} {loc : Loc} {H : Hp} {QF : AF → Loc → Hp → Prop} {st : Stmt} {rest : List Stmt} (Q₁ : Loc → Hp → Prop) (h1 : EX1 cx d sc loc st H (nextQ Q₁)) (h2 : ∀ l' H', Q₁ l' H' → EX cx d sc l' rest H' QF) : EX1 cx d sc loc st H (andThen cx d sc rest QF) :=
  EX1.mono h1 fun f l' H' q => by
    cases f with
    | next => exact h2 l' H' q
    | brk => exact q.elim
    | cont => exact q.elim
    | ret v => exact q.elim

/-! only some places have turned -/
def Off (bad : List Addr) (H H' : Hp) : Prop := ∀ a, a ∉ bad → H' a = H a
section
variable {cx : Cx} {d : Nat} {H : Hp} {Q : AV → Hp → Prop}
end

/-! lengths stand of themselves -/
/-! tables -/
theorem cutWeb_eq (m : Nat) (web : List (List Nat)) : (List.range (min m web.length)).map (fun i => (web.getD i []).filter fun g => decide (g < m)) = cutWeb m web := by
  apply List.ext_getElem
  · simp [cutWeb]
  · intro i h1 h2
    have hi : i < min m web.length := by simpa using h1
    simp [cutWeb, show i < web.length by omega]
end Mine

-- Core30
set_option linter.unusedVariables false
set_option linter.unusedSimpArgs false
namespace Mine
open PySem PyProof.Rows

theorem vrs_of_ints : ∀ {ns : List Int} {vs : List Value}, IntsAre vs ns → VRs (ns.map .int) vs
  | _, _, .nil => trivial
  | _, _, .cons n t h => ⟨⟨t, rfl⟩, vrs_of_ints h⟩
theorem get_size1 (h : Heap) : h.get? (h.objs.size + 1) = none := by
  cases q : h.get? (h.objs.size + 1) with
  | none => rfl
  | some o => exact absurd (Heap.lt_size q) (Nat.not_lt.mpr (Nat.le_succ _))

section
variable {cx : Cx} {d : Nat} {H : Hp} {Q : AV → Hp → Prop}
theorem CW_sorted {a : Addr} {ro : Bool} {ns : List Int} (ha : H a = some (.list ro (ns.map .int))) (h64 : ns.length < 64)
    (hq : ∀ b (ns' : List Int), H b = none → ns'.Perm ns → ns'.Pairwise (· ≤ ·) → Q (.ref b) (H.put b (.list false (ns'.map .int)))) : CW cx d (.builtin "sorted") [.ref a] H Q := by
  intro A P s E Q' us hA R hr k
  obtain ⟨V, rfl, hv⟩ := vrs1 hr
  cases hv
  obtain ⟨items, n, hO, hr⟩ := R.isList ha
  have hz := hr.size
  rw [List.length_map] at hz
  refine sorted_ints (vs := items.toList) (ns := ns) ⟨_, hO, rfl, n, rfl⟩ (intsAre_of hr) (by simp; omega) fun out ns' a1 a2 a3 => ?_
  obtain ⟨e, he⟩ := sortedAll_at s.heap items.toList out
  exact k _ _ _ _ s.toks (hq _ ns' (R.fresh (get_size1 _)).2 a2 a3) rfl (R.put_new (get_size1 _) (fun _ _ q => sortedAll_old q) he ⟨out, e, rfl, vrs_of_ints a1⟩)

theorem Rep.isTup {P : PH} {h : Heap} (R : Rep cx P H h) {a : Addr} {vs : List AV} (ha : H a = some (.tuple vs)) : ∃ items n, h.get? a = some { cls := .type "tuple", dict := none, data := .seq items n, slots := #[] } ∧ VRs vs items.toList := by
  obtain ⟨O, hO, items, n, rfl, hv⟩ := R.obj a _ ha
  exact ⟨items, n, hO, hv⟩
end

section
variable {cx : Cx} {d : Nat} {sc : Scope} {loc : Loc} {H : Hp} {QF : AF → Loc → Hp → Prop}
end

/-! ## moves: tuples of place and goal -/
abbrev Mv := Nat × Nat
def mvV (m : Mv) : List AV := [.int (m.1 : Int), .int (m.2 : Int)]
structure MovesAt (H : Hp) (a : Addr) (ts : List Addr) (ms : List Mv) : Prop where
  top : H a = some (.list false (ts.map .ref))
  len : ts.length = ms.length
  mv : ∀ (i : Nat) (t : Addr) (m : Mv), ts[i]? = some t → ms[i]? = some m → H t = some (.tuple (mvV m))
def IsMoves (H : Hp) (a : Addr) (ms : List Mv) : Prop := ∃ ts, MovesAt H a ts ms
def dMv (m : Mv) : PyData := .tuple [.int (m.1 : Int), .int (m.2 : Int)]
def dMoves (ms : List Mv) : PyData := .list (ms.map dMv)
section
variable {cx : Cx} {d : Nat} {H : Hp} {Q : AV → Hp → Prop}
end

/-- the sorted row -/
def sortN (n : Nat) (ns : List Nat) : List Nat := (List.range n).filter fun g => decide (g ∈ ns)
/-! ## the moves of a row -/
def placeMoves (web : List (List Nat)) (row : List Nat) (k : Nat) : List Mv := (sortN web.length (web.getD (row.getD k 0) [])).map fun g => (k, g)
def movesTo (web : List (List Nat)) (row : List Nat) (i : Nat) : List Mv := ((List.range i).map (placeMoves web row)).flatten
def rowMoves (web : List (List Nat)) (row : List Nat) : List Mv := movesTo web row row.length
theorem set_take_drop {row : List Nat} {i g : Nat} (h : i < row.length) : row.take i ++ [g] ++ row.drop (i + 1) = row.set i g := by
  rw [List.set_eq_take_append_cons_drop, if_pos h]; simp
theorem set_lt {row : List Nat} {i g n : Nat} (h : ∀ x ∈ row, x < n) (hg : g < n) : ∀ x ∈ row.set i g, x < n := fun x hx => by
  rcases List.mem_or_eq_of_mem_set hx with h1 | h1
  · exact h x h1
  · rw [h1]; exact hg
theorem getD_some {row : List Nat} {i : Nat} (h : i < row.length) : row[i]? = some (row.getD i 0) := by simp [h]
section
variable {cx : Cx} {d : Nat} {H : Hp} {Q : AV → Hp → Prop}
end

end Mine

-- Core31
set_option linter.unusedVariables false
set_option linter.unusedSimpArgs false
namespace Mine
open PySem PyProof.Rows

/-! ## a dict with tuples of nums as its keys, bools as its values -/
abbrev TKey := List Int × Addr × Bool
def tkV (x : TKey) : List Int × Addr × Value := (x.1, x.2.1, .bool x.2.2)
def tupDict (cx : Cx) (ks : List TKey) (O : Obj) : Prop :=
  ∃ es ep, O.ExactDict ∧ O.data = .dict es ep ∧ es.toList = (ks.map tkV).map (entryOfKey (tupleKind (intKind cx.prog cx.w))) ∧ (ks.map (·.1)).Nodup
def tget (ks : List TKey) (k : List Int) : Option (Addr × Bool) := (ks.find? fun x => decide (x.1 = k)).map (·.2)
def tset (ks : List TKey) (k : List Int) (a : Addr) (b : Bool) : List TKey := if (tget ks k).isSome then ks.map fun x => if x.1 = k then (x.1, x.2.1, b) else x else ks ++ [(k, a, b)]

theorem itemsAre_of {cx : Cx} : ∀ {ns : List Int} {vs : List Value}, VRs (ns.map .int) vs → ItemsAre (intKind cx.prog cx.w) ns vs
  | [], [], _ => .nil
  | n :: ns, v :: vs, h => by
    obtain ⟨⟨t, rfl⟩, h2⟩ := h
    exact .cons (intKind_is _ _ n t) (itemsAre_of h2)
  | [], _ :: _, h => h.elim
  | _ :: _, [], h => h.elim

theorem atKey_tk (ks : List TKey) (k : List Int) : atKey (ks.map tkV) k = (tget ks k).map fun p => (p.1, Value.bool p.2) := by
  unfold atKey tget
  induction ks with
  | nil => rfl
  | cons x r ih =>
    simp only [List.map_cons, List.find?_cons]
    by_cases e : x.1 = k
    · simp [tkV, e]
    · have e' : ¬ (tkV x).1 = k := e
      simp only [e, e', decide_false]
      exact ih
theorem storedH_tk (ks : List TKey) (k : List Int) (a : Addr) (b : Bool) : storedH (ks.map tkV) k a (.bool b) = (tset ks k a b).map tkV := by
  unfold storedH tset
  rw [atKey_tk, Option.isSome_map]
  split
  · rw [List.map_map, List.map_map]
    apply List.map_congr_left
    intro x _
    show putAt k (.bool b) (tkV x) = tkV (if x.1 = k then (x.1, x.2.1, b) else x)
    unfold putAt
    by_cases e : x.1 = k
    · rw [if_pos e, if_pos (show (tkV x).1 = k from e)]; rfl
    · rw [if_neg e, if_neg (show ¬ (tkV x).1 = k from e)]
  · rw [List.map_append]; rfl
theorem tset_mem {ks : List TKey} {k : List Int} {a : Addr} {b : Bool} {x : TKey} (h : x ∈ tset ks k a b) : (x.1 = k ∧ x.2.2 = b ∧ (x.2.1 = a ∨ ∃ y ∈ ks, y.1 = k ∧ y.2.1 = x.2.1)) ∨ x ∈ ks := by
  unfold tset at h
  split at h
  · obtain ⟨y, hy, rfl⟩ := List.mem_map.mp h
    by_cases e : y.1 = k
    · rw [if_pos e]; exact .inl ⟨e, rfl, .inr ⟨y, hy, e, rfl⟩⟩
    · rw [if_neg e]; exact .inr hy
  · rcases List.mem_append.mp h with h | h
    · exact .inr h
    · rw [List.mem_singleton.mp h]; exact .inl ⟨rfl, rfl, .inl rfl⟩
theorem tset_keys (ks : List TKey) (k : List Int) (a : Addr) (b : Bool) : ∀ k', k' ∈ (tset ks k a b).map (·.1) ↔ k' ∈ ks.map (·.1) ∨ k' = k := by
  intro k'
  unfold tset
  split
  · rename_i h
    have hk : k ∈ ks.map (·.1) := by
      unfold tget at h
      rw [Option.isSome_map] at h
      obtain ⟨x, hx⟩ := Option.isSome_iff_exists.mp h
      have h1 := List.find?_some hx
      have h2 := List.mem_of_find?_eq_some hx
      simp only [decide_eq_true_eq] at h1
      exact List.mem_map.mpr ⟨x, h2, h1⟩
    have : (ks.map fun x => if x.1 = k then (x.1, x.2.1, b) else x).map (·.1) = ks.map (·.1) := by
      rw [List.map_map]
      apply List.map_congr_left
      intro x _
      show (if x.1 = k then (x.1, x.2.1, b) else x).1 = x.1
      split <;> rfl
    rw [this]
    constructor
    · exact .inl
    · rintro (h | rfl)
      · exact h
      · exact hk
  · rw [List.map_append, List.mem_append]
    simp
theorem tset_length (ks : List TKey) (k : List Int) (a : Addr) (b : Bool) : (tset ks k a b).length ≤ ks.length + 1 := by
  unfold tset; split <;> simp
theorem tget_of_mem {ks : List TKey} {k : List Int} (h : k ∈ ks.map (·.1)) : ∃ p, tget ks k = some p ∧ ∃ x ∈ ks, x.1 = k ∧ x.2 = p := by
  unfold tget
  cases q : ks.find? fun x => decide (x.1 = k) with
  | none =>
    obtain ⟨x, hx, rfl⟩ := List.mem_map.mp h
    have := List.find?_eq_none.mp q x hx
    simp at this
  | some x =>
    have h1 := List.find?_some q
    simp only [decide_eq_true_eq] at h1
    exact ⟨x.2, rfl, x, List.mem_of_find?_eq_some q, h1, rfl⟩

/-- the dict with its keys' tuples -/
structure TupDict (cx : Cx) (H : Hp) (a : Addr) (ks : List TKey) : Prop where
  top : H a = some (.raw (tupDict cx ks))
  keys : ∀ x ∈ ks, H x.2.1 = some (.tuple (x.1.map .int))
theorem TupDict.ext {cx : Cx} {H H' : Hp} {a : Addr} {ks : List TKey} (T : TupDict cx H a ks) (e : Ext H H') : TupDict cx H' a ks := ⟨e _ _ T.top, fun x hx => e _ _ (T.keys x hx)⟩

section
variable {cx : Cx} {d : Nat} {sc : Scope} {loc : Loc} {H : Hp} {Q : AV → Hp → Prop} {pos : Pos}
theorem TupDict.heap {P : PH} {h : Heap} {a : Addr} {ks : List TKey} (T : TupDict cx H a ks) (R : Rep cx P H h) : h.DictOfH (tupleKind (intKind cx.prog cx.w)) a (ks.map tkV) := by
  obtain ⟨O, hO, es, ep, h1, h2, h3, h4⟩ := R.obj a _ T.top
  refine ⟨O, es, ep, hO, h1, h2, h3, fun x hx => ?_, by rw [List.map_map]; exact h4⟩
  obtain ⟨y, hy, rfl⟩ := List.mem_map.mp hx
  obtain ⟨items, n, hT, hv⟩ := R.isTup (T.keys y hy)
  exact ⟨_, items, n, hT, rfl, rfl, itemsAre_of hv⟩
theorem tupKey_of {P : PH} {h : Heap} (R : Rep cx P H h) {t : Addr} {k : List Int} (ht : H t = some (.tuple (k.map .int))) : IsTupleKey (intKind cx.prog cx.w) h k t := by
  obtain ⟨items, n, hT, hv⟩ := R.isTup ht
  exact ⟨_, items, n, hT, rfl, rfl, itemsAre_of hv⟩
theorem EV_DictT (hq : ∀ a, H a = none → Q (.ref a) (H.put a (.raw (tupDict cx [])))) : EV cx d sc loc (.Dict [] [] pos) H Q := by
  intro env A P s E Q' he hF hA R k
  refine wpAny_Dict_empty (k _ _ _ _ s.toks (hq _ (R.fresh (get_size _)).2) rfl (R.push (o := .raw (tupDict cx [])) ?_ rfl))
  exact ⟨#[], 0, ⟨rfl, rfl, rfl⟩, rfl, rfl, by simp⟩
theorem Get_tup {a t : Addr} {ks : List TKey} {k : List Int} {p : Addr × Bool} (T : TupDict cx H a ks) (ht : H t = some (.tuple (k.map .int))) (hp : tget ks k = some p) (hq : Q (.bool p.2) H) : GetW cx (d + 1) (.ref a) (.ref t) H Q := by
  intro A P s E Q' V W hA R ho hi kk
  cases ho; cases hi
  have hD := T.heap R
  have hu := hA.units
  refine ⟨⟨"dict", _, hD.typeIs, slot_dict_getitem.lookup⟩, wpAny_getItem_heap (knd := tupleKind (intKind cx.prog cx.w)) (k := k) (p := (p.1, .bool p.2)) (tupleKind_room_in1 (by omega)) (tupKey_of R ht) hD (by rw [atKey_tk, hp]; rfl) (kk _ _ H s.heap _ hq rfl R)⟩
theorem Set_tup {a t : Addr} {ks : List TKey} {k : List Int} {b : Bool} {Q : Hp → Prop} (T : TupDict cx H a ks) (ht : H t = some (.tuple (k.map .int))) (hl : ks.length ≤ 2 ^ 20) (hq : TupDict cx (H.put a (.raw (tupDict cx (tset ks k t b)))) a (tset ks k t b) → Q (H.put a (.raw (tupDict cx (tset ks k t b))))) :
    SetW cx (d + 1) (.ref a) (.ref t) (.bool b) H Q := by
  intro A P s E Q' V W X hA R ho hi hv kk
  cases ho; cases hi; cases hv
  have hD := T.heap R
  have hu := hA.units
  obtain ⟨hP, hs⟩ := R.own_free T.top (by intro _ e; cases e)
  refine wpAny_setItem_heap (knd := tupleKind (intKind cx.prog cx.w)) (k := k) (tupleKind_room_in1 (by omega)) (tupKey_of R ht) hD (fun h' hD' hsb => ?_) (by rw [List.length_map]; show _ ≤ 2 ^ 24; omega)
  rw [storedH_tk] at hD'
  obtain ⟨o, es, ep, h1, h2, h3, h4, h5, h6⟩ := hD'
  have T' : TupDict cx (H.put a (.raw (tupDict cx (tset ks k t b)))) a (tset ks k t b) := by
    refine ⟨Hp.put_self .., fun x hx => ?_⟩
    have key : H x.2.1 = some (.tuple (x.1.map .int)) := by
      rcases tset_mem hx with ⟨e1, e2, e3⟩ | hx'
      · rcases e3 with e3 | ⟨y, hy, e4, e5⟩
        · rw [e3, e1]; exact ht
        · rw [← e5, e1, ← e4]; exact T.keys y hy
      · exact T.keys x hx'
    rw [Hp.put_ne (fun e => by rw [e, T.top] at key; cases key)]; exact key
  exact kk _ h' _ (hq T') (R.put_own hP hs hsb h1 ⟨es, ep, h2, h3, h4, by rw [List.map_map] at h6; exact h6⟩)
theorem CW_tuple {a : Addr} {ro : Bool} {vs : List AV} (ha : H a = some (.list ro vs)) (hl : vs.length ≤ 2 ^ 20) (hq : ∀ b, H b = none → Q (.ref b) (H.put b (.tuple vs))) : CW cx d (.type "tuple") [.ref a] H Q := by
  intro A P s E Q' us hA R hr k
  obtain ⟨V, rfl, hv⟩ := vrs1 hr
  cases hv
  obtain ⟨items, n, hO, hr⟩ := R.isList ha
  have hz := hr.size
  refine call_tuple_list (items := items) ⟨_, hO, rfl, n, rfl⟩ (fun h' up => ?_) (by show items.size ≤ 2 ^ 24; omega)
  have R' := R.grow up
  exact k _ _ _ _ s.toks (hq _ (R'.fresh (get_size _)).2) rfl (R'.push (o := .tuple vs) ⟨items, _, rfl, hr⟩ rfl)
theorem iss_bools (H : Hp) : ∀ bs : List Bool, Iss H (bs.map .bool) (bs.map .bool)
  | [] => by simp [Iss]
  | b :: r => by rw [List.map_cons, List.map_cons, Iss]; exact ⟨by rw [Is], iss_bools H r⟩
theorem lay_bools : ∀ bs : List Bool, PyData.canLayAll0 (bs.map .bool) = true
  | [] => by simp [PyData.canLayAll0]
  | b :: r => by rw [List.map_cons, PyData.canLayAll0, lay_bools r]; simp [PyData.canLay0]
theorem any_bools (c : Bool) : ∀ bs : List Bool, (bs.map PyData.bool).any (fun y => PyData.eqv y (.bool c)) = bs.any (fun b => b == c)
  | [] => rfl
  | b :: r => by
    rw [List.map_cons, List.any_cons, List.any_cons, any_bools c r]
    congr 1
theorem Op_notInBools {a : Addr} {ro : Bool} {bs : List Bool} {c : Bool} (ha : H a = some (.list ro (bs.map .bool))) (hq : Q (.bool (!bs.any fun b => b == c)) H) : OpW cx (d + 1) (compareOp .NotIn) (.bool c) (.ref a) H Q := by
  intro A P s E Q' V W hA R hv hw k
  have hI : Is H (.ref a) (.list (bs.map .bool)) := by rw [Is]; exact ⟨a, ro, _, rfl, ha, iss_bools H bs⟩
  obtain ⟨as, ra⟩ := Is.reads R _ _ _ hI hw
  have hI2 : Is H (.bool c) (.bool c) := by rw [Is]
  obtain ⟨as2, rb⟩ := Is.reads R _ _ _ hI2 hv
  refine SeqAt.notIn_list_reads ra rb (lay_bools bs) (by simp [PyData.canLay0]) (by have := hA.units; simp only [PyData.depth]; omega) ?_
  rw [any_bools]
  exact k _ _ H s.heap s.toks hq rfl R
end

/-! ## rows up to three -/
theorem xs_perm {a b : List Nat} (h : a.Perm b) : xs a = xs b := by
  induction h with
  | nil => rfl
  | cons x _ ih => rw [xs_cons, xs_cons, ih]
  | swap x y l => rw [xs_cons, xs_cons, xs_cons, xs_cons, ← Nat.xor_assoc, ← Nat.xor_assoc, Nat.xor_comm y x]
  | trans _ _ h1 h2 => exact h1.trans h2
theorem rowNum_perm {f : Nat → Nat} {a b : List Nat} (h : a.Perm b) : rowNum f a = rowNum f b := by rw [rowNum_xs, rowNum_xs, xs_perm (h.map f)]
/-- a sorted list of nums that came from a row -/
theorem sorted_nat {row : List Nat} {zs : List Int} (hp : zs.Perm (castN row)) (hs : zs.Pairwise (· ≤ ·)) : ∃ s : List Nat, zs = castN s ∧ s.Perm row ∧ s.Pairwise (· ≤ ·) := by
  have hall : ∀ z ∈ zs, ∃ n : Nat, z = n := fun z hz => by
    obtain ⟨n, _, e⟩ := List.mem_map.mp (hp.mem_iff.mp hz); exact ⟨n, e.symm⟩
  have hz : zs = castN (zs.map Int.toNat) := by
    unfold castN
    rw [List.map_map]
    conv => lhs; rw [← List.map_id zs]
    apply List.map_congr_left
    intro z hz
    obtain ⟨n, rfl⟩ := hall z hz
    simp
  refine ⟨zs.map Int.toNat, hz, ?_, ?_⟩
  · have := hp.map Int.toNat
    have e : (castN row).map Int.toNat = row := by unfold castN; rw [List.map_map]; conv => rhs; rw [← List.map_id row]
                                                   apply List.map_congr_left; intro n _; simp
    rw [e] at this; exact this
  · rw [List.pairwise_map]
    exact hs.imp fun h => by omega
structure RowsTo (n i : Nat) (rows : List (List Nat)) : Prop where
  ok : ∀ r ∈ rows, r.length ≤ 3 ∧ (∀ x ∈ r, x < n) ∧ (r.drop 1).Pairwise (· ≤ ·)
  nil : [] ∈ rows
  one : ∀ a < i, [a] ∈ rows
  two : ∀ a < i, ∀ b < n, [a, b] ∈ rows
  three : ∀ a < i, ∀ b c, b ≤ c → c < n → [a, b, c] ∈ rows
theorem RowsTo.has {n : Nat} {rows : List (List Nat)} (R : RowsTo n n rows) {s : List Nat} (hl : s.length ≤ 3) (hx : ∀ x ∈ s, x < n) (hs : (s.drop 1).Pairwise (· ≤ ·)) : s ∈ rows := by
  match s, hl, hx, hs with
  | [], _, _, _ => exact R.nil
  | [a], _, hx, _ => exact R.one a (hx a (by simp))
  | [a, b], _, hx, _ => exact R.two a (hx a (by simp)) b (hx b (by simp))
  | [a, b, c], _, hx, hs => exact R.three a (hx a (by simp)) b c (by simp at hs; exact hs) (hx c (by simp))
  | _ :: _ :: _ :: _ :: _, hl, _, _ => simp at hl
def aheadAt (web : List (List Nat)) (row : List Nat) (i : Nat) : List (List Nat) := (web.getD (row.getD i 0) []).map fun g => row.set i g
def aheadTo (web : List (List Nat)) (row : List Nat) (i : Nat) : List (List Nat) := ((List.range i).map (aheadAt web row)).flatten
theorem aheadTo_succ (web : List (List Nat)) (row : List Nat) (i : Nat) : aheadTo web row (i + 1) = aheadTo web row i ++ aheadAt web row i := by
  unfold aheadTo; rw [List.range_succ, List.map_append, List.flatten_append]; simp
theorem mem_aheadTo {web : List (List Nat)} {row : List Nat} {i : Nat} {r : List Nat} : r ∈ aheadTo web row i ↔ ∃ k g, k < i ∧ g ∈ web.getD (row.getD k 0) [] ∧ r = row.set k g := by
  simp only [aheadTo, aheadAt, List.mem_flatten, List.mem_map, List.mem_range]
  constructor
  · rintro ⟨l, ⟨k, hk, rfl⟩, hm⟩
    obtain ⟨g, hg, rfl⟩ := List.mem_map.mp hm
    exact ⟨k, g, hk, hg, rfl⟩
  · rintro ⟨k, g, hk, hg, rfl⟩
    exact ⟨_, ⟨k, hk, rfl⟩, List.mem_map.mpr ⟨g, hg, rfl⟩⟩
end Mine

-- L08a
set_option pp.deepTerms false
set_option pp.maxSteps 1500
set_option linter.unusedVariables false
set_option linter.unusedSimpArgs false
namespace Mine
open PySem PySem.Calls PyProof.Rows PySem.Challenge
local macro_rules | `(tactic| walk_at "lk") => `(tactic| first | exact upd_self _ _ _ | assumption | ((with_reducible refine Eq.trans (upd_ne ?hne) ?_); (case hne => decide); walk_at "lk") | ((with_reducible refine capt_of ?hcf ?_); (case hcf => rfl); walk_at "lk") | rfl)
local macro_rules | `(tactic| walk_at "e") => `(tactic| first
  | with_reducible refine EX_cons ?_ | with_reducible refine at_next ?_
  | ((with_reducible refine EV_Name (v := ?v) ?h ?_); (case h => walk_at "lk"))
  | with_reducible refine EV_int ?_
  | with_reducible refine EV_BinOp ?_ | ((with_reducible refine EV_Compare1 ?_ ?hm); (case hm => with_unfolding_all rfl))
  | ((with_reducible refine TV_Compare1 ?_ ?hm); (case hm => with_unfolding_all rfl)) | ((with_reducible refine TV_Compare2 ?_ ?hm); (case hm => with_unfolding_all rfl)) | with_reducible refine TV_Not ?_ | with_reducible refine TV_And ?_ | with_reducible refine TV_Or ?_
  | with_reducible refine Op_add ?_ | with_reducible refine Op_sub ?_ | (with_reducible refine Op_mod (by omega) ?_) | (with_reducible refine Op_floordiv (by omega) (by omega) ?_)
  | with_reducible refine Op_eq ?_ | with_reducible refine Op_ne ?_ | with_reducible refine Op_lt ?_ | with_reducible refine Op_le ?_ | with_reducible refine Op_gt ?_ | with_reducible refine Op_ge ?_
  | with_reducible refine asB_b ?_
  | with_reducible refine evs_cons ?_ | with_reducible refine evs_nil ?_
  | ((with_reducible refine EX_Assign ?_ ?hx ?hs); (case hx => rfl); (case hs => intro _; rfl))
  | ((with_reducible refine EX_Expr ?_ ?hs); (case hs => intro _; rfl))
  | ((with_reducible refine EX_AssignSub ?_ ?hs); (case hs => intro _; rfl))
  | with_reducible refine EX_If ?_ | with_reducible refine EX_Return ?_ | with_reducible refine at_ret (ret_ret ?_) | with_reducible refine ret_ret ?_ | with_reducible refine ret_next ?_
  | with_reducible refine at_ret ?_ | with_reducible refine nxt ?_ | with_reducible refine lp_next ?_ | with_reducible refine lp_ret ?_ | with_reducible refine EX_nil ?_
  | with_reducible refine EV_bool ?_ | with_reducible refine EV_none ?_ | with_reducible refine EV_str ?_
  | ((with_reducible refine EV_Sub ?_ ?hs); (case hs => intro _ _; rfl))
  | ((with_reducible refine EV_Compare2 ?_ ?hm); (case hm => with_unfolding_all rfl))
  | with_reducible refine EV_And2 ?_ | with_reducible refine EV_Or2 ?_ | with_reducible refine EV_Not ?_
  | with_reducible refine tand_cons ?_ | with_reducible refine tand_nil ?_ | with_reducible refine tor_cons ?_ | with_reducible refine tor_nil ?_
  | with_reducible refine evo_none ?_ | with_reducible refine evo_some ?_
  | with_reducible refine EV_IfExp ?_
  | ((with_reducible refine EV_CallB (b_len ?hB) ?_ ?hx ?hn); (case hB => assumption); (case hx => rfl); (case hn => rfl))
  | ((with_reducible refine EV_CallB (b_isinstance ?hB) ?_ ?hx ?hn); (case hB => assumption); (case hx => rfl); (case hn => rfl))
  | ((with_reducible refine EV_CallB (b_any ?hB) ?_ ?hx ?hn); (case hB => assumption); (case hx => rfl); (case hn => rfl))
  | ((with_reducible refine EV_CallB (b_all ?hB) ?_ ?hx ?hn); (case hB => assumption); (case hx => rfl); (case hn => rfl))
  | ((with_reducible refine EV_CallB (b_min ?hB) ?_ ?hx ?hn); (case hB => assumption); (case hx => rfl); (case hn => rfl))
  | ((with_reducible refine EV_CallB (b_max ?hB) ?_ ?hx ?hn); (case hB => assumption); (case hx => rfl); (case hn => rfl))
  | ((with_reducible refine EV_CallB (b_sorted ?hB) ?_ ?hx ?hn); (case hB => assumption); (case hx => rfl); (case hn => rfl))
  | ((with_reducible refine EV_CallT (b_tuple ?hB) ?_ ?hx ?hn); (case hB => assumption); (case hx => rfl); (case hn => rfl))
  | ((with_reducible refine EV_CallT (b_dict ?hB) ?_ ?hx ?hn); (case hB => assumption); (case hx => rfl); (case hn => rfl))
  | ((with_reducible refine EV_CallT (b_set ?hB) ?_ ?hx ?hn); (case hB => assumption); (case hx => rfl); (case hn => rfl))
  | ((with_reducible refine EV_Global (v := .int ?gi) (V := .int ?gi ?gt) ?hg ?hv ?_ ?hx); (case hg => assumption); (case hv => exact ⟨_, rfl⟩); (case hx => rfl))
  | ((with_reducible refine EV_CallT (b_list ?hB) ?_ ?hx ?hn); (case hB => assumption); (case hx => rfl); (case hn => rfl))
  | ((with_reducible refine EV_CallT (b_range ?hB) ?_ ?hx ?hn); (case hB => assumption); (case hx => rfl); (case hn => rfl))
  | ((with_reducible refine EV_BType (b_int ?hB) ?_ ?hx); (case hB => assumption); (case hx => rfl))
  | ((with_reducible refine EV_BType (b_bool ?hB) ?_ ?hx); (case hB => assumption); (case hx => rfl))
  | ((with_reducible refine EV_BType (b_list ?hB) ?_ ?hx); (case hB => assumption); (case hx => rfl))
  | with_reducible refine CW_isinst_int_int ?_ | with_reducible refine CW_isinst_int_bool ?_ | with_reducible refine ite_t ?_ | with_reducible refine ite_f ?_ | with_reducible refine ite_nt ?_ | with_reducible refine ite_nf ?_
  | ((with_reducible refine TV_val ?_ ?ht); (case ht => intro _ _; rfl)))
local macro_rules | `(tactic| walk_at "E") => `(tactic| repeat (first | walk_at "e" | (with_reducible dsimp only)))
local macro_rules | `(tactic| walk_at "nn") => `(tactic| first | exact Int.natCast_nonneg _ | decide | omega)
local macro_rules | `(tactic| walk_at "ln") => `(tactic| first | exact lenOk (by assumption) (by assumption) rfl | exact lenRow (by assumption) rfl | (simp; omega))
abbrev p08 := pw_uf050033_08
set_option maxRecDepth 10000
set_option maxHeartbeats 4000000
structure PD (cx : Cx) : Prop where
  bs : Bs cx
  defs : ∀ k ∈ [7, 8, 9, 10, 11, 12, 13, 15, 16, 17, 18, 19, 22, 23, 25, 27, 28, 29, 30, 31, 32, 33, 34, 35], ∃ fa, HasDef cx (defAt p08 k) fa
  most : ∃ t, cx.mg "MOST_SPOTS" = some (.int 200 t)
  mostGames : ∃ t, cx.mg "MOST_GAMES" = some (.int 24 t)
theorem bind_is_whole : ∀ (pm code doc : Value) (vs : List Value), vs.length = 1 → bindArgs (docDef (defAt p08 7).name (defAt p08 7).params (defAt p08 7).body (defAt p08 7).scope pm code doc) ⟨vs, []⟩ = pure ((defAt p08 7).names.zip vs) := by
  intro pm code doc vs h
  match vs, h with
  | [_], _ => rfl
theorem bind_is_spot : ∀ (pm code doc : Value) (vs : List Value), vs.length = 2 → bindArgs (docDef (defAt p08 8).name (defAt p08 8).params (defAt p08 8).body (defAt p08 8).scope pm code doc) ⟨vs, []⟩ = pure ((defAt p08 8).names.zip vs) := by
  intro pm code doc vs h
  match vs, h with
  | [_, _], _ => rfl
theorem bind_are_moves : ∀ (pm code doc : Value) (vs : List Value), vs.length = 2 → bindArgs (docDef (defAt p08 9).name (defAt p08 9).params (defAt p08 9).body (defAt p08 9).scope pm code doc) ⟨vs, []⟩ = pure ((defAt p08 9).names.zip vs) := by
  intro pm code doc vs h
  match vs, h with
  | [_, _], _ => rfl
theorem bind_is_web : ∀ (pm code doc : Value) (vs : List Value), vs.length = 1 → bindArgs (docDef (defAt p08 10).name (defAt p08 10).params (defAt p08 10).body (defAt p08 10).scope pm code doc) ⟨vs, []⟩ = pure ((defAt p08 10).names.zip vs) := by
  intro pm code doc vs h
  match vs, h with
  | [_], _ => rfl
theorem bind_need_web : ∀ (pm code doc : Value) (vs : List Value), vs.length = 1 → bindArgs (docDef (defAt p08 11).name (defAt p08 11).params (defAt p08 11).body (defAt p08 11).scope pm code doc) ⟨vs, []⟩ = pure ((defAt p08 11).names.zip vs) := by
  intro pm code doc vs h
  match vs, h with
  | [_], _ => rfl
theorem bind_comers_of : ∀ (pm code doc : Value) (vs : List Value), vs.length = 1 → bindArgs (docDef (defAt p08 12).name (defAt p08 12).params (defAt p08 12).body (defAt p08 12).scope pm code doc) ⟨vs, []⟩ = pure ((defAt p08 12).names.zip vs) := by
  intro pm code doc vs h
  match vs, h with
  | [_], _ => rfl
theorem bind_behind_first : ∀ (pm code doc : Value) (vs : List Value), vs.length = 1 → bindArgs (docDef (defAt p08 13).name (defAt p08 13).params (defAt p08 13).body (defAt p08 13).scope pm code doc) ⟨vs, []⟩ = pure ((defAt p08 13).names.zip vs) := by
  intro pm code doc vs h
  match vs, h with
  | [_], _ => rfl
theorem bind_need_game : ∀ (pm code doc : Value) (vs : List Value), vs.length = 1 → bindArgs (docDef (defAt p08 15).name (defAt p08 15).params (defAt p08 15).body (defAt p08 15).scope pm code doc) ⟨vs, []⟩ = pure ((defAt p08 15).names.zip vs) := by
  intro pm code doc vs h
  match vs, h with
  | [_], _ => rfl
theorem bind_least_beside : ∀ (pm code doc : Value) (vs : List Value), vs.length = 1 → bindArgs (docDef (defAt p08 16).name (defAt p08 16).params (defAt p08 16).body (defAt p08 16).scope pm code doc) ⟨vs, []⟩ = pure ((defAt p08 16).names.zip vs) := by
  intro pm code doc vs h
  match vs, h with
  | [_], _ => rfl
theorem bind_numbers_of : ∀ (pm code doc : Value) (vs : List Value), vs.length = 1 → bindArgs (docDef (defAt p08 17).name (defAt p08 17).params (defAt p08 17).body (defAt p08 17).scope pm code doc) ⟨vs, []⟩ = pure ((defAt p08 17).names.zip vs) := by
  intro pm code doc vs h
  match vs, h with
  | [_], _ => rfl
theorem bind_laid_two : ∀ (pm code doc : Value) (vs : List Value), vs.length = 2 → bindArgs (docDef (defAt p08 18).name (defAt p08 18).params (defAt p08 18).body (defAt p08 18).scope pm code doc) ⟨vs, []⟩ = pure ((defAt p08 18).names.zip vs) := by
  intro pm code doc vs h
  match vs, h with
  | [_, _], _ => rfl
theorem bind_laid_over : ∀ (pm code doc : Value) (vs : List Value), vs.length = 1 → bindArgs (docDef (defAt p08 19).name (defAt p08 19).params (defAt p08 19).body (defAt p08 19).scope pm code doc) ⟨vs, []⟩ = pure ((defAt p08 19).names.zip vs) := by
  intro pm code doc vs h
  match vs, h with
  | [_], _ => rfl
theorem bind_need_row : ∀ (pm code doc : Value) (vs : List Value), vs.length = 2 → bindArgs (docDef (defAt p08 22).name (defAt p08 22).params (defAt p08 22).body (defAt p08 22).scope pm code doc) ⟨vs, []⟩ = pure ((defAt p08 22).names.zip vs) := by
  intro pm code doc vs h
  match vs, h with
  | [_, _], _ => rfl
theorem bind_row_number : ∀ (pm code doc : Value) (vs : List Value), vs.length = 2 → bindArgs (docDef (defAt p08 23).name (defAt p08 23).params (defAt p08 23).body (defAt p08 23).scope pm code doc) ⟨vs, []⟩ = pure ((defAt p08 23).names.zip vs) := by
  intro pm code doc vs h
  match vs, h with
  | [_, _], _ => rfl
theorem bind_is_lost : ∀ (pm code doc : Value) (vs : List Value), vs.length = 2 → bindArgs (docDef (defAt p08 25).name (defAt p08 25).params (defAt p08 25).body (defAt p08 25).scope pm code doc) ⟨vs, []⟩ = pure ((defAt p08 25).names.zip vs) := by
  intro pm code doc vs h
  match vs, h with
  | [_, _], _ => rfl
theorem bind_law_cell_at : ∀ (pm code doc : Value) (vs : List Value), vs.length = 2 → bindArgs (docDef (defAt p08 27).name (defAt p08 27).params (defAt p08 27).body (defAt p08 27).scope pm code doc) ⟨vs, []⟩ = pure ((defAt p08 27).names.zip vs) := by
  intro pm code doc vs h
  match vs, h with
  | [_, _], _ => rfl
theorem bind_law_mixed : ∀ (pm code doc : Value) (vs : List Value), vs.length = 2 → bindArgs (docDef (defAt p08 28).name (defAt p08 28).params (defAt p08 28).body (defAt p08 28).scope pm code doc) ⟨vs, []⟩ = pure ((defAt p08 28).names.zip vs) := by
  intro pm code doc vs h
  match vs, h with
  | [_, _], _ => rfl
theorem bind_law_order_by : ∀ (pm code doc : Value) (vs : List Value), vs.length = 2 → bindArgs (docDef (defAt p08 29).name (defAt p08 29).params (defAt p08 29).body (defAt p08 29).scope pm code doc) ⟨vs, []⟩ = pure ((defAt p08 29).names.zip vs) := by
  intro pm code doc vs h
  match vs, h with
  | [_, _], _ => rfl
theorem bind_law_web_by : ∀ (pm code doc : Value) (vs : List Value), vs.length = 2 → bindArgs (docDef (defAt p08 30).name (defAt p08 30).params (defAt p08 30).body (defAt p08 30).scope pm code doc) ⟨vs, []⟩ = pure ((defAt p08 30).names.zip vs) := by
  intro pm code doc vs h
  match vs, h with
  | [_, _], _ => rfl
theorem bind_law_copied : ∀ (pm code doc : Value) (vs : List Value), vs.length = 1 → bindArgs (docDef (defAt p08 31).name (defAt p08 31).params (defAt p08 31).body (defAt p08 31).scope pm code doc) ⟨vs, []⟩ = pure ((defAt p08 31).names.zip vs) := by
  intro pm code doc vs h
  match vs, h with
  | [_], _ => rfl
theorem bind_law_laid : ∀ (pm code doc : Value) (vs : List Value), vs.length = 1 → bindArgs (docDef (defAt p08 32).name (defAt p08 32).params (defAt p08 32).body (defAt p08 32).scope pm code doc) ⟨vs, []⟩ = pure ((defAt p08 32).names.zip vs) := by
  intro pm code doc vs h
  match vs, h with
  | [_], _ => rfl
theorem bind_law_rows : ∀ (pm code doc : Value) (vs : List Value), vs.length = 1 → bindArgs (docDef (defAt p08 33).name (defAt p08 33).params (defAt p08 33).body (defAt p08 33).scope pm code doc) ⟨vs, []⟩ = pure ((defAt p08 33).names.zip vs) := by
  intro pm code doc vs h
  match vs, h with
  | [_], _ => rfl
theorem bind_law_ahead : ∀ (pm code doc : Value) (vs : List Value), vs.length = 2 → bindArgs (docDef (defAt p08 34).name (defAt p08 34).params (defAt p08 34).body (defAt p08 34).scope pm code doc) ⟨vs, []⟩ = pure ((defAt p08 34).names.zip vs) := by
  intro pm code doc vs h
  match vs, h with
  | [_, _], _ => rfl
theorem bind_law : ∀ (pm code doc : Value) (vs : List Value), vs.length = 1 → bindArgs (docDef (defAt p08 35).name (defAt p08 35).params (defAt p08 35).body (defAt p08 35).scope pm code doc) ⟨vs, []⟩ = pure ((defAt p08 35).names.zip vs) := by
  intro pm code doc vs h
  match vs, h with
  | [_], _ => rfl
section
variable {cx : Cx} {d : Nat} {H : Hp} {Q : AV → Hp → Prop}
theorem is_whole_spec (hE : PD cx) {fa : Addr} (hf : HasDef cx (defAt p08 7) fa) {i : Int} (hq : Q (.bool true) H) : CW cx (d + 1) (.ref fa) [.int i] H Q := by
  have hB := hE.bs
  refine CW_fn hf bind_is_whole ?_
  show EX cx d _ (upd (fun _ => none) "thing" (.int i)) _ H _
  refine EX_cons ?_
  walk_at "E"
  exact hq
theorem is_spot_spec (hE : PD cx) {fa : Addr} (hf : HasDef cx (defAt p08 8) fa) {i m : Int} (hq : Q (.bool (decide (0 ≤ i ∧ i < m))) H) : CW cx (d + 2) (.ref fa) [.int i, .int m] H Q := by
  have hB := hE.bs
  obtain ⟨ga, hg⟩ := hE.defs 7 (by decide)
  refine CW_fn hf bind_is_spot ?_
  show EX cx (d + 1) _ (upd (upd (fun _ => none) "thing" (.int i)) "many" (.int m)) _ H _
  refine EX_cons ?_
  walk_at "E"
  refine EV_CallD hg ?_
  walk_at "E"
  refine is_whole_spec hE hg ?_
  walk_at "E"
  refine ite_dec (fun h => ?_) (fun h => ?_)
  · walk_at "E"
    simpa [h] using hq
  · walk_at "E"
    simpa [h] using hq
theorem are_moves_spec (hE : PD cx) {fa : Addr} (hf : HasDef cx (defAt p08 9) fa) {a : Addr} {ns : List Nat} {m : Nat} (ha : H a = some (.list false (rowV ns))) (hn : ns.Nodup) (hm : ∀ g ∈ ns, g < m) (hl : m ≤ 200)
    (hq : ∀ H', Ext H H' → Q (.bool true) H') : CW cx (d + 3) (.ref fa) [.ref a, .int m] H Q := by
  have hB := hE.bs
  obtain ⟨ga, hg⟩ := hE.defs 8 (by decide)
  have hlen : ns.length ≤ 200 := Nat.le_trans (nodup_length hn hm) hl
  refine CW_fn hf bind_are_moves ?_
  show EX cx (d + 2) _ (upd (upd (fun _ => none) "thing" (.ref a)) "many" (.int m)) _ H _
  refine EX_cons ?_
  walk_at "E"
  refine CW_isinst_list ha ?_
  walk_at "E"
  refine EV_Dict0 fun b hb hb' => ?_
  walk_at "E"
  refine EX_For ?_
  walk_at "E"
  have ha' : (H.put b (.dict [])) a = some (.list false (rowV ns)) := (Hp.put_ne (ne_of_new hb ha)).trans ha
  refine ⟨_, _, .list ha', fun i l' H' => Ext H H' ∧ H' a = some (.list false (rowV ns)) ∧ l' "many" = some (.int m) ∧ l' "met" = some (.ref b) ∧ ∃ kvs, H' b = some (.dict kvs) ∧ kvs.length ≤ i ∧ ∀ n : Nat, (dget kvs n).isSome = decide (n ∈ ns.take i),
    ⟨.put hb, ha', by walk_at "lk", by walk_at "lk", [], Hp.put_self .., by simp, by simp [dget]⟩, ?_, ?_, ?_⟩
  · rintro i l' H' ⟨_, h, _⟩; exact h
  · rintro i w l' H' hi ⟨he, h1, h2, h3, kvs, h4, h5, h6⟩
    obtain ⟨n, hi', rfl⟩ := rowV_get hi
    have hi := hi'
    have hn1 := hm n (List.mem_of_getElem? hi)
    have hlt : i < ns.length := (List.getElem?_eq_some_iff.mp hi).1
    walk_at "E"
    refine EV_CallD hg ?_
    walk_at "E"
    refine is_spot_spec hE hg ?_
    rw [decide_eq_true (show (0 : Int) ≤ n ∧ (n : Int) < m by omega)]
    walk_at "E"
    refine Op_inDict h4 hb' ?_
    have hnot : n ∉ ns.take i := by
      rw [← (List.getElem?_eq_some_iff.mp hi).2]
      intro hmem
      obtain ⟨j, hj, e⟩ := List.mem_iff_getElem.mp hmem
      rw [List.getElem_take] at e
      have hj' : j < i := by rw [List.length_take] at hj; omega
      exact (List.pairwise_iff_getElem.mp hn j i (by omega) hlt hj') e
    rw [h6 n, decide_eq_false hnot]
    walk_at "E"
    refine Set_dict h4 (by omega) ?_
    walk_at "E"
    refine ⟨he.own hb, (Hp.put_ne (ne_of_new hb ha)).trans h1, by walk_at "lk", by walk_at "lk", _, Hp.put_self .., ?_, fun k => ?_⟩
    · unfold dset; split
      · rw [List.length_map]; omega
      · rw [List.length_append, List.length_singleton]; omega
    · rw [dget_dset, List.take_add_one, hi]
      by_cases e : (k : Int) = n
      · have e' : k = n := by omega
        rw [if_pos e]; simp [e']
      · have e' : k ≠ n := fun z => e (by rw [z])
        rw [if_neg e, h6 k]; simp [e']
  · rintro l' H' ⟨he, _⟩
    walk_at "E"
    exact hq H' he
theorem is_web_spec (hE : PD cx) {fa : Addr} (hf : HasDef cx (defAt p08 10) fa) {a : Addr} {web : List (List Nat)} (hW : IsWeb H a web) (hG : GoodWeb web)
    (hq : ∀ H', Ext H H' → Q (.bool true) H') : CW cx (d + 4) (.ref fa) [.ref a] H Q := by
  have hB := hE.bs
  obtain ⟨rs, W⟩ := hW
  obtain ⟨ga, hg⟩ := hE.defs 9 (by decide)
  obtain ⟨t, hM⟩ := hE.most
  have hp := hG.pos
  have hm := hG.most
  have hl := W.len
  refine CW_fn hf bind_is_web ?_
  show EX cx (d + 3) _ (upd (fun _ => none) "thing" (.ref a)) _ H _
  refine EX_cons ?_
  walk_at "E"
  refine CW_isinst_list W.top ?_
  walk_at "E"
  refine CW_len W.top (by walk_at "ln") ?_
  rw [List.length_map, hl]
  walk_at "E"
  refine ite_dec (fun _ => ?_) (fun h => absurd (by omega) h)
  walk_at "E"
  refine ite_ndec (fun h => absurd (by omega) h) (fun _ => ?_)
  walk_at "E"
  refine EV_ListComp ?_
  walk_at "E"
  refine ⟨_, _, .list W.top, by simp; omega, ?_⟩
  refine CompW_grow rs AV.ref (fun _ y _ => y = .bool true) (fun _ _ _ _ _ h => h) (fun H' e => e _ _ W.top) (fun r H' hr he => ?_) (fun ys H' he hlen hys b hb => ?_)
  · obtain ⟨ns, hns, hr'⟩ := W.mem hr
    have W' := W.ext he
    refine EV_CallD hg ?_
    walk_at "E"
    refine CW_len W'.top (by walk_at "ln") ?_
    rw [List.length_map, hl]
    walk_at "E"
    exact (are_moves_spec hE hg (he _ _ hr') (hG.nodup _ hns) (hG.lt _ hns) hm fun H'' e'' => ⟨e'', rfl⟩).le (d := d + 3) (d' := 3) (lek rfl)
  · walk_at "E"
    have e : ys = (List.replicate rs.length true).map AV.bool := by
      apply List.ext_getElem
      · simp [hlen]
      · intro i h1 h2
        have hi : i < rs.length := by omega
        simpa using hys i rs[i] ys[i] (by simp [hi]) (by simp [h1])
    refine CW_all (bs := List.replicate rs.length true) (ro := false) (by rw [Hp.put_self, e]) ?_
    have : (List.replicate rs.length true).all id = true := by simp
    rw [this]
    walk_at "E"
    exact hq _ (he.put_r hb)
theorem need_web_spec (hE : PD cx) {fa : Addr} (hf : HasDef cx (defAt p08 11) fa) {a : Addr} {web : List (List Nat)} (hW : IsWeb H a web) (hG : GoodWeb web)
    (hq : ∀ H', Ext H H' → Q .none H') : CW cx (d + 5) (.ref fa) [.ref a] H Q := by
  have hB := hE.bs
  obtain ⟨ga, hg⟩ := hE.defs 10 (by decide)
  refine CW_fn hf bind_need_web ?_
  show EX cx (d + 4) _ (upd (fun _ => none) "web" (.ref a)) _ H _
  refine EX_cons ?_
  walk_at "E"
  refine EV_CallD hg ?_
  walk_at "E"
  refine is_web_spec hE hg hW hG fun H' he => ?_
  walk_at "E"
  exact hq H' he

end

-- L08b
set_option maxRecDepth 10000
set_option maxHeartbeats 4000000
section
variable {cx : Cx} {d : Nat} {H : Hp} {Q : AV → Hp → Prop}
theorem comers_of_spec (hE : PD cx) {fa : Addr} (hf : HasDef cx (defAt p08 12) fa) {a : Addr} {web : List (List Nat)} (hW : IsWeb H a web) (hG : GoodWeb web)
    (hq : ∀ H' f, Ext H H' → NewWeb H H' f (comersWeb web web.length) → Q (.ref f) H') : CW cx (d + 1) (.ref fa) [.ref a] H Q := by
  have hB := hE.bs
  obtain ⟨rs, W⟩ := hW
  have hl := W.len
  have hm := hG.most
  refine CW_fn hf bind_comers_of ?_
  show EX cx d _ (upd (fun _ => none) "web" (.ref a)) _ H _
  refine EX_cons ?_
  refine EX_AssignComp ?_
  walk_at "E"
  refine ⟨_, _, .list W.top, by simp; omega, ?_⟩
  refine CompW_rows rs AV.ref (fun _ => []) (fun H' e => e _ _ W.top) (fun r H' Q' hr he k => ?_) (fun fs H' he hlen hn hfr hrow f hf' => ?_)
  · refine EV_List ?_
    walk_at "E"
    exact ⟨by simp, k⟩
  have hf0 : H f = none := he.none hf'
  have W' : WebAt (H'.put f (.list false (fs.map .ref))) f fs (comersWeb web 0) := by
    refine ⟨Hp.put_self .., by simp [hlen, hl, comersWeb], fun i r ns h1 h2 => ?_, hn, fun hmem => ?_⟩
    · have hi : i < rs.length := by rw [← hlen]; exact (List.getElem?_eq_some_iff.mp h1).1
      have hr := hrow i rs[i] r (by simp [hi]) h1
      rw [Hp.put_ne (ne_of_new hf' hr), hr]
      have : ns = [] := by
        simp only [comersWeb, List.getElem?_map, Option.map_eq_some_iff] at h2
        obtain ⟨g, _, rfl⟩ := h2
        simp [comersTo]
      rw [this]; rfl
    · obtain ⟨k, hk, e⟩ := List.mem_iff_getElem.mp hmem
      have hkx : k < rs.length := by omega
      have := hrow k rs[k] f (by simp [hkx]) (by rw [← e]; simp [hk])
      rw [hf'] at this; cases this
  have he' : Ext H (H'.put f (.list false (fs.map .ref))) := he.put_r hf'
  generalize H'.put f _ = H₁ at W' he' ⊢
  clear hrow he hf' 
  walk_at "E"
  refine EX_ForEnum hB ?_
  walk_at "E"
  refine ⟨a, false, _, rfl, he' _ _ W.top, fun i l' H' => Ext H H' ∧ WebAt H' f fs (comersWeb web i) ∧ l' "found" = some (.ref f), ⟨he', W', by walk_at "lk"⟩, ?_, ?_, ?_⟩
  · rintro i l' H' ⟨e, _⟩; exact e _ _ W.top
  · rintro i w l' H' hi ⟨e, Wf, h1⟩
    simp only [List.getElem?_map, Option.map_eq_some_iff] at hi
    obtain ⟨r, hi, rfl⟩ := hi
    have hil : i < web.length := by rw [← hl]; exact (List.getElem?_eq_some_iff.mp hi).1
    have hrow : H r = some (.list false (rowV (web.getD i []))) := W.row i r _ hi (by simp [hil])
    refine EX_cons ?_
    refine EX_For ?_
    walk_at "E"
    refine ⟨_, _, .list (e _ _ hrow), fun j l' H' => Ext H H' ∧ WebAt H' f fs (comersIn web i j) ∧ l' "found" = some (.ref f) ∧ l' "spot" = some (.int i), ⟨e, by rw [comersIn_zero]; exact Wf, by walk_at "lk", by walk_at "lk"⟩, ?_, ?_, ?_⟩
    · rintro j l' H' ⟨e, _⟩; exact e _ _ hrow
    · rintro j w l' H' hj ⟨e, Wf, h1, h2⟩
      obtain ⟨g, hj', rfl⟩ := rowV_get hj
      have hg : g < web.length := (hG.row i).2 g (List.mem_of_getElem? hj')
      obtain ⟨s1, s2⟩ := comersIn_step hG hj'
      have hgl : g < fs.length := by rw [hlen, hl]; exact hg
      have hgf : fs[g]? = some fs[g] := by simp [hgl]
      have hgr := Wf.row g fs[g] _ hgf s1
      have hlen' : (comersTo web i g).length ≤ 200 := by
        refine Nat.le_trans (nodup_length (n := web.length) (comersTo_nodup web i g) fun x hx => ?_) hm
        have := (mem_comersTo.mp hx).1; omega
      refine EX_cons ?_
      walk_at "E"
      refine EV_Meth F.slot_list_append F.type_list_append ?_
      walk_at "E"
      refine Get_list Wf.top (by walk_at "nn") (by walk_at "ln") (v := .ref fs[g]) (by simp [hgl]) ?_
      refine ⟨fs[g], false, _, rfl, hgr, ?_⟩
      walk_at "E"
      refine CW_append hgr (by walk_at "ln") ?_
      refine ⟨rfl, ?_⟩
      walk_at "E"
      have e2 : rowV (comersTo web i g) ++ [AV.int i] = rowV (comersTo web i g ++ [i]) := by simp [rowV]
      rw [e2]
      exact ⟨e.own (hfr _ (List.getElem_mem hgl)), by rw [← s2]; exact Wf.set hgf _, h1, h2⟩
    · rintro l' H' ⟨e, Wf, h1, h2⟩
      rw [rowV_length, comersIn_all] at Wf
      walk_at "E"
      exact ⟨e, Wf, h1⟩
  · rintro l' H' ⟨e, Wf, h1⟩
    rw [List.length_map, hl] at Wf
    walk_at "E"
    exact hq H' f e ⟨fs, Wf, hf0, hfr⟩
theorem behind_first_spec (hE : PD cx) {fa : Addr} (hf : HasDef cx (defAt p08 13) fa) {a : Addr} {web : List (List Nat)} (hW : IsWeb H a web) (hG : GoodWeb web)
    (hq : ∀ H' f found, Ext H H' → H f = none → H' f = some (.list false (rowV found)) → Found web found → Q (.ref f) H') : CW cx (d + 2) (.ref fa) [.ref a] H Q := by
  have hB := hE.bs
  obtain ⟨ga, hg⟩ := hE.defs 12 (by decide)
  obtain ⟨rs, W⟩ := id hW
  have hl := W.len
  have hm := hG.most
  refine CW_fn hf bind_behind_first ?_
  show EX cx (d + 1) _ (upd (fun _ => none) "web" (.ref a)) _ H _
  refine EX_cons ?_
  walk_at "E"
  refine EV_CallD hg ?_
  walk_at "E"
  refine (comers_of_spec hE hg hW hG fun H₁ c e1 N => ?_).le (d := d + 1) (d' := 1) (lek rfl)
  obtain ⟨cs, Wc, _, _⟩ := N
  have W1 := W.ext e1
  walk_at "E"
  refine EX_AssignComp ?_
  walk_at "E"
  refine ⟨_, _, .list W1.top, by simp; omega, ?_⟩
  rw [refs_eq rs, hl]
  refine CompW_map (List.range web.length) _ (fun i => AV.int (((web.getD i []).length : Nat) : Int)) (by rw [← hl, ← refs_eq rs]; exact W1.top) (fun i hi => ?_) (fun b hb => ?_)
  · have hi' : i < web.length := List.mem_range.mp hi
    have hil : i < rs.length := by omega
    have hrow : H₁ rs[i] = some (.list false (rowV (web.getD i []))) := W1.row i _ _ (by simp [hil]) (by simp [hi'])
    have hz := hG.rowLen i
    have e0 : rs.getD i 0 = rs[i] := by simp [hil]
    rw [e0]
    walk_at "E"
    refine CW_len hrow (by rw [rowV_length]; omega) ⟨?_, rfl⟩
    rw [rowV_length]
  have e2 : Ext H₁ (H₁.put b (.list false (tabV web.length fun i => AV.int (((web.getD i []).length : Nat) : Int)))) := .put hb
  have hb0 := e1.none hb
  have hWt : (H₁.put b (.list false (tabV web.length fun i => AV.int (((web.getD i []).length : Nat) : Int)))) b = _ := Hp.put_self ..
  change andThen cx (d + 1) _ _ _ _ _ (H₁.put b (.list false (tabV web.length fun i => AV.int (((web.getD i []).length : Nat) : Int))))
  generalize H₁.put b _ = H₂ at e2 hWt ⊢
  have W2 := W1.ext e2
  have Wc2 := Wc.ext e2
  walk_at "E"
  refine EX_AssignComp ?_
  walk_at "E"
  refine CW_len W2.top (by walk_at "ln") ?_
  rw [List.length_map, hl]
  walk_at "E"
  refine CW_range1 fun g hg' => ?_
  have e3 : Ext H₂ (H₂.put g (.range 0 web.length)) := .put hg'
  refine ⟨_, _, .range (Hp.put_self ..) (by decide) (by decide) (by omega) (by omega), by rw [spanZ_length]; omega, ?_⟩
  generalize H₂.put g _ = H₃ at e3 ⊢
  rw [spanZ0]
  refine CompW_filter (List.range web.length) _ (fun (i : Nat) => AV.int (i : Int)) (fun s => decide ((web.getD s []).length = 0)) trivial (fun i hi => ?_) (fun i hi _ => ?_) (fun f hf' => ?_)
  · have hi' : i < web.length := List.mem_range.mp hi
    walk_at "E"
    refine Get_list (e3 _ _ hWt) (by walk_at "nn") (by walk_at "ln") (v := .int (((web.getD i []).length : Nat) : Int)) (tabV_get (by omega)) ?_
    walk_at "E"
    exact ⟨by simp, rfl⟩
  · walk_at "E"
    exact ⟨rfl, rfl⟩
  change andThen cx (d + 1) _ _ _ _ _ (H₃.put f (.list false (rowV ((List.range web.length).filter fun s => decide ((web.getD s []).length = 0)))))
  have e4 : Ext H₃ (H₃.put f (.list false (rowV ((List.range web.length).filter fun s => decide ((web.getD s []).length = 0))))) := .put hf'
  have hF : (H₃.put f (.list false (rowV ((List.range web.length).filter fun s => decide ((web.getD s []).length = 0))))) f = _ := Hp.put_self ..
  have hf0 : H f = none := e1.none (e2.none (e3.none hf'))
  have hbf : b ≠ f := ne_of_new hf' (e3 _ _ hWt)
  have hWb := e4 _ _ (e3 _ _ hWt)
  have Wc4 := (Wc2.ext e3).ext e4
  have hE4 := ((e1.trans e2).trans e3).trans e4
  have hc1 : H₁ b = none := hb
  generalize H₃.put f _ = H₄ at hF hWb Wc4 hE4 ⊢
  have hcs : ∀ r ∈ cs, r ≠ b ∧ r ≠ f := fun r hr => by
    obtain ⟨ns, _, h1⟩ := Wc.mem hr
    exact ⟨ne_of_new hb h1, ne_of_new hf' (e3 _ _ (e2 _ _ h1))⟩
  have hcb : c ≠ b ∧ c ≠ f := ⟨ne_of_new hb Wc.top, ne_of_new hf' (e3 _ _ (e2 _ _ Wc.top))⟩
  clear e2 e3 e4 hf' hg' hWt W2 Wc2
  walk_at "E"
  have keepC : ∀ (H' : Hp) (o : AObj), WebAt H' c cs (comersWeb web web.length) → WebAt (H'.put b o) c cs (comersWeb web web.length) ∧ WebAt (H'.put f o) c cs (comersWeb web web.length) := fun H' o Wx =>
    ⟨⟨(Hp.put_ne hcb.1).trans Wx.top, Wx.len, fun i r ns h1 h2 => (Hp.put_ne (hcs r (List.mem_of_getElem? h1)).1).trans (Wx.row i r ns h1 h2), Wx.nodup, Wx.apart⟩,
     ⟨(Hp.put_ne hcb.2).trans Wx.top, Wx.len, fun i r ns h1 h2 => (Hp.put_ne (hcs r (List.mem_of_getElem? h1)).2).trans (Wx.row i r ns h1 h2), Wx.nodup, Wx.apart⟩⟩
  refine EX_While (fun n l' H' => Ext H H' ∧ WebAt H' c cs (comersWeb web web.length) ∧ l' "comers" = some (.ref c) ∧ l' "wanting" = some (.ref b) ∧ l' "found" = some (.ref f) ∧ ∃ (at_ : Nat) (found : List Nat) (w : Nat → Nat), n = web.length - at_ ∧ l' "at" = some (.int at_) ∧
      H' b = some (.list false (tabV web.length fun s => .int (w s))) ∧ H' f = some (.list false (rowV found)) ∧ KInv web at_ found w) web.length
    ⟨hE4, Wc4, by walk_at "lk", by walk_at "lk", by walk_at "lk", 0, _, _, by omega, by walk_at "lk", hWb, hF, .start web⟩ ?_
  rintro n l' H' ⟨e, Wx, h1, h2, h3, at_, found, w, rfl, h4, h5, h6, K⟩
  have hfl : found.length ≤ web.length := nodup_length K.nodup K.lt
  refine TV.mono (Q₁ := fun v H₁ => H₁ = H' ∧ v = decide ((at_ : Int) < found.length)) ?_ ?_
  · walk_at "E"
    refine CW_len h6 (by walk_at "ln") ?_
    rw [rowV_length]
    walk_at "E"
    exact ⟨rfl, rfl⟩
  rintro v H₁' ⟨rfl, rfl⟩
  refine ite_dec (fun hat => ?_) (fun hat => ?_)
  · have hat' : at_ < found.length := by omega
    have hx : found[at_]? = some found[at_] := by simp [hat']
    have hxl := K.lt _ (List.getElem_mem hat')
    obtain ⟨r, hr1, hr2, hr3⟩ := Wx.at (i := found[at_]) (by simp [comersWeb]; exact hxl)
    have hcw : (comersWeb web web.length).getD found[at_] [] = comersTo web web.length found[at_] := by simp [comersWeb, hxl]
    rw [hcw] at hr3
    have hne1 : r ≠ b := (hcs r (List.mem_of_getElem? hr1)).1
    have hne2 : r ≠ f := (hcs r (List.mem_of_getElem? hr1)).2
    refine EX_cons ?_
    refine EX_For ?_
    walk_at "E"
    refine Get_list h6 (by walk_at "nn") (by walk_at "ln") (v := .int found[at_]) (by simp [rowV, hat']) ?_
    refine Get_list Wx.top (by walk_at "nn") (by simp; have := Wx.len; simp [comersWeb] at this; omega) (v := .ref r) hr2 ?_
    refine ⟨_, _, .list hr3, fun j l' H' => Ext H H' ∧ WebAt H' c cs (comersWeb web web.length) ∧ l' "comers" = some (.ref c) ∧ l' "wanting" = some (.ref b) ∧ l' "found" = some (.ref f) ∧ H' r = some (.list false (rowV (comersTo web web.length found[at_]))) ∧ l' "at" = some (.int at_) ∧
      ∃ (found' : List Nat) (w' : Nat → Nat), H' b = some (.list false (tabV web.length fun s => .int (w' s))) ∧ H' f = some (.list false (rowV found')) ∧ KIn web at_ found[at_] ((comersTo web web.length found[at_]).take j) found' w',
      ⟨e, Wx, h1, h2, h3, hr3, h4, found, w, h5, h6, K.open_ hx⟩, ?_, ?_, ?_⟩
    · rintro j l' H' ⟨_, _, _, _, _, h, _⟩; exact h
    · rintro j v l' H' hj ⟨e, Wx, h1, h2, h3, hr, h4, found', w', h5, h6, K'⟩
      obtain ⟨x, hj', rfl⟩ := rowV_get hj
      obtain ⟨hx1, hx2⟩ := mem_comersTo.mp (List.mem_of_getElem? hj')
      obtain ⟨k1, k2⟩ := K'.turn hG hx1 hx2 (nodup_take_not (comersTo_nodup ..) hj')
      have hfl' : found'.length ≤ web.length := nodup_length K'.nodup K'.lt
      have htk : (comersTo web web.length found[at_]).take j ++ [x] = (comersTo web web.length found[at_]).take (j + 1) := by rw [List.take_add_one, hj']; rfl
      rw [htk] at k2
      refine EX_cons ?_
      walk_at "E"
      refine Get_list h5 (by walk_at "nn") (by walk_at "ln") (v := .int (w' x)) (tabV_get (by omega)) ?_
      walk_at "E"
      refine Set_list h5 (by walk_at "nn") (by walk_at "ln") (by walk_at "ln") ?_
      have ew : (tabV web.length fun s => AV.int (w' s)).set ((x : Int)).toNat (.int ((w' x : Int) - 1)) = tabV web.length fun s => AV.int ((if s = x then w' x - 1 else w' s : Nat) : Int) := by
        rw [Int.toNat_natCast, tabV_set]
        apply tabV_congr
        intro s _
        by_cases es : s = x
        · rw [if_pos es, if_pos es]; congr 1; omega
        · rw [if_neg es, if_neg es]
      rw [ew]
      have g5 : (H'.put b (.list false (tabV web.length fun s => AV.int ((if s = x then w' x - 1 else w' s : Nat) : Int)))) b = _ := Hp.put_self ..
      have g6 := (Hp.put_ne (H := H') (o := .list false (tabV web.length fun s => AV.int ((if s = x then w' x - 1 else w' s : Nat) : Int))) (Ne.symm hbf)).trans h6
      have gr := (Hp.put_ne (H := H') (o := .list false (tabV web.length fun s => AV.int ((if s = x then w' x - 1 else w' s : Nat) : Int))) hne1).trans hr
      have gW := (keepC H' (.list false (tabV web.length fun s => AV.int ((if s = x then w' x - 1 else w' s : Nat) : Int))) Wx).1
      have ge := e.own (o := .list false (tabV web.length fun s => AV.int ((if s = x then w' x - 1 else w' s : Nat) : Int))) hb0
      generalize H'.put b _ = H₅ at g5 g6 gr gW ge ⊢
      walk_at "E"
      refine Get_list g5 (by walk_at "nn") (by walk_at "ln") (v := .int ((if x = x then w' x - 1 else w' x : Nat) : Int)) (tabV_get (by omega)) ?_
      rw [if_pos rfl]
      walk_at "E"
      refine ite_dec (fun hz => ?_) (fun hz => ?_)
      · rw [if_pos (show w' x - 1 = 0 by omega)] at k2
        walk_at "E"
        refine EV_Meth F.slot_list_append F.type_list_append ?_
        walk_at "E"
        refine ⟨f, false, _, rfl, g6, ?_⟩
        walk_at "E"
        refine CW_append g6 (by walk_at "ln") ?_
        refine ⟨rfl, ?_⟩
        walk_at "E"
        have e2 : rowV found' ++ [AV.int x] = rowV (found' ++ [x]) := by simp [rowV]
        rw [e2]
        exact ⟨ge.own hf0, (keepC _ _ gW).2, by walk_at "lk", by walk_at "lk", by walk_at "lk", (Hp.put_ne hne2).trans gr, by walk_at "lk", _, _, (Hp.put_ne hbf).trans g5, Hp.put_self .., k2⟩
      · rw [if_neg (show ¬ w' x - 1 = 0 by omega)] at k2
        walk_at "E"
        exact ⟨ge, gW, by walk_at "lk", by walk_at "lk", by walk_at "lk", gr, by walk_at "lk", _, _, g5, g6, k2⟩
    · rintro l' H' ⟨e, Wx, h1, h2, h3, hr, h4, found', w', h5, h6, K'⟩
      rw [rowV_length, List.take_length] at K'
      have K'' := K'.close fun s hs => by rw [mem_comersTo]; exact ⟨fun z => z.2, fun z => ⟨hs, z⟩⟩
      walk_at "E"
      exact ⟨web.length - (at_ + 1), by omega, e, Wx, by walk_at "lk", by walk_at "lk", by walk_at "lk", at_ + 1, found', w', rfl, by walk_at "lk", h5, h6, K''⟩
  · walk_at "E"
    have hlast : at_ = found.length := by have := K.le; omega
    subst hlast
    exact hq _ f found e hf0 h6 K.found
theorem need_game_spec (hE : PD cx) {fa : Addr} (hf : HasDef cx (defAt p08 15) fa) {a : Addr} {web : List (List Nat)} (hW : IsWeb H a web) (hG : GoodWeb web) (hC : Calm web)
    (hq : ∀ H' f found, Ext H H' → H f = none → H' f = some (.list false (rowV found)) → Found web found → found.length = web.length → (∀ s < web.length, s ∈ found) → Q (.ref f) H') : CW cx (d + 6) (.ref fa) [.ref a] H Q := by
  have hB := hE.bs
  obtain ⟨ga, hg⟩ := hE.defs 11 (by decide)
  obtain ⟨ba, hb⟩ := hE.defs 13 (by decide)
  have hm := hG.most
  refine CW_fn hf bind_need_game ?_
  show EX cx (d + 5) _ (upd (fun _ => none) "web" (.ref a)) _ H _
  refine EX_cons ?_
  walk_at "E"
  refine EV_CallD hg ?_
  walk_at "E"
  refine (need_web_spec hE hg hW hG fun H₁ e1 => ?_)
  refine ⟨rfl, ?_⟩
  walk_at "E"
  refine EV_CallD hb ?_
  walk_at "E"
  refine (behind_first_spec hE hb (hW.ext e1) hG fun H₂ f found e2 hf0 hF F => ?_).le (d := d + 5) (d' := 2) (lek rfl)
  obtain ⟨w1, w2⟩ := F.whole hG hC
  obtain ⟨rs, W⟩ := hW.ext (e1.trans e2)
  have hl := W.len
  walk_at "E"
  refine CW_len hF (by walk_at "ln") ?_
  walk_at "E"
  refine CW_len W.top (by walk_at "ln") ?_
  rw [rowV_length, List.length_map, hl, w1]
  walk_at "E"
  refine ite_dec (fun h => absurd h (by omega)) (fun _ => ?_)
  walk_at "E"
  exact hq H₂ f found (e1.trans e2) (e1.none hf0) hF F w1 w2

end

-- L08c
set_option maxRecDepth 10000
set_option maxHeartbeats 4000000
section
variable {cx : Cx} {d : Nat} {H : Hp} {Q : AV → Hp → Prop}
theorem cell_at_spec (hE : PD cx) {fa : Addr} (hf : HasDef cx (defAt p08 27) fa) (hlen : cx.nums.length ≤ 63) {k : Int} (hk : 0 ≤ k) (hq : Q (.int (cx.nums.getD k.toNat 0)) H) : CW cx (d + 1) (.ref fa) [.ref cx.script, .int k] H Q := by
  have hB := hE.bs
  refine CW.scr fun hs => ?_
  refine CW_fn hf bind_law_cell_at ?_
  show EX cx d _ (upd (upd (fun _ => none) "_law_script" (.ref cx.script)) "_law_k" (.int k)) _ H _
  refine EX_cons ?_
  walk_at "E"
  refine CW_len hs (by walk_at "ln") ?_
  walk_at "E"
  refine ite_dec (fun h => ?_) (fun h => ?_)
  · walk_at "E"
    have hlt : k.toNat < cx.nums.length := by simp at h; omega
    refine Get_list hs hk (by walk_at "ln") (v := .int cx.nums[k.toNat]) (by simp [hlt]) ?_
    walk_at "E"
    rw [List.getD_eq_getElem?_getD] at hq
    simpa [hlt] using hq
  · walk_at "E"
    have hge : cx.nums.length ≤ k.toNat := by simp at h; omega
    rw [List.getD_eq_getElem?_getD, List.getElem?_eq_none hge] at hq
    exact hq
theorem mixed_spec {fa : Addr} (hf : HasDef cx (defAt p08 28) fa) {c k : Int} (h0 : 0 ≤ k) (h1 : k < 2 ^ 20) (hq : Q (.int (mixed c k)) H) : CW cx (d + 1) (.ref fa) [.int c, .int k] H Q := by
  refine CW_fn hf bind_law_mixed ?_
  show EX cx d _ (upd (upd (fun _ => none) "_law_cell" (.int c)) "_law_k" (.int k)) _ H _
  refine EX_cons ?_
  walk_at "E"
  refine Op_mul (mulR (by decide)) ?_
  walk_at "E"
  refine Op_mul (mulR (by omega)) ?_
  walk_at "E"
  refine Op_mul (mulL ?_) ?_
  · generalize (c % 1000000007 + 17) * 48271 = z
    omega
  walk_at "E"
  refine Op_mul (mulR (by decide)) ?_
  walk_at "E"
  unfold mixed at hq
  exact hq
theorem order_by_spec (hE : PD cx) {fa : Addr} (hf : HasDef cx (defAt p08 29) fa) {c : Int} {n : Nat} (hn : n ≤ 200)
    (hq : ∀ H' f order, Ext H H' → H f = none → H' f = some (.list false (rowV order)) → order.Perm (List.range n) → Q (.ref f) H') : CW cx (d + 2) (.ref fa) [.int c, .int n] H Q := by
  have hB := hE.bs
  obtain ⟨ga, hg⟩ := hE.defs 28 (by decide)
  refine CW_fn hf bind_law_order_by ?_
  show EX cx (d + 1) _ (upd (upd (fun _ => none) "_law_cell" (.int c)) "_law_many" (.int n)) _ H _
  refine EX_cons ?_
  walk_at "E"
  refine CW_range1 fun r hr => ?_
  refine CW_list_range (Hp.put_self ..) (by omega) (by omega) (by omega) (by omega) fun l hl => ?_
  rw [spanZ0]
  have e1 : Ext H ((H.put r (.range 0 n)).put l (.list false (rowV (List.range n)))) := (Ext.put hr).put_r hl
  have hL : ((H.put r (.range 0 n)).put l (.list false (rowV (List.range n)))) l = _ := Hp.put_self ..
  have hl0 : H l = none := (Ext.put hr).none hl
  change andThen cx (d + 1) _ _ _ _ _ ((H.put r (.range 0 n)).put l (.list false (rowV (List.range n))))
  generalize (H.put r _).put l _ = H₁ at e1 hL ⊢
  walk_at "E"
  refine EV_List ?_
  walk_at "E"
  refine ⟨by simp, fun o ho => ?_⟩
  have e2 : Ext H (H₁.put o (.list false (rowV []))) := e1.put_r ho
  have hO : (H₁.put o (.list false (rowV []))) o = _ := Hp.put_self ..
  have ho0 : H o = none := e1.none ho
  have hlo : l ≠ o := ne_of_new ho hL
  have hL2 := (Hp.put_ne (H := H₁) (o := .list false (rowV [])) hlo).trans hL
  change andThen cx (d + 1) _ _ _ _ _ (H₁.put o (.list false (rowV [])))
  generalize H₁.put o _ = H₂ at e2 hO hL2 ⊢
  walk_at "E"
  refine EX_For ?_
  walk_at "E"
  refine CW_range1 fun r2 hr2 => ?_
  have e3 := e2.put_r (o := .range 0 n) hr2
  refine ⟨_, _, .range (Hp.put_self ..) (by decide) (by decide) (by omega) (by omega), fun i l' H' => Ext H H' ∧ l' "_law_left" = some (.ref l) ∧ l' "_law_order" = some (.ref o) ∧ l' "_law_cell" = some (.int c) ∧ ∃ order left, H' l = some (.list false (rowV left)) ∧ H' o = some (.list false (rowV order)) ∧
    order.length = i ∧ (order ++ left).Perm (List.range n), ⟨e3, by walk_at "lk", by walk_at "lk", by walk_at "lk", [], List.range n, (Hp.put_ne (ne_of_new hr2 hL2)).trans hL2, (Hp.put_ne (ne_of_new hr2 hO)).trans hO, rfl, .refl _⟩, ?_, ?_, ?_⟩
  · intros; trivial
  · rintro i w l' H' hi ⟨e, h1, h2, h3, order, left, h4, h5, h6, hp⟩
    obtain ⟨hi1, rfl⟩ := spanZ_get hi
    have hlen := hp.length_eq
    rw [List.length_append, List.length_range] at hlen
    have hpos : 0 < left.length := by omega
    have hm := mixed_nonneg c (0 + (i : Int))
    refine EX_cons ?_
    walk_at "E"
    refine EV_Meth F.slot_list_append F.type_list_append ?_
    walk_at "E"
    refine ⟨o, false, _, rfl, h5, ?_⟩
    walk_at "E"
    refine EV_Meth F.slot_list_pop F.type_list_pop ?_
    walk_at "E"
    refine ⟨l, false, _, rfl, h4, ?_⟩
    walk_at "E"
    refine EV_CallD hg ?_
    walk_at "E"
    refine (mixed_spec hg (by omega) (by omega) ?_).le (d := d + 1) (d' := 1) (lek rfl)
    walk_at "E"
    refine CW_len h4 (by walk_at "ln") ?_
    rw [rowV_length]
    refine Op_mod (by omega) ?_
    have hlt : (mixed c (0 + (i : Int)) % (left.length : Int)).toNat < left.length := by
      have h1 := Int.emod_lt_of_pos (mixed c (0 + (i : Int))) (show (0 : Int) < left.length by omega)
      have h2 := Int.emod_nonneg (mixed c (0 + (i : Int))) (show (left.length : Int) ≠ 0 by omega)
      omega
    have hx : left[(mixed c (0 + (i : Int)) % (left.length : Int)).toNat]? = some left[(mixed c (0 + (i : Int)) % (left.length : Int)).toNat] := by simp [hlt]
    have hp' := perm_turn hp hx
    have hnn := Int.emod_nonneg (mixed c (0 + (i : Int))) (show (left.length : Int) ≠ 0 by omega)
    generalize mixed c (0 + (i : Int)) % (left.length : Int) = k at hlt hx hp' hnn ⊢
    generalize left[k.toNat] = x at hx hp'
    walk_at "E"
    refine CW_pop h4 (by walk_at "ln") hnn (v := .int x) (by simp only [rowV, List.getElem?_map, hx, Option.map_some]) ?_
    rw [rowV_eraseIdx]
    have g4 : (H'.put l (.list false (rowV (left.eraseIdx k.toNat)))) l = _ := Hp.put_self ..
    have g5 := (Hp.put_ne (H := H') (o := .list false (rowV (left.eraseIdx k.toNat))) (Ne.symm hlo)).trans h5
    have ge := e.own (o := .list false (rowV (left.eraseIdx k.toNat))) hl0
    generalize H'.put l _ = H₅ at g4 g5 ge ⊢
    walk_at "E"
    refine CW_append g5 (by walk_at "ln") ?_
    refine ⟨rfl, ?_⟩
    walk_at "E"
    have e2 : rowV order ++ [AV.int x] = rowV (order ++ [x]) := by simp [rowV]
    rw [e2]
    exact ⟨ge.own ho0, by walk_at "lk", by walk_at "lk", by walk_at "lk", order ++ [x], left.eraseIdx k.toNat, (Hp.put_ne hlo).trans g4, Hp.put_self .., by rw [List.length_append, List.length_singleton, h6], hp'⟩
  · rintro l' H' ⟨e, h1, h2, h3, order, left, h4, h5, h6, hp⟩
    rw [spanZ_length] at h6
    have hlen := hp.length_eq
    rw [List.length_append, List.length_range] at hlen
    have hnil : left = [] := List.length_eq_zero_iff.mp (by omega)
    subst hnil
    rw [List.append_nil] at hp
    walk_at "E"
    exact hq H' o order e ho0 h5 hp
theorem copied_spec (hE : PD cx) {fa : Addr} (hf : HasDef cx (defAt p08 31) fa) {a : Addr} {web : List (List Nat)} (hW : IsWeb H a web) (hG : GoodWeb web)
    (hq : ∀ H' f, Ext H H' → NewWeb H H' f web → Q (.ref f) H') : CW cx (d + 1) (.ref fa) [.ref a] H Q := by
  have hB := hE.bs
  obtain ⟨rs, W⟩ := hW
  have hl := W.len
  have hm := hG.most
  refine CW_fn hf bind_law_copied ?_
  show EX cx d _ (upd (fun _ => none) "_law_web" (.ref a)) _ H _
  refine EX_cons ?_
  walk_at "E"
  refine EV_ListComp ?_
  walk_at "E"
  refine ⟨_, _, .list W.top, by simp; omega, ?_⟩
  rw [refs_eq rs, hl]
  refine CompW_rows (List.range web.length) _ (fun i => rowV (web.getD i [])) (fun H' e => by rw [← hl, ← refs_eq rs]; exact e _ _ W.top) (fun i H' Q' hi he k => ?_) (fun fs H' he hlen hn hfr hrow f hf' => ?_)
  · have hi' : i < web.length := List.mem_range.mp hi
    have hil : i < rs.length := by omega
    have hr := W.row i rs[i] (web.getD i []) (by simp [hil]) (by simp [hi'])
    have hz := hG.rowLen i
    have e0 : rs.getD i 0 = rs[i] := by simp [hil]
    rw [e0]
    walk_at "E"
    exact CW_list_copy (he _ _ hr) (by rw [rowV_length]; omega) k
  walk_at "E"
  refine hq _ f (he.put_r hf') ⟨fs, ⟨Hp.put_self .., by simpa using hlen, fun i r ns h1 h2 => ?_, hn, fun hmem => ?_⟩, he.none hf', hfr⟩
  · have hi : i < web.length := (List.getElem?_eq_some_iff.mp h2).1
    have hr := hrow i i r (by simp [hi]) h1
    have e0 : web.getD i [] = ns := by simp [h2]
    rw [e0] at hr
    rw [Hp.put_ne (ne_of_new hf' hr)]; exact hr
  · obtain ⟨k, hk, e⟩ := List.mem_iff_getElem.mp hmem
    have hkx : k < web.length := by rw [← List.length_range (n := web.length), ← hlen]; exact hk
    have := hrow k k f (by simp [hkx]) (by rw [← e]; simp [hk])
    rw [hf'] at this; cases this
theorem web_by_spec (hE : PD cx) {fa : Addr} (hf : HasDef cx (defAt p08 30) fa) (hlen : cx.nums.length ≤ 63) {at_ : Nat} 
    (hq : ∀ H' f web, Ext H H' → NewWeb H H' f web → GoodWeb web → Calm web → web.length ≤ 40 → Q (.ref f) H') : CW cx (d + 3) (.ref fa) [.ref cx.script, .int at_] H Q := by
  have hB := hE.bs
  obtain ⟨ca, hc⟩ := hE.defs 27 (by decide)
  obtain ⟨oa, ho⟩ := hE.defs 29 (by decide)
  obtain ⟨ma, hma⟩ := hE.defs 28 (by decide)
  refine CW_fn hf bind_law_web_by ?_
  show EX cx (d + 2) _ (upd (upd (fun _ => none) "_law_script" (.ref cx.script)) "_law_at" (.int at_)) _ H _
  refine EX_cons ?_
  walk_at "E"
  refine EV_CallD hc ?_
  walk_at "E"
  refine (cell_at_spec hE hc hlen (by walk_at "nn") ?_).le (d := d + 2) (d' := 1) (lek rfl)
  generalize cx.nums.getD _ 0 = c0
  walk_at "e"
  walk_at "e"
  walk_at "e"
  refine at_next ?_
  refine EX_cut (fun l' H' => H' = H ∧ l' "_law_script" = some (.ref cx.script) ∧ l' "_law_at" = some (.int at_) ∧ ∃ n : Nat, 1 ≤ n ∧ n ≤ 40 ∧ l' "_law_many" = some (.int n)) ?_ ?_
  · walk_at "E"
    refine EV_CallD hc ?_
    walk_at "E"
    refine (cell_at_spec hE hc hlen (by walk_at "nn") ?_).le (d := d + 2) (d' := 1) (lek rfl)
    generalize cx.nums.getD _ 0 = c1
    walk_at "E"
    refine ite_dec (fun h => ?_) (fun h => ?_)
    · walk_at "E"
      refine EV_CallD hc ?_
      walk_at "E"
      refine (cell_at_spec hE hc hlen (by walk_at "nn") ?_).le (d := d + 2) (d' := 1) (lek rfl)
      generalize cx.nums.getD _ 0 = c2
      walk_at "E"
      refine ⟨rfl, by walk_at "lk", by walk_at "lk", (10 + c2 % 31).toNat, by omega, by omega, ?_⟩
      rw [Int.toNat_of_nonneg (by omega)]; walk_at "lk"
    · walk_at "E"
      refine ⟨rfl, by walk_at "lk", by walk_at "lk", (1 + c0 % 9).toNat, by omega, by omega, ?_⟩
      rw [Int.toNat_of_nonneg (by omega)]; walk_at "lk"
  rintro l1 H' ⟨rfl, k1, k2, n, hn1, hn2, k3⟩
  walk_at "E"
  refine EV_CallD ho ?_
  walk_at "E"
  refine EV_CallD hc ?_
  walk_at "E"
  refine (cell_at_spec hE hc hlen (by walk_at "nn") ?_).le (d := d + 2) (d' := 1) (lek rfl)
  generalize cx.nums.getD _ 0 = c3
  walk_at "E"
  refine order_by_spec hE ho (by omega) fun H₁ o order e1 ho0 hO hp => ?_
  have hol : order.length = n := by rw [hp.length_eq, List.length_range]
  have hon : order.Nodup := hp.nodup_iff.mpr List.nodup_range
  have holt : ∀ x ∈ order, x < order.length := fun x hx => by rw [hol]; exact List.mem_range.mp (hp.mem_iff.mp hx)
  walk_at "E"
  refine EV_CallD hc ?_
  walk_at "E"
  refine (cell_at_spec hE hc hlen (by walk_at "nn") ?_).le (d := d + 2) (d' := 1) (lek rfl)
  generalize cx.nums.getD _ 0 = c4
  walk_at "E"
  refine EX_AssignComp ?_
  walk_at "E"
  refine ⟨_, _, .list hO, by simp; omega, ?_⟩
  refine CompW_rows order _ (fun _ => []) (fun H' e => e _ _ hO) (fun r H' Q' hr he k => ?_) (fun fs H' he hlen' hn hfr hrow f hf' => ?_)
  · refine EV_List ?_
    walk_at "E"
    exact ⟨by simp, k⟩
  have hf0 : H₁ f = none := he.none hf'
  have Wf : WebAt (H'.put f (.list false (fs.map .ref))) f fs (order.map fun _ => []) := by
    refine ⟨Hp.put_self .., by simp [hlen'], fun i r ns h1 h2 => ?_, hn, fun hmem => ?_⟩
    · have hi : i < order.length := by rw [← hlen']; exact (List.getElem?_eq_some_iff.mp h1).1
      have hr := hrow i order[i] r (by simp [hi]) h1
      rw [Hp.put_ne (ne_of_new hf' hr), hr]
      have : ns = [] := by
        simp only [List.getElem?_map, Option.map_eq_some_iff] at h2
        obtain ⟨g, _, rfl⟩ := h2; rfl
      rw [this]; rfl
    · obtain ⟨k, hk, e⟩ := List.mem_iff_getElem.mp hmem
      have hkx : k < order.length := by omega
      have := hrow k order[k] f (by simp [hkx]) (by rw [← e]; simp [hk])
      rw [hf'] at this; cases this
  have e2 : Ext H₁ (H'.put f (.list false (fs.map .ref))) := he.put_r hf'
  generalize H'.put f _ = H₂ at Wf e2 ⊢
  clear hrow he hf'
  walk_at "E"
  refine EX_For ?_
  walk_at "E"
  refine CW_range1 fun r1 hr1 => ?_
  refine ⟨_, _, .range (Hp.put_self ..) (by decide) (by decide) (by omega) (by omega), fun i l' H' => Ext H₁ H' ∧ l' "_law_script" = some (.ref cx.script) ∧ l' "_law_at" = some (.int at_) ∧ l' "_law_order" = some (.ref o) ∧ l' "_law_thin" = some (.int (1 + c4 / 8 % 4)) ∧ l' "_law_web" = some (.ref f) ∧
    ∃ web, WebAt H' f fs web ∧ WB order (fun m => if m < i then m else 0) web, ⟨e2.put_r hr1, by walk_at "lk", by walk_at "lk", by walk_at "lk", by walk_at "lk", by walk_at "lk", _, Wf.ext (.put hr1), (WB.start order).mono (by simp)⟩, ?_, ?_, ?_⟩
  · intros; trivial
  · rintro i w l' H' hi ⟨e, h1, h2, h3, h4, h5, web, W, wb⟩
    obtain ⟨hi1, rfl⟩ := spanZ_get hi
    have hio : i < order.length := by omega
    have hik : order[i]? = some order[i] := by simp [hio]
    have hxl := holt _ (List.getElem_mem hio)
    refine EX_cut (fun l' H' => Ext H₁ H' ∧ l' "_law_script" = some (.ref cx.script) ∧ l' "_law_at" = some (.int at_) ∧ l' "_law_order" = some (.ref o) ∧ l' "_law_thin" = some (.int (1 + c4 / 8 % 4)) ∧ l' "_law_web" = some (.ref f) ∧ l' "_law_k" = some (.int i) ∧
      ∃ web, WebAt H' f fs web ∧ WB order (fun m => if m < i + 1 then m else 0) web) ?_ ?_
    · refine EX_For ?_
      walk_at "E"
      refine CW_range1 fun r2 hr2 => ?_
      refine ⟨_, _, .range (Hp.put_self ..) (by decide) (by decide) (by omega) (by omega), fun j l' H' => Ext H₁ H' ∧ l' "_law_script" = some (.ref cx.script) ∧ l' "_law_at" = some (.int at_) ∧ l' "_law_order" = some (.ref o) ∧ l' "_law_thin" = some (.int (1 + c4 / 8 % 4)) ∧ l' "_law_web" = some (.ref f) ∧ l' "_law_k" = some (.int i) ∧
        ∃ web, WebAt H' f fs web ∧ WB order (fun m => if m < i then m else if m = i then j else 0) web, ⟨e.put_r hr2, by walk_at "lk", by walk_at "lk", by walk_at "lk", by walk_at "lk", by walk_at "lk", by rw [Int.zero_add]; walk_at "lk", web, W.ext (.put hr2), wb.mono (fun m => by (try dsimp only); split <;> simp)⟩, ?_, ?_, ?_⟩
      · intros; trivial
      · rintro j w l' H' hj ⟨e, h1, h2, h3, h4, h5, h6, web, W, wb⟩
        obtain ⟨hj1, rfl⟩ := spanZ_get hj
        have hji : j < i := by omega
        refine EX_cons ?_
        walk_at "E"
        refine EV_CallD hma ?_
        walk_at "E"
        refine EV_CallD hc ?_
        walk_at "E"
        refine (cell_at_spec hE hc hlen (by walk_at "nn") ?_).le (d := d + 2) (d' := 1) (lek rfl)
        generalize cx.nums.getD _ 0 = c5
        walk_at "E"
        refine Op_mul (mulL (by decide)) ?_
        walk_at "E"
        refine (mixed_spec hma (by omega) (by omega) ?_).le (d := d + 2) (d' := 1) (lek rfl)
        walk_at "E"
        refine ite_dec (fun hz => ?_) (fun hz => ?_)
        · have hjo : j < order.length := by omega
          have hwl : order[i] < web.length := by rw [wb.len]; exact hxl
          obtain ⟨r, hr1, hr2, hr3⟩ := W.at hwl
          obtain ⟨q1, q2⟩ := wb.row i order[i] hik
          try dsimp only at q2
          rw [if_neg (Nat.lt_irrefl i), if_pos rfl] at q2
          have hrl : (web.getD order[i] []).length ≤ 40 := by
            refine Nat.le_trans (nodup_length (n := order.length) q1 fun x hx => ?_) (by omega)
            exact holt x (List.mem_of_mem_take (q2 x hx))
          walk_at "E"
          refine EV_Meth F.slot_list_append F.type_list_append ?_
          walk_at "E"
          refine Get_list (e _ _ hO) (by walk_at "nn") (by rw [rowV_length]; omega) (v := .int order[i]) (by simp [rowV, hio]) ?_
          refine Get_list W.top (by walk_at "nn") (by rw [List.length_map, W.len, wb.len]; omega) (v := .ref r) hr2 ?_
          refine ⟨r, false, _, rfl, hr3, ?_⟩
          walk_at "E"
          refine Get_list (e _ _ hO) (by walk_at "nn") (by rw [rowV_length]; omega) (v := .int order[j]) (by simp [rowV, hjo]) ?_
          walk_at "E"
          refine CW_append hr3 (by rw [rowV_length]; omega) ?_
          refine ⟨rfl, ?_⟩
          walk_at "E"
          have e2 : rowV (web.getD order[i] []) ++ [AV.int order[j]] = rowV (web.getD order[i] [] ++ [order[j]]) := by simp [rowV]
          rw [e2]
          refine ⟨e.own (hfr r (List.mem_of_getElem? hr1)), by walk_at "lk", by walk_at "lk", by walk_at "lk", by walk_at "lk", by walk_at "lk", by walk_at "lk", _, W.set hr1 _, wb.set hon holt hik ?_ ?_ ?_⟩
          · rw [List.nodup_append]
            refine ⟨q1, by simp, fun p hp q hq => ?_⟩
            rw [List.mem_singleton] at hq
            intro epq
            have := q2 p hp
            rw [epq, hq] at this
            exact nodup_take_not hon (show order[j]? = some order[j] by simp [hjo]) this
          · intro g hg
            try dsimp only
            rw [if_neg (Nat.lt_irrefl i), if_pos rfl, List.take_add_one]
            rcases List.mem_append.mp hg with hg | hg
            · exact List.mem_append.mpr (.inl (q2 g hg))
            · rw [List.mem_singleton.mp hg]; exact List.mem_append.mpr (.inr (by rw [List.getElem?_eq_getElem hjo]; simp))
          · intro m hm; (try dsimp only); rw [if_neg hm, if_neg hm]; exact Nat.le_refl _
        · walk_at "E"
          exact ⟨e, by walk_at "lk", by walk_at "lk", by walk_at "lk", by walk_at "lk", by walk_at "lk", by walk_at "lk", web, W, wb.mono (fun m => by (try dsimp only); split; exact Nat.le_refl _; split <;> omega)⟩
      · rintro l' H' ⟨e, h1, h2, h3, h4, h5, h6, web, W, wb⟩
        rw [spanZ_length] at wb
        walk_at "E"
        exact ⟨e, h1, h2, h3, h4, h5, h6, web, W, wb.mono (fun m => by (try dsimp only); split; (rw [if_pos (by omega)]; exact Nat.le_refl _); split; (rw [if_pos (by omega)]; omega); omega)⟩
    · rintro l' H' ⟨e, h1, h2, h3, h4, h5, h6, web, W, wb⟩
      walk_at "E"
      refine EV_CallD hma ?_
      walk_at "E"
      refine EV_CallD hc ?_
      walk_at "E"
      refine (cell_at_spec hE hc hlen (by walk_at "nn") ?_).le (d := d + 2) (d' := 1) (lek rfl)
      generalize cx.nums.getD _ 0 = c6
      walk_at "E"
      refine Op_mul (mulL (by decide)) ?_
      walk_at "E"
      refine (mixed_spec hma (by omega) (by omega) ?_).le (d := d + 2) (d' := 1) (lek rfl)
      walk_at "E"
      refine ite_dec (fun hz => ?_) (fun hz => ?_)
      · have hwl : order[i] < web.length := by rw [wb.len]; exact hxl
        obtain ⟨r, hr1, hr2, hr3⟩ := W.at hwl
        obtain ⟨q1, q2⟩ := wb.row i order[i] hik
        have hrl : (web.getD order[i] []).length ≤ 40 := by
          refine Nat.le_trans (nodup_length (n := order.length) q1 fun x hx => ?_) (by omega)
          exact holt x (List.mem_of_mem_take (q2 x hx))
        walk_at "E"
        refine EV_Meth F.slot_list_reverse F.type_list_reverse ?_
        walk_at "E"
        refine Get_list (e _ _ hO) (by walk_at "nn") (by rw [rowV_length]; omega) (v := .int order[i]) (by simp [rowV, hio]) ?_
        refine Get_list W.top (by walk_at "nn") (by rw [List.length_map, W.len, wb.len]; omega) (v := .ref r) hr2 ?_
        refine ⟨r, false, _, rfl, hr3, ?_⟩
        walk_at "E"
        refine CW_reverse hr3 (by rw [rowV_length]; omega) ?_
        refine ⟨rfl, ?_⟩
        walk_at "E"
        have e2 : (rowV (web.getD order[i] [])).reverse = rowV (web.getD order[i] []).reverse := by simp [rowV]
        rw [e2]
        exact ⟨e.own (hfr r (List.mem_of_getElem? hr1)), by walk_at "lk", by walk_at "lk", by walk_at "lk", by walk_at "lk", by walk_at "lk", _, W.set hr1 _, wb.set hon holt hik (List.pairwise_reverse.mpr (q1.imp fun h => Ne.symm h)) (fun g hg => q2 g (List.mem_reverse.mp hg)) (fun _ _ => Nat.le_refl _)⟩
      · walk_at "E"
        exact ⟨e, by walk_at "lk", by walk_at "lk", by walk_at "lk", by walk_at "lk", by walk_at "lk", web, W, wb⟩
  · rintro l' H' ⟨e, h1, h2, h3, h4, h5, web, W, wb⟩
    rw [spanZ_length] at wb
    walk_at "E"
    have wb' : WB order (fun i => i) web := ⟨wb.len, fun i x hx => ⟨(wb.row i x hx).1, fun g hg => by
      have := (wb.row i x hx).2 g hg
      have hil := (List.getElem?_eq_some_iff.mp hx).1
      try dsimp only at this
      rwa [if_pos (by omega)] at this⟩⟩
    obtain ⟨w1, w2, w3⟩ := wb'.finish hp hn1 (by omega)
    exact hq H' f web (e1.trans e) ⟨fs, W, e1.none hf0, fun r hr => e1.none (hfr r hr)⟩ w2 w3 (by omega)

end

-- L08d
set_option maxRecDepth 10000
set_option maxHeartbeats 4000000
section
variable {cx : Cx} {d : Nat} {H : Hp} {Q : AV → Hp → Prop}
theorem least_beside_spec (hE : PD cx) {fa : Addr} (hf : HasDef cx (defAt p08 16) fa) {a : Addr} {ns : List Nat} (ha : H a = some (.list false (rowV ns))) (hl : ns.length ≤ 10000)
    (hq : ∀ H' m, Ext H H' → IsMex ns m → Q (.int m) H') : CW cx (d + 1) (.ref fa) [.ref a] H Q := by
  have hB := hE.bs
  refine CW_fn hf bind_least_beside ?_
  show EX cx d _ (upd (fun _ => none) "numbers" (.ref a)) _ H _
  refine EX_cons ?_
  walk_at "E"
  refine EV_ListComp ?_
  walk_at "E"
  refine ⟨_, _, .list ha, by simp; omega, ?_⟩
  refine CompW_grow ns (fun (n : Nat) => AV.int (n : Int)) (fun n y H' => ∃ t, y = .ref t ∧ H' t = some (.tuple [.int n, .bool true])) (fun n y H₁ H₂ e ⟨t, h1, h2⟩ => ⟨t, h1, e _ _ h2⟩) (fun H' e => e _ _ ha) (fun n H' hn he => ?_) (fun ys H' he hlen hys b hb => ?_)
  · refine EV_Tuple ?_
    walk_at "E"
    exact ⟨by simp, fun t ht => ⟨.put ht, t, rfl, Hp.put_self ..⟩⟩
  have hall : ∀ y ∈ ys, ∃ t, y = AV.ref t ∧ True := fun y hy => by
    obtain ⟨i, hi, e⟩ := List.mem_iff_getElem.mp hy
    have hin : i < ns.length := by omega
    obtain ⟨t, h1, _⟩ := hys i ns[i] y (by simp [hin]) (by rw [← e]; simp [hi])
    exact ⟨t, h1, trivial⟩
  obtain ⟨ts, rfl⟩ := refs_of hall
  rw [List.length_map] at hlen
  have he' : Ext H (H'.put b (.list false (ts.map .ref))) := he.put_r hb
  have hb' : (H'.put b (.list false (ts.map .ref))) b = _ := Hp.put_self ..
  have hts : ∀ (i : Nat) (t : Addr) (kv : Int × AV), ts[i]? = some t → (ns.map fun (n : Nat) => ((n : Int), AV.bool true))[i]? = some kv → (H'.put b (.list false (ts.map .ref))) t = some (.tuple [.int kv.1, kv.2]) := fun i t kv h1 h2 => by
    simp only [List.getElem?_map, Option.map_eq_some_iff] at h2
    obtain ⟨n, h2, rfl⟩ := h2
    obtain ⟨t', h3, h4⟩ := hys i n (.ref t) h2 (by simp [h1])
    cases h3
    rw [Hp.put_ne (ne_of_new hb h4)]; exact h4
  generalize H'.put b _ = H₁ at he' hb' hts ⊢
  walk_at "E"
  refine CW_dictPairs (ks := ns.map fun (n : Nat) => ((n : Int), AV.bool true)) hb' (by rw [List.length_map, hlen]) (by rw [List.length_map]; omega) hts fun D hD hD' => ?_
  have he2 : Ext H (H₁.put D (.dict (mkDict (ns.map fun (n : Nat) => ((n : Int), AV.bool true))))) := he'.put_r hD
  have hDd : (H₁.put D (.dict (mkDict (ns.map fun (n : Nat) => ((n : Int), AV.bool true))))) D = _ := Hp.put_self ..
  generalize H₁.put D _ = H₂ at he2 hDd ⊢
  walk_at "E"
  refine EX_While (fun k l' H' => H' = H₂ ∧ l' "met" = some (.ref D) ∧ ∃ m : Nat, k = ns.length + 1 - m ∧ l' "found" = some (.int m) ∧ ∀ j < m, j ∈ ns) (ns.length + 1) ⟨rfl, by walk_at "lk", 0, by omega, by walk_at "lk", by simp⟩ ?_
  rintro k l' H' ⟨rfl, h1, m, rfl, h2, h3⟩
  have hm := low_le h3
  refine TV.mono (Q₁ := fun v H₁ => H₁ = H' ∧ v = decide (m ∈ ns)) ?_ ?_
  · walk_at "E"
    refine Op_inDict hDd hD' ?_
    rw [mkDict_has]
    walk_at "E"
    refine ⟨rfl, decide_eq_decide.mpr ?_⟩
    rw [List.map_map, List.mem_map]
    exact ⟨fun ⟨x, hx, e⟩ => by rw [← show x = m from Int.ofNat.inj e]; exact hx, fun h => ⟨m, h, rfl⟩⟩
  rintro v H₁' ⟨rfl, rfl⟩
  refine ite_dec (fun h => ?_) (fun h => ?_)
  · have h3' : ∀ j < m + 1, j ∈ ns := fun j hj => by
      rcases Nat.lt_or_ge j m with z | z
      · exact h3 j z
      · rw [show j = m by omega]; exact h
    have := low_le h3'
    refine EX_cons ?_
    walk_at "E"
    exact ⟨ns.length + 1 - (m + 1), by omega, rfl, by walk_at "lk", m + 1, rfl, by walk_at "lk", h3'⟩
  · walk_at "E"
    exact hq _ m he2 ⟨h, h3⟩
theorem numbers_of_spec (hE : PD cx) {fa : Addr} (hf : HasDef cx (defAt p08 17) fa) {a : Addr} {web : List (List Nat)} (hW : IsWeb H a web) (hG : GoodWeb web) (hC : Calm web)
    (hq : ∀ H' b f, Ext H H' → H b = none → H' b = some (.list false (rowV ((List.range web.length).map f))) → Nums web f → Q (.ref b) H') : CW cx (d + 7) (.ref fa) [.ref a] H Q := by
  have hB := hE.bs
  obtain ⟨ga, hg⟩ := hE.defs 15 (by decide)
  obtain ⟨la, hl'⟩ := hE.defs 16 (by decide)
  have hm := hG.most
  refine CW_fn hf bind_numbers_of ?_
  show EX cx (d + 6) _ (upd (fun _ => none) "web" (.ref a)) _ H _
  refine EX_cons ?_
  walk_at "E"
  refine EV_CallD hg ?_
  walk_at "E"
  refine need_game_spec hE hg hW hG hC fun H₁ o order e1 ho0 hO F hol hall => ?_
  obtain ⟨rs, W⟩ := hW.ext e1
  have hl := W.len
  walk_at "E"
  refine EV_List ?_
  walk_at "E"
  refine ⟨by simp, fun z hz => ?_⟩
  have W2 := W.ext (Ext.put (o := .list false [.int 0]) hz)
  have hz' : (H₁.put z (.list false [.int 0])) z = _ := Hp.put_self ..
  have e2 : Ext H₁ (H₁.put z (.list false [.int 0])) := .put hz
  generalize H₁.put z _ = H₂ at W2 hz' e2 ⊢
  walk_at "E"
  refine CW_len W2.top (by walk_at "ln") ?_
  rw [List.length_map, hl]
  refine Op_mulList hz' (by omega) (by omega) (by simp) fun b hb => ?_
  rw [Int.toNat_natCast, tabV_replicate]
  have e3 : Ext H₁ (H₂.put b (.list false (tabV web.length fun _ => .int 0))) := e2.put_r hb
  have hb0 : H b = none := e1.none (e2.none hb)
  have hb1 : H₁ b = none := e2.none hb
  have hbb : (H₂.put b (.list false (tabV web.length fun _ => .int 0))) b = _ := Hp.put_self ..
  generalize H₂.put b _ = H₃ at e3 hbb ⊢
  walk_at "E"
  refine EX_For ?_
  walk_at "E"
  have hO3 := e3 _ _ hO
  refine ⟨_, _, .list hO3, fun i l' H' => Ext H₁ H' ∧ l' "web" = some (.ref a) ∧ l' "found" = some (.ref b) ∧ ∃ f : Nat → Nat, H' b = some (.list false (tabV web.length fun s => .int (f s))) ∧ ∀ s ∈ order.take i, IsMex ((web.getD s []).map f) (f s),
    ⟨e3, by walk_at "lk", by walk_at "lk", fun _ => 0, hbb, by simp⟩, ?_, ?_, ?_⟩
  · rintro i l' H' ⟨e, _⟩; exact e _ _ hO
  · rintro i w l' H' hi ⟨e, h1, h2, f, h3, h4⟩
    obtain ⟨x, hi', rfl⟩ := rowV_get hi
    have hxl : x < web.length := F.lt x (List.mem_of_getElem? hi')
    have W' := W.ext e
    obtain ⟨r, hr1, hr2, hr3⟩ := W'.at hxl
    refine EX_cons ?_
    walk_at "E"
    refine EV_CallD hl' ?_
    walk_at "E"
    refine EV_ListComp ?_
    walk_at "E"
    refine Get_list W'.top (by walk_at "nn") (by rw [List.length_map]; omega) (v := .ref r) hr2 ?_
    refine ⟨_, _, .list hr3, by rw [rowV_length]; have := hG.rowLen x; omega, ?_⟩
    refine CompW_map (web.getD x []) (fun (n : Nat) => AV.int (n : Int)) (fun (n : Nat) => AV.int (f n)) hr3 (fun g hg' => ?_) (fun c hc => ?_)
    · have hgl := (hG.row x).2 g hg'
      walk_at "E"
      refine Get_list h3 (by walk_at "nn") (by walk_at "ln") (v := .int (f g)) (tabV_get (by omega)) ?_
      exact ⟨rfl, rfl⟩
    have hcc : (H'.put c (.list false ((web.getD x []).map fun (n : Nat) => AV.int (f n)))) c = some (.list false (rowV ((web.getD x []).map f))) := by rw [Hp.put_self]; simp [rowV]
    have ec : Ext H' (H'.put c (.list false ((web.getD x []).map fun (n : Nat) => AV.int (f n)))) := .put hc
    generalize H'.put c _ = H₄ at hcc ec ⊢
    walk_at "E"
    refine (least_beside_spec hE hl' hcc (by rw [List.length_map]; have := hG.rowLen x; omega) fun H₅ m e5 hmex => ?_).le (d := d + 6) (d' := 1) (lek rfl)
    have h35 := e5 _ _ (ec _ _ h3)
    walk_at "E"
    refine Set_list h35 (by walk_at "nn") (by walk_at "ln") (by walk_at "ln") ?_
    have et : (tabV web.length fun s => AV.int (f s)).set ((x : Int)).toNat (.int m) = tabV web.length fun s => AV.int ((if s = x then m else f s : Nat) : Int) := by
      rw [Int.toNat_natCast, tabV_set]
      apply tabV_congr
      intro s _
      by_cases es : s = x
      · rw [if_pos es, if_pos es]
      · rw [if_neg es, if_neg es]
    rw [et]
    walk_at "E"
    exact ⟨((e.trans ec).trans e5).own hb1, by walk_at "lk", by walk_at "lk", _, Hp.put_self .., nums_turn F hi' h4 hmex⟩
  · rintro l' H' ⟨e, h1, h2, f, h3, h4⟩
    rw [rowV_length, List.take_length] at h4
    walk_at "E"
    exact hq H' b f (e1.trans e) hb0 (by rw [← tabV_row]; exact h3) fun s hs => h4 s (hall s hs)

end

-- L08e
set_option maxRecDepth 10000
set_option maxHeartbeats 4000000
section
variable {cx : Cx} {d : Nat} {H : Hp} {Q : AV → Hp → Prop}
theorem laid_two_spec {fa : Addr} (hf : HasDef cx (defAt p08 18) fa) {a b : Int} (ha : 0 ≤ a) (hb : 0 ≤ b) (hq : Q (.int (nx a b)) H) : CW cx (d + 1) (.ref fa) [.int a, .int b] H Q := by
  refine CW_fn hf bind_laid_two ?_
  show EX cx d _ (upd (upd (fun _ => none) "one" (.int a)) "other" (.int b)) _ H _
  refine EX_cons ?_
  walk_at "E"
  refine EX_While (fun n l H' => H' = H ∧ ∃ x y f p : Int, 0 ≤ x ∧ 0 ≤ y ∧ n = (x + y).toNat ∧ f + p * nx x y = nx a b ∧ l "one" = some (.int x) ∧ l "other" = some (.int y) ∧ l "found" = some (.int f) ∧ l "power" = some (.int p)) (a + b).toNat
    ⟨rfl, a, b, 0, 1, ha, hb, rfl, by omega, by walk_at "lk", by walk_at "lk", by walk_at "lk", by walk_at "lk"⟩ ?_
  rintro n l H' ⟨rfl, x, y, f, p, hx, hy, rfl, hI, h1, h2, h3, h4⟩
  refine TV.mono (Q₁ := fun c H₁ => H₁ = H' ∧ c = decide (0 < x ∨ 0 < y)) ?_ ?_
  · walk_at "E"
    refine ite_dec (fun h => ?_) (fun h => ?_)
    · exact ⟨rfl, by simp [h]⟩
    · walk_at "E"
      refine ite_dec (fun h' => ?_) (fun h' => ?_)
      · exact ⟨rfl, by simp [h']⟩
      · walk_at "E"; exact ⟨rfl, by simp [h, h']⟩
  rintro c H₁ ⟨rfl, rfl⟩
  refine ite_dec (fun h => ?_) (fun h => ?_)
  · have hs := nx_split hx hy
    refine EX_cut (fun l' H' => H' = H₁ ∧ l' "one" = some (.int x) ∧ l' "other" = some (.int y) ∧ l' "found" = some (.int (f + p * (if x % 2 ≠ y % 2 then 1 else 0))) ∧ l' "power" = some (.int p)) ?_ ?_
    · walk_at "E"
      refine ite_dec (fun h' => ?_) (fun h' => ?_)
      · walk_at "E"
        refine ⟨rfl, by walk_at "lk", by walk_at "lk", ?_, by walk_at "lk"⟩
        rw [if_pos h', Int.mul_one]; walk_at "lk"
      · walk_at "E"
        refine ⟨rfl, h1, h2, ?_, h4⟩
        rw [if_neg h', Int.mul_zero, Int.add_zero]; exact h3
    · rintro l' H' ⟨rfl, g1, g2, g3, g4⟩
      walk_at "E"
      refine Op_mul (.of_right (by decide)) ?_
      walk_at "E"
      refine ⟨(x / 2 + y / 2).toNat, by omega, rfl, x / 2, y / 2, _, _, by omega, by omega, rfl, ?_, by walk_at "lk", by walk_at "lk", by walk_at "lk", by walk_at "lk"⟩
      rw [← hI, hs, Int.mul_add, Int.mul_assoc]
      generalize p * (if x % 2 ≠ y % 2 then 1 else 0) = z
      have : p * (2 * nx (x / 2) (y / 2)) = p * (2 * nx (x / 2) (y / 2)) := rfl
      omega
  · walk_at "E"
    have : nx x y = 0 := by
      have e1 : x = 0 := by omega
      have e2 : y = 0 := by omega
      rw [e1, e2]; rfl
    rw [this] at hI
    simp at hI
    rw [hI]; exact hq
theorem laid_over_spec (hE : PD cx) {fa : Addr} (hf : HasDef cx (defAt p08 19) fa) {l : Addr} {ro : Bool} {ns : List Int} (hl : H l = some (.list ro (ns.map .int))) (hn : ∀ n ∈ ns, 0 ≤ n) (hq : Q (.int (nxs ns)) H) :
    CW cx (d + 2) (.ref fa) [.ref l] H Q := by
  obtain ⟨ga, hg⟩ := hE.defs 18 (by decide)
  refine CW_fn hf bind_laid_over ?_
  show EX cx (d + 1) _ (upd (fun _ => none) "numbers" (.ref l)) _ H _
  refine EX_cons ?_
  walk_at "E"
  refine EX_For ?_
  walk_at "E"
  refine ⟨_, _, .list hl, fun i l' H' => H' = H ∧ ∃ f : Int, 0 ≤ f ∧ l' "found" = some (.int f) ∧ f = (ns.take i).foldl nx 0, ⟨rfl, 0, by omega, by walk_at "lk", rfl⟩, ?_, ?_, ?_⟩
  · rintro i l' H' ⟨rfl, _⟩; exact hl
  · rintro i w l' H' hi ⟨rfl, f, hf0, h1, hf⟩
    simp only [List.getElem?_map, Option.map_eq_some_iff] at hi
    obtain ⟨n, hi, rfl⟩ := hi
    have hn0 := hn n (List.mem_of_getElem? hi)
    walk_at "E"
    refine EV_CallD hg ?_
    walk_at "E"
    refine laid_two_spec hg hf0 hn0 ?_
    walk_at "E"
    refine ⟨rfl, nx f n, nx_nonneg _ _, by walk_at "lk", ?_⟩
    rw [List.take_add_one, hi, List.foldl_append, ← hf]; rfl
  · rintro l' H' ⟨rfl, f, hf0, h1, hf⟩
    walk_at "E"
    rw [List.length_map, List.take_length] at hf
    rw [hf]; exact hq
theorem laid_spec (hE : PD cx) {fa : Addr} (hf : HasDef cx (defAt p08 32) fa) {l : Addr} {ro : Bool} {ns : List Int} {B : Nat} (hl : H l = some (.list ro (ns.map .int))) (hn : ∀ n ∈ ns, 0 ≤ n ∧ n < ((2 ^ B : Nat) : Int)) (hB' : B ≤ 8000)
    (hlen : ns.length ≤ 2 ^ 20) (hq : ∀ H', Ext H H' → Q (.int (nxs ns)) H') : CW cx (d + 1) (.ref fa) [.ref l] H Q := by
  have hB := hE.bs
  refine CW_fn hf bind_law_laid ?_
  show EX cx d _ (upd (fun _ => none) "_law_numbers" (.ref l)) _ H _
  refine EX_cons ?_
  walk_at "E"
  refine EX_While (fun n l' H' => Ext H H' ∧ ∃ k : Nat, k ≤ B ∧ n = B - k ∧ l' "_law_numbers" = some (.ref l) ∧ l' "_law_found" = some (.int (nxs ns % ((2 ^ k : Nat) : Int))) ∧ l' "_law_power" = some (.int ((2 ^ k : Nat) : Int))) B
    ⟨.refl H, 0, Nat.zero_le _, rfl, by walk_at "lk", by rw [Nat.pow_zero, show nxs ns % ((1 : Nat) : Int) = 0 by omega]; walk_at "lk", by walk_at "lk"⟩ ?_
  rintro n l' H' ⟨he, k, hk, rfl, h1, h2, h3⟩
  have hl' := he _ _ hl
  refine TV_val ?_
  refine EV_CallB (b_any hB) ?_
  walk_at "E"
  refine EV_ListComp ?_
  walk_at "E"
  refine ⟨_, _, .list hl', by simp; omega, CompW_map ns .int (fun n => .bool (decide (((2 ^ k : Nat) : Int) ≤ n))) hl' ?_ ?_⟩
  · intro a ha
    walk_at "E"
    exact ⟨rfl, rfl⟩
  intro b hb
  walk_at "E"
  refine CW_any (ro := false) (bs := ns.map fun n => decide (((2 ^ k : Nat) : Int) ≤ n)) (by rw [Hp.put_self, List.map_map]; rfl) ?_
  walk_at "E"
  have he₂ := he.put_r (o := .list false (ns.map fun n => .bool (decide (((2 ^ k : Nat) : Int) ≤ n)))) hb
  generalize H'.put b _ = H₂ at he₂ ⊢
  have hpos : 0 < ((2 ^ k : Nat) : Int) := by have := Nat.pow_pos (n := k) (show 0 < 2 by decide); omega
  have hlog : ((2 ^ k : Nat) : Int).natAbs.log2 < 9000 := by rw [Int.natAbs_natCast, Nat.log2_two_pow]; omega
  refine ite_bool (fun h => ?_) (fun h => ?_)
  · have hkB : k < B := by
      simp only [List.any_map, List.any_eq_true, Function.comp, id, decide_eq_true_eq] at h
      obtain ⟨n, hm, hle⟩ := h
      have := (hn n hm).2
      rcases Nat.lt_or_ge k B with h | h
      · exact h
      · have : 2 ^ B ≤ 2 ^ k := Nat.pow_le_pow_right (by decide) h
        omega
    refine EX_cut (fun l₂ H₃ => Ext H H₃ ∧ l₂ "_law_numbers" = some (.ref l) ∧ l₂ "_law_found" = some (.int (nxs ns % ((2 ^ (k + 1) : Nat) : Int))) ∧ l₂ "_law_power" = some (.int ((2 ^ k : Nat) : Int))) ?_ ?_
    · walk_at "E"
      refine EV_ListComp ?_
      walk_at "E"
      have hl₂ := he₂ _ _ hl
      refine ⟨_, _, .list hl₂, by simp; omega, CompW_filter ns .int .int (fun n => decide (n / ((2 ^ k : Nat) : Int) % 2 = 1)) hl₂ ?_ ?_ ?_⟩
      · intro a ha
        walk_at "E"
        refine Op_floordiv' hpos hlog ?_
        walk_at "E"
        exact ⟨rfl, rfl⟩
      · intro a ha _
        walk_at "E"
        exact ⟨rfl, rfl⟩
      · intro c hc
        walk_at "E"
        have hle : (ns.filter fun n => decide (n / ((2 ^ k : Nat) : Int) % 2 = 1)).length ≤ ns.length := List.length_filter_le _ _
        refine CW_len (Hp.put_self ..) (by rw [List.length_map]; omega) ?_
        walk_at "E"
        have he₃ := he₂.put_r (o := .list false ((ns.filter fun n => decide (n / ((2 ^ k : Nat) : Int) % 2 = 1)).map .int)) hc
        have hbit := bit_nxs k ns (fun n hm => (hn n hm).1)
        have hms := mod_succ (nxs ns) (nxs_nonneg ns) k
        rw [List.length_map]
        refine ite_dec (fun h' => ?_) (fun h' => ?_)
        · walk_at "E"
          refine ⟨he₃, by walk_at "lk", ?_, by walk_at "lk"⟩
          have : ((cnt k ns % 2 : Nat) : Int) = 1 := by unfold cnt; omega
          rw [hms, hbit, this, Int.mul_one]; walk_at "lk"
        · walk_at "E"
          refine ⟨he₃, by walk_at "lk", ?_, by walk_at "lk"⟩
          have : ((cnt k ns % 2 : Nat) : Int) = 0 := by unfold cnt; omega
          rw [hms, hbit, this, Int.mul_zero, Int.add_zero]; walk_at "lk"
    · rintro l₂ H₃ ⟨he₃, g1, g2, g3⟩
      walk_at "E"
      refine Op_mul (.of_right (by decide)) ?_
      walk_at "E"
      refine ⟨B - (k + 1), by omega, he₃, k + 1, hkB, rfl, by walk_at "lk", by walk_at "lk", ?_⟩
      have : ((2 ^ (k + 1) : Nat) : Int) = ((2 ^ k : Nat) : Int) * 2 := by rw [Nat.pow_succ]; push_cast; rfl
      rw [this]; walk_at "lk"
  · walk_at "E"
    have hlt : nxs ns < ((2 ^ k : Nat) : Int) := by
      refine nxs_lt k ns fun n hm => ⟨(hn n hm).1, ?_⟩
      simp only [List.any_map, List.any_eq_false, Function.comp, id, decide_eq_true_eq] at h
      have := h n hm
      omega
    rw [Int.emod_eq_of_lt (nxs_nonneg ns) hlt]
    exact hq _ he₂

theorem need_row_spec (hE : PD cx) {fa : Addr} (hf : HasDef cx (defAt p08 22) fa) {a b : Addr} {web : List (List Nat)} {ro : Bool} {ns : List Nat} (hW : IsWeb H a web) (hm : web.length ≤ 200) (hb : H b = some (.list ro (rowV ns))) (hn : ns.length ≤ 24) (hlt : ∀ x ∈ ns, x < web.length)
    (hq : Q .none H) : CW cx (d + 3) (.ref fa) [.ref a, .ref b] H Q := by
  have hB := hE.bs
  obtain ⟨ga, hg⟩ := hE.defs 8 (by decide)
  obtain ⟨t, hM⟩ := hE.mostGames
  obtain ⟨rs, W⟩ := hW
  have hl := W.len
  refine CW_fn hf bind_need_row ?_
  show EX cx (d + 2) _ (upd (upd (fun _ => none) "web" (.ref a)) "row" (.ref b)) _ H _
  refine EX_cons ?_
  walk_at "E"
  refine CW_isinst_list hb ?_
  walk_at "E"
  refine CW_len hb (by walk_at "ln") ?_
  rw [rowV_length]
  walk_at "E"
  refine ite_dec (fun h => absurd h (by omega)) (fun _ => ?_)
  walk_at "E"
  refine EX_For ?_
  walk_at "E"
  refine ⟨_, _, .list hb, fun i l' H' => H' = H ∧ l' "web" = some (.ref a), ⟨rfl, by walk_at "lk"⟩, ?_, ?_, ?_⟩
  · rintro i l' H' ⟨rfl, _⟩; exact hb
  · rintro i w l' H' hi ⟨rfl, h1⟩
    obtain ⟨n, hi', rfl⟩ := rowV_get hi
    have hnl := hlt n (List.mem_of_getElem? hi')
    refine EX_cons ?_
    walk_at "E"
    refine EV_CallD hg ?_
    walk_at "E"
    refine CW_len W.top (by walk_at "ln") ?_
    rw [List.length_map, hl]
    walk_at "E"
    refine is_spot_spec hE hg ?_
    rw [decide_eq_true (show (0 : Int) ≤ n ∧ (n : Int) < web.length by omega)]
    walk_at "E"
    exact ⟨rfl, by walk_at "lk"⟩
  · rintro l' H' ⟨rfl, _⟩
    walk_at "E"
    exact hq
theorem row_number_spec (hE : PD cx) {fa : Addr} (hf : HasDef cx (defAt p08 23) fa) {a b : Addr} {web : List (List Nat)} {f : Nat → Nat} {ro : Bool} {ns : List Nat} (hW : IsWeb H a web) (hG : GoodWeb web) (hC : Calm web) (hN : Nums web f) (hb : H b = some (.list ro (rowV ns))) (hn : ns.length ≤ 24) (hlt : ∀ x ∈ ns, x < web.length)
    (hq : ∀ H', Ext H H' → Q (.int (rowNum f ns)) H') : CW cx (d + 8) (.ref fa) [.ref a, .ref b] H Q := by
  have hB := hE.bs
  obtain ⟨ga, hg⟩ := hE.defs 17 (by decide)
  obtain ⟨ra, hr⟩ := hE.defs 22 (by decide)
  obtain ⟨la, hlo⟩ := hE.defs 19 (by decide)
  have hm := hG.most
  refine CW_fn hf bind_row_number ?_
  show EX cx (d + 7) _ (upd (upd (fun _ => none) "web" (.ref a)) "row" (.ref b)) _ H _
  refine EX_cons ?_
  walk_at "E"
  refine EV_CallD hg ?_
  walk_at "E"
  refine numbers_of_spec hE hg hW hG hC fun H₁ n f' e1 hn0 hnn hN' => ?_
  have hff := hN'.uniq hG hC hN
  have hb1 := e1 _ _ hb
  have get : ∀ {x : Nat} {Q' : AV → Hp → Prop} {d' : Nat}, x < web.length → Q' (.int (f x)) H₁ → GetW cx d' (.ref n) (.int x) H₁ Q' := fun hx q =>
    Get_list hnn (by walk_at "nn") (by walk_at "ln") (v := .int (f _)) (by simp [rowV, hx, hff _ hx]) q
  walk_at "E"
  refine EV_CallD hr ?_
  walk_at "E"
  refine (need_row_spec hE hr (hW.ext e1) hm hb1 hn hlt ?_).le (d := d + 7) (d' := 3) (lek rfl)
  refine ⟨rfl, ?_⟩
  walk_at "E"
  refine EV_CallD hlo ?_
  walk_at "E"
  refine EV_ListComp ?_
  walk_at "E"
  refine ⟨_, _, .list hb1, by simp; omega, ?_⟩
  refine CompW_map ns (fun (n : Nat) => AV.int (n : Int)) (fun x => AV.int (f x)) hb1 (fun x hx => ?_) (fun c hc => ?_)
  · walk_at "E"
    refine get (hlt x hx) ?_
    exact ⟨rfl, rfl⟩
  have hcc : (H₁.put c (.list false (ns.map fun x => AV.int (f x)))) c = some (.list false ((castN (ns.map f)).map .int)) := by rw [Hp.put_self]; simp [castN]
  have ec : Ext H (H₁.put c (.list false (ns.map fun x => AV.int (f x)))) := e1.put_r hc
  generalize H₁.put c _ = H₂ at hcc ec ⊢
  walk_at "E"
  refine (laid_over_spec hE hlo hcc castN_nonneg ?_).le (d := d + 7) (d' := 2) (lek rfl)
  walk_at "E"
  exact hq _ ec
theorem is_lost_spec (hE : PD cx) {fa : Addr} (hf : HasDef cx (defAt p08 25) fa) {a b : Addr} {web : List (List Nat)} {f : Nat → Nat} {ro : Bool} {ns : List Nat} (hW : IsWeb H a web) (hG : GoodWeb web) (hC : Calm web) (hN : Nums web f) (hb : H b = some (.list ro (rowV ns))) (hn : ns.length ≤ 24) (hlt : ∀ x ∈ ns, x < web.length)
    (hq : ∀ H', Ext H H' → Q (.bool (decide (rowNum f ns = 0))) H') : CW cx (d + 9) (.ref fa) [.ref a, .ref b] H Q := by
  have hB := hE.bs
  obtain ⟨ga, hg⟩ := hE.defs 23 (by decide)
  refine CW_fn hf bind_is_lost ?_
  show EX cx (d + 8) _ (upd (upd (fun _ => none) "web" (.ref a)) "row" (.ref b)) _ H _
  refine EX_cons ?_
  walk_at "E"
  refine EV_CallD hg ?_
  walk_at "E"
  refine row_number_spec hE hg hW hG hC hN hb hn hlt fun H' e => ?_
  walk_at "E"
  exact hq _ e

end

-- L08f
set_option maxRecDepth 10000
set_option maxHeartbeats 4000000
section
variable {cx : Cx} {d : Nat} {H : Hp} {Q : AV → Hp → Prop}
theorem rows_spec (hE : PD cx) {fa : Addr} (hf : HasDef cx (defAt p08 33) fa) {n : Nat} (hn : n ≤ 4)
    (hq : ∀ H' l rows, Ext H H' → IsWeb H' l rows → rows.length ≤ 100 → RowsTo n n rows → Q (.ref l) H') : CW cx (d + 1) (.ref fa) [.int n] H Q := by
  have hB := hE.bs
  refine CW_fn hf bind_law_rows ?_
  show EX cx d _ (upd (fun _ => none) "_law_many" (.int n)) _ H _
  refine EX_cons ?_
  walk_at "E"
  refine EV_List ?_
  walk_at "E"
  refine EV_List ?_
  walk_at "E"
  refine ⟨by simp, fun r0 hr0 => ?_⟩
  have e0 : Ext H (H.put r0 (.list false (rowV []))) := .put hr0
  have hr0' : (H.put r0 (.list false (rowV []))) r0 = _ := Hp.put_self ..
  change EVs cx d _ _ _ (H.put r0 (.list false (rowV []))) _
  generalize H.put r0 _ = H₀ at e0 hr0' ⊢
  walk_at "E"
  refine ⟨by simp, fun l hl => ?_⟩
  have e1 : Ext H₀ (H₀.put l (.list false [.ref r0])) := .put hl
  have hl0 : H l = none := e0.none hl
  have W1 : WebAt (H₀.put l (.list false [.ref r0])) l [r0] [[]] := by
    refine ⟨Hp.put_self .., rfl, fun i r ns h1 h2 => ?_, by simp, fun hm => ?_⟩
    · cases i with
      | zero => cases h1; cases h2; exact e1 _ _ hr0'
      | succ i => simp at h1
    · exact ne_of_new hl hr0' (List.mem_singleton.mp hm).symm
  generalize H₀.put l _ = H₁ at e1 W1 ⊢
  have e01 := e0.trans e1
  have addRow : ∀ {H' : Hp} {rs : List Addr} {rows : List (List Nat)} {c : Addr} {row : List Nat} {Q' : AV → Hp → Prop} {d' : Nat}, Ext H H' → WebAt H' l rs rows → rows.length ≤ 1000 → H' c = some (.list false (rowV row)) → H c = none → c ∉ rs → c ≠ l →
      (∀ H'' rs', Ext H H'' → WebAt H'' l rs' (rows ++ [row]) → Q' .none H'') → CW cx d' (.builtin "list.append") [.ref l, .ref c] H' Q' := fun e W hr hc hc0 hcn hcl q => by
    have hlen := W.len
    refine CW_append W.top (by rw [List.length_map]; omega) ?_
    exact q _ _ (e.own hl0) (W.snoc hc hcl hcn)
  walk_at "E"
  refine EX_For ?_
  walk_at "E"
  refine CW_range1 fun q1 hq1 => ?_
  have er : Ext H₁ (H₁.put q1 (.range 0 n)) := .put hq1
  refine ⟨_, _, .range (Hp.put_self ..) (by decide) (by decide) (by omega) (by omega), fun i l' H' => Ext H H' ∧ l' "_law_many" = some (.int n) ∧ l' "_law_found" = some (.ref l) ∧ ∃ rs rows, WebAt H' l rs rows ∧ rows.length ≤ 1 + i * 21 ∧ RowsTo n i rows,
    ⟨e01.trans er, by walk_at "lk", by walk_at "lk", [r0], [[]], W1.ext er, by simp, ⟨by simp, by simp, by omega, by omega, by omega⟩⟩, ?_, ?_, ?_⟩
  · intros; trivial
  · rintro i w l' H' hi ⟨e, h1, h2, rs, rows, W, hlen, R⟩
    obtain ⟨hi1, rfl⟩ := spanZ_get hi
    have hil : i < n := by omega
    rw [Int.zero_add]
    refine EX_cons ?_
    walk_at "E"
    refine EV_Meth F.slot_list_append F.type_list_append ?_
    walk_at "E"
    refine ⟨l, false, _, rfl, W.top, ?_⟩
    walk_at "E"
    refine EV_List ?_
    walk_at "E"
    refine ⟨by simp, fun c hc => ?_⟩
    have ec : Ext H' (H'.put c (.list false (rowV [i]))) := .put hc
    have hcc : (H'.put c (.list false (rowV [i]))) c = _ := Hp.put_self ..
    have hcn : c ∉ rs := fun hm => by obtain ⟨ns, _, hx⟩ := W.mem hm; rw [hc] at hx; cases hx
    have hc0 := e.none hc
    have hcl : c ≠ l := fun e' => by rw [e', W.top] at hc; cases hc
    change EVs cx d _ _ _ (H'.put c (.list false (rowV [i]))) _
    generalize H'.put c _ = Hc at ec hcc ⊢
    walk_at "E"
    refine addRow (e.trans ec) (W.ext ec) (by omega) hcc hc0 hcn hcl fun H₂ rs₂ e2 W2 => ?_
    refine ⟨rfl, ?_⟩
    walk_at "E"
    refine EX_For ?_
    walk_at "E"
    refine CW_range1 fun q2 hq2 => ?_
    have er2 : Ext H₂ (H₂.put q2 (.range 0 n)) := .put hq2
    refine ⟨_, _, .range (Hp.put_self ..) (by decide) (by decide) (by omega) (by omega), fun j l' H' => Ext H H' ∧ l' "_law_many" = some (.int n) ∧ l' "_law_found" = some (.ref l) ∧ l' "_law_first" = some (.int i) ∧ ∃ rs rows, WebAt H' l rs rows ∧ rows.length ≤ 2 + i * 21 + j * 5 ∧ RowsTo n i rows ∧ [i] ∈ rows ∧ (∀ b < j, [i, b] ∈ rows) ∧ (∀ b < j, ∀ c, b ≤ c → c < n → [i, b, c] ∈ rows),
      ⟨e2.trans er2, by walk_at "lk", by walk_at "lk", by walk_at "lk", rs₂, rows ++ [[i]], W2.ext er2, by simp; omega, ⟨fun r hr => ?_, List.mem_append.mpr (.inl R.nil), fun a ha => List.mem_append.mpr (.inl (R.one a ha)), fun a ha b hb => List.mem_append.mpr (.inl (R.two a ha b hb)), fun a ha b c hbc hc => List.mem_append.mpr (.inl (R.three a ha b c hbc hc))⟩, by simp, by omega, by omega⟩, ?_, ?_, ?_⟩
    · rcases List.mem_append.mp hr with h | h
      · exact R.ok r h
      · rw [List.mem_singleton.mp h]; simp; exact hil
    · intros; trivial
    · rintro j w l' H' hj ⟨e, h1, h2, h3, rs, rows, W, hlen, R, m1, m2, m3⟩
      obtain ⟨hj1, rfl⟩ := spanZ_get hj
      have hjl : j < n := by omega
      rw [Int.zero_add]
      refine EX_cons ?_
      walk_at "E"
      refine EV_Meth F.slot_list_append F.type_list_append ?_
      walk_at "E"
      refine ⟨l, false, _, rfl, W.top, ?_⟩
      walk_at "E"
      refine EV_List ?_
      walk_at "E"
      refine ⟨by simp, fun c hc => ?_⟩
      have ec : Ext H' (H'.put c (.list false (rowV [i, j]))) := .put hc
      have hcc : (H'.put c (.list false (rowV [i, j]))) c = _ := Hp.put_self ..
      have hcn : c ∉ rs := fun hm => by obtain ⟨ns, _, hx⟩ := W.mem hm; rw [hc] at hx; cases hx
      have hc0 := e.none hc
      have hcl : c ≠ l := fun e' => by rw [e', W.top] at hc; cases hc
      change EVs cx d _ _ _ (H'.put c (.list false (rowV [i, j]))) _
      generalize H'.put c _ = Hc at ec hcc ⊢
      walk_at "E"
      refine addRow (e.trans ec) (W.ext ec) (by omega) hcc hc0 hcn hcl fun H₂ rs₂ e2 W2 => ?_
      refine ⟨rfl, ?_⟩
      walk_at "E"
      refine EX_For ?_
      walk_at "E"
      refine CW_range2 fun q3 hq3 => ?_
      have er3 : Ext H₂ (H₂.put q3 (.range j n)) := .put hq3
      refine ⟨_, _, .range (Hp.put_self ..) (by omega) (by omega) (by omega) (by omega), fun k l' H' => Ext H H' ∧ l' "_law_many" = some (.int n) ∧ l' "_law_found" = some (.ref l) ∧ l' "_law_first" = some (.int i) ∧ l' "_law_second" = some (.int j) ∧ ∃ rs rows, WebAt H' l rs rows ∧ rows.length ≤ 3 + i * 21 + j * 5 + k ∧ RowsTo n i rows ∧ [i] ∈ rows ∧ (∀ b < j + 1, [i, b] ∈ rows) ∧ (∀ b < j, ∀ c, b ≤ c → c < n → [i, b, c] ∈ rows) ∧ ∀ c, j ≤ c → c < j + k → [i, j, c] ∈ rows,
        ⟨e2.trans er3, by walk_at "lk", by walk_at "lk", by walk_at "lk", by walk_at "lk", rs₂, rows ++ [[i, j]], W2.ext er3, by simp; omega, ⟨fun r hr => ?_, List.mem_append.mpr (.inl R.nil), fun a ha => List.mem_append.mpr (.inl (R.one a ha)), fun a ha b hb => List.mem_append.mpr (.inl (R.two a ha b hb)), fun a ha b c hbc hc => List.mem_append.mpr (.inl (R.three a ha b c hbc hc))⟩, List.mem_append.mpr (.inl m1), fun b hb => ?_, fun b hb c h1 h2 => List.mem_append.mpr (.inl (m3 b hb c h1 h2)), by omega⟩, ?_, ?_, ?_⟩
      · rcases List.mem_append.mp hr with h | h
        · exact R.ok r h
        · rw [List.mem_singleton.mp h]; simp; exact ⟨hil, hjl⟩
      · by_cases hbj : b = j
        · rw [hbj]; simp
        · exact List.mem_append.mpr (.inl (m2 b (by omega)))
      · intros; trivial
      · rintro k w l' H' hk ⟨e, h1, h2, h3, h4, rs, rows, W, hlen, R, m1, m2, m3, m4⟩
        obtain ⟨hk1, rfl⟩ := spanZ_get hk
        have hkl : j + k < n := by omega
        rw [show (j : Int) + (k : Int) = ((j + k : Nat) : Int) by omega]
        refine EX_cons ?_
        walk_at "E"
        refine EV_Meth F.slot_list_append F.type_list_append ?_
        walk_at "E"
        refine ⟨l, false, _, rfl, W.top, ?_⟩
        walk_at "E"
        refine EV_List ?_
        walk_at "E"
        refine ⟨by simp, fun c hc => ?_⟩
        have ec : Ext H' (H'.put c (.list false (rowV [i, j, j + k]))) := .put hc
        have hcc : (H'.put c (.list false (rowV [i, j, j + k]))) c = _ := Hp.put_self ..
        have hcn : c ∉ rs := fun hm => by obtain ⟨ns, _, hx⟩ := W.mem hm; rw [hc] at hx; cases hx
        have hc0 := e.none hc
        have hcl : c ≠ l := fun e' => by rw [e', W.top] at hc; cases hc
        change EVs cx d _ _ _ (H'.put c (.list false (rowV [i, j, j + k]))) _
        generalize H'.put c _ = Hc at ec hcc ⊢
        walk_at "E"
        refine addRow (e.trans ec) (W.ext ec) (by omega) hcc hc0 hcn hcl fun H₂ rs₂ e2 W2 => ?_
        refine ⟨rfl, ?_⟩
        walk_at "E"
        refine ⟨e2, by walk_at "lk", by walk_at "lk", by walk_at "lk", by walk_at "lk", rs₂, rows ++ [[i, j, j + k]], W2, by simp; omega, ⟨fun r hr => ?_, List.mem_append.mpr (.inl R.nil), fun a ha => List.mem_append.mpr (.inl (R.one a ha)), fun a ha b hb => List.mem_append.mpr (.inl (R.two a ha b hb)), fun a ha b c hbc hc => List.mem_append.mpr (.inl (R.three a ha b c hbc hc))⟩, List.mem_append.mpr (.inl m1), fun b hb => List.mem_append.mpr (.inl (m2 b hb)), fun b hb c h1 h2 => List.mem_append.mpr (.inl (m3 b hb c h1 h2)), fun c h1 h2 => ?_⟩
        · rcases List.mem_append.mp hr with h | h
          · exact R.ok r h
          · rw [List.mem_singleton.mp h]; simp; exact ⟨hil, hjl, hkl⟩
        · by_cases hck : c = j + k
          · rw [hck]; simp
          · exact List.mem_append.mpr (.inl (m4 c h1 (by omega)))
      · rintro l' H' ⟨e, h1, h2, h3, h4, rs, rows, W, hlen, R, m1, m2, m3, m4⟩
        rw [spanZ_length] at hlen m4
        walk_at "E"
        refine ⟨e, h1, h2, h3, rs, rows, W, by omega, R, m1, m2, fun b hb c h1 h2 => ?_⟩
        by_cases hbj : b = j
        · subst hbj; exact m4 c h1 (by omega)
        · exact m3 b (by omega) c h1 h2
    · rintro l' H' ⟨e, h1, h2, h3, rs, rows, W, hlen, R, m1, m2, m3⟩
      rw [spanZ_length] at hlen m2 m3
      walk_at "E"
      refine ⟨e, h1, h2, rs, rows, W, by omega, ⟨R.ok, R.nil, fun a ha => ?_, fun a ha b hb => ?_, fun a ha b c hbc hc => ?_⟩⟩
      · by_cases hai : a = i
        · rw [hai]; exact m1
        · exact R.one a (by omega)
      · by_cases hai : a = i
        · rw [hai]; exact m2 b (by omega)
        · exact R.two a (by omega) b hb
      · by_cases hai : a = i
        · rw [hai]; exact m3 b (by omega) c hbc hc
        · exact R.three a (by omega) b c hbc hc
  · rintro l' H' ⟨e, h1, h2, rs, rows, W, hlen, R⟩
    rw [spanZ_length] at hlen R
    have en : ((n : Int) - 0).toNat = n := by omega
    rw [en] at R hlen
    walk_at "E"
    exact hq H' l rows e ⟨rs, W⟩ (by omega) R
theorem ahead_spec (hE : PD cx) {fa : Addr} (hf : HasDef cx (defAt p08 34) fa) {a b : Addr} {web : List (List Nat)} {row : List Nat} (hW : IsWeb H a web) (hG : GoodWeb web) (h4 : web.length ≤ 4) (hb : H b = some (.list false (rowV row))) (hn : row.length ≤ 3) (hlt : ∀ x ∈ row, x < web.length)
    (hq : ∀ H' l, Ext H H' → IsWeb H' l (aheadTo web row row.length) → (aheadTo web row row.length).length ≤ 12 → Q (.ref l) H') : CW cx (d + 1) (.ref fa) [.ref a, .ref b] H Q := by
  have hB := hE.bs
  obtain ⟨rs, W⟩ := hW
  have hl := W.len
  refine CW_fn hf bind_law_ahead ?_
  show EX cx d _ (upd (upd (fun _ => none) "_law_web" (.ref a)) "_law_row" (.ref b)) _ H _
  refine EX_cons ?_
  walk_at "E"
  refine EV_List ?_
  walk_at "E"
  refine ⟨by simp, fun l hl' => ?_⟩
  have e1 : Ext H (H.put l (.list false [])) := .put hl'
  have W1 : WebAt (H.put l (.list false [])) l [] (aheadTo web row 0) := ⟨Hp.put_self .., rfl, by simp, .nil, by simp⟩
  generalize H.put l _ = H₁ at e1 W1 ⊢
  walk_at "E"
  refine EX_For ?_
  walk_at "E"
  refine CW_len (e1 _ _ hb) (by walk_at "ln") ?_
  rw [rowV_length]
  walk_at "E"
  refine CW_range1 fun q1 hq1 => ?_
  have er : Ext H₁ (H₁.put q1 (.range 0 row.length)) := .put hq1
  refine ⟨_, _, .range (Hp.put_self ..) (by decide) (by decide) (by omega) (by omega), fun i l' H' => Ext H H' ∧ l' "_law_web" = some (.ref a) ∧ l' "_law_row" = some (.ref b) ∧ l' "_law_found" = some (.ref l) ∧ ∃ fs, WebAt H' l fs (aheadTo web row i) ∧ (aheadTo web row i).length ≤ i * 4,
    ⟨e1.trans er, by walk_at "lk", by walk_at "lk", by walk_at "lk", [], W1.ext er, by simp [aheadTo]⟩, ?_, ?_, ?_⟩
  · intros; trivial
  · rintro i w l' H' hi ⟨e, h1, h2, h3, fs, Wf, hfl⟩
    obtain ⟨hi1, rfl⟩ := spanZ_get hi
    have hil : i < row.length := by omega
    have hxs := getD_some hil
    have hx := hlt _ (List.mem_of_getElem? hxs)
    obtain ⟨r, p1, p2, p3⟩ := (W.ext e).at hx
    obtain ⟨_, _, hr00⟩ := W.mem (List.mem_of_getElem? p1)
    have hrl : r ≠ l := ne_of_new hl' hr00
    have hz := hG.rowLen (row.getD i 0)
    rw [Int.zero_add]
    refine EX_cons ?_
    refine EX_For ?_
    walk_at "E"
    refine Get_list (e _ _ hb) (by walk_at "nn") (by walk_at "ln") (v := .int (row.getD i 0 : Nat)) (by rw [Int.toNat_natCast]; simp only [rowV, List.getElem?_map, hxs]; rfl) ?_
    refine Get_list (W.ext e).top (by walk_at "nn") (by walk_at "ln") (v := .ref r) p2 ?_
    refine ⟨_, _, .list p3, fun k l' H' => (Ext H H' ∧ H' r = some (.list false (rowV (web.getD (row.getD i 0) [])))) ∧ l' "_law_web" = some (.ref a) ∧ l' "_law_row" = some (.ref b) ∧ l' "_law_found" = some (.ref l) ∧ l' "_law_place" = some (.int i) ∧ ∃ fs, WebAt H' l fs (aheadTo web row i ++ (aheadAt web row i).take k) ∧ k ≤ 4,
      ⟨⟨e, p3⟩, by walk_at "lk", by walk_at "lk", by walk_at "lk", by walk_at "lk", fs, by simpa using Wf, by omega⟩, ?_, ?_, ?_⟩
    · rintro k l' H' ⟨⟨_, h⟩, _⟩; exact h
    · rintro k w l' H' hk ⟨⟨e, hr⟩, h1, h2, h3, h4', fs, Wf, hk4⟩
      obtain ⟨g, hk', rfl⟩ := rowV_get hk
      have hkl : k < (web.getD (row.getD i 0) []).length := (List.getElem?_eq_some_iff.mp hk').1
      have hbe := e _ _ hb
      refine EX_cons ?_
      walk_at "E"
      refine EV_Meth F.slot_list_append F.type_list_append ?_
      walk_at "E"
      refine ⟨l, false, _, rfl, Wf.top, ?_⟩
      walk_at "E"
      refine EV_Slice ?_
      walk_at "E"
      refine int_ok ?_
      refine ⟨b, false, _, rfl, hbe, by walk_at "ln", fun s1 hs1 => ?_⟩
      rw [pySlice_to, show (rowV row).take i = rowV (row.take i) by simp [rowV, List.map_take]]
      have e2 : Ext H' (H'.put s1 (.list false (rowV (row.take i)))) := .put hs1
      have hs2 : (H'.put s1 (.list false (rowV (row.take i)))) s1 = _ := Hp.put_self ..
      generalize H'.put s1 _ = H₂ at e2 hs2 ⊢
      walk_at "E"
      refine EV_List ?_
      walk_at "E"
      refine ⟨by simp, fun s3 hs3 => ?_⟩
      have e3 : Ext H₂ (H₂.put s3 (.list false (rowV [g]))) := .put hs3
      have hs3' : (H₂.put s3 (.list false (rowV [g]))) s3 = _ := Hp.put_self ..
      change OpW cx d _ _ _ (H₂.put s3 (.list false (rowV [g]))) _
      generalize H₂.put s3 _ = H₃ at e3 hs3' ⊢
      refine Op_addList (e3 _ _ hs2) hs3' (by simp; omega) (by simp) fun s4 hs4 => ?_
      rw [← rowV_append]
      have e4 : Ext H₃ (H₃.put s4 (.list false (rowV (row.take i ++ [g])))) := .put hs4
      have hs4' : (H₃.put s4 (.list false (rowV (row.take i ++ [g])))) s4 = _ := Hp.put_self ..
      generalize H₃.put s4 _ = H₄ at e4 hs4' ⊢
      have e14 := (e2.trans e3).trans e4
      walk_at "E"
      refine EV_Slice ?_
      walk_at "E"
      refine int_ok ?_
      walk_at "E"
      refine ⟨b, false, _, rfl, e14 _ _ hbe, by walk_at "ln", fun s5 hs5 => ?_⟩
      rw [show ((i : Int) + 1) = ((i + 1 : Nat) : Int) by omega, pySlice_from _ (by simp; omega), show (rowV row).drop (i + 1) = rowV (row.drop (i + 1)) by simp [rowV, List.map_drop]]
      have e5 : Ext H₄ (H₄.put s5 (.list false (rowV (row.drop (i + 1))))) := .put hs5
      have hs5' : (H₄.put s5 (.list false (rowV (row.drop (i + 1))))) s5 = _ := Hp.put_self ..
      generalize H₄.put s5 _ = H₅ at e5 hs5' ⊢
      refine Op_addList (e5 _ _ hs4') hs5' (by simp; omega) (by simp; omega) fun c hc => ?_
      rw [← rowV_append, set_take_drop hil]
      have e15 := e14.trans e5
      have Wf5 := Wf.ext e15
      have hcf : c ≠ l := fun e' => by rw [e', Wf5.top] at hc; cases hc
      have hcn : c ∉ fs := fun hm => by obtain ⟨ns, _, hx⟩ := Wf5.mem hm; rw [hc] at hx; cases hx
      have ec : Ext H₅ (H₅.put c (.list false (rowV (row.set i g)))) := .put hc
      have hcc : (H₅.put c (.list false (rowV (row.set i g)))) c = _ := Hp.put_self ..
      generalize H₅.put c _ = H₆ at ec hcc ⊢
      have Wf6 := Wf5.ext ec
      have hlf := Wf6.len
      rw [List.length_append, List.length_take] at hlf
      walk_at "E"
      refine CW_append Wf6.top (by rw [List.length_map]; omega) ?_
      refine ⟨rfl, ?_⟩
      walk_at "E"
      refine ⟨⟨((e.trans e15).trans ec).own hl', (Hp.put_ne hrl).trans ((e15.trans ec) _ _ hr)⟩, by walk_at "lk", by walk_at "lk", by walk_at "lk", by walk_at "lk", fs ++ [c], ?_, by omega⟩
      have := Wf6.snoc hcc hcf hcn
      rw [List.append_assoc] at this
      have et : (aheadAt web row i).take k ++ [row.set i g] = (aheadAt web row i).take (k + 1) := by
        rw [List.take_add_one]
        congr 1
        unfold aheadAt
        rw [List.getElem?_map, hk']; rfl
      rw [et] at this
      exact this
    · rintro l' H' ⟨⟨e, hr⟩, h1, h2, h3, h4', fs, Wf, hk4⟩
      rw [rowV_length] at Wf
      have hal : (aheadAt web row i).length = (web.getD (row.getD i 0) []).length := by unfold aheadAt; rw [List.length_map]
      rw [← hal, List.take_length, ← aheadTo_succ] at Wf
      walk_at "E"
      refine ⟨e, h1, h2, h3, fs, Wf, ?_⟩
      rw [aheadTo_succ, List.length_append, hal]
      omega
  · rintro l' H' ⟨e, h1, h2, h3, fs, Wf, hfl⟩
    rw [spanZ_length] at Wf hfl
    have en : ((row.length : Int) - 0).toNat = row.length := by omega
    rw [en] at Wf hfl
    walk_at "E"
    exact hq H' l e ⟨fs, Wf⟩ (by omega)

end

-- L08g
set_option maxRecDepth 10000
set_option maxHeartbeats 4000000
section
variable {cx : Cx} {d : Nat} {H : Hp} {Q : AV → Hp → Prop}
theorem law08_spec (hE : PD cx) {fa : Addr} (hf : HasDef cx (defAt p08 35) fa) (hlen : cx.nums.length ≤ 63) (hq : ∀ H', Q (.bool true) H') : CW cx (d + 11) (.ref fa) [.ref cx.script] H Q := by
  have hB := hE.bs
  obtain ⟨wa, hwa⟩ := hE.defs 30 (by decide)
  obtain ⟨ca, hca⟩ := hE.defs 31 (by decide)
  obtain ⟨ra, hra⟩ := hE.defs 33 (by decide)
  obtain ⟨aa, haa⟩ := hE.defs 34 (by decide)
  obtain ⟨la, hla⟩ := hE.defs 25 (by decide)
  obtain ⟨na, hna⟩ := hE.defs 17 (by decide)
  obtain ⟨ua, hua⟩ := hE.defs 23 (by decide)
  obtain ⟨da, hda⟩ := hE.defs 32 (by decide)
  refine CW_fn hf bind_law ?_
  show EX cx (d + 10) _ (upd (fun _ => none) "_law_script" (.ref cx.script)) _ H _
  refine EX_cut (fun l' H' => ∃ a web, l' "_law_web" = some (.ref a) ∧ IsWeb H' a web ∧ GoodWeb web ∧ Calm web ∧ web.length ≤ 4) ?_ ?_
  · refine EX_AssignComp ?_
    refine EV_Slice ?_
    walk_at "E"
    refine EV_CallD hwa ?_
    walk_at "E"
    refine (web_by_spec hE hwa hlen (at_ := 1) fun H₁ a' web e1 N1 hG hC h40 => ?_).le (d := d + 10) (d' := 3) (lek rfl)
    obtain ⟨rs, W⟩ := N1.isWeb
    have hl := W.len
    walk_at "E"
    refine int_ok ?_
    refine ⟨a', false, _, rfl, W.top, by walk_at "ln", fun s hs => ?_⟩
    have es : pySlice (rs.map AV.ref) none (some 4) = (rs.take 4).map AV.ref := by
      have := pySlice_to (rs.map AV.ref) 4
      rw [show ((4 : Nat) : Int) = 4 from rfl] at this
      rw [this, List.map_take]
    rw [es]
    have e2 : Ext H₁ (H₁.put s (.list false ((rs.take 4).map .ref))) := .put hs
    have hs2 : (H₁.put s (.list false ((rs.take 4).map .ref))) s = _ := Hp.put_self ..
    generalize H₁.put s _ = H₂ at e2 hs2 ⊢
    refine ⟨_, _, .list hs2, by simp; omega, ?_⟩
    have hlt : (rs.take 4).length = min 4 web.length := by rw [List.length_take, hl]
    rw [refs_eq (rs.take 4), hlt]
    refine CompW_rows (List.range (min 4 web.length)) _ (fun i => rowV ((web.getD i []).filter fun g => decide (g < 4))) (fun H' e => by rw [← hlt, ← refs_eq (rs.take 4)]; exact e _ _ hs2) (fun i H' Q' hi he kk => ?_) (fun fs H₅ he hlen' hn' hfr hrow f hf' => ?_)
    · have hi' := List.mem_range.mp hi
      have hil : i < rs.length := by omega
      have hr := he _ _ (e2 _ _ (W.row i rs[i] (web.getD i []) (by simp [hil]) (by simp [show i < web.length by omega])))
      have hz := hG.rowLen i
      have e0 : (rs.take 4).getD i 0 = rs[i] := by simp [List.getElem?_take, hil, show i < 4 by omega]
      rw [e0]
      refine EV_ListComp ?_
      walk_at "E"
      refine ⟨_, _, .list hr, by rw [rowV_length]; omega, ?_⟩
      refine CompW_filter (web.getD i []) (fun (n : Nat) => AV.int (n : Int)) (fun (n : Nat) => AV.int (n : Int)) (fun g => decide (g < 4)) hr (fun g hg => ?_) (fun g hg _ => ?_) (fun c hc => kk c hc)
      · walk_at "E"
        exact ⟨decide_eq_decide.mpr (by omega), rfl⟩
      · walk_at "E"
        exact ⟨rfl, rfl⟩
    have N6 := webOf_rows he hlen' hn' hfr hrow hf'
    rw [cutWeb_eq] at N6
    have hp9 := hG.pos
    walk_at "E"
    exact ⟨f, cutWeb 4 web, by walk_at "lk", N6.isWeb, cutWeb_good (by omega) hG, cutWeb_calm hC, by rw [cutWeb_length]; omega⟩
  rintro l1 H₁ ⟨a, web, k1, hW, hG, hC, h4⟩
  have hpos := hG.pos
  have hm := hG.most
  obtain ⟨f, hN⟩ := nums_exist hG hC
  walk_at "E"
  refine EV_CallD hna ?_
  walk_at "E"
  refine (numbers_of_spec hE hna hW hG hC fun H₂ n f' e2 hn0 hnn hN' => ?_).le (d := d + 10) (d' := 7) (lek rfl)
  have hff := hN'.uniq hG hC hN
  walk_at "E"
  refine EV_CallD hca ?_
  walk_at "E"
  refine (copied_spec hE hca (hW.ext e2) hG fun H₃ h e3 N3 => ?_).le (d := d + 10) (d' := 1) (lek rfl)
  walk_at "E"
  refine EV_DictT fun kn hkn => ?_
  have e4 : Ext H₃ (H₃.put kn (.raw (tupDict cx []))) := .put hkn
  have T4 : TupDict cx (H₃.put kn (.raw (tupDict cx []))) kn [] := ⟨Hp.put_self .., by simp⟩
  generalize H₃.put kn _ = H₄ at e4 T4 ⊢
  have hW3 : IsWeb H₃ a web := (hW.ext e2).ext e3
  have hWh3 : IsWeb H₃ h web := N3.isWeb
  have hn3 := e3 _ _ hnn
  have hkn3 : H₃ kn = none := hkn
  have get : ∀ {H' : Hp} {x : Nat} {Q' : AV → Hp → Prop} {d' : Nat}, Ext H₃ H' → x < web.length → Q' (.int (f x)) H' → GetW cx d' (.ref n) (.int x) H' Q' := fun e hx q =>
    Get_list (e _ _ hn3) (by walk_at "nn") (by simp; omega) (v := .int (f _)) (by simp [rowV, hx, hff _ hx]) q
  clear e2 e3 N3 hW hnn hkn
  obtain ⟨ws, W3⟩ := id hW3
  have hl3 := W3.len
  refine at_next ?_
  refine EX_cut (fun l' H' => l' "_law_web" = some (.ref a) ∧ l' "_law_handed" = some (.ref h) ∧ l' "_law_known" = some (.ref kn) ∧ Ext H₃ H' ∧ ∃ rows ks, RowsTo web.length web.length rows ∧ TupDict cx H' kn ks ∧ (∀ x ∈ ks, ∃ s : List Nat, x.1 = castN s ∧ x.2.2 = decide (rowNum f s = 0)) ∧ ∀ r ∈ rows, castN r ∈ ks.map (·.1)) ?_ ?_
  · refine EX_For ?_
    refine EV_CallD hra ?_
    walk_at "E"
    refine CW_len (e4 _ _ W3.top) (by walk_at "ln") ?_
    rw [List.length_map, hl3]
    walk_at "E"
    refine (rows_spec hE hra h4 fun H₅ l rows e5 hR5 hrl RT => ?_).le (d := d + 10) (d' := 1) (lek rfl)
    obtain ⟨rs, R5⟩ := hR5
    have hrs := R5.len
    have e35 := e4.trans e5
    have hkl1 : kn ≠ l := fun e => by
      have := (T4.ext e5).top
      rw [e, R5.top] at this; cases this
    have hkl2 : kn ∉ rs := fun hm => by
      obtain ⟨ns, _, hx⟩ := R5.mem hm
      have := (T4.ext e5).top
      rw [hx] at this; cases this
    have hkl : kn ≠ l ∧ kn ∉ rs := And.intro hkl1 hkl2
    refine ⟨_, _, .list R5.top, fun i l' H' => (Ext H₃ H' ∧ WebAt H' l rs rows) ∧ l' "_law_web" = some (.ref a) ∧ l' "_law_handed" = some (.ref h) ∧ l' "_law_known" = some (.ref kn) ∧ l' "_law_numbers" = some (.ref n) ∧ ∃ ks, TupDict cx H' kn ks ∧ ks.length ≤ 2 * i ∧ (∀ x ∈ ks, ∃ s : List Nat, x.1 = castN s ∧ x.2.2 = decide (rowNum f s = 0)) ∧ ∀ r ∈ rows.take i, castN r ∈ ks.map (·.1),
      ⟨⟨e35, R5⟩, by walk_at "lk", by walk_at "lk", by walk_at "lk", by walk_at "lk", [], T4.ext e5, by simp, by simp, by simp⟩, ?_, ?_, ?_⟩
    · rintro i l' H' ⟨⟨_, R⟩, _⟩; exact R.top
    · rintro i v l' H' hi ⟨⟨e, R⟩, g1, g2, g3, g4, ks, T, hksl, hval, hkeys⟩
      simp only [List.getElem?_map, Option.map_eq_some_iff] at hi
      obtain ⟨b, hi, rfl⟩ := hi
      have hil : i < rows.length := by rw [← hrs]; exact (List.getElem?_eq_some_iff.mp hi).1
      have hri : rows[i]? = some rows[i] := List.getElem?_eq_getElem hil
      have hb := R.row i b _ hi hri
      obtain ⟨hrl3, hrx, _⟩ := RT.ok rows[i] (List.getElem_mem hil)
      have htk : rows.take (i + 1) = rows.take i ++ [rows[i]] := by rw [List.take_add_one, hri]; rfl
      generalize rows[i] = row at hb hrl3 hrx htk hri
      refine EX_cons ?_
      walk_at "E"
      refine EV_CallD hla ?_
      walk_at "E"
      refine CW_list_copy hb (by walk_at "ln") fun c hc => ?_
      have ec : Ext H' (H'.put c (.list false (rowV row))) := .put hc
      have hcc : (H'.put c (.list false (rowV row))) c = _ := Hp.put_self ..
      generalize H'.put c _ = H₆ at ec hcc ⊢
      walk_at "E"
      refine (is_lost_spec hE hla (hWh3.ext (e.trans ec)) hG hC hN hcc (by omega) hrx fun H₇ e7 => ?_).le (d := d + 10) (d' := 9) (lek rfl)
      have e67 := ec.trans e7
      have hb7 := e67 _ _ hb
      walk_at "E"
      refine EV_CallD hua ?_
      walk_at "E"
      refine (row_number_spec hE hua (hWh3.ext (e.trans e67)) hG hC hN hb7 (by omega) hrx fun H₈ e8 => ?_).le (d := d + 10) (d' := 8) (lek rfl)
      have e68 := e67.trans e8
      have hb8 := e68 _ _ hb
      walk_at "E"
      refine CW_isinst_bool_bool ?_
      walk_at "E"
      refine EV_CallD hda ?_
      walk_at "E"
      refine EV_ListComp ?_
      walk_at "E"
      refine ⟨_, _, .list hb8, by walk_at "ln", ?_⟩
      refine CompW_map row (fun (n : Nat) => AV.int (n : Int)) (fun x => AV.int (f x)) hb8 (fun x hx => ?_) (fun c2 hc2 => ?_)
      · walk_at "E"
        refine get (e.trans e68) (hrx x hx) ?_
        exact ⟨rfl, rfl⟩
      have hcc2 : (H₈.put c2 (.list false (row.map fun x => AV.int (f x)))) c2 = some (.list false ((castN (row.map f)).map .int)) := by rw [Hp.put_self]; simp [castN]
      have ec2 : Ext H₈ (H₈.put c2 (.list false (row.map fun x => AV.int (f x)))) := .put hc2
      generalize H₈.put c2 _ = H₉ at hcc2 ec2 ⊢
      walk_at "E"
      refine (laid_spec hE hda (B := 8) hcc2 (castN_ok fun n hn => ?_) (by omega) (by simp [castN]; omega) fun H₁₀ e10 => ?_).le (d := d + 10) (d' := 1) (lek rfl)
      · obtain ⟨x, hx, rfl⟩ := List.mem_map.mp hn
        have := hN.le hG (hrx x hx)
        omega
      walk_at "E"
      refine ite_dec (fun h => absurd rfl h) (fun _ => ?_)
      walk_at "E"
      refine Op_neBool (d := d + 9) ?_
      have hbb : (decide (rowNum f row = 0) != decide (rowNum f row = 0)) = false := by simp
      rw [hbb]
      have e610 := (e68.trans ec2).trans e10
      have hb10 := e610 _ _ hb
      have T10 := T.ext e610
      walk_at "E"
      refine CW_tuple hb10 (by walk_at "ln") fun t ht => ?_
      rw [rowV_eq, show (row.map fun (n : Nat) => (n : Int)) = castN row from rfl]
      have et : Ext H₁₀ (H₁₀.put t (.tuple ((castN row).map .int))) := .put ht
      have htt : (H₁₀.put t (.tuple ((castN row).map .int))) t = _ := Hp.put_self ..
      generalize H₁₀.put t _ = H₁₁ at et htt ⊢
      have T11 := T10.ext et
      refine Set_tup (d := d + 9) T11 htt (by omega) fun T12 => ?_
      have hR12 : WebAt (H₁₁.put kn (.raw (tupDict cx (tset ks (castN row) t (decide (rowNum f row = 0)))))) l rs rows := ((R.ext e610).ext et).off (Ne.symm hkl.1) hkl.2
      have e12 : Ext H₃ (H₁₁.put kn (.raw (tupDict cx (tset ks (castN row) t (decide (rowNum f row = 0)))))) := ((e.trans e610).trans et).own hkn3
      have hlk := tset_length ks (castN row) t (decide (rowNum f row = 0))
      have hval2 : ∀ x ∈ tset ks (castN row) t (decide (rowNum f row = 0)), ∃ s : List Nat, x.1 = castN s ∧ x.2.2 = decide (rowNum f s = 0) := fun x hx => by
        rcases tset_mem hx with ⟨e1, e2, _⟩ | hx'
        · exact ⟨row, e1, e2⟩
        · exact hval x hx'
      have hkeys2 : ∀ r ∈ rows.take (i + 1), castN r ∈ (tset ks (castN row) t (decide (rowNum f row = 0))).map (·.1) := fun r hr => by
        rw [tset_keys]
        rw [htk] at hr
        rcases List.mem_append.mp hr with h1 | h1
        · exact .inl (hkeys r h1)
        · rw [List.mem_singleton.mp h1]; exact .inr rfl
      generalize tset ks (castN row) t (decide (rowNum f row = 0)) = ks2 at T12 hR12 e12 hlk hval2 hkeys2 ⊢
      generalize H₁₁.put kn _ = H₁₂ at T12 hR12 e12 ⊢
      have hb12 := hR12.row i b row hi hri
      walk_at "E"
      refine CW_sorted (ns := castN row) (ro := false) (by rw [hb12, rowV_eq]; rfl) (by simp only [castN, List.length_map]; omega) fun s zs hs hp hso => ?_
      obtain ⟨sr, rfl, hperm, hsort⟩ := sorted_nat hp hso
      have hpl := hperm.length_eq
      have es : Ext H₁₂ (H₁₂.put s (.list false ((castN sr).map .int))) := .put hs
      have hss : (H₁₂.put s (.list false ((castN sr).map .int))) s = _ := Hp.put_self ..
      generalize H₁₂.put s _ = H₁₃ at es hss ⊢
      walk_at "E"
      refine CW_tuple hss (by simp only [castN, List.length_map]; omega) fun t2 ht2 => ?_
      have et2 : Ext H₁₃ (H₁₃.put t2 (.tuple ((castN sr).map .int))) := .put ht2
      have htt2 : (H₁₃.put t2 (.tuple ((castN sr).map .int))) t2 = _ := Hp.put_self ..
      generalize H₁₃.put t2 _ = H₁₄ at et2 htt2 ⊢
      refine Set_tup (d := d + 9) ((T12.ext es).ext et2) htt2 (by omega) fun T15 => ?_
      have hlk2 := tset_length ks2 (castN sr) t2 (decide (rowNum f row = 0))
      walk_at "E"
      refine ⟨⟨((e12.trans es).trans et2).own hkn3, ((hR12.ext es).ext et2).off (Ne.symm hkl.1) hkl.2⟩, by walk_at "lk", by walk_at "lk", by walk_at "lk", by walk_at "lk", _, T15, by omega, fun x hx => ?_, fun r hr => ?_⟩
      · rcases tset_mem hx with ⟨e1, e2, _⟩ | hx'
        · exact ⟨sr, e1, by rw [e2, rowNum_perm hperm]⟩
        · exact hval2 x hx'
      · rw [tset_keys]; exact .inl (hkeys2 r hr)
    · rintro l' H' ⟨⟨e, R⟩, g1, g2, g3, g4, ks, T, hksl, hval, hkeys⟩
      rw [List.length_map, hrs, List.take_length] at hkeys
      exact nxt ⟨g1, g2, g3, e, rows, ks, RT, T, hval, hkeys⟩
  rintro l2 H₅ ⟨g1, g2, g3, e5, rows1, ks, RT1, T5, hval, hkeys⟩
  have look : ∀ s : List Nat, s.length ≤ 3 → (∀ x ∈ s, x < web.length) → (s.drop 1).Pairwise (· ≤ ·) → ∃ p, tget ks (castN s) = some p ∧ p.2 = decide (rowNum f s = 0) := fun s hs1 hs2 hs3 => by
    obtain ⟨p, hp, x, hx, hx1, hx2⟩ := tget_of_mem (hkeys s (RT1.has hs1 hs2 hs3))
    obtain ⟨s', hs', hb'⟩ := hval x hx
    refine ⟨p, hp, ?_⟩
    have : s' = s := castN_inj (hs'.symm.trans hx1)
    rw [← hx2, hb', this]
  clear T4 e4 hkeys hval RT1
  walk_at "E"
  refine EX1_cut (fun l' H' => l' "_law_web" = some (.ref a) ∧ l' "_law_handed" = some (.ref h) ∧ Ext H₅ H') ?_ ?_
  · refine EX_For ?_
    refine EV_CallD hra ?_
    walk_at "E"
    refine CW_len (e5 _ _ W3.top) (by walk_at "ln") ?_
    rw [List.length_map, hl3]
    walk_at "E"
    refine (rows_spec hE hra h4 fun H₆ l rows e6 hR6 hrl RT => ?_).le (d := d + 10) (d' := 1) (lek rfl)
    obtain ⟨rs, R6⟩ := hR6
    have hrs := R6.len
    refine ⟨_, _, .list R6.top, fun i l' H' => Ext H₆ H' ∧ l' "_law_web" = some (.ref a) ∧ l' "_law_handed" = some (.ref h) ∧ l' "_law_known" = some (.ref kn),
      ⟨.refl _, by walk_at "lk", by walk_at "lk", by walk_at "lk"⟩, ?_, ?_, ?_⟩
    · rintro i l' H' ⟨e, _⟩; exact e _ _ R6.top
    · rintro i v l' H' hi ⟨e, k2, k3, k4⟩
      simp only [List.getElem?_map, Option.map_eq_some_iff] at hi
      obtain ⟨b, hi, rfl⟩ := hi
      have hil : i < rows.length := by rw [← hrs]; exact (List.getElem?_eq_some_iff.mp hi).1
      have hb := e _ _ (R6.row i b _ hi (List.getElem?_eq_getElem hil))
      obtain ⟨hrl3, hrx, hrd⟩ := RT.ok rows[i] (List.getElem_mem hil)
      generalize rows[i] = row at hb hrl3 hrx hrd
      have e56 := e6.trans e
      have e36 := e5.trans e56
      have T6 := T5.ext e56
      refine EX_cons ?_
      refine EX_AssignComp ?_
      refine EV_CallD haa ?_
      walk_at "E"
      refine (ahead_spec hE haa (hW3.ext e36) hG h4 hb hrl3 hrx fun H₇ l7 e7 hA hal => ?_).le (d := d + 10) (d' := 1) (lek rfl)
      obtain ⟨fs, A7⟩ := hA
      have hfs := A7.len
      have hAok : ∀ r ∈ aheadTo web row row.length, r.length ≤ 3 ∧ ∀ x ∈ r, x < web.length := fun r hr => by
        obtain ⟨k, g, hk, hg, rfl⟩ := mem_aheadTo.mp hr
        refine ⟨by rw [List.length_set]; exact hrl3, set_lt hrx ((hG.row _).2 g hg)⟩
      have hAq : decide (rowNum f row = 0) = !((aheadTo web row row.length).map fun r => decide (rowNum f r = 0)).any (fun b => b == true) := by
        rw [List.any_map]
        cases hbz : decide (rowNum f row = 0) with
        | true =>
          have h0 := of_decide_eq_true hbz
          have : (aheadTo web row row.length).any ((fun b => b == true) ∘ fun r => decide (rowNum f r = 0)) = false := by
            rw [List.any_eq_false]
            intro r hr
            obtain ⟨k, g, hk, hg, rfl⟩ := mem_aheadTo.mp hr
            have := row_play hN (hrx _ (List.mem_of_getElem? (getD_some hk))) (getD_some hk) hg h0
            simpa using this
          rw [this]; rfl
        | false =>
          have h0 := of_decide_eq_false hbz
          obtain ⟨wi, wx, wg, w1, w2, w3⟩ := row_win hN hrx h0
          have : (aheadTo web row row.length).any ((fun b => b == true) ∘ fun r => decide (rowNum f r = 0)) = true := by
            rw [List.any_eq_true]
            refine ⟨row.set wi wg, mem_aheadTo.mpr ⟨wi, wg, (List.getElem?_eq_some_iff.mp w1).1, by rw [show row.getD wi 0 = wx by simp [w1]]; exact w2, rfl⟩, ?_⟩
            simp [w3]
          rw [this]; rfl
      generalize aheadTo web row row.length = Aw at A7 hal hfs hAok hAq
      refine ⟨_, _, .list A7.top, by rw [List.length_map]; omega, ?_⟩
      rw [refs_eq fs, hfs]
      refine CompW_mapG (List.range Aw.length) _ (fun i => AV.bool (decide (rowNum f (Aw.getD i []) = 0))) (fun H' e' => by rw [← hfs, ← refs_eq fs]; exact e' _ _ A7.top) (fun j H₈ hj e8 => ?_) (fun H₈ e8 c hc => ?_)
      · have hj' := List.mem_range.mp hj
        have hjf : j < fs.length := by omega
        have hgd : Aw.getD j [] = Aw[j] := by simp [hj']
        have hr := e8 _ _ (A7.row j fs[j] Aw[j] (List.getElem?_eq_getElem hjf) (List.getElem?_eq_getElem hj'))
        obtain ⟨o1, o2⟩ := hAok Aw[j] (List.getElem_mem hj')
        have e0 : fs.getD j 0 = fs[j] := by simp [hjf]
        rw [e0, hgd]
        generalize Aw[j] = r at hr o1 o2
        walk_at "E"
        refine CW_sorted (ns := castN r) (ro := false) (by rw [hr, rowV_eq]; rfl) (by simp only [castN, List.length_map]; omega) fun s zs hs hp hso => ?_
        obtain ⟨sr, rfl, hperm, hsort⟩ := sorted_nat hp hso
        have hpl := hperm.length_eq
        have es : Ext H₈ (H₈.put s (.list false ((castN sr).map .int))) := .put hs
        have hss : (H₈.put s (.list false ((castN sr).map .int))) s = _ := Hp.put_self ..
        generalize H₈.put s _ = H₉ at es hss ⊢
        walk_at "E"
        refine CW_tuple hss (by simp only [castN, List.length_map]; omega) fun t2 ht2 => ?_
        have et2 : Ext H₉ (H₉.put t2 (.tuple ((castN sr).map .int))) := .put ht2
        have htt2 : (H₉.put t2 (.tuple ((castN sr).map .int))) t2 = _ := Hp.put_self ..
        generalize H₉.put t2 _ = H₁₀ at et2 htt2 ⊢
        obtain ⟨p, hp1, hp2⟩ := look sr (by omega) (fun x hx => o2 x (hperm.mem_iff.mp hx)) (hsort.sublist (List.drop_sublist ..))
        refine Get_tup (d := d + 9) ((((T6.ext e7).ext e8).ext es).ext et2) htt2 hp1 ?_
        refine ⟨by rw [hp2, rowNum_perm hperm], es.trans et2⟩
      have hcc : (H₈.put c (.list false ((List.range Aw.length).map fun i => AV.bool (decide (rowNum f (Aw.getD i []) = 0))))) c = some (.list false ((Aw.map fun r => decide (rowNum f r = 0)).map .bool)) := by
        rw [Hp.put_self, List.map_map]
        congr 2
        apply List.ext_getElem
        · simp
        · intro k h1 h2
          simp at h1 h2
          simp [h1]
      have ec : Ext H₇ (H₈.put c (.list false ((List.range Aw.length).map fun i => AV.bool (decide (rowNum f (Aw.getD i []) = 0))))) := e8.put_r hc
      generalize H₈.put c _ = H₉ at hcc ec ⊢
      have e79 := e7.trans ec
      have hb9 := e79 _ _ hb
      walk_at "E"
      refine CW_tuple hb9 (by walk_at "ln") fun t ht => ?_
      rw [rowV_eq, show (row.map fun (n : Nat) => (n : Int)) = castN row from rfl]
      have et : Ext H₉ (H₉.put t (.tuple ((castN row).map .int))) := .put ht
      have htt : (H₉.put t (.tuple ((castN row).map .int))) t = _ := Hp.put_self ..
      generalize H₉.put t _ = H₁₀ at et htt ⊢
      obtain ⟨p, hp1, hp2⟩ := look row hrl3 hrx hrd
      refine Get_tup (d := d + 9) ((T6.ext e79).ext et) htt hp1 ?_
      rw [hp2]
      walk_at "E"
      refine Op_notInBools (d := d + 9) (et _ _ hcc) ?_
      rw [← hAq]
      refine Op_neBool (d := d + 9) ?_
      have hbb : (decide (rowNum f row = 0) != decide (rowNum f row = 0)) = false := by simp
      rw [hbb]
      walk_at "E"
      exact ⟨((e.trans e79).trans et), by walk_at "lk", by walk_at "lk", by walk_at "lk"⟩
    · rintro l' H' ⟨e, k2, k3, k4⟩
      exact nxt ⟨k2, k3, e6.trans e⟩
  rintro l3 H₆ ⟨k2, k3, e6⟩
  walk_at "E"
  refine Op_eqWeb (d := d + 9) (hWh3.ext (e5.trans e6)) (hW3.ext (e5.trans e6)) ?_
  rw [decide_eq_true rfl]
  walk_at "E"
  exact hq _

end
end Mine

open PySem PySem.W PyProof.Rows
set_option maxRecDepth 100000
set_option maxHeartbeats 8000000
open Mine
theorem PySem.Challenge.cw_uf050033_08_holds : PySem.Challenge.rw_uf050033_08.Holds := by
  w_on; o_law; o_head Hook.none; (case hw => w_witness2)
  intro w s₀ s₁ mg mb G Y fa o pm cd doc dV kV ho hd hcd hD hmg hg args vals as hpre hlay hrd hwl hlo
  have T := Ground.T G
  clear hd hcd hD Y G
  wrow_args hpre hlay hrd hwl hlo
  rename_i ns _ _ hL _ _ _ _ l vs _ hl _ hW _ hI _ hc _
  have hget := well_get hW hl
  let cx := mkCx Challenge.rw_uf050033_08.prog w s₁.heap l ns mg mb T.g T.b T.nolimit ⟨_, hget⟩ T.builtins
  have hB : Bs cx := bs_of T rfl (by decide +kernel)
  obtain ⟨f7, h7, e7⟩ := hasDef_of T (cx := cx) rfl rfl (defAt p08 7) (posAt p08 7) (List.mem_of_getElem? (i := 0) rfl)
  obtain ⟨f8, h8, e8⟩ := hasDef_of T (cx := cx) rfl rfl (defAt p08 8) (posAt p08 8) (List.mem_of_getElem? (i := 1) rfl)
  obtain ⟨f9, h9, e9⟩ := hasDef_of T (cx := cx) rfl rfl (defAt p08 9) (posAt p08 9) (List.mem_of_getElem? (i := 2) rfl)
  obtain ⟨f10, h10, e10⟩ := hasDef_of T (cx := cx) rfl rfl (defAt p08 10) (posAt p08 10) (List.mem_of_getElem? (i := 3) rfl)
  obtain ⟨f11, h11, e11⟩ := hasDef_of T (cx := cx) rfl rfl (defAt p08 11) (posAt p08 11) (List.mem_of_getElem? (i := 4) rfl)
  obtain ⟨f12, h12, e12⟩ := hasDef_of T (cx := cx) rfl rfl (defAt p08 12) (posAt p08 12) (List.mem_of_getElem? (i := 5) rfl)
  obtain ⟨f13, h13, e13⟩ := hasDef_of T (cx := cx) rfl rfl (defAt p08 13) (posAt p08 13) (List.mem_of_getElem? (i := 6) rfl)
  obtain ⟨f15, h15, e15⟩ := hasDef_of T (cx := cx) rfl rfl (defAt p08 15) (posAt p08 15) (List.mem_of_getElem? (i := 7) rfl)
  obtain ⟨f16, h16, e16⟩ := hasDef_of T (cx := cx) rfl rfl (defAt p08 16) (posAt p08 16) (List.mem_of_getElem? (i := 8) rfl)
  obtain ⟨f17, h17, e17⟩ := hasDef_of T (cx := cx) rfl rfl (defAt p08 17) (posAt p08 17) (List.mem_of_getElem? (i := 9) rfl)
  obtain ⟨f18, h18, e18⟩ := hasDef_of T (cx := cx) rfl rfl (defAt p08 18) (posAt p08 18) (List.mem_of_getElem? (i := 10) rfl)
  obtain ⟨f19, h19, e19⟩ := hasDef_of T (cx := cx) rfl rfl (defAt p08 19) (posAt p08 19) (List.mem_of_getElem? (i := 11) rfl)
  obtain ⟨f22, h22, e22⟩ := hasDef_of T (cx := cx) rfl rfl (defAt p08 22) (posAt p08 22) (List.mem_of_getElem? (i := 12) rfl)
  obtain ⟨f23, h23, e23⟩ := hasDef_of T (cx := cx) rfl rfl (defAt p08 23) (posAt p08 23) (List.mem_of_getElem? (i := 13) rfl)
  obtain ⟨f25, h25, e25⟩ := hasDef_of T (cx := cx) rfl rfl (defAt p08 25) (posAt p08 25) (List.mem_of_getElem? (i := 14) rfl)
  obtain ⟨f27, h27, e27⟩ := hasDef_of T (cx := cx) rfl rfl (defAt p08 27) (posAt p08 27) (List.mem_of_getElem? (i := 15) rfl)
  obtain ⟨f28, h28, e28⟩ := hasDef_of T (cx := cx) rfl rfl (defAt p08 28) (posAt p08 28) (List.mem_of_getElem? (i := 16) rfl)
  obtain ⟨f29, h29, e29⟩ := hasDef_of T (cx := cx) rfl rfl (defAt p08 29) (posAt p08 29) (List.mem_of_getElem? (i := 17) rfl)
  obtain ⟨f30, h30, e30⟩ := hasDef_of T (cx := cx) rfl rfl (defAt p08 30) (posAt p08 30) (List.mem_of_getElem? (i := 18) rfl)
  obtain ⟨f31, h31, e31⟩ := hasDef_of T (cx := cx) rfl rfl (defAt p08 31) (posAt p08 31) (List.mem_of_getElem? (i := 19) rfl)
  obtain ⟨f32, h32, e32⟩ := hasDef_of T (cx := cx) rfl rfl (defAt p08 32) (posAt p08 32) (List.mem_of_getElem? (i := 20) rfl)
  obtain ⟨f33, h33, e33⟩ := hasDef_of T (cx := cx) rfl rfl (defAt p08 33) (posAt p08 33) (List.mem_of_getElem? (i := 21) rfl)
  obtain ⟨f34, h34, e34⟩ := hasDef_of T (cx := cx) rfl rfl (defAt p08 34) (posAt p08 34) (List.mem_of_getElem? (i := 22) rfl)
  obtain ⟨f35, h35, e35⟩ := hasDef_of T (cx := cx) rfl rfl (defAt p08 35) (posAt p08 35) (List.mem_of_getElem? (i := 23) rfl)
  have e : some (Value.ref fa) = some (.ref f35) := hmg.symm.trans e35
  cases e
  have hE : PD cx := by
    refine ⟨hB, ?defs, ?c_most_spots, ?c_most_games⟩
    case defs =>
      intro k hk
      simp only [List.mem_cons, List.not_mem_nil, or_false] at hk
      rcases hk with rfl | rfl | rfl | rfl | rfl | rfl | rfl | rfl | rfl | rfl | rfl | rfl | rfl | rfl | rfl | rfl | rfl | rfl | rfl | rfl | rfl | rfl | rfl | rfl
      · exact ⟨_, h7⟩
      · exact ⟨_, h8⟩
      · exact ⟨_, h9⟩
      · exact ⟨_, h10⟩
      · exact ⟨_, h11⟩
      · exact ⟨_, h12⟩
      · exact ⟨_, h13⟩
      · exact ⟨_, h15⟩
      · exact ⟨_, h16⟩
      · exact ⟨_, h17⟩
      · exact ⟨_, h18⟩
      · exact ⟨_, h19⟩
      · exact ⟨_, h22⟩
      · exact ⟨_, h23⟩
      · exact ⟨_, h25⟩
      · exact ⟨_, h27⟩
      · exact ⟨_, h28⟩
      · exact ⟨_, h29⟩
      · exact ⟨_, h30⟩
      · exact ⟨_, h31⟩
      · exact ⟨_, h32⟩
      · exact ⟨_, h33⟩
      · exact ⟨_, h34⟩
      · exact ⟨_, h35⟩
    case c_most_spots => exact const_of T rfl (by decide +kernel)
    case c_most_games => exact const_of T rfl (by decide +kernel)
  refine law_in (l := Challenge.rw_uf050033_08) (cx := cx) rfl rfl hget hI hg fun H => ?_
  exact law08_spec (d := 49) hE h35 (by show ns.length ≤ 63; omega) (fun _ => rfl)
