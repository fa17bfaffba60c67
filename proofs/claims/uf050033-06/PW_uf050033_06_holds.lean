import PyProof.Rows.All
import Wide.All
import OpenK.AllK
import Wide.FinOn
import PyProof.Cells
import PyProof.ForAny
import PyProof.WalksMore
import PyProof.DictRoads
import PyProof.SliceList
import PyProof.Boot
import PyProof.Rules3
import PyProof.PureInt
import PyProof.NoPylong
import PyProof.FitsBits
import PyProof.Rows.RuleB_floordiv
import PyProof.Rows.RuleB_mod
import PyProof.Rows.RuleB_pow
import PyProof.Calls
import PyProof.CompFree
import PySem.Challenge.RW_uf050033_06
set_option Elab.async false
-- Core1
namespace Mine
open PySem

/-! ## abstract values, objects, heaps -/
inductive AV where
  | none | bool (b : Bool) | int (i : Int) | str (s : Str) | ref (a : Addr) | ty (n : String)
  deriving DecidableEq

def VR : AV → Value → Prop
  | .none, v => v = .none
  | .bool b, v => v = .bool b
  | .int i, v => ∃ t, v = .int i t
  | .str x, v => ∃ t, v = .str x t
  | .ref a, v => v = .ref a
  | .ty n, v => v = .type n

def VRs : List AV → List Value → Prop
  | [], [] => True
  | a :: as, v :: vs => VR a v ∧ VRs as vs
  | _, _ => False

theorem VRs.length : ∀ {as : List AV} {vs : List Value}, VRs as vs → as.length = vs.length
  | [], [], _ => rfl
  | _ :: _, _ :: _, h => by simp [VRs.length h.2]
  | [], _ :: _, h => h.elim
  | _ :: _, [], h => h.elim
theorem VRs.get : ∀ {as : List AV} {vs : List Value} {i : Nat} {a : AV}, VRs as vs → as[i]? = some a → ∃ v, vs[i]? = some v ∧ VR a v
  | _ :: _, v :: _, 0, _, h, e => by cases e; exact ⟨v, rfl, h.1⟩
  | _ :: _, _ :: _, i + 1, _, h, e => VRs.get (i := i) h.2 e
  | [], _, _, _, _, e => by simp at e
  | _ :: _, [], _, _, h, _ => h.elim
theorem VRs.append : ∀ {as bs : List AV} {vs ws : List Value}, VRs as vs → VRs bs ws → VRs (as ++ bs) (vs ++ ws)
  | [], _, [], _, _, h => h
  | _ :: _, _, _ :: _, _, h, h' => ⟨h.1, VRs.append h.2 h'⟩
  | [], _, _ :: _, _, h, _ => h.elim
  | _ :: _, _, [], _, h, _ => h.elim
theorem VRs.one {a : AV} {v : Value} (h : VR a v) : VRs [a] [v] := ⟨h, trivial⟩
theorem VRs.snoc {as : List AV} {vs : List Value} {a : AV} {v : Value} (h : VRs as vs) (h' : VR a v) : VRs (as ++ [a]) (vs ++ [v]) := h.append (.one h')
theorem VRs.set : ∀ {as : List AV} {vs : List Value} {a : AV} {v : Value} (i : Nat), VRs as vs → VR a v → VRs (as.set i a) (vs.set i v)
  | [], [], _, _, _, _, _ => trivial
  | _ :: _, _ :: _, _, _, 0, h, h' => ⟨h', h.2⟩
  | _ :: _, _ :: _, _, _, i + 1, h, h' => ⟨h.1, VRs.set i h.2 h'⟩
  | [], _ :: _, _, _, _, h, _ => h.elim
  | _ :: _, [], _, _, _, h, _ => h.elim
theorem VRs.take : ∀ {as : List AV} {vs : List Value} (n : Nat), VRs as vs → VRs (as.take n) (vs.take n)
  | [], [], n, _ => by cases n <;> exact trivial
  | _ :: _, _ :: _, 0, _ => trivial
  | _ :: _, _ :: _, n + 1, h => ⟨h.1, VRs.take n h.2⟩
  | [], _ :: _, _, h => h.elim
  | _ :: _, [], _, h => h.elim
theorem VRs.drop : ∀ {as : List AV} {vs : List Value} (n : Nat), VRs as vs → VRs (as.drop n) (vs.drop n)
  | [], [], n, _ => by cases n <;> exact trivial
  | _ :: _, _ :: _, 0, h => h
  | _ :: _, _ :: _, n + 1, h => VRs.drop n h.2
  | [], _ :: _, _, h => h.elim
  | _ :: _, [], _, h => h.elim
theorem VRs.reverse : ∀ {as : List AV} {vs : List Value}, VRs as vs → VRs as.reverse vs.reverse
  | [], [], _ => trivial
  | _ :: _, _ :: _, h => by simp only [List.reverse_cons]; exact (VRs.reverse h.2).snoc h.1
  | [], _ :: _, h => h.elim
  | _ :: _, [], h => h.elim
theorem VRs.eraseIdx : ∀ {as : List AV} {vs : List Value} (n : Nat), VRs as vs → VRs (as.eraseIdx n) (vs.eraseIdx n)
  | [], [], n, _ => by cases n <;> exact trivial
  | _ :: _, _ :: _, 0, h => h.2
  | _ :: _, _ :: _, n + 1, h => ⟨h.1, VRs.eraseIdx n h.2⟩
  | [], _ :: _, _, h => h.elim
  | _ :: _, [], _, h => h.elim
theorem VRs.mem : ∀ {as : List AV} {vs : List Value} {v : Value}, VRs as vs → v ∈ vs → ∃ a, a ∈ as ∧ VR a v
  | a :: _, _ :: _, _, h, hm => by
    rcases List.mem_cons.mp hm with rfl | hm
    · exact ⟨a, .head _, h.1⟩
    · obtain ⟨b, hb, hv⟩ := VRs.mem h.2 hm; exact ⟨b, .tail _ hb, hv⟩
  | [], [], _, _, hm => by cases hm
  | [], _ :: _, _, h, _ => h.elim
  | _ :: _, [], _, h, _ => h.elim

inductive AObj where
  | list (ro : Bool) (vs : List AV)
  | tuple (vs : List AV)
  | dict (f : Int → Option AV) (n : Nat)
  | range (lo hi : Int)

def VRo : Option AV → Option Value → Prop
  | none, v => v = none
  | some a, v => ∃ V, v = some V ∧ VR a V

abbrev PH := Addr → Option Obj
abbrev Hp := Addr → Option AObj
abbrev Loc := Str → Option AV

def Hp.put (H : Hp) (a : Addr) (o : AObj) : Hp := fun b => if b = a then some o else H b
@[simp] theorem Hp.put_self (H : Hp) (a : Addr) (o : AObj) : H.put a o a = some o := by simp [Hp.put]
theorem Hp.put_ne {H : Hp} {a b : Addr} {o : AObj} (h : b ≠ a) : H.put a o b = H b := by simp [Hp.put, h]
def upd (loc : Loc) (x : Str) (v : AV) : Loc := fun y => if y = x then some v else loc y
@[simp] theorem upd_self (loc : Loc) (x : Str) (v : AV) : upd loc x v x = some v := by simp [upd]
theorem upd_ne {loc : Loc} {x y : Str} {v : AV} (h : y ≠ x) : upd loc x v y = loc y := by simp [upd, h]

structure Cx where
  prog : Program
  w : World
  base : Heap
  script : Addr
  nums : List Int
  mg : Str → Option Value
  mb : Str → Option Value
  g : base.Ns mainGlobals mg
  b : base.Ns builtinsNs mb
  nolimit : base.NoLimit
  scriptIn : ∃ o, base.get? script = some o
  builtins : ∀ x : Str, x ≠ "__name__" → mb x = bootBuiltins x

def OR (cx : Cx) : AObj → Obj → Prop
  | .list _ vs, O => ∃ items n, O = { cls := .type "list", dict := none, data := .seq items n, slots := #[] } ∧ VRs vs items.toList
  | .tuple vs, O => ∃ items n, O = { cls := .type "tuple", dict := none, data := .seq items n, slots := #[] } ∧ VRs vs items.toList
  | .dict f n, O => O.ExactDict ∧ ∃ es ep, O.data = .dict es ep ∧ KeysOf (intKind cx.prog cx.w) es ∧ es.size ≤ n ∧ ∀ k, VRo (f k) (findBy (intKind cx.prog cx.w).is es k)
  | .range lo hi, O => ∃ t u v, O = { cls := .type "range", dict := none, data := .fields #[.int lo t, .int hi u, .int 1 v], slots := #[] }

structure Rep (cx : Cx) (P : PH) (H : Hp) (h : Heap) : Prop where
  base : ∀ a o, cx.base.get? a = some o → P a = some o
  ext : ∀ a o, P a = some o → h.get? a = some o
  obj : ∀ a o, H a = some o → ∃ O, h.get? a = some O ∧ OR cx o O
  sep : ∀ a o O, H a = some o → P a = some O → a = cx.script
  scr : H cx.script = some (.list true (cx.nums.map .int))

/-- a name that the frame may bear -/
def plainName (x : Str) : Bool := !(x == ("__debug__" : Str)) && !(x == ("__classdict__" : Str))

def NsG (g : PH) (a : Addr) (m : Str → Option Value) : Prop := ∃ o es ep, g a = some o ∧ o.data = .dict es ep ∧ StrKeys es ∧ ∀ name, nsFind es name = m name
def CellG (g : PH) (c : Addr) (v : Option Value) : Prop := ∃ o, g c = some o ∧ o.data = .cell v
theorem NsG.heap {h : Heap} {a : Addr} {m : Str → Option Value} (x : NsG h.get? a m) : h.Ns a m := x
theorem CellG.heap {h : Heap} {c : Addr} {v : Option Value} (x : CellG h.get? c v) : h.IsCell c v := x

/-- the frame's names as the objects in g bear them -/
structure FrameAt (env : Env) (loc : Loc) (g : PH) : Prop where
  ns : ∃ m, NsG g env.locals m ∧ ∀ x v, loc x = some v → env.kindOf x = some .local → ∃ V, m x = some V ∧ VR v V
  cells : ∀ x v, loc x = some v → (env.kindOf x = some .cell ∨ env.kindOf x = some .free) → ∃ c V, env.cells.lookup x = some c ∧ CellG g c (some V) ∧ VR v V
  dom : ∀ x v, loc x = some v → (env.kindOf x = some .local ∨ env.kindOf x = some .cell ∨ env.kindOf x = some .free) ∧ plainName x = true
  cellOk : ∀ x c, env.cells.lookup x = some c → ∃ ov, CellG g c ov

structure EnvOk (sc : Scope) (env : Env) : Prop where
  scope : env.scope = sc
  kind : env.scope.kind = .function
  glob : env.globals = mainGlobals
  blt : env.builtins = builtinsNs
  apart : env.cells.Pairwise fun x y => x.2 ≠ y.2
  has : ∀ x, env.kindOf x = some .cell ∨ env.kindOf x = some .free → (env.cells.lookup x).isSome = true

abbrev FrameP (env : Env) (loc : Loc) (P : PH) : Prop := FrameAt env loc P

def fp (env : Env) (a : Addr) : Prop := a = env.locals ∨ ∃ x, env.cells.lookup x = some a

theorem FrameAt.eq_on {env : Env} {loc : Loc} {g g' : PH} (F : FrameAt env loc g) (e : ∀ a, fp env a → ∀ o, g a = some o → g' a = some o) : FrameAt env loc g' where
  ns := by
    obtain ⟨m, ⟨o, es, ep, ho, r⟩, hm⟩ := F.ns
    exact ⟨m, ⟨o, es, ep, e _ (.inl rfl) o ho, r⟩, hm⟩
  cells := fun x v hx hk => by
    obtain ⟨c, V, hc, ⟨o, ho, hd⟩, hr⟩ := F.cells x v hx hk
    exact ⟨c, V, hc, ⟨o, e c (.inr ⟨x, hc⟩) o ho, hd⟩, hr⟩
  dom := F.dom
  cellOk := fun x c hc => by
    obtain ⟨ov, o, ho, hd⟩ := F.cellOk x c hc
    exact ⟨ov, o, e c (.inr ⟨x, hc⟩) o ho, hd⟩

structure Room (d : Nat) (A : Around) : Prop where
  handled : A.handled = none
  depth : A.depth + d < recursionLimit
  units : A.units + 8 * d < cLine

abbrev XP := AV → Hp → Prop
def noX : XP := fun _ _ => False

def EV (cx : Cx) (d : Nat) (sc : Scope) (loc : Loc) (e : Expr) (H : Hp) (Q : AV → Hp → Prop) : Prop :=
  ∀ (env : Env) (A : Around) (P : PH) (s : Shared) (E : Value → Shared → Prop) (Q' : Value → Shared → Prop), EnvOk sc env → FrameP env loc P → Room d A → Rep cx P H s.heap →
    (∀ v V H' h' tk, Q v H' → VR v V → Rep cx P H' h' → Q' V { s with heap := h', toks := tk }) →
    wpAny (model cx.prog cx.w) A (eval e env) Q' E s

def TV (cx : Cx) (d : Nat) (sc : Scope) (loc : Loc) (e : Expr) (H : Hp) (Q : Bool → Hp → Prop) : Prop :=
  ∀ (env : Env) (A : Around) (P : PH) (s : Shared) (E : Value → Shared → Prop) (Q' : Bool → Shared → Prop), EnvOk sc env → FrameP env loc P → Room d A → Rep cx P H s.heap →
    (∀ b H' h' tk, Q b H' → Rep cx P H' h' → Q' b { s with heap := h', toks := tk }) →
    wpAny (model cx.prog cx.w) A (isTrue e env (eval e env)) Q' E s

section
variable {cx : Cx} {d : Nat} {sc : Scope} {loc : Loc} {H : Hp} {Q : AV → Hp → Prop} {QB : Bool → Hp → Prop}

theorem EV.mono {e : Expr} {Q₁ : AV → Hp → Prop} (h : EV cx d sc loc e H Q₁) (hq : ∀ v H', Q₁ v H' → Q v H') : EV cx d sc loc e H Q :=
  fun env A P s E Q' he hF hA R k => h env A P s E Q' he hF hA R fun v V H' h' tk q => k v V H' h' tk (hq v H' q)
theorem TV.mono {e : Expr} {Q₁ : Bool → Hp → Prop} (h : TV cx d sc loc e H Q₁) (hq : ∀ v H', Q₁ v H' → QB v H') : TV cx d sc loc e H QB :=
  fun env A P s E Q' he hF hA R k => h env A P s E Q' he hF hA R fun v H' h' tk q => k v H' h' tk (hq v H' q)

theorem EV_Name {x : Str} {pos : Pos} {v : AV} (hx : loc x = some v) (hq : Q v H) : EV cx d sc loc (.Name x pos) H Q := by
  intro env A P s E Q' he hF hA R k
  have F : FrameAt env loc s.heap.get? := hF.eq_on fun a _ o e => R.ext a o e
  obtain ⟨hk, hp⟩ := F.dom x v hx
  simp only [plainName, Bool.and_eq_true, Bool.not_eq_true'] at hp
  rcases hk with hk | hk | hk
  · obtain ⟨m, hn, hm⟩ := F.ns
    obtain ⟨V, hV, hr⟩ := hm x v hx hk
    exact wpAny_Name (wpAny_loadName_local he.kind hk hn hV (k v V H s.heap s.toks hq hr R)) hp.1
  · obtain ⟨c, V, hc, hv, hr⟩ := F.cells x v hx (.inl hk)
    exact wpAny_Name (wpAny_loadName_cell he.kind hk hc hv (k v V H s.heap s.toks hq hr R)) hp.1
  · obtain ⟨c, V, hc, hv, hr⟩ := F.cells x v hx (.inr hk)
    exact wpAny_Name (wpAny_loadName_free he.kind hk hc hv (k v V H s.heap s.toks hq hr R) hp.2) hp.1

theorem EV_int {i : Int} {k : Nat} {pos : Pos} (hq : Q (.int i) H) : EV cx d sc loc (.Constant (.int i) k pos) H Q :=
  fun _ _ _ s _ _ _ _ _ R kk => wpAny_Constant_int (kk _ _ H s.heap _ hq ⟨_, rfl⟩ R)
theorem EV_none {k : Nat} {pos : Pos} (hq : Q .none H) : EV cx d sc loc (.Constant .none k pos) H Q :=
  fun _ _ _ s _ _ _ _ _ R kk => wpAny_Constant_none (kk _ _ H s.heap s.toks hq rfl R)
theorem EV_bool {b : Bool} {k : Nat} {pos : Pos} (hq : Q (.bool b) H) : EV cx d sc loc (.Constant (.bool b) k pos) H Q :=
  fun _ _ _ s _ _ _ _ _ R kk => wpAny_Constant_bool (kk _ _ H s.heap s.toks hq rfl R)
theorem EV_str {x : Str} {k : Nat} {pos : Pos} (hq : Q (.str x) H) : EV cx d sc loc (.Constant (.str x) k pos) H Q :=
  fun _ _ _ s _ _ _ _ _ R kk => wpAny_Constant_str (kk _ _ H s.heap _ hq ⟨_, rfl⟩ R)
end

/-! ## statements -/
inductive AF where
  | next | brk | cont | ret (v : AV)

def FR : AF → Flow → Prop
  | .next, f => f = .next
  | .brk, f => f = .brk
  | .cont, f => f = .cont
  | .ret v, f => ∃ V, f = .ret V ∧ VR v V

/-- the frame; the names in W may be stored into -/
structure FrameW (W : Str → Prop) (env : Env) (loc : Loc) (P : PH) (H : Hp) (h : Heap) : Prop where
  at_ : FrameAt env loc h.get?
  cellHas : ∀ x, env.kindOf x = some .cell → (env.cells.lookup x).isSome = true
  apart : env.cells.Pairwise fun x y => x.2 ≠ y.2
  cellNe : ∀ x c, (x, c) ∈ env.cells → c ≠ env.locals
  locP : P env.locals = none
  cellP : ∀ x c, W x → env.cells.lookup x = some c → P c = none
  offH : ∀ a, fp env a → H a = none
abbrev FrameOwn := FrameW fun _ => True

theorem FrameW.eq_on {W : Str → Prop} {env : Env} {loc : Loc} {P : PH} {H H' : Hp} {h h' : Heap} (F : FrameW W env loc P H h) (e : ∀ a, fp env a → ∀ o, h.get? a = some o → h'.get? a = some o)
    (hH : ∀ a, fp env a → H' a = none) : FrameW W env loc P H' h' where
  at_ := F.at_.eq_on e
  cellHas := F.cellHas
  apart := F.apart
  cellNe := F.cellNe
  locP := F.locP
  cellP := F.cellP
  offH := hH

theorem FrameW.live {W : Str → Prop} {env : Env} {loc : Loc} {P : PH} {H : Hp} {h : Heap} (F : FrameW W env loc P H h) : ∀ a, fp env a → ∃ o, h.get? a = some o := by
  intro a ha
  rcases ha with rfl | ⟨x, hm⟩
  · obtain ⟨m, ⟨o, _, _, ho, _⟩, _⟩ := F.at_.ns; exact ⟨o, ho⟩
  · obtain ⟨ov, o, ho, _⟩ := F.at_.cellOk x a hm; exact ⟨o, ho⟩

open Classical in
/-- the frame's own objects laid aside with what must stay -/
noncomputable def aside (P : PH) (env : Env) (h : Heap) : PH := fun a => if fp env a then h.get? a else P a

theorem aside_rep {cx : Cx} {W : Str → Prop} {env : Env} {loc : Loc} {P : PH} {H : Hp} {h : Heap} (F : FrameW W env loc P H h) (R : Rep cx P H h) : Rep cx (aside P env h) H h where
  base := fun a o e => by
    have hP := R.base a o e
    unfold aside
    split
    · exact R.ext a o hP
    · exact hP
  ext := fun a o e => by
    unfold aside at e
    split at e
    · exact e
    · exact R.ext a o e
  obj := R.obj
  sep := fun a o O ho hO => by
    unfold aside at hO
    split at hO
    · rename_i hm; rw [F.offH a hm] at ho; cases ho
    · exact R.sep a o O ho hO
  scr := R.scr

theorem aside_frame {W : Str → Prop} {env : Env} {loc : Loc} {P : PH} {H : Hp} {h : Heap} (F : FrameW W env loc P H h) : FrameP env loc (aside P env h) :=
  F.at_.eq_on fun a ha o ho => by unfold aside; rw [if_pos ha]; exact ho

theorem aside_back {cx : Cx} {W : Str → Prop} {env : Env} {loc : Loc} {P : PH} {H H' : Hp} {h h' : Heap} (F : FrameW W env loc P H h) (R : Rep cx P H h) (R' : Rep cx (aside P env h) H' h') :
    FrameW W env loc P H' h' ∧ Rep cx P H' h' := by
  have up : ∀ a, fp env a → ∀ o, h.get? a = some o → h'.get? a = some o := fun a ha o ho => R'.ext a o (by unfold aside; rw [if_pos ha]; exact ho)
  have off : ∀ a, fp env a → H' a = none := fun a ha => by
    cases q : H' a with
    | none => rfl
    | some o =>
      obtain ⟨O, hO⟩ := F.live a ha
      have := R'.sep a o O q (by unfold aside; rw [if_pos ha]; exact hO)
      subst this
      have := F.offH _ ha; rw [R.scr] at this; cases this
  refine ⟨F.eq_on up off, ⟨R.base, fun a o e => ?_, R'.obj, fun a o O ho hO => ?_, R'.scr⟩⟩
  · refine R'.ext a o ?_
    unfold aside
    split
    · exact R.ext a o e
    · exact e
  · refine R'.sep a o O ho ?_
    unfold aside
    split
    · rename_i hm; rw [off a hm] at ho; cases ho
    · exact hO

def EX1 (cx : Cx) (d : Nat) (sc : Scope) (loc : Loc) (st : Stmt) (H : Hp) (Q : AF → Loc → Hp → Prop) : Prop :=
  ∀ (env : Env) (A : Around) (P : PH) (s : Shared) (E : Value → Shared → Prop) (Q' : Flow → Shared → Prop), EnvOk sc env → FrameOwn env loc P H s.heap → Room d A → Rep cx P H s.heap →
    (∀ f F loc' H' h' tk, Q f loc' H' → FR f F → FrameOwn env loc' P H' h' → Rep cx P H' h' → Q' F { s with heap := h', toks := tk }) →
    wpAny (model cx.prog cx.w) A (exec st env) Q' E s

def EX (cx : Cx) (d : Nat) (sc : Scope) (loc : Loc) (ss : List Stmt) (H : Hp) (Q : AF → Loc → Hp → Prop) : Prop :=
  ∀ (env : Env) (A : Around) (P : PH) (s : Shared) (E : Value → Shared → Prop) (Q' : Flow → Shared → Prop), EnvOk sc env → FrameOwn env loc P H s.heap → Room d A → Rep cx P H s.heap →
    (∀ f F loc' H' h' tk, Q f loc' H' → FR f F → FrameOwn env loc' P H' h' → Rep cx P H' h' → Q' F { s with heap := h', toks := tk }) →
    wpAny (model cx.prog cx.w) A (execs ss env) Q' E s

section
variable {cx : Cx} {d : Nat} {sc : Scope} {loc : Loc} {H : Hp} {Q : AF → Loc → Hp → Prop}

theorem EX1.mono {e : Stmt} {Q₁ : AF → Loc → Hp → Prop} (h : EX1 cx d sc loc e H Q₁) (hq : ∀ f l H', Q₁ f l H' → Q f l H') : EX1 cx d sc loc e H Q :=
  fun env A P s E Q' he hF hA R k => h env A P s E Q' he hF hA R fun f F l H' h' tk q => k f F l H' h' tk (hq f l H' q)
theorem EX.mono {e : List Stmt} {Q₁ : AF → Loc → Hp → Prop} (h : EX cx d sc loc e H Q₁) (hq : ∀ f l H', Q₁ f l H' → Q f l H') : EX cx d sc loc e H Q :=
  fun env A P s E Q' he hF hA R k => h env A P s E Q' he hF hA R fun f F l H' h' tk q => k f F l H' h' tk (hq f l H' q)

theorem EV.here {W : Str → Prop} {e : Expr} {Q₁ : AV → Hp → Prop} (h : EV cx d sc loc e H Q₁) {env : Env} {A : Around} {P : PH} {s : Shared} {E : Value → Shared → Prop} {Q' : Value → Shared → Prop}
    (he : EnvOk sc env) (F : FrameW W env loc P H s.heap) (hA : Room d A) (R : Rep cx P H s.heap)
    (k : ∀ v V H' h' tk, Q₁ v H' → VR v V → FrameW W env loc P H' h' → Rep cx P H' h' → Q' V { s with heap := h', toks := tk }) :
    wpAny (model cx.prog cx.w) A (eval e env) Q' E s :=
  h env A _ s E Q' he (aside_frame F) hA (aside_rep F R) fun v V H' h' tk q hv R' => k v V H' h' tk q hv (aside_back F R R').1 (aside_back F R R').2
theorem TV.here {W : Str → Prop} {e : Expr} {Q₁ : Bool → Hp → Prop} (h : TV cx d sc loc e H Q₁) {env : Env} {A : Around} {P : PH} {s : Shared} {E : Value → Shared → Prop} {Q' : Bool → Shared → Prop}
    (he : EnvOk sc env) (F : FrameW W env loc P H s.heap) (hA : Room d A) (R : Rep cx P H s.heap)
    (k : ∀ v H' h' tk, Q₁ v H' → FrameW W env loc P H' h' → Rep cx P H' h' → Q' v { s with heap := h', toks := tk }) :
    wpAny (model cx.prog cx.w) A (isTrue e env (eval e env)) Q' E s :=
  h env A _ s E Q' he (aside_frame F) hA (aside_rep F R) fun v H' h' tk q R' => k v H' h' tk q (aside_back F R R').1 (aside_back F R R').2

theorem EX_nil (hq : Q .next loc H) : EX cx d sc loc [] H Q := fun _ _ _ s _ _ _ F _ R k => wpAny_execs_nil (k .next .next loc H s.heap s.toks hq rfl F R)

/-- the rest of a block behind one statement -/
def andThen (cx : Cx) (d : Nat) (sc : Scope) (rest : List Stmt) (Q : AF → Loc → Hp → Prop) : AF → Loc → Hp → Prop
  | .next, loc, H => EX cx d sc loc rest H Q
  | f, loc, H => Q f loc H
theorem EX_cons {st : Stmt} {rest : List Stmt} (h : EX1 cx d sc loc st H (andThen cx d sc rest Q)) : EX cx d sc loc (st :: rest) H Q := by
  intro env A P s E Q' he F hA R k
  refine wpAny_execs_cons (h env A P s E _ he F hA R fun f Fl loc' H' h' tk q hf F' R' => ?_)
  cases f with
  | next => cases hf; exact q env A P _ E Q' he F' hA R' fun f₂ Fl₂ l₂ H₂ h₂ tk₂ => k f₂ Fl₂ l₂ H₂ h₂ tk₂
  | brk => cases hf; exact k .brk _ _ _ _ _ q rfl F' R'
  | cont => cases hf; exact k .cont _ _ _ _ _ q rfl F' R'
  | ret v => obtain ⟨V, rfl, hv⟩ := hf; exact k (.ret v) _ _ _ _ _ q ⟨V, rfl, hv⟩ F' R'

theorem EX_Return {e : Expr} {pos : Pos} (h : EV cx d sc loc e H fun v H' => Q (.ret v) loc H') : EX1 cx d sc loc (.Return (some e) pos) H Q := by
  intro env A P s E Q' he F hA R k
  exact wpAny_Return_some (h.here he F hA R fun v V H' h' tk q hv F' R' => k (.ret v) (.ret V) loc H' h' tk q ⟨V, rfl, hv⟩ F' R')

theorem EX_If {t : Expr} {b o : List Stmt} {pos : Pos} (h : TV cx d sc loc t H fun c H' => if c = true then EX cx d sc loc b H' Q else EX cx d sc loc o H' Q) : EX1 cx d sc loc (.If t b o pos) H Q := by
  intro env A P s E Q' he F hA R k
  refine wpAny_If (h.here he F hA R fun c H' h' tk q F' R' => ?_)
  cases c with
  | true => simp only [if_true] at q ⊢; exact q env A P _ E Q' he F' hA R' fun f₂ Fl₂ l₂ H₂ h₂ tk₂ => k f₂ Fl₂ l₂ H₂ h₂ tk₂
  | false => simp only [Bool.false_eq_true, if_false] at q ⊢; exact q env A P _ E Q' he F' hA R' fun f₂ Fl₂ l₂ H₂ h₂ tk₂ => k f₂ Fl₂ l₂ H₂ h₂ tk₂

theorem EX_Pass {pos : Pos} (hq : Q .next loc H) : EX1 cx d sc loc (.Pass pos) H Q := fun _ _ _ s _ _ _ F _ R k => wpAny_Pass (k .next .next loc H s.heap s.toks hq rfl F R)

/-- a name that a store may bind -/
def storable (sc : Scope) (x : Str) : Bool := (sc.names.lookup x == some .local || sc.names.lookup x == some .cell) && plainName x

theorem storable_of {sc : Scope} {x : Str} (h : storable sc x = true) : (sc.names.lookup x = some .local ∨ sc.names.lookup x = some .cell) ∧ plainName x = true := by
  simp only [storable, Bool.and_eq_true, Bool.or_eq_true, beq_iff_eq] at h
  exact h

theorem upd_some {loc : Loc} {x y : Str} {v w : AV} (h : upd loc x v y = some w) : (y = x ∧ w = v) ∨ (y ≠ x ∧ loc y = some w) := by
  unfold upd at h
  split at h
  · rename_i e; cases h; exact .inl ⟨e, rfl⟩
  · rename_i e; exact .inr ⟨e, h⟩

theorem store_own {W : Str → Prop} {env : Env} {A : Around} {P : PH} {s : Shared} {E : Value → Shared → Prop} {Q' : Unit → Shared → Prop} {x : Str} {v : AV} {V : Value}
    (he : EnvOk sc env) (F : FrameW W env loc P H s.heap) (R : Rep cx P H s.heap) (hx : storable sc x = true) (hv : VR v V)
    (k : ∀ h' tk, FrameW W env (upd loc x v) P H h' → Rep cx P H h' → Q' () { s with heap := h', toks := tk }) (hW : W x := by trivial) :
    wpAny (model cx.prog cx.w) A (storeName env x V) Q' E s := by
  obtain ⟨hk, hp⟩ := storable_of hx
  have repBut : ∀ b h', fp env b → P b = none → Heap.SameBut b s.heap h' → Rep cx P H h' := fun b h' hb hPb hs => by
    refine ⟨R.base, fun a o e => ?_, fun a o e => ?_, R.sep, R.scr⟩
    · have hne : a ≠ b := fun q => by rw [q, hPb] at e; cases e
      exact (hs.2 a hne).trans (R.ext a o e)
    · have hne : a ≠ b := fun q => by rw [q, F.offH b hb] at e; cases e
      obtain ⟨O, hO, r⟩ := R.obj a o e
      exact ⟨O, (hs.2 a hne).trans hO, r⟩
  rw [← he.scope] at hk
  rcases hk with hk | hk
  · obtain ⟨m, hn, hm⟩ := F.at_.ns
    refine wpAny_storeName_local hk hn.heap (fun h' hn' hs' => k h' _ ⟨⟨⟨_, hn', fun y w hy hl => ?_⟩, fun y w hy hc => ?_, fun y w hy => ?_, fun y c hm' => ?_⟩, F.cellHas, F.apart, F.cellNe, F.locP, F.cellP, F.offH⟩ (repBut _ h' (.inl rfl) F.locP hs')) (by rw [he.kind]; rfl)
    · rcases upd_some hy with ⟨rfl, rfl⟩ | ⟨hne, hy⟩
      · exact ⟨V, by simp, hv⟩
      · obtain ⟨W, hW, hr⟩ := hm y w hy hl
        exact ⟨W, by simp [hne, hW], hr⟩
    · rcases upd_some hy with ⟨rfl, rfl⟩ | ⟨hne, hy⟩
      · exact absurd hk (by unfold Env.kindOf at hc; rcases hc with e | e <;> rw [e] <;> simp)
      · obtain ⟨c, W, hc', hW, hr⟩ := F.at_.cells y w hy hc
        exact ⟨c, W, hc', hW.heap.sameBut hs' (F.cellNe y c (mem_of_lookup hc')), hr⟩
    · rcases upd_some hy with ⟨rfl, rfl⟩ | ⟨hne, hy⟩
      · exact ⟨.inl hk, hp⟩
      · exact F.at_.dom y w hy
    · obtain ⟨ov, ho⟩ := F.at_.cellOk y c hm'
      exact ⟨ov, ho.heap.sameBut hs' (F.cellNe y c (mem_of_lookup hm'))⟩
  · obtain ⟨c, hc⟩ := Option.isSome_iff_exists.mp (F.cellHas x hk)
    have hcm := mem_of_lookup hc
    obtain ⟨ov, hov⟩ := F.at_.cellOk x c hc
    have hcf : fp env c := .inr ⟨x, hc⟩
    refine wpAny_storeName_cell he.kind hk hc hov.heap fun h' hc' hs' => k h' s.toks ⟨⟨?_, fun y w hy hl => ?_, fun y w hy => ?_, fun y c' hm' => ?_⟩, F.cellHas, F.apart, F.cellNe, F.locP, F.cellP, F.offH⟩ (repBut _ h' hcf (F.cellP x c hW hc) hs')
    · obtain ⟨m, hn, hm⟩ := F.at_.ns
      refine ⟨m, hn.heap.sameBut hs' (Ne.symm (F.cellNe x c hcm)), fun y w hy hl => ?_⟩
      rcases upd_some hy with ⟨rfl, rfl⟩ | ⟨hne, hy⟩
      · exact absurd hk (by unfold Env.kindOf at hl; rw [hl]; simp)
      · exact hm y w hy hl
    · rcases upd_some hy with ⟨rfl, rfl⟩ | ⟨hne, hy⟩
      · exact ⟨c, V, hc, hc', hv⟩
      · obtain ⟨c₂, W, hc₂, hW, hr⟩ := F.at_.cells y w hy hl
        exact ⟨c₂, W, hc₂, hW.heap.sameBut hs' fun e => hne (name_of_addr F.apart (mem_of_lookup hc₂) (e ▸ hcm)), hr⟩
    · rcases upd_some hy with ⟨rfl, rfl⟩ | ⟨hne, hy⟩
      · exact ⟨.inr (.inl hk), hp⟩
      · exact F.at_.dom y w hy
    · by_cases hcc : c' = c
      · exact ⟨some V, hcc ▸ hc'⟩
      · obtain ⟨ov', ho'⟩ := F.at_.cellOk y c' hm'
        exact ⟨ov', ho'.heap.sameBut hs' hcc⟩
end
end Mine

-- Core2
namespace Mine
open PySem

/-- a step of the machine upon two values -/
def OpW (cx : Cx) (d : Nat) (t : Value → Value → Sem Value) (a b : AV) (H : Hp) (Q : AV → Hp → Prop) : Prop :=
  ∀ (A : Around) (P : PH) (s : Shared) (E : Value → Shared → Prop) (Q' : Value → Shared → Prop) (V W : Value), Room d A → Rep cx P H s.heap → VR a V → VR b W →
    (∀ v V H' h' tk, Q v H' → VR v V → Rep cx P H' h' → Q' V { s with heap := h', toks := tk }) → wpAny (model cx.prog cx.w) A (t V W) Q' E s

section
variable {cx : Cx} {d : Nat} {sc : Scope} {loc : Loc} {H : Hp} {Q : AV → Hp → Prop} {QB : Bool → Hp → Prop} {l r e : Expr} {pos : Pos}

theorem OpW.mono {t : Value → Value → Sem Value} {a b : AV} {Q₁ : AV → Hp → Prop} (h : OpW cx d t a b H Q₁) (hq : ∀ v H', Q₁ v H' → Q v H') : OpW cx d t a b H Q :=
  fun A P s E Q' V W hA R ha hb k => h A P s E Q' V W hA R ha hb fun v V H' h' tk q => k v V H' h' tk (hq v H' q)

theorem EV_BinOp {op : Operator} (h : EV cx d sc loc l H fun a H₁ => EV cx d sc loc r H₁ fun b H₂ => OpW cx d (binaryOp op) a b H₂ Q) : EV cx d sc loc (.BinOp l op r pos) H Q := by
  intro env A P s E Q' he hF hA R k
  refine wpAny_BinOp (h env A P s E _ he hF hA R fun a V H₁ h₁ tk₁ q₁ ha R₁ => ?_)
  refine q₁ env A P _ E _ he hF hA R₁ fun b W H₂ h₂ tk₂ q₂ hb R₂ => ?_
  exact q₂ A P _ E Q' V W hA R₂ ha hb fun v V H' h' tk => k v V H' h' tk

theorem EV_Compare1 {op : CmpOp} (h : EV cx d sc loc l H fun a H₁ => EV cx d sc loc r H₁ fun b H₂ => OpW cx d (compareOp op) a b H₂ Q)
    (hm : behindInMarks op r = false := by with_unfolding_all rfl) : EV cx d sc loc (.Compare l [op] [r] pos) H Q := by
  intro env A P s E Q' he hF hA R k
  refine wpAny_Compare1 (h env A P s E _ he hF hA R fun a V H₁ h₁ tk₁ q₁ ha R₁ => ?_) hm
  refine q₁ env A P _ E _ he hF hA R₁ fun b W H₂ h₂ tk₂ q₂ hb R₂ => ?_
  exact q₂ A P _ E Q' V W hA R₂ ha hb fun v V H' h' tk => k v V H' h' tk

/-- what a test gives: a bool -/
def asB (QB : Bool → Hp → Prop) : AV → Hp → Prop
  | .bool b, H => QB b H
  | _, _ => False

theorem asB_of {v : AV} {H : Hp} (h : asB QB v H) : ∃ b, v = .bool b ∧ QB b H := by
  cases v <;> first | exact h.elim | exact ⟨_, rfl, h⟩

theorem TV_Compare1 {op : CmpOp} (h : EV cx d sc loc l H fun a H₁ => EV cx d sc loc r H₁ fun b H₂ => OpW cx d (compareOp op) a b H₂ (asB QB))
    (hm : behindInMarks op r = false := by with_unfolding_all rfl) : TV cx d sc loc (.Compare l [op] [r] pos) H QB := by
  intro env A P s E Q' he hF hA R k
  refine wpAny_isTrue_Compare1 (h env A P s E _ he hF hA R fun a V H₁ h₁ tk₁ q₁ ha R₁ => ?_) hm
  refine q₁ env A P _ E _ he hF hA R₁ fun b W H₂ h₂ tk₂ q₂ hb R₂ => ?_
  refine q₂ A P _ E _ V W hA R₂ ha hb fun v V' H' h' tk q hv R' => ?_
  obtain ⟨c, rfl, q⟩ := asB_of q
  cases hv
  exact wpAny_truthy_bool (k c H' h' tk q R')

theorem TV_val (h : EV cx d sc loc e H (asB QB)) (ht : ∀ env whole, isTrue e env whole = (do let v ← whole; standAt e.pos; holding [v] (truthy v)) := by intro _ _; rfl) : TV cx d sc loc e H QB := by
  intro env A P s E Q' he hF hA R k
  refine wpAny_isTrue_value (h env A P s E _ he hF hA R fun v V H' h' tk q hv R' => ?_) (ht env _)
  obtain ⟨c, rfl, q⟩ := asB_of q
  cases hv
  exact wpAny_truthy_bool (k c H' h' tk q R')

theorem TV_Not (h : TV cx d sc loc e H fun b H' => QB (!b) H') : TV cx d sc loc (.UnaryOp .Not e pos) H QB := by
  intro env A P s E Q' he hF hA R k
  exact wpAny_isTrue_Not (h env A P s E _ he hF hA R fun b H' h' tk q R' => k _ H' h' tk q R')

theorem EV_Not (h : EV cx d sc loc e H (asB fun b H' => Q (.bool (!b)) H')) : EV cx d sc loc (.UnaryOp .Not e pos) H Q := by
  intro env A P s E Q' he hF hA R k
  refine wpAny_UnaryOp (h env A P s E _ he hF hA R fun v V H' h' tk q hv R' => ?_)
  obtain ⟨c, rfl, q⟩ := asB_of q
  cases hv
  exact not_value (wpAny_truthy_bool (k _ _ H' h' tk q rfl R'))

theorem EV_IfExp {t b o : Expr} (h : TV cx d sc loc t H fun c H' => if c = true then EV cx d sc loc b H' Q else EV cx d sc loc o H' Q) : EV cx d sc loc (.IfExp t b o pos) H Q := by
  intro env A P s E Q' he hF hA R k
  refine wpAny_IfExp (h env A P s E _ he hF hA R fun c H' h' tk q R' => ?_)
  cases c with
  | true => simp only [if_true] at q ⊢; exact q env A P _ E Q' he hF hA R' fun v V H₂ h₂ tk₂ => k v V H₂ h₂ tk₂
  | false => simp only [Bool.false_eq_true, if_false] at q ⊢; exact q env A P _ E Q' he hF hA R' fun v V H₂ h₂ tk₂ => k v V H₂ h₂ tk₂

/-- the tests of an «and», one behind the other -/
def TAnd (cx : Cx) (d : Nat) (sc : Scope) (loc : Loc) : List Expr → Hp → (Bool → Hp → Prop) → Prop
  | [], H, QB => QB true H
  | e :: r, H, QB => TV cx d sc loc e H fun b H' => if b = true then TAnd cx d sc loc r H' QB else QB false H'
def TOr (cx : Cx) (d : Nat) (sc : Scope) (loc : Loc) : List Expr → Hp → (Bool → Hp → Prop) → Prop
  | [], H, QB => QB false H
  | e :: r, H, QB => TV cx d sc loc e H fun b H' => if b = true then QB true H' else TOr cx d sc loc r H' QB

theorem TV_And {es : List Expr} (h : TAnd cx d sc loc es H QB) : TV cx d sc loc (.BoolOp .And es pos) H QB := by
  intro env A P s E Q' he hF hA R k
  refine wpAny_isTrue_BoolOp ?_
  induction es generalizing H s with
  | nil => exact wpAny_allTrue_And_nil (k true H s.heap s.toks h R)
  | cons e r ih =>
    refine wpAny_allTrue_And_cons (h env A P s E _ he hF hA R fun b H' h' tk q R' => ?_)
    cases b with
    | true => simp only [if_true] at q ⊢; exact ih q _ R' fun b H₂ h₂ tk₂ => k b H₂ h₂ tk₂
    | false => simp only [Bool.false_eq_true, if_false] at q ⊢; exact k false H' h' tk q R'
theorem TV_Or {es : List Expr} (h : TOr cx d sc loc es H QB) : TV cx d sc loc (.BoolOp .Or es pos) H QB := by
  intro env A P s E Q' he hF hA R k
  refine wpAny_isTrue_BoolOp ?_
  induction es generalizing H s with
  | nil => exact wpAny_allTrue_Or_nil (k false H s.heap s.toks h R)
  | cons e r ih =>
    refine wpAny_allTrue_Or_cons (h env A P s E _ he hF hA R fun b H' h' tk q R' => ?_)
    cases b with
    | false => simp only [Bool.false_eq_true, if_false] at q ⊢; exact ih q _ R' fun b H₂ h₂ tk₂ => k b H₂ h₂ tk₂
    | true => simp only [if_true] at q ⊢; exact k true H' h' tk q R'

theorem EV_And2 {x y : Expr} (h : EV cx d sc loc x H (asB fun b H' => if b = true then EV cx d sc loc y H' Q else Q (.bool false) H')) : EV cx d sc loc (.BoolOp .And [x, y] pos) H Q := by
  intro env A P s E Q' he hF hA R k
  refine wpAny_And2 (h env A P s E _ he hF hA R fun v V H' h' tk q hv R' => ?_)
  obtain ⟨c, rfl, q⟩ := asB_of q
  cases hv
  refine wpAny_truthy_bool ?_
  cases c with
  | true => simp only [if_true] at q ⊢; exact q env A P _ E Q' he hF hA R' fun v V H₂ h₂ tk₂ => k v V H₂ h₂ tk₂
  | false => simp only [Bool.false_eq_true, if_false] at q ⊢; exact k _ _ H' h' tk q rfl R'
theorem EV_Or2 {x y : Expr} (h : EV cx d sc loc x H (asB fun b H' => if b = true then Q (.bool true) H' else EV cx d sc loc y H' Q)) : EV cx d sc loc (.BoolOp .Or [x, y] pos) H Q := by
  intro env A P s E Q' he hF hA R k
  refine wpAny_Or2 (h env A P s E _ he hF hA R fun v V H' h' tk q hv R' => ?_)
  obtain ⟨c, rfl, q⟩ := asB_of q
  cases hv
  refine wpAny_truthy_bool ?_
  cases c with
  | false => simp only [Bool.false_eq_true, if_false] at q ⊢; exact q env A P _ E Q' he hF hA R' fun v V H₂ h₂ tk₂ => k v V H₂ h₂ tk₂
  | true => simp only [if_true] at q ⊢; exact k _ _ H' h' tk q rfl R'

/-! two comparisons in a chain -/
theorem wpAny_release {M : Model} {A : Around} {E : Value → Shared → Prop} {s : Shared} {vs ks : List Value} {Q : Unit → Shared → Prop} (h : Q () s) : wpAny M A (release vs ks) Q E s :=
  fun Γ p hΓ => by rw [Sem.wp_release]; exact h

theorem EV_Compare2 {a b c : Expr} {op₁ op₂ : CmpOp}
    (h : EV cx d sc loc a H fun x H₁ => EV cx d sc loc b H₁ fun y H₂ => OpW cx d (compareOp op₁) x y H₂ (asB fun t H₃ =>
      if t = true then EV cx d sc loc c H₃ fun z H₄ => OpW cx d (compareOp op₂) y z H₄ Q else Q (.bool false) H₃))
    (hm : behindInMarks op₂ c = false := by with_unfolding_all rfl) : EV cx d sc loc (.Compare a [op₁, op₂] [b, c] pos) H Q := by
  intro env A P s E Q' he hF hA R k
  show wpAny _ A (eval a env >>= fun left => (do
    let rv ← holding [left] (eval b env)
    standAt pos
    let c' ← holding [left, rv] (compareOp op₁ left rv)
    release [left, rv] [c']
    if ← holding [c', rv] (truthy c') then (do
      let rv' ← holding [rv] (markedBehindIn op₂ c (eval c env))
      standAt pos
      operate [rv, rv'] (compareOp op₂ rv rv')) else pure c')) Q' E s
  rw [markedBehindIn_of_false hm]
  refine wpAny_bind (h env A P s E _ he hF hA R fun x V H₁ h₁ tk₁ q₁ hx R₁ => ?_)
  refine wpAny_bind (wpAny_holding (q₁ env A P _ E _ he hF hA R₁ fun y W H₂ h₂ tk₂ q₂ hy R₂ => ?_))
  refine wpAny_bind (wpAny_standAt (wpAny_bind (wpAny_holding (q₂ A P _ E _ V W hA R₂ hx hy fun t T H₃ h₃ tk₃ q₃ ht R₃ => ?_))))
  obtain ⟨t, rfl, q₃⟩ := asB_of q₃
  cases ht
  refine wpAny_bind (wpAny_release (wpAny_bind (wpAny_holding (wpAny_truthy_bool ?_))))
  cases t with
  | false => simp only [Bool.false_eq_true, if_false] at q₃ ⊢; exact wpAny_pure (k _ _ H₃ h₃ tk₃ q₃ rfl R₃)
  | true =>
    simp only [if_true] at q₃ ⊢
    refine wpAny_bind (wpAny_holding (q₃ env A P _ E _ he hF hA R₃ fun z Z H₄ h₄ tk₄ q₄ hz R₄ => ?_))
    exact wpAny_bind (wpAny_standAt (wpAny_operating (q₄ A P _ E Q' W Z hA R₄ hy hz fun v V H' h' tk => k v V H' h' tk)))

theorem TV_Compare2 {a b c : Expr} {op₁ op₂ : CmpOp}
    (h : EV cx d sc loc a H fun x H₁ => EV cx d sc loc b H₁ fun y H₂ => OpW cx d (compareOp op₁) x y H₂ (asB fun t H₃ =>
      if t = true then EV cx d sc loc c H₃ fun z H₄ => OpW cx d (compareOp op₂) y z H₄ (asB QB) else QB false H₃))
    (hm : behindInMarks op₂ c = false := by with_unfolding_all rfl) : TV cx d sc loc (.Compare a [op₁, op₂] [b, c] pos) H QB := by
  intro env A P s E Q' he hF hA R k
  show wpAny _ A (eval a env >>= fun left => (do
    let rv ← holding [left] (eval b env)
    standAt pos
    let c' ← holding [left, rv] (compareOp op₁ left rv)
    release [left, rv] [c']
    if ← holding [c', rv] (truthy c') then (do
      let rv' ← holding [rv] (markedBehindIn op₂ c (eval c env))
      standAt pos
      let c'' ← operate [rv, rv'] (compareOp op₂ rv rv')
      holding [c''] (truthy c'')) else pure false)) Q' E s
  rw [markedBehindIn_of_false hm]
  refine wpAny_bind (h env A P s E _ he hF hA R fun x V H₁ h₁ tk₁ q₁ hx R₁ => ?_)
  refine wpAny_bind (wpAny_holding (q₁ env A P _ E _ he hF hA R₁ fun y W H₂ h₂ tk₂ q₂ hy R₂ => ?_))
  refine wpAny_bind (wpAny_standAt (wpAny_bind (wpAny_holding (q₂ A P _ E _ V W hA R₂ hx hy fun t T H₃ h₃ tk₃ q₃ ht R₃ => ?_))))
  obtain ⟨t, rfl, q₃⟩ := asB_of q₃
  cases ht
  refine wpAny_bind (wpAny_release (wpAny_bind (wpAny_holding (wpAny_truthy_bool ?_))))
  cases t with
  | false => simp only [Bool.false_eq_true, if_false] at q₃ ⊢; exact wpAny_pure (k _ H₃ h₃ tk₃ q₃ R₃)
  | true =>
    simp only [if_true] at q₃ ⊢
    refine wpAny_bind (wpAny_holding (q₃ env A P _ E _ he hF hA R₃ fun z Z H₄ h₄ tk₄ q₄ hz R₄ => ?_))
    refine wpAny_bind (wpAny_standAt (wpAny_bind (wpAny_operating (q₄ A P _ E _ W Z hA R₄ hy hz fun v V' H' h' tk q hv R' => ?_))))
    obtain ⟨c', rfl, q⟩ := asB_of q
    cases hv
    exact wpAny_holding (wpAny_truthy_bool (k c' H' h' tk q R'))
end

section
variable {cx : Cx} {d : Nat} {H : Hp} {Q : AV → Hp → Prop} {a b : Int}

theorem Op_add (hq : Q (.int (a + b)) H) : OpW cx d (binaryOp .Add) (.int a) (.int b) H Q := by
  rintro A P s E Q' V W hA R ⟨t, rfl⟩ ⟨u, rfl⟩ k
  exact PySem.P.add_int (k _ _ H s.heap _ hq ⟨_, rfl⟩ R)
theorem Op_sub (hq : Q (.int (a - b)) H) : OpW cx d (binaryOp .Sub) (.int a) (.int b) H Q := by
  rintro A P s E Q' V W hA R ⟨t, rfl⟩ ⟨u, rfl⟩ k
  exact PySem.P.sub_int (k _ _ H s.heap _ hq ⟨_, rfl⟩ R)
theorem Op_mul (hm : IntMulOk a b) (hq : Q (.int (a * b)) H) : OpW cx d (binaryOp .Mult) (.int a) (.int b) H Q := by
  rintro A P s E Q' V W hA R ⟨t, rfl⟩ ⟨u, rfl⟩ k
  exact PySem.P.mul_int (k _ _ H s.heap _ hq ⟨_, rfl⟩ R) hm
theorem Op_eq (hq : Q (.bool (decide (a = b))) H) : OpW cx d (compareOp .Eq) (.int a) (.int b) H Q := by
  rintro A P s E Q' V W hA R ⟨t, rfl⟩ ⟨u, rfl⟩ k
  exact PySem.P.eq_int (k _ _ H s.heap s.toks hq (by show Value.bool (a == b) = .bool (decide (a = b)); rw [show (a == b) = decide (a = b) from rfl]) R)
theorem Op_ne (hq : Q (.bool (decide (a ≠ b))) H) : OpW cx d (compareOp .NotEq) (.int a) (.int b) H Q := by
  rintro A P s E Q' V W hA R ⟨t, rfl⟩ ⟨u, rfl⟩ k
  exact PySem.P.ne_int (k _ _ H s.heap s.toks hq (by show Value.bool (a != b) = .bool (decide (a ≠ b)); rw [show (a != b) = !(decide (a = b)) from rfl]; simp) R)
theorem Op_lt (hq : Q (.bool (decide (a < b))) H) : OpW cx d (compareOp .Lt) (.int a) (.int b) H Q := by
  rintro A P s E Q' V W hA R ⟨t, rfl⟩ ⟨u, rfl⟩ k
  exact PySem.P.lt_int (k _ _ H s.heap s.toks hq rfl R)
theorem Op_le (hq : Q (.bool (decide (a ≤ b))) H) : OpW cx d (compareOp .LtE) (.int a) (.int b) H Q := by
  rintro A P s E Q' V W hA R ⟨t, rfl⟩ ⟨u, rfl⟩ k
  exact PySem.P.le_int (k _ _ H s.heap s.toks hq rfl R)
theorem Op_gt (hq : Q (.bool (decide (b < a))) H) : OpW cx d (compareOp .Gt) (.int a) (.int b) H Q := by
  rintro A P s E Q' V W hA R ⟨t, rfl⟩ ⟨u, rfl⟩ k
  exact PySem.P.gt_int (k _ _ H s.heap s.toks hq rfl R)
theorem Op_ge (hq : Q (.bool (decide (b ≤ a))) H) : OpW cx d (compareOp .GtE) (.int a) (.int b) H Q := by
  rintro A P s E Q' V W hA R ⟨t, rfl⟩ ⟨u, rfl⟩ k
  exact PySem.P.ge_int (k _ _ H s.heap s.toks hq rfl R)
end

section
variable {cx : Cx} {d : Nat} {sc : Scope} {loc : Loc} {H : Hp} {Q : AF → Loc → Hp → Prop}

theorem EX_Assign {x : Str} {px pos : Pos} {e : Expr} (h : EV cx d sc loc e H fun v H' => Q .next (upd loc x v) H') (hx : storable sc x = true := by rfl)
    (hs : ∀ env, swapsWith e (some (.Name x px)) pos.line env = pure false := by intro _; rfl) : EX1 cx d sc loc (.Assign [.Name x px] e pos) H Q := by
  intro env A P s E Q' he F hA R k
  refine wpAny_Assign_Name (h.here he F hA R fun v V H' h' tk q hv F' R' => ?_) (hs env)
  exact store_own he F' R' hx hv fun h₂ tk₂ F₂ R₂ => k .next .next _ H' h₂ tk₂ q rfl F₂ R₂

theorem EX_Expr {e : Expr} {pos : Pos} (h : EV cx d sc loc e H fun v H' => v = .none ∧ Q .next loc H') (hs : ∀ env, swapsWith e none pos.line env = pure false := by intro _; rfl) : EX1 cx d sc loc (.Expr e pos) H Q := by
  intro env A P s E Q' he F hA R k
  refine wpAny_Expr (h.here he F hA R fun v V H' h' tk q hv F' R' => ?_) (by unfold interactive; rw [he.kind]; rfl) (hs env)
  obtain ⟨rfl, q⟩ := q
  cases hv
  exact k .next .next _ H' h' tk q rfl F' R'
end
end Mine

-- Core2b
namespace Mine
open PySem
section
variable {cx : Cx} {d : Nat} {H : Hp} {Q : AV → Hp → Prop} {a b : Int}
theorem Op_floordiv (hb : 0 < b) (hb' : b < 1073741824) (hq : Q (.int (a / b)) H) : OpW cx d (binaryOp .FloorDiv) (.int a) (.int b) H Q := by
  rintro A P s E Q' V W hA R ⟨t, rfl⟩ ⟨u, rfl⟩ k
  refine PyProof.Rows.floordiv_int (by omega) ?_ (.inl (PyProof.noPylong_small (by omega)))
  rw [Int.fdiv_eq_ediv_of_nonneg _ (by omega)]
  exact k _ _ H s.heap _ hq ⟨_, rfl⟩ R
theorem Op_mod (hb : 0 < b) (hq : Q (.int (a % b)) H) : OpW cx d (binaryOp .Mod) (.int a) (.int b) H Q := by
  rintro A P s E Q' V W hA R ⟨t, rfl⟩ ⟨u, rfl⟩ k
  refine PyProof.Rows.mod_int' (by omega) ?_
  rw [Int.fmod_eq_emod_of_nonneg _ (by omega)]
  exact k _ _ H s.heap _ hq ⟨_, rfl⟩ R
end
end Mine

-- Core3
namespace Mine
open PySem

/-! ## arguments, calls of the text's own defs -/
def EVs (cx : Cx) (d : Nat) (sc : Scope) (loc : Loc) : List Expr → Hp → (List AV → Hp → Prop) → Prop
  | [], H, Q => Q [] H
  | e :: r, H, Q => EV cx d sc loc e H fun v H₁ => EVs cx d sc loc r H₁ fun vs H₂ => Q (v :: vs) H₂

def notStar : Expr → Bool
  | .Starred _ _ => false
  | _ => true
theorem starEach_cons {e : Expr} {rest : List Expr} {env : Env} (h : notStar e = true) : starEach (e :: rest) env = (false, eval e env) :: starEach rest env := by
  cases e <;> first | rfl | cases h

section
variable {cx : Cx} {d : Nat} {sc : Scope} {loc : Loc} {H : Hp} {Q : AV → Hp → Prop}

theorem EVs.sound : ∀ {es : List Expr} {H : Hp} {QL : List AV → Hp → Prop}, EVs cx d sc loc es H QL → es.all notStar = true →
    ∀ {env : Env} {A : Around} {P : PH} {s : Shared} {E : Value → Shared → Prop} {Q' : List Value → Shared → Prop} {pos : Pos}, EnvOk sc env → FrameP env loc P → Room d A → Rep cx P H s.heap →
    (∀ vs Vs H' h' tk, QL vs H' → VRs vs Vs → Rep cx P H' h' → Q' Vs { s with heap := h', toks := tk }) →
    wpAny (model cx.prog cx.w) A (spliced (backTo pos (starEach es env))) Q' E s
  | [], H, _, h, _, _, _, _, s, _, _, _, _, _, _, R, k => wpAny_items_nil (k [] [] H s.heap s.toks h trivial R)
  | e :: r, H, _, h, hn, env, A, P, s, E, _, pos, he, hF, hA, R, k => by
    simp only [List.all_cons, Bool.and_eq_true] at hn
    refine wpAny_items_cons (h env A P s E _ he hF hA R fun v V H₁ h₁ tk₁ q hv R₁ => ?_) (starEach_cons hn.1)
    exact EVs.sound q hn.2 he hF hA R₁ fun vs Vs H' h' tk q' hvs R' => k (v :: vs) (V :: Vs) H' h' tk q' ⟨hv, hvs⟩ R'

/-- what a call of the value V with these arguments does -/
def CW (cx : Cx) (d : Nat) (V : Value) (args : List AV) (H : Hp) (Q : AV → Hp → Prop) : Prop :=
  ∀ (A : Around) (P : PH) (s : Shared) (E : Value → Shared → Prop) (Q' : Value → Shared → Prop) (vs : List Value), Room d A → Rep cx P H s.heap → VRs args vs →
    (∀ v V H' h' tk, Q v H' → VR v V → Rep cx P H' h' → Q' V { s with heap := h', toks := tk }) → wpAny (model cx.prog cx.w) A (call V vs) Q' E s

theorem CW.mono {V : Value} {args : List AV} {Q₁ : AV → Hp → Prop} (h : CW cx d V args H Q₁) (hq : ∀ v H', Q₁ v H' → Q v H') : CW cx d V args H Q :=
  fun A P s E Q' vs hA R ha k => h A P s E Q' vs hA R ha fun v V H' h' tk q => k v V H' h' tk (hq v H' q)

/-- the text's def f stands at fa -/
structure IsFn (cx : Cx) (f : Str) (fa : Addr) (fd : FuncData) : Prop where
  g : cx.mg f = some (.ref fa)
  o : ∃ o, cx.base.get? fa = some o ∧ o.data = .func fd
  code : cx.base.CodeRec fd.code fd.qualname

theorem Rep.keeps {P : PH} {h : Heap} (R : Rep cx P H h) : ∀ b o, cx.base.get? b = some o → h.get? b = some o := fun b o e => R.ext b o (R.base b o e)

def globalName (sc : Scope) (x : Str) : Bool := sc.names.lookup x == some .globalImplicit && !(x == ("__debug__" : Str))

theorem load_global {x : Str} {pos : Pos} {V : Value} {env : Env} {A : Around} {P : PH} {s : Shared} {E : Value → Shared → Prop} {Q' : Value → Shared → Prop}
    (he : EnvOk sc env) (R : Rep cx P H s.heap) (hx : globalName sc x = true) (hg : cx.mg x = some V) (h : Q' V s) : wpAny (model cx.prog cx.w) A (eval (.Name x pos) env) Q' E s := by
  simp only [globalName, Bool.and_eq_true, beq_iff_eq, Bool.not_eq_true'] at hx
  rw [← he.scope] at hx
  refine Calls.Name_function_global he.kind hx.1 (Calls.loadGlobal_global (mg := cx.mg) ?_ hg h) hx.2
  rw [he.glob]; exact cx.g.keeps R.keeps
theorem load_builtin {x : Str} {pos : Pos} {V : Value} {env : Env} {A : Around} {P : PH} {s : Shared} {E : Value → Shared → Prop} {Q' : Value → Shared → Prop}
    (he : EnvOk sc env) (R : Rep cx P H s.heap) (hx : globalName sc x = true) (hg : cx.mg x = none) (hn : x ≠ "__name__") (hb : bootBuiltins x = some V) (h : Q' V s) :
    wpAny (model cx.prog cx.w) A (eval (.Name x pos) env) Q' E s := by
  simp only [globalName, Bool.and_eq_true, beq_iff_eq, Bool.not_eq_true'] at hx
  rw [← he.scope] at hx
  refine Calls.Name_function_global he.kind hx.1 (Calls.loadGlobal_builtin (mg := cx.mg) (mb := cx.mb) ?_ hg ?_ ((cx.builtins x hn).trans hb) h) hx.2
  · rw [he.glob]; exact cx.g.keeps R.keeps
  · rw [he.blt]; exact cx.b.keeps R.keeps

/-- a global int, bool .. of the text -/
theorem EV_Global {x : Str} {pos : Pos} {v : AV} {V : Value} (hg : cx.mg x = some V) (hv : VR v V) (hq : Q v H) (hx : globalName sc x = true := by rfl) : EV cx d sc loc (.Name x pos) H Q :=
  fun _ _ _ s _ _ he _ _ R k => load_global he R hx hg (k v V H s.heap s.toks hq hv R)

theorem eval_Call_Name (f : Str) (p : Pos) (args : List Expr) (kws : List Keyword) (pos : Pos) (env : Env) :
    eval (.Call (.Name f p) args kws pos) env = (do callWith pos (← eval (.Name f p) env) [] (backTo pos (starEach args env)) (backToKw pos (keywordEach kws env))) := rfl

theorem backTo_cons (pos : Pos) (t : Sem Value) (r : List (Bool × Sem Value)) : ∃ t', backTo pos ((false, t) :: r) = (false, t') :: backTo pos r := ⟨_, rfl⟩

theorem EV_CallF {f : Str} {fa : Addr} {fd : FuncData} {e : Expr} {r : List Expr} {p pos : Pos} (hf : IsFn cx f fa fd)
    (h : EVs cx d sc loc (e :: r) H fun vs H' => CW cx d (.ref fa) vs H' Q) (hx : globalName sc f = true := by rfl) (hn : (e :: r).all notStar = true := by rfl) :
    EV cx d sc loc (.Call (.Name f p) (e :: r) [] pos) H Q := by
  intro env A P s E Q' he hF hA R k
  obtain ⟨o, ho, hd⟩ := hf.o
  rw [eval_Call_Name]
  refine wpAny_bind (load_global he R hx hf.g (Calls.callWith_function (o := o) (fd := fd) ?_))
  have hn1 : notStar e = true := by simp only [List.all_cons, Bool.and_eq_true] at hn; exact hn.1
  have hs := EVs.sound (env := env) (A := A) (P := P) (s := s) (E := E) (pos := pos) h hn he hF hA R (Q' := fun vs s₁ => (s₁.heap.get? fa = some o ∧ o.data = .func fd) ∧ wpAny (model cx.prog cx.w) A (call (.ref fa) vs) Q' E s₁)
    (fun vs Vs H' h' tk q hvs R' => ⟨⟨R'.keeps _ _ ho, hd⟩, q A P _ E Q' Vs hA R' hvs fun v V H₂ h₂ tk₂ => k v V H₂ h₂ tk₂⟩)
  rw [starEach_cons hn1] at hs ⊢
  exact Calls.evalArgs_plain hs

theorem backTo_plain {pos : Pos} : ∀ {es : List Expr} {env : Env}, es.all notStar = true → (backTo pos (starEach es env)).any (·.1) = false
  | [], _, _ => rfl
  | e :: r, env, h => by
    simp only [List.all_cons, Bool.and_eq_true] at h
    rw [starEach_cons h.1]
    show (false || (backTo pos (starEach r env)).any (·.1)) = false
    rw [backTo_plain h.2]; rfl

/-- the name of a built-in function -/
structure IsBuiltin (cx : Cx) (x : Str) (V : Value) : Prop where
  g : cx.mg x = none
  n : x ≠ "__name__"
  b : bootBuiltins x = some V

theorem EV_CallB {f : Str} {id : String} {e : Expr} {r : List Expr} {p pos : Pos} (hf : IsBuiltin cx f (.builtin id))
    (h : EVs cx d sc loc (e :: r) H fun vs H' => CW cx d (.builtin id) vs H' Q) (hx : globalName sc f = true := by rfl) (hn : (e :: r).all notStar = true := by rfl) :
    EV cx d sc loc (.Call (.Name f p) (e :: r) [] pos) H Q := by
  intro env A P s E Q' he hF hA R k
  rw [eval_Call_Name]
  refine wpAny_bind (load_builtin he R hx hf.g hf.n hf.b (Calls.callWith_builtin (backTo_plain hn) ?_))
  have hn1 : notStar e = true := by simp only [List.all_cons, Bool.and_eq_true] at hn; exact hn.1
  have hs := EVs.sound (env := env) (A := A) (P := P) (s := s) (E := E) (pos := pos) h hn he hF hA R (Q' := fun vs s₁ => wpAny (model cx.prog cx.w) A (call (.builtin id) vs) Q' E s₁)
    (fun vs Vs H' h' tk q hvs R' => q A P _ E Q' Vs hA R' hvs fun v V H₂ h₂ tk₂ => k v V H₂ h₂ tk₂)
  rw [starEach_cons hn1] at hs ⊢
  exact Calls.evalArgs_plain hs

/-! entering a def -/
def bindA : List (Str × AV) → Loc → Loc
  | [], loc => loc
  | (n, v) :: r, loc => bindA r (upd loc n v)

theorem cells_some {x : Str} : ∀ (names : List (Str × NameKind)) (n : Nat) (acc : List (Str × Addr)), names.lookup x = some .cell ∨ (acc.lookup x).isSome = true → ((cellsFrom n names acc).lookup x).isSome = true
  | [], _, _, h => h.elim (fun e => by cases e) id
  | (y, k) :: r, n, acc, h => by
    unfold cellsFrom
    by_cases hk : (k == .cell) = true
    · rw [if_pos hk]
      refine cells_some r (n + 1) ((y, n) :: acc) ?_
      by_cases hy : (x == y) = true
      · exact .inr (by rw [List.lookup_cons, hy]; rfl)
      · refine h.imp (fun e => ?_) fun e => ?_
        · rw [List.lookup_cons] at e; simpa only [hy] using e
        · rw [List.lookup_cons]; simpa only [hy] using e
    · rw [if_neg hk]
      refine cells_some r n acc ?_
      by_cases hy : (x == y) = true
      · refine .inr (h.elim (fun e => ?_) id)
        rw [List.lookup_cons, hy] at e
        exact absurd (by rw [Option.some.inj e]; rfl) hk
      · refine h.imp (fun e => ?_) id
        rw [List.lookup_cons] at e; simpa only [hy] using e

theorem bind_frame {kd : Str → Option NameKind} : ∀ (names : List Str) (as : List AV) (vs : List Value) (loc : Loc) (m cm : Str → Option Value), VRs as vs →
    (∀ x v, loc x = some v → kd x = some .local → ∃ V, m x = some V ∧ VR v V) → (∀ x v, loc x = some v → kd x ≠ some .local → ∃ V, cm x = some V ∧ VR v V) →
    (∀ x v, bindA (names.zip as) loc x = some v → kd x = some .local → ∃ V, bindL kd (names.zip vs) m x = some V ∧ VR v V) ∧
    (∀ x v, bindA (names.zip as) loc x = some v → kd x ≠ some .local → ∃ V, bindC kd (names.zip vs) cm x = some V ∧ VR v V)
  | [], _, _, _, _, _, _, h1, h2 => ⟨by simpa [bindA, bindL] using h1, by simpa [bindA, bindC] using h2⟩
  | n :: ns, [], [], _, _, _, _, h1, h2 => ⟨by simpa [bindA, bindL] using h1, by simpa [bindA, bindC] using h2⟩
  | n :: ns, a :: as, v :: vs, loc, m, cm, hr, h1, h2 => by
    simp only [List.zip_cons_cons, bindA, bindL, bindC]
    refine bind_frame ns as vs _ _ _ hr.2 (fun x w hx hk => ?_) (fun x w hx hk => ?_)
    · rcases upd_some hx with ⟨rfl, rfl⟩ | ⟨hne, hx⟩
      · rw [if_pos hk]; exact ⟨v, by simp, hr.1⟩
      · obtain ⟨V, hV, hv⟩ := h1 x w hx hk
        refine ⟨V, ?_, hv⟩
        split
        · simpa [hne] using hV
        · exact hV
    · rcases upd_some hx with ⟨rfl, rfl⟩ | ⟨hne, hx⟩
      · rw [if_neg hk]; exact ⟨v, by simp, hr.1⟩
      · obtain ⟨V, hV, hv⟩ := h2 x w hx hk
        refine ⟨V, ?_, hv⟩
        split
        · exact hV
        · simpa [hne] using hV
  | _ :: _, [], _ :: _, _, _, _, h, _, _ => h.elim
  | _ :: _, _ :: _, [], _, _, _, h, _, _ => h.elim

theorem bindA_dom : ∀ (names : List Str) (as : List AV) (loc : Loc) (x : Str) (v : AV), bindA (names.zip as) loc x = some v → x ∈ names ∨ loc x = some v
  | [], _, _, _, _, h => .inr (by simpa [bindA] using h)
  | n :: ns, [], _, _, _, h => .inr (by simpa [bindA] using h)
  | n :: ns, a :: as, loc, x, v, h => by
    simp only [List.zip_cons_cons, bindA] at h
    rcases bindA_dom ns as _ x v h with h | h
    · exact .inl (.tail _ h)
    · rcases upd_some h with ⟨rfl, rfl⟩ | ⟨_, h⟩
      · exact .inl (.head _)
      · exact .inr h

/-- what a def gives back -/
def retQ (Q : AV → Hp → Prop) : AF → Loc → Hp → Prop
  | .ret v, _, H => Q v H
  | .next, _, H => Q .none H
  | _, _, _ => False

theorem CW_def {f : Str} {fa : Addr} {fd : FuncData} {body : List Stmt} {names : List Str} {args : List AV} (hf : IsFn cx f fa fd) (hb : fd.body = .stmts body) (hc : fd.closure = [])
    (hbind : ∀ vs : List Value, vs.length = args.length → bindArgs fd ⟨vs, []⟩ = pure (names.zip vs)) (hnm : names.all (storable fd.scope) = true)
    (hgl : fd.globals = mainGlobals) (hbl : fd.builtins = builtinsNs)
    (h : EX cx d fd.scope (bindA (names.zip args) fun _ => none) body H (retQ Q)) (hnf : fd.scope.names.all (fun y => y.2 != .free) = true := by rfl)
    (hco : fd.scope.isCoroutine = false := by rfl) (hgen : fd.scope.isGenerator = false := by rfl) (hk : fd.scope.kind = .function := by rfl) :
    CW cx (d + 1) (.ref fa) args H Q := by
  intro A P s E Q' vs hA R hvs k
  obtain ⟨o, ho, hd⟩ := hf.o
  have hroom : A.depth < recursionLimit := Nat.lt_of_le_of_lt (Nat.le_add_right _ _) hA.depth
  refine wpAny_call (codeAny_call_cells (fd := fd) (body := body) (binds := names.zip vs) hroom (R.keeps _ _ ho) hd (cx.nolimit.keeps R.keeps) (hf.code.keeps R.keeps) hb (hbind vs hvs.length.symm) hc ?_ ?_ hco hgen hk)
  · intro x hx
    have hx1 : x.1 ∈ names := (List.of_mem_zip hx).1
    have := (storable_of (List.all_eq_true.mp hnm x.1 hx1)).1
    exact this.imp id fun e => ⟨e, cells_some _ _ _ (.inl e)⟩
  · intro s₁ X
    obtain ⟨h₁, tk₁, rfl⟩ := X.toInCall.same
    have hup := X.toInCall.keep
    have R₁ : Rep cx P H h₁ := ⟨R.base, fun a o e => hup a o (R.ext a o e), fun a o e => by obtain ⟨O, hO, r⟩ := R.obj a o e; exact ⟨O, hup a O hO, r⟩, R.sep, R.scr⟩
    have hL : (callEnvC fd s.heap.objs.size fa).locals = s.heap.objs.size := rfl
    have big : ∀ a, fp (callEnvC fd s.heap.objs.size fa) a → s.heap.objs.size ≤ a := by
      intro a ha
      rcases ha with rfl | ⟨x, hm⟩
      · exact Nat.le_refl _
      · exact Nat.le_of_lt (X.above x a (mem_of_lookup hm))
    have none_of : ∀ a, s.heap.objs.size ≤ a → s.heap.get? a = none := fun a ha => by
      cases q : s.heap.get? a with
      | none => rfl
      | some o => exact absurd (Heap.lt_size q) (Nat.not_lt.mpr ha)
    have bf := bind_frame (kd := (callEnvC fd s.heap.objs.size fa).kindOf) names args vs (fun _ => none) (fun _ => none) (fun _ => none) hvs (fun _ _ e => by cases e) (fun _ _ e => by cases e)
    have hdom : ∀ x v, bindA (names.zip args) (fun _ => none) x = some v → storable fd.scope x = true := fun x v hx => by
      rcases bindA_dom names args _ x v hx with hm | e
      · exact List.all_eq_true.mp hnm x hm
      · cases e
    have offP : ∀ a, fp (callEnvC fd s.heap.objs.size fa) a → P a = none := fun a ha => by
      cases q : P a with
      | none => rfl
      | some o => have := R.ext a o q; rw [none_of a (big a ha)] at this; cases this
    have F : FrameOwn (callEnvC fd s.heap.objs.size fa) (bindA (names.zip args) fun _ => none) P H h₁ := by
      refine ⟨⟨⟨_, X.toInCall.ns, bf.1⟩, fun x v hx hc' => ?_, fun x v hx => ?_, fun x c hm => ?_⟩, fun x hx => cells_some _ _ _ (.inl hx), X.apart, fun x c hm => Nat.ne_of_gt (X.above x c hm), offP _ (.inl rfl), fun x c _ hc => offP c (.inr ⟨x, hc⟩), fun a ha => ?_⟩
      · have hnl : (callEnvC fd s.heap.objs.size fa).kindOf x ≠ some .local := by rcases hc' with e | e <;> rw [e] <;> simp
        have hcell : (callEnvC fd s.heap.objs.size fa).kindOf x = some .cell := (storable_of (hdom x v hx)).1.elim (fun e => absurd e hnl) id
        obtain ⟨c, hcl⟩ := Option.isSome_iff_exists.mp (cells_some fd.scope.names (s.heap.objs.size + 1) [] (.inl hcell))
        obtain ⟨V, hV, hv⟩ := bf.2 x v hx hnl
        have hcc := X.cell x c hcl
        rw [hV] at hcc
        exact ⟨c, V, hcl, hcc, hv⟩
      · obtain ⟨hk', hp⟩ := storable_of (hdom x v hx)
        exact ⟨hk'.imp id .inl, hp⟩
      · exact ⟨_, X.cell x c hm⟩
      · cases q : H a with
        | none => rfl
        | some o => obtain ⟨O, hO, _⟩ := R.obj a o q; rw [none_of a (big a ha)] at hO; cases hO
    have hA' : Room d (A.deeper (callEnvC fd s.heap.objs.size fa)) := ⟨hA.handled, by have := hA.depth; show A.depth + 1 + d < recursionLimit; omega, by have := hA.units; show A.units + 3 + 8 * d < cLine; omega⟩
    have hnofree : ∀ x, fd.scope.names.lookup x ≠ some .free := fun x e => by
      have := List.all_eq_true.mp hnf _ (mem_of_lookup e)
      simp at this
    refine h _ _ P _ _ _ ⟨rfl, hk, hgl, hbl, X.apart, fun x hx => cells_some _ _ _ (.inl (hx.elim id fun e => absurd e (hnofree x)))⟩ F hA' R₁ fun fl Fl loc' H' h' tk q hfl F' R' => ?_
    · cases fl with
      | next => cases hfl; exact k .none .none H' h' tk q rfl R'
      | brk => exact q.elim
      | cont => exact q.elim
      | ret v => obtain ⟨V, rfl, hv⟩ := hfl; exact k v V H' h' tk q hv R'
end
end Mine

-- Core4
namespace Mine
open PySem

/-! ## new objects, what is laid aside -/
section
variable {cx : Cx} {P : PH} {H : Hp} {h : Heap}

theorem Rep.fresh (R : Rep cx P H h) {a : Addr} (ha : h.get? a = none) : P a = none ∧ H a = none := by
  constructor
  · cases q : P a with
    | none => rfl
    | some o => have := R.ext a o q; rw [ha] at this; cases this
  · cases q : H a with
    | none => rfl
    | some o => obtain ⟨O, hO, _⟩ := R.obj a o q; rw [ha] at hO; cases hO

theorem get_size (h : Heap) : h.get? h.objs.size = none := by
  cases q : h.get? h.objs.size with
  | none => rfl
  | some o => exact absurd (Heap.lt_size q) (Nat.lt_irrefl _)

/-- the heap has grown, or an object that nobody keeps has turned -/
theorem Rep.ext_to (R : Rep cx P H h) {h' : Heap} {I : Addr} (hP : P I = none) (hH : H I = none) (e : Heap.ExtBut I h h') : Rep cx P H h' :=
  ⟨R.base, fun a o q => e a o (fun z => by rw [z, hP] at q; cases q) (R.ext a o q), fun a o q => by
    obtain ⟨O, hO, r⟩ := R.obj a o q
    exact ⟨O, e a O (fun z => by rw [z, hH] at q; cases q) hO, r⟩, R.sep, R.scr⟩
theorem Rep.grow (R : Rep cx P H h) {h' : Heap} (e : ∀ b o, h.get? b = some o → h'.get? b = some o) : Rep cx P H h' :=
  ⟨R.base, fun a o q => e a o (R.ext a o q), fun a o q => by
    obtain ⟨O, hO, r⟩ := R.obj a o q
    exact ⟨O, e a O hO, r⟩, R.sep, R.scr⟩

theorem Rep.put_new (R : Rep cx P H h) {h' : Heap} {a : Addr} {o : AObj} {O : Obj} (ha : h.get? a = none) (e : ∀ b o, h.get? b = some o → h'.get? b = some o) (hO : h'.get? a = some O) (r : OR cx o O) :
    Rep cx P (H.put a o) h' := by
  have hf := R.fresh ha
  refine ⟨R.base, fun b ob q => e b ob (R.ext b ob q), fun b ob q => ?_, fun b ob Ob q hq => ?_, ?_⟩
  · by_cases hb : b = a
    · subst hb; rw [Hp.put_self] at q; cases q; exact ⟨O, hO, r⟩
    · rw [Hp.put_ne hb] at q; obtain ⟨O', hO', r'⟩ := R.obj b ob q; exact ⟨O', e b O' hO', r'⟩
  · by_cases hb : b = a
    · subst hb; rw [hf.1] at hq; cases hq
    · rw [Hp.put_ne hb] at q; exact R.sep b ob Ob q hq
  · have hne : cx.script ≠ a := fun z => by have := R.scr; rw [z, hf.2] at this; cases this
    rw [Hp.put_ne hne]; exact R.scr

theorem Rep.push (R : Rep cx P H h) {o : AObj} {O : Obj} (r : OR cx o O) (hf : O.isFreed = false) : Rep cx P (H.put h.objs.size o) (h.push O) :=
  R.put_new (get_size h) (fun _ _ q => Heap.get?_push_of_some _ q) (Heap.get?_push_size _ hf) r

/-- an object of the call's own has turned -/
theorem Rep.put_own (R : Rep cx P H h) {h' : Heap} {a : Addr} {o : AObj} {O : Obj} (hP : P a = none) (hs : a ≠ cx.script) (e : Heap.SameBut a h h') (hO : h'.get? a = some O) (r : OR cx o O) :
    Rep cx P (H.put a o) h' := by
  refine ⟨R.base, fun b ob q => ?_, fun b ob q => ?_, fun b ob Ob q hq => ?_, ?_⟩
  · have hb : b ≠ a := fun z => by rw [z, hP] at q; cases q
    exact (e.2 b hb).trans (R.ext b ob q)
  · by_cases hb : b = a
    · subst hb; rw [Hp.put_self] at q; cases q; exact ⟨O, hO, r⟩
    · rw [Hp.put_ne hb] at q; obtain ⟨O', hO', r'⟩ := R.obj b ob q; exact ⟨O', (e.2 b hb).trans hO', r'⟩
  · by_cases hb : b = a
    · subst hb; rw [hP] at hq; cases hq
    · rw [Hp.put_ne hb] at q; exact R.sep b ob Ob q hq
  · rw [Hp.put_ne (Ne.symm hs)]; exact R.scr

theorem Rep.P_script (R : Rep cx P H h) : ∃ o, P cx.script = some o := let ⟨o, ho⟩ := cx.scriptIn; ⟨o, R.base _ _ ho⟩

theorem Rep.own_free (R : Rep cx P H h) {a : Addr} {o : AObj} (ha : H a = some o) (hro : ∀ vs, o ≠ .list true vs) : P a = none ∧ a ≠ cx.script := by
  have hs : a ≠ cx.script := fun z => by rw [z, R.scr] at ha; cases ha; exact hro _ rfl
  refine ⟨?_, hs⟩
  cases q : P a with
  | none => rfl
  | some O => exact absurd (R.sep a o O ha q) hs

def addP (P : PH) (I : Addr) (O : Obj) : PH := fun a => if a = I then some O else P a
theorem Rep.add (R : Rep cx P H h) {I : Addr} {O : Obj} (hI : h.get? I = some O) (hP : P I = none) (hH : H I = none) : Rep cx (addP P I O) H h := by
  refine ⟨fun a o q => ?_, fun a o q => ?_, R.obj, fun a o O' q hq => ?_, R.scr⟩
  · have : a ≠ I := fun z => by have := R.base a o q; rw [z, hP] at this; cases this
    unfold addP; rw [if_neg this]; exact R.base a o q
  · unfold addP at q
    split at q
    · rename_i z; cases q; rw [z]; exact hI
    · exact R.ext a o q
  · unfold addP at hq
    split at hq
    · rename_i z; rw [z, hH] at q; cases q
    · exact R.sep a o O' q hq
theorem Rep.drop {I : Addr} {O : Obj} (R : Rep cx (addP P I O) H h) (hP : P I = none) (hb : ∀ a o, cx.base.get? a = some o → P a = some o) : Rep cx P H h ∧ h.get? I = some O ∧ H I = none := by
  have hI : h.get? I = some O := R.ext I O (by simp [addP])
  refine ⟨⟨hb, fun a o q => ?_, R.obj, fun a o O' q hq => ?_, R.scr⟩, hI, ?_⟩
  · have : a ≠ I := fun z => by rw [z, hP] at q; cases q
    exact R.ext a o (by unfold addP; rw [if_neg this]; exact q)
  · have : a ≠ I := fun z => by rw [z, hP] at hq; cases hq
    exact R.sep a o O' q (by unfold addP; rw [if_neg this]; exact hq)
  · cases q : H I with
    | none => rfl
    | some o =>
      have := R.sep I o O q (by simp [addP])
      obtain ⟨ob, hob⟩ := cx.scriptIn
      have h2 := hb _ _ hob
      rw [← this, hP] at h2; cases h2
end

theorem VRs.get' : ∀ {as : List AV} {vs : List Value} {i : Nat} {v : Value}, VRs as vs → vs[i]? = some v → ∃ a, as[i]? = some a ∧ VR a v
  | a :: _, _ :: _, 0, _, h, e => by cases e; exact ⟨a, rfl, h.1⟩
  | _ :: _, _ :: _, i + 1, _, h, e => VRs.get' (i := i) h.2 e
  | _, [], _, _, _, e => by simp at e
  | [], _ :: _, _, _, h, _ => h.elim

section
variable {cx : Cx} {d : Nat} {sc : Scope} {loc : Loc} {H : Hp} {Q : AV → Hp → Prop} {pos : Pos}

theorem EV_List {es : List Expr} (h : EVs cx d sc loc es H fun vs H' => vs.length ≤ 2 ^ 20 ∧ ∀ a, H' a = none → Q (.ref a) (H'.put a (.list false vs))) (hn : es.all notStar = true := by rfl) :
    EV cx d sc loc (.List es pos) H Q := by
  intro env A P s E Q' he hF hA R k
  refine wpAny_List (EVs.sound h hn he hF hA R fun vs Vs H' h' tk q hvs R' => ⟨?_, ?_⟩)
  · have := hvs.length; have := q.1; show Vs.length ≤ 2 ^ 24; omega
  · exact k _ _ _ _ _ (q.2 _ (R'.fresh (get_size _)).2) rfl (R'.push (o := .list false vs) ⟨_, _, rfl, by simpa using hvs⟩ rfl)
theorem EV_Tuple {es : List Expr} {n : Nat} (h : EVs cx d sc loc es H fun vs H' => vs.length ≤ 2 ^ 20 ∧ ∀ a, H' a = none → Q (.ref a) (H'.put a (.tuple vs))) (hn : es.all notStar = true := by rfl) :
    EV cx d sc loc (.Tuple es n pos) H Q := by
  intro env A P s E Q' he hF hA R k
  refine wpAny_Tuple (EVs.sound h hn he hF hA R fun vs Vs H' h' tk q hvs R' => ⟨?_, ?_⟩)
  · have := hvs.length; have := q.1; show Vs.length ≤ 2 ^ 24; omega
  · exact k _ _ _ _ _ (q.2 _ (R'.fresh (get_size _)).2) rfl (R'.push (o := .tuple vs) ⟨_, _, rfl, by simpa using hvs⟩ rfl)
end

/-! ## what may be iterated -/
/-- the nums of a range by ones -/
def spanZ (lo hi : Int) : List AV := (List.range (hi - lo).toNat).map fun (i : Nat) => AV.int (lo + i)

inductive Src (H : Hp) : AV → List AV → (Hp → Prop) → Prop where
  | list {a : Addr} {ro : Bool} {vs : List AV} : H a = some (.list ro vs) → Src H (.ref a) vs (fun H' => H' a = some (.list ro vs))
  | range {a : Addr} {lo hi : Int} : H a = some (.range lo hi) → -2 ^ 31 < lo → lo < 2 ^ 31 → hi < 2 ^ 31 → -2 ^ 31 < hi → Src H (.ref a) (spanZ lo hi) (fun _ => True)

structure ItP (cx : Cx) (I : Addr) (els : List AV) (keep : Hp → Prop) (St : Nat → Obj → Prop) : Prop where
  item : ∀ (i : Nat) (v : AV) (A : Around) (P : PH) (H : Hp) (s : Shared) (E : Value → Shared → Prop) (Q' : Option Value → Shared → Prop) (O : Obj), els[i]? = some v → keep H → Rep cx P H s.heap → H I = none →
    s.heap.get? I = some O → St i O → (∀ V h' O' tk, VR v V → Heap.SameBut I s.heap h' → h'.get? I = some O' → St (i + 1) O' → Q' (some V) { s with heap := h', toks := tk }) →
    wpAny (model cx.prog cx.w) A (pyNext (.ref I)) Q' E s
  done : ∀ (A : Around) (P : PH) (H : Hp) (s : Shared) (E : Value → Shared → Prop) (Q' : Option Value → Shared → Prop) (O : Obj), A.handled = none → keep H → Rep cx P H s.heap → H I = none →
    s.heap.get? I = some O → St els.length O → (∀ h' tk, Heap.ExtBut I s.heap h' → Q' none { s with heap := h', toks := tk }) → wpAny (model cx.prog cx.w) A (pyNext (.ref I)) Q' E s
  self : ∀ (i : Nat) (A : Around) (s : Shared) (E : Value → Shared → Prop) (Q' : Value → Shared → Prop) (O : Obj), s.heap.get? I = some O → St i O → Q' (.ref I) s → wpAny (model cx.prog cx.w) A (pyIter (.ref I)) Q' E s

theorem Rep.isList {cx : Cx} {P : PH} {H : Hp} {h : Heap} (R : Rep cx P H h) {a : Addr} {ro : Bool} {vs : List AV} (ha : H a = some (.list ro vs)) :
    ∃ items n, h.get? a = some { cls := .type "list", dict := none, data := .seq items n, slots := #[] } ∧ VRs vs items.toList := by
  obtain ⟨O, hO, items, n, rfl, hv⟩ := R.obj a _ ha
  exact ⟨items, n, hO, hv⟩

theorem spanZ_length (lo hi : Int) : (spanZ lo hi).length = (hi - lo).toNat := by simp [spanZ]
theorem spanZ_get {lo hi : Int} {i : Nat} {v : AV} (h : (spanZ lo hi)[i]? = some v) : i < (hi - lo).toNat ∧ v = .int (lo + i) := by
  have hlt : i < (spanZ lo hi).length := by
    rcases Nat.lt_or_ge i (spanZ lo hi).length with h1 | h1
    · exact h1
    · rw [List.getElem?_eq_none h1] at h; cases h
  rw [spanZ_length] at hlt
  simp [spanZ, hlt] at h
  exact ⟨hlt, h.symm⟩

theorem rangeSize_one (lo hi : Int) : Builtin.Range.rangeSize lo hi 1 = ((hi - lo).toNat : Int) := by
  unfold Builtin.Range.rangeSize
  simp
  omega

theorem iter_of {cx : Cx} {H : Hp} {v : AV} {els : List AV} {keep : Hp → Prop} (S : Src H v els keep) {A : Around} {P : PH} {s : Shared} {E : Value → Shared → Prop} {Q' : Value → Shared → Prop} {V : Value} (hv : VR v V)
    (R : Rep cx P H s.heap)
    (k : ∀ I O St, ItP cx I els keep St → s.heap.get? I = none → keep H → St 0 O → I = s.heap.objs.size → O.isFreed = false → Q' (.ref I) { s with heap := s.heap.push O }) :
    wpAny (model cx.prog cx.w) A (pyIter V) Q' E s := by
  cases S with
  | @list a ro vs ha =>
    cases hv
    obtain ⟨items, n, hO, hr⟩ := R.isList ha
    have hl : s.heap.IsList a items := ⟨_, hO, rfl, n, rfl⟩
    refine wpAny_pyIter_list hl (k _ _ (fun i O => O.cls = .type "list_iterator" ∧ O.data = .fields #[.ref a, .int i 0]) ⟨?_, ?_, ?_⟩ (get_size _) ha ⟨rfl, rfl⟩ rfl rfl)
    · intro i v A P H s₁ E Q' O hi hk R₁ hH hI hSt hQ
      obtain ⟨items₁, n₁, hO₁, hr₁⟩ := R₁.isList hk
      obtain ⟨V, hV, hvV⟩ := hr₁.get hi
      refine wpAny_pyNext_list_item (items := items₁) ⟨O, hI, hSt.1, hSt.2⟩ ⟨_, hO₁, rfl, n₁, rfl⟩ (by simpa using hV) fun h' hit hs => ?_
      obtain ⟨O', hO', hc, hd⟩ := hit
      exact hQ V h' O' s₁.toks hvV hs hO' ⟨hc, hd⟩
    · intro A P H s₁ E Q' O hh hk R₁ hH hI hSt hQ
      obtain ⟨items₁, n₁, hO₁, hr₁⟩ := R₁.isList hk
      refine wpAny_pyNext_list_end (items := items₁) hh ⟨O, hI, hSt.1, hSt.2⟩ ⟨_, hO₁, rfl, n₁, rfl⟩ ?_ fun h' e => hQ h' s₁.toks e
      have := hr₁.length
      simp only [Array.length_toList] at this
      rw [this]; simp
    · intro i A s₁ E Q' O hI hSt hQ
      exact wpAny_pyIter_listiter ⟨O, hI, hSt.1, hSt.2⟩ hQ
  | @range a lo hi ha h1 h2 h3 h4 =>
    cases hv
    obtain ⟨O, hO, t, u, v, rfl⟩ := R.obj a _ ha
    have hsm : Builtin.Range.small lo hi 1 = true := by
      unfold Builtin.Range.small
      rw [rangeSize_one]
      simp [Builtin.Range.rangeFitsLong]
      omega
    refine wpAny_pyIter_range hO hsm (k _ _ (fun i O => O = { cls := .type "range_iterator", dict := none, data := .fields #[rawInt (lo + i), rawInt ((hi - lo).toNat - i), rawInt 1], slots := #[] }) ⟨?_, ?_, ?_⟩ (get_size _) trivial ?_ rfl rfl)
    · rintro i v A P H s₁ E Q' O hget hk R₁ hH hI rfl hQ
      obtain ⟨hlt, rfl⟩ := spanZ_get hget
      refine wpAny_pyNext_range_item hI (by omega) fun h' hit hs => hQ _ h' _ _ ⟨_, rfl⟩ hs hit ?_
      have e1 : lo + (i : Int) + 1 = lo + ((i + 1 : Nat) : Int) := by omega
      have e2 : ((hi - lo).toNat : Int) - (i : Int) - 1 = ((hi - lo).toNat : Int) - ((i + 1 : Nat) : Int) := by omega
      rw [e1, e2]
    · rintro A P H s₁ E Q' O hh hk R₁ hH hI rfl hQ
      refine wpAny_pyNext_range_end hh hI ?_ fun h' e => hQ h' s₁.toks e
      rw [spanZ_length]; omega
    · rintro i A s₁ E Q' O hI rfl hQ
      exact wpAny_pyIter_rangeiter hI hQ
    · rw [rangeSize_one]; simp

/-! ## loops -/
def loopQ (J : Loc → Hp → Prop) (Q : AF → Loc → Hp → Prop) : AF → Loc → Hp → Prop
  | .next, l, H => J l H
  | .cont, l, H => J l H
  | .brk, l, H => Q .next l H
  | .ret v, l, H => Q (.ret v) l H

section
variable {cx : Cx} {d : Nat} {sc : Scope} {loc : Loc} {H : Hp} {Q : AF → Loc → Hp → Prop} {pos : Pos}

theorem EX_While {t : Expr} {b : List Stmt} (I : Nat → Loc → Hp → Prop) (n : Nat) (h0 : I n loc H)
    (turn : ∀ n loc H, I n loc H → TV cx d sc loc t H fun c H' => if c = true then EX cx d sc loc b H' (loopQ (fun l₂ H₂ => ∃ m, m < n ∧ I m l₂ H₂) Q) else Q .next loc H') :
    EX1 cx d sc loc (.While t b [] pos) H Q := by
  intro env A P s E Q' he F hA R k
  refine wpAny_While (codeAny_whileLoop (fun n s' => ∃ l₁ H₁ h₁ tk₁, s' = { s with heap := h₁, toks := tk₁ } ∧ I n l₁ H₁ ∧ FrameOwn env l₁ P H₁ h₁ ∧ Rep cx P H₁ h₁) ?_ n ⟨loc, H, s.heap, s.toks, rfl, h0, F, R⟩)
  rintro n s' ⟨l₁, H₁, h₁, tk₁, rfl, hI, F₁, R₁⟩
  refine (turn n l₁ H₁ hI).here he F₁ hA R₁ fun c H₂ h₂ tk₂ q F₂ R₂ => ?_
  cases c with
  | false => simp only [Bool.false_eq_true, if_false] at q ⊢; exact wpAny_execs_nil (k .next .next l₁ H₂ h₂ tk₂ q rfl F₂ R₂)
  | true =>
    simp only [if_true] at q ⊢
    refine q env A P _ _ _ he F₂ hA R₂ fun f Fl l₃ H₃ h₃ tk₃ q₃ hf F₃ R₃ => ?_
    cases f with
    | next => cases hf; obtain ⟨m, hm, hI⟩ := q₃; exact ⟨m, hm, l₃, H₃, h₃, tk₃, rfl, hI, F₃, R₃⟩
    | cont => cases hf; obtain ⟨m, hm, hI⟩ := q₃; exact ⟨m, hm, l₃, H₃, h₃, tk₃, rfl, hI, F₃, R₃⟩
    | brk => cases hf; exact k .next .next l₃ H₃ h₃ tk₃ q₃ rfl F₃ R₃
    | ret v => obtain ⟨V, rfl, hv⟩ := hf; exact k (.ret v) (.ret V) l₃ H₃ h₃ tk₃ q₃ ⟨V, rfl, hv⟩ F₃ R₃

theorem FrameW.add {W : Str → Prop} {env : Env} {P : PH} {h : Heap} {I : Addr} {O : Obj} (F : FrameW W env loc P H h) (hI : ¬ fp env I) : FrameW W env loc (addP P I O) H h :=
  ⟨F.at_, F.cellHas, F.apart, F.cellNe, by unfold addP; rw [if_neg (fun z => hI (.inl z.symm))]; exact F.locP,
    fun x c hW hc => by unfold addP; rw [if_neg (fun (z : c = I) => hI (.inr ⟨x, z ▸ hc⟩))]; exact F.cellP x c hW hc, F.offH⟩
theorem FrameW.drop {W : Str → Prop} {env : Env} {P : PH} {h : Heap} {I : Addr} {O : Obj} (F : FrameW W env loc (addP P I O) H h) : FrameW W env loc P H h :=
  have up : ∀ a, addP P I O a = none → P a = none := fun a e => by
    unfold addP at e
    split at e
    · cases e
    · exact e
  ⟨F.at_, F.cellHas, F.apart, F.cellNe, up _ F.locP, fun x c hW hc => up _ (F.cellP x c hW hc), F.offH⟩

theorem EX_For {x : Str} {px : Pos} {iter : Expr} {body : List Stmt}
    (h : EV cx d sc loc iter H fun v H₁ => ∃ els keep, Src H₁ v els keep ∧ ∃ J : Nat → Loc → Hp → Prop, J 0 loc H₁ ∧ (∀ i l₂ H₂, J i l₂ H₂ → keep H₂) ∧
      (∀ i w l₂ H₂, els[i]? = some w → J i l₂ H₂ → EX cx d sc (upd l₂ x w) body H₂ (loopQ (J (i + 1)) Q)) ∧ ∀ l₂ H₂, J els.length l₂ H₂ → Q .next l₂ H₂)
    (hx : storable sc x = true := by rfl) (hs : ∀ env v, foldedSetIterable iter env v = pure v := by intro _ _; rfl) : EX1 cx d sc loc (.For (.Name x px) iter body [] pos) H Q := by
  intro env A P s E Q' he F hA R k
  refine wpAny_For (h.here he F hA R fun v V H₁ h₁ tk₁ q hv F₁ R₁ => ?_) (hs env)
  obtain ⟨els, keep, S, J, hJ0, hkeep, turn, fin⟩ := q
  refine iter_of S hv R₁ fun I O St W hI hk hSt eI hfr => ?_
  have hIf : ¬ fp env I := fun z => by obtain ⟨o, ho⟩ := F₁.live I z; rw [show ({ s with heap := h₁, toks := tk₁ } : Shared).heap.get? I = h₁.get? I from rfl] at hI; rw [ho] at hI; cases hI
  have hfr₁ := R₁.fresh hI
  have hup : ∀ b o, h₁.get? b = some o → (h₁.push O).get? b = some o := fun b o e => Heap.get?_push_of_some _ e
  have hOI : (h₁.push O).get? I = some O := by rw [eI]; exact Heap.get?_push_size _ hfr
  refine codeAny_forLoop (fun n s' => ∃ i l₂ H₂ h₂ tk₂ O₂, s' = { s with heap := h₂, toks := tk₂ } ∧ J i l₂ H₂ ∧ FrameOwn env l₂ P H₂ h₂ ∧ Rep cx P H₂ h₂ ∧ h₂.get? I = some O₂ ∧ St i O₂ ∧ H₂ I = none ∧ i ≤ els.length ∧ n = els.length + 1 - i) ?_ (els.length + 1)
    ⟨0, loc, H₁, _, tk₁, O, rfl, hJ0, F₁.eq_on (fun a _ o e => hup a o e) F₁.offH, R₁.grow hup, hOI, hSt, hfr₁.2, Nat.zero_le _, rfl⟩ (by intro _; rfl)
  rintro n s' ⟨i, l₂, H₂, h₂, tk₂, O₂, rfl, hJ, F₂, R₂, hO₂, hSt₂, hH₂, hi, rfl⟩
  cases hel : els[i]? with
  | none =>
    have hil : i = els.length := Nat.le_antisymm hi (by simpa using hel)
    subst hil
    refine W.done A P H₂ _ _ _ O₂ hA.handled (hkeep _ _ _ hJ) R₂ hH₂ hO₂ hSt₂ fun h₃ tk₃ e₃ => wpAny_execs_nil ?_
    exact k .next .next l₂ H₂ h₃ tk₃ (fin _ _ hJ) rfl (F₂.eq_on (fun a ha o e => e₃ a o (fun z => hIf (z ▸ ha)) e) F₂.offH) (R₂.ext_to hfr₁.1 hH₂ e₃)
  | some w =>
    have hlt : i < els.length := (List.getElem?_eq_some_iff.mp hel).1
    refine W.item i w A P H₂ _ _ _ O₂ hel (hkeep _ _ _ hJ) R₂ hH₂ hO₂ hSt₂ fun V' h₃ O₃ tk₃ hV e₃ hO₃ hSt₃ => ?_
    have F₃ : FrameOwn env l₂ P H₂ h₃ := F₂.eq_on (fun a ha o e => (e₃.2 a fun z => hIf (z ▸ ha)).trans e) F₂.offH
    have R₃ : Rep cx P H₂ h₃ := R₂.ext_to hfr₁.1 hH₂ e₃.extBut
    have F₃' := F₃.add (O := O₃) hIf
    have R₃' := R₃.add hO₃ hfr₁.1 hH₂
    refine wpAny_assign_Name (store_own he F₃' R₃' hx hV fun h₄ tk₄ F₄ R₄ => ?_)
    refine turn i w l₂ H₂ hel hJ env A (addP P I O₃) _ _ _ he F₄ hA R₄ fun f Fl l₅ H₅ h₅ tk₅ q₅ hf F₅ R₅ => ?_
    obtain ⟨R₆, hO₆, hH₆⟩ := R₅.drop hfr₁.1 R.base
    have F₆ := F₅.drop
    cases f with
    | next => cases hf; exact ⟨els.length + 1 - (i + 1), by omega, i + 1, l₅, H₅, h₅, tk₅, O₃, rfl, q₅, F₆, R₆, hO₆, hSt₃, hH₆, hlt, rfl⟩
    | cont => cases hf; exact ⟨els.length + 1 - (i + 1), by omega, i + 1, l₅, H₅, h₅, tk₅, O₃, rfl, q₅, F₆, R₆, hO₆, hSt₃, hH₆, hlt, rfl⟩
    | brk => cases hf; exact k .next .next l₅ H₅ h₅ tk₅ q₅ rfl F₆ R₆
    | ret v => obtain ⟨V, rfl, hv⟩ := hf; exact k (.ret v) (.ret V) l₅ H₅ h₅ tk₅ q₅ ⟨V, rfl, hv⟩ F₆ R₆
end
end Mine

-- Core5
namespace Mine
open PySem

/-! ## comprehensions -/
def clOf (cells : List (Str × Addr)) : List (Str × NameKind) → List (Str × Addr) → List (Str × Addr)
  | [], acc => acc
  | (n, k) :: r, acc => if k == .free then clOf cells r ((n, (cells.lookup n).getD 0) :: acc) else clOf cells r acc

theorem clOf_mem {cells : List (Str × Addr)} : ∀ (names : List (Str × NameKind)) (acc : List (Str × Addr)) {y : Str} {c : Addr}, (∀ x ∈ names, x.2 = .free → (cells.lookup x.1).isSome = true) →
    (y, c) ∈ clOf cells names acc → (y, c) ∈ acc ∨ cells.lookup y = some c
  | [], _, _, _, _, h => .inl h
  | (n, k) :: r, acc, y, c, hall, h => by
    unfold clOf at h
    split at h
    · rename_i hk
      rcases clOf_mem r _ (fun x hx => hall x (.tail _ hx)) h with h | h
      · rcases List.mem_cons.mp h with e | h
        · cases e
          obtain ⟨c, hc⟩ := Option.isSome_iff_exists.mp (hall (n, k) (.head _) (by simpa using hk))
          exact .inr (by simp only at hc; rw [hc]; rfl)
        · exact .inl h
      · exact .inr h
    · exact clOf_mem r acc (fun x hx => hall x (.tail _ hx)) h
theorem clOf_has {cells : List (Str × Addr)} : ∀ (names : List (Str × NameKind)) (acc : List (Str × Addr)) {y : Str}, ((y, NameKind.free) ∈ names ∨ ∃ c, (y, c) ∈ acc) → ∃ c, (y, c) ∈ clOf cells names acc
  | [], _, _, h => h.elim (fun h => by cases h) id
  | (n, k) :: r, acc, y, h => by
    unfold clOf
    split
    · refine clOf_has r _ ?_
      rcases h with h | ⟨c, h⟩
      · rcases List.mem_cons.mp h with e | h
        · cases e; exact .inr ⟨_, .head _⟩
        · exact .inl h
      · exact .inr ⟨c, .tail _ h⟩
    · rename_i hk
      refine clOf_has r _ ?_
      rcases h with h | h
      · rcases List.mem_cons.mp h with e | h
        · cases e; simp at hk
        · exact .inl h
      · exact .inr h

theorem lookup_some_of_mem {α : Type} : ∀ {l : List (Str × α)} {y : Str} {c : α}, (y, c) ∈ l → ∃ c', l.lookup y = some c'
  | (n, a) :: r, y, c, h => by
    rw [List.lookup_cons]
    cases hb : y == n with
    | true => exact ⟨a, rfl⟩
    | false =>
      rcases List.mem_cons.mp h with e | h
      · cases e; simp at hb
      · exact lookup_some_of_mem h

theorem closureFor_eq {scope : Scope} {env : Env} (h : ∀ x ∈ scope.names, x.2 = .free → (env.cells.lookup x.1).isSome = true) : closureFor scope env = pure (clOf env.cells scope.names []) := by
  unfold closureFor
  have key : ∀ (names : List (Str × NameKind)) (acc : List (Str × Addr)), (∀ x ∈ names, x.2 = .free → (env.cells.lookup x.1).isSome = true) →
      (forIn names acc fun x r => match x with
        | (name, kind) => if (kind == .free) = true then do let __do_lift ← cellOf env name; pure (ForInStep.yield ((name, __do_lift) :: r)) else pure (ForInStep.yield r) : Sem (List (Str × Addr))) = pure (clOf env.cells names acc) := by
    intro names
    induction names with
    | nil => intro acc _; rfl
    | cons x r ih =>
      intro acc hall
      obtain ⟨n, k⟩ := x
      rw [List.forIn_cons]
      have ih' := fun acc => ih acc fun x hx => hall x (.tail _ hx)
      unfold clOf
      by_cases hk : (k == .free) = true
      · obtain ⟨c, hc⟩ := Option.isSome_iff_exists.mp (hall (n, k) (.head _) (by simpa using hk))
        simp only at hc
        have e : cellOf env n = pure c := by unfold cellOf; rw [hc]
        simp only [hk, if_true, e, hc, Option.getD_some, pure_bind]
        exact ih' _
      · rw [if_neg hk]
        simp only [hk]
        exact ih' _
  have := key scope.names [] h
  refine Eq.trans (b := (forIn scope.names [] fun x r => match x with
        | (name, kind) => if (kind == .free) = true then do let __do_lift ← cellOf env name; pure (ForInStep.yield ((name, __do_lift) :: r)) else pure (ForInStep.yield r) : Sem (List (Str × Addr))) >>= pure) ?_ ?_
  · rfl
  · rw [this]; rfl

theorem cells_where : ∀ (names : List (Str × NameKind)) (h : Heap) (acc : List (Str × Addr)) {y : Str} {c : Addr}, (cellsFrom h.objs.size names acc).lookup y = some c →
    (h.objs.size ≤ c ∧ (pushCells h names).IsCell c none ∧ (y, NameKind.cell) ∈ names) ∨ (acc.lookup y = some c ∧ (y, NameKind.cell) ∉ names)
  | [], _, _, _, _, e => .inr ⟨e, by simp⟩
  | (n, k) :: r, h, acc, y, c, e => by
    unfold cellsFrom at e
    unfold pushCells
    split at e
    · rename_i hk
      rw [if_pos hk]
      have hk' : k = .cell := by simpa using hk
      subst hk'
      have := cells_where r (h.push { cls := .type "cell", data := .cell none }) ((n, h.objs.size) :: acc) (y := y) (c := c) (by rw [Heap.size_push]; exact e)
      rw [Heap.size_push] at this
      rcases this with ⟨h1, h2, h3⟩ | ⟨h1, h2⟩
      · exact .inl ⟨by omega, h2, .tail _ h3⟩
      · rw [List.lookup_cons] at h1
        cases hb : y == n with
        | true =>
          rw [hb] at h1; cases h1
          rw [beq_iff_eq.mp hb]
          exact .inl ⟨Nat.le_refl _, ⟨_, pushCells_keeps _ _ _ _ (Heap.get?_push_size _ rfl), rfl⟩, .head _⟩
        | false =>
          rw [hb] at h1
          refine .inr ⟨h1, fun hm => ?_⟩
          rcases List.mem_cons.mp hm with e' | hm
          · cases e'; simp at hb
          · exact h2 hm
    · rename_i hk
      rw [if_neg hk]
      rcases cells_where r h acc e with ⟨h1, h2, h3⟩ | ⟨h1, h2⟩
      · exact .inl ⟨h1, h2, .tail _ h3⟩
      · refine .inr ⟨h1, fun hm => ?_⟩
        rcases List.mem_cons.mp hm with e' | hm
        · cases e'; simp at hk
        · exact h2 hm
theorem cells_ge : ∀ (names : List (Str × NameKind)) (n : Nat) (acc : List (Str × Addr)) {y : Str} {c : Addr}, (y, c) ∈ cellsFrom n names acc → (y, c) ∈ acc ∨ n ≤ c
  | [], _, _, _, _, h => .inl h
  | (m, k) :: r, n, acc, y, c, h => by
    unfold cellsFrom at h
    split at h
    · rcases cells_ge r (n + 1) _ h with h | h
      · rcases List.mem_cons.mp h with e | h
        · cases e; exact .inr (Nat.le_refl _)
        · exact .inl h
      · exact .inr (by omega)
    · exact cells_ge r n acc h
theorem cells_apart : ∀ (names : List (Str × NameKind)) (n : Nat) (acc : List (Str × Addr)), (acc.Pairwise fun x y => x.2 ≠ y.2) → (∀ x ∈ acc, x.2 < n) → (cellsFrom n names acc).Pairwise fun x y => x.2 ≠ y.2
  | [], _, _, h, _ => h
  | (m, k) :: r, n, acc, h, hlt => by
    unfold cellsFrom
    split
    · refine cells_apart r (n + 1) _ (List.pairwise_cons.mpr ⟨fun y hy e => ?_, h⟩) fun x hx => ?_
      · have := hlt y hy
        simp only at e
        rw [← e] at this; exact absurd this (Nat.lt_irrefl _)
      · rcases List.mem_cons.mp hx with rfl | hx
        · exact Nat.lt_succ_self _
        · exact Nat.lt_succ_of_lt (hlt x hx)
    · exact cells_apart r n acc h hlt

theorem clOf_apart {cells : List (Str × Addr)} (hp : cells.Pairwise fun x y => x.2 ≠ y.2) : ∀ (names : List (Str × NameKind)) (acc : List (Str × Addr)), (∀ x ∈ names, x.2 = .free → (cells.lookup x.1).isSome = true) →
    (names.map (·.1)).Nodup → (∀ x ∈ acc, cells.lookup x.1 = some x.2) → (∀ x ∈ acc, x.1 ∉ names.map (·.1)) → (acc.Pairwise fun x y => x.2 ≠ y.2) → (clOf cells names acc).Pairwise fun x y => x.2 ≠ y.2
  | [], _, _, _, _, _, h => h
  | (n, k) :: r, acc, hall, hnd, ha, hn, h => by
    simp only [List.map_cons, List.nodup_cons] at hnd
    unfold clOf
    split
    · rename_i hk
      obtain ⟨c, hc⟩ := Option.isSome_iff_exists.mp (hall (n, k) (.head _) (by simpa using hk))
      simp only at hc
      rw [hc, Option.getD_some]
      refine clOf_apart hp r _ (fun x hx => hall x (.tail _ hx)) hnd.2 (fun x hx => ?_) (fun x hx => ?_) (List.pairwise_cons.mpr ⟨fun y hy e => ?_, h⟩)
      · rcases List.mem_cons.mp hx with rfl | hx
        · exact hc
        · exact ha x hx
      · rcases List.mem_cons.mp hx with rfl | hx
        · exact hnd.1
        · exact fun hm => hn x hx (.tail _ hm)
      · simp only at e
        have h1 := ha y hy
        rw [← e] at h1
        have := name_of_addr hp (mem_of_lookup hc) (mem_of_lookup h1)
        exact hn y hy (by rw [← this]; exact .head _)
    · exact clOf_apart hp r acc (fun x hx => hall x (.tail _ hx)) hnd.2 ha (fun x hx hm => hn x hx (.tail _ hm)) h

/-- the comprehension's scope as its frame has it -/
def relab (sc scope : Scope) : Scope :=
  { scope with names := scope.names.map fun (n, k) => if (k == .free && sc.kind == .function && sc.names.lookup n == some .cell) then (n, .cell) else (n, k) }

/-- the names that a comprehension takes from around -/
def capt (scope : Scope) (loc : Loc) : Loc := fun y => if scope.names.lookup y = some .free then loc y else none

def compOk (sc scope : Scope) (x : Str) : Bool :=
  scope.kind == .function && decide ((scope.names.map (·.1)).Nodup) && (scope.names.lookup x == some .local || scope.names.lookup x == some .cell) && plainName x &&
    scope.names.all fun y => y.2 != .free || sc.names.lookup y.1 == some .cell || sc.names.lookup y.1 == some .free

theorem relab_free {sc scope : Scope} {y : Str} (h : scope.names.lookup y = some .free) : (relab sc scope).names.lookup y = some .cell ∨ (relab sc scope).names.lookup y = some .free := by
  unfold relab
  dsimp only
  generalize scope.names = l at h
  induction l with
  | nil => cases h
  | cons p r ih =>
    obtain ⟨n, k⟩ := p
    rw [List.lookup_cons] at h
    simp only [List.map_cons]
    cases hb : y == n with
    | true =>
      rw [hb] at h; cases h
      split
      · left; simp [List.lookup_cons, hb]
      · right; simp [List.lookup_cons, hb]
    | false =>
      rw [hb] at h
      have ih' := ih h
      split <;> simp only [List.lookup_cons, hb] <;> exact ih'
theorem relab_own {sc scope : Scope} {y : Str} {k : NameKind} (hk : k ≠ .free) (h : scope.names.lookup y = some k) : (relab sc scope).names.lookup y = some k := by
  unfold relab
  dsimp only
  generalize scope.names = l at h
  induction l with
  | nil => cases h
  | cons p r ih =>
    obtain ⟨n, k'⟩ := p
    rw [List.lookup_cons] at h
    simp only [List.map_cons]
    cases hb : y == n with
    | true =>
      rw [hb] at h; cases h
      have : (k == NameKind.free) = false := by simpa using hk
      simp [List.lookup_cons, hb, this]
    | false =>
      rw [hb] at h
      have ih' := ih h
      split <;> simp only [List.lookup_cons, hb] <;> exact ih'
theorem relab_cell {sc scope : Scope} {y : Str} (h : (relab sc scope).names.lookup y = some .cell) : (y, NameKind.cell) ∈ scope.names ∨ (y, NameKind.free) ∈ scope.names := by
  unfold relab at h
  dsimp only at h
  generalize scope.names = l at h
  induction l with
  | nil => cases h
  | cons p r ih =>
    obtain ⟨n, k⟩ := p
    simp only [List.map_cons] at h
    cases hb : y == n with
    | true =>
      have e := beq_iff_eq.mp hb
      subst e
      split at h
      · rename_i hc
        simp only [Bool.and_eq_true, beq_iff_eq] at hc
        exact .inr (by rw [← hc.1.1]; exact .head _)
      · simp [List.lookup_cons] at h
        subst h; exact .inl (.head _)
    | false =>
      have : List.lookup y (r.map fun (n, k) => if (k == .free && sc.kind == .function && sc.names.lookup n == some .cell) then (n, NameKind.cell) else (n, k)) = some .cell := by
        split at h <;> simpa only [List.lookup_cons, hb] using h
      exact (ih this).imp (.tail _) (.tail _)

theorem mem_names_of_lookup {l : List (Str × NameKind)} {y : Str} {k : NameKind} (h : l.lookup y = some k) : (y, k) ∈ l := mem_of_lookup h
end Mine

-- Core6
namespace Mine
open PySem

theorem clOf_free {cells : List (Str × Addr)} : ∀ (names : List (Str × NameKind)) (acc : List (Str × Addr)) {y : Str} {c : Addr}, (y, c) ∈ clOf cells names acc → (y, c) ∈ acc ∨ (y, NameKind.free) ∈ names
  | [], _, _, _, h => .inl h
  | (n, k) :: r, acc, y, c, h => by
    unfold clOf at h
    split at h
    · rename_i hk
      rcases clOf_free r _ h with h | h
      · rcases List.mem_cons.mp h with e | h
        · cases e; exact .inr (by rw [show k = .free by simpa using hk]; exact .head _)
        · exact .inl h
      · exact .inr (.tail _ h)
    · exact (clOf_free r acc h).imp id (.tail _)

theorem nodup_kind : ∀ {l : List (Str × NameKind)} {y : Str} {k k' : NameKind}, (l.map (·.1)).Nodup → (y, k) ∈ l → (y, k') ∈ l → k = k'
  | (n, a) :: r, y, k, k', hnd, h, h' => by
    simp only [List.map_cons, List.nodup_cons] at hnd
    rcases List.mem_cons.mp h with e | h <;> rcases List.mem_cons.mp h' with e' | h'
    · cases e; cases e'; rfl
    · cases e; exact absurd (List.mem_map.mpr ⟨_, h', rfl⟩) hnd.1
    · cases e'; exact absurd (List.mem_map.mpr ⟨_, h, rfl⟩) hnd.1
    · exact nodup_kind hnd.2 h h'
theorem nodup_lookup {l : List (Str × NameKind)} {y : Str} {k : NameKind} (hnd : (l.map (·.1)).Nodup) (h : (y, k) ∈ l) : l.lookup y = some k := by
  obtain ⟨k', hk'⟩ := lookup_some_of_mem h
  rw [hk', nodup_kind hnd h (mem_of_lookup hk')]

theorem wpAny_newCompEnv {M : Model} {A : Around} {E : Value → Shared → Prop} {s : Shared} {scope : Scope} {cl : List (Str × Addr)} {env : Env} {Q : Env → Shared → Prop}
    (h : Q (newEnv scope s.heap.objs.size env.globals (cellsFrom (s.heap.objs.size + 1) scope.names cl) env.qual none .none (some env) builtinsNs)
      { s with heap := pushCells (s.heap.push { cls := .type "dict", data := .dict #[] }) scope.names }) :
    wpAny M A (newFunctionEnv scope env.globals cl [] env.qual none .none (some env)) Q E s := by
  simp only [newFunctionEnv, Option.isSome_some, if_true]
  refine wpAny_bind (wpAny_alloc ?_)
  refine wpAny_bind (wpAny_layCells _ (fun name kind cells => by cases hkc : kind == NameKind.cell <;> simp [hkc]) _ _ _ _ ?_)
  rw [show ({ s with heap := s.heap.push { cls := .type "dict", data := .dict #[] } } : Shared).heap.objs.size = s.heap.objs.size + 1 from Heap.size_push ..]
  exact wpAny_bind (wpAny_pure (wpAny_pure h))

/-- the tests of a comprehension: none or one -/
def Tests (cx : Cx) (d : Nat) (sc : Scope) (loc : Loc) : List Expr → Hp → (Bool → Hp → Prop) → Prop
  | [], H, QB => QB true H
  | [c], H, QB => TV cx d sc loc c H QB
  | _, _, _ => False

/-- what a comprehension does, item by item -/
def CompW (cx : Cx) (d : Nat) (sc scope : Scope) (loc : Loc) (x : Str) (ifs : List Expr) (elt : Expr) (els : List AV) (keep : Hp → Prop) (H : Hp) (Qf : List AV → Hp → Prop) : Prop :=
  ∃ J : Nat → List AV → Hp → Prop, J 0 [] H ∧ (∀ i ys H₂, J i ys H₂ → keep H₂) ∧
    (∀ i w ys H₂, els[i]? = some w → J i ys H₂ → Tests cx d (relab sc scope) (upd (capt scope loc) x w) ifs H₂ fun ok H₃ =>
      if ok = true then EV cx d (relab sc scope) (upd (capt scope loc) x w) elt H₃ fun y H₄ => J (i + 1) (ys ++ [y]) H₄ else J (i + 1) ys H₃) ∧
    ∀ ys H₂, J els.length ys H₂ → Qf ys H₂

theorem upd_upd (loc : Loc) (x : Str) (v w : AV) : upd (upd loc x v) x w = upd loc x w := by
  funext y; unfold upd; split <;> rfl

section
variable {cx : Cx} {d : Nat} {sc scope : Scope} {loc : Loc} {H : Hp} {x : Str} {ifs : List Expr} {elt : Expr}

theorem Rep.cell_off {P : PH} {h : Heap} (R : Rep cx P H h) {c : Addr} {ov : Option Value} (hc : CellG P c ov) : H c = none := by
  obtain ⟨o, ho, hd⟩ := hc
  cases q : H c with
  | none => rfl
  | some ob =>
    have := R.sep c ob o q ho
    subst this
    obtain ⟨O, hO, items, n, rfl, _⟩ := R.obj _ _ R.scr
    rw [R.ext _ _ ho] at hO
    cases hO
    cases hd

theorem comp_frame {env : Env} {P : PH} {h₃ : Heap} (he : EnvOk sc env) (hF : FrameP env loc P) (R : Rep cx P H h₃) (hok : compOk sc scope x = true) :
    let L := h₃.objs.size
    let cells := cellsFrom (L + 1) scope.names (clOf env.cells scope.names [])
    let cenv : Env := { newEnv scope L env.globals cells env.qual none .none (some env) builtinsNs with scope := relabel scope env }
    EnvOk (relab sc scope) cenv ∧ FrameW (· = x) cenv (capt scope loc) P H (pushCells (h₃.push { cls := .type "dict", data := .dict #[] }) scope.names) ∧ storable (relab sc scope) x = true ∧
      closureFor scope env = pure (clOf env.cells scope.names []) ∧ scope.kind = .function ∧ (∀ y ∈ scope.names, y.2 = .local → scope.names.lookup y.1 = some .local) ∧
      (∀ a, fp cenv a → P a = none → h₃.get? a = none) := by
  intro L cells cenv
  simp only [compOk, Bool.and_eq_true, beq_iff_eq, decide_eq_true_eq, Bool.or_eq_true] at hok
  obtain ⟨⟨⟨⟨hkind, hnd⟩, hx⟩, hpx⟩, hall⟩ := hok
  have hfree : ∀ y, (y, NameKind.free) ∈ scope.names → env.kindOf y = some .cell ∨ env.kindOf y = some .free := fun y hy => by
    have := List.all_eq_true.mp hall _ hy
    simp only [bne_self_eq_false, Bool.false_or, Bool.or_eq_true, beq_iff_eq] at this
    unfold Env.kindOf; rw [he.scope]; exact this
  have hgen : ∀ y ∈ scope.names, y.2 = .free → (env.cells.lookup y.1).isSome = true := fun y hy e => he.has y.1 (hfree y.1 (by rw [← e]; exact hy))
  have clm : ∀ y c, (y, c) ∈ clOf env.cells scope.names [] → env.cells.lookup y = some c ∧ (y, NameKind.free) ∈ scope.names := fun y c hm =>
    ⟨(clOf_mem scope.names [] hgen hm).elim (fun h => by cases h) id, (clOf_free scope.names [] hm).elim (fun h => by cases h) id⟩
  have lift : ∀ b o, h₃.get? b = some o → (pushCells (h₃.push { cls := .type "dict", data := .dict #[] }) scope.names).get? b = some o := fun b o e => pushCells_keeps _ _ b o (Heap.get?_push_of_some _ e)
  have hsz : (h₃.push ({ cls := .type "dict", data := .dict #[] } : Obj)).objs.size = L + 1 := Heap.size_push ..
  have wh : ∀ y c, cells.lookup y = some c → (L + 1 ≤ c ∧ (pushCells (h₃.push { cls := .type "dict", data := .dict #[] }) scope.names).IsCell c none ∧ (y, NameKind.cell) ∈ scope.names) ∨
      (env.cells.lookup y = some c ∧ (y, NameKind.free) ∈ scope.names) := fun y c hc => by
    have := cells_where scope.names (h₃.push { cls := .type "dict", data := .dict #[] }) (clOf env.cells scope.names []) (y := y) (c := c) (by rw [hsz]; exact hc)
    rw [hsz] at this
    exact this.imp id fun h => clm y c (mem_of_lookup h.1)
  have shared : ∀ y c, env.cells.lookup y = some c → ∃ ov, CellG P c ov := fun y c hc => hF.cellOk y c hc
  have newNone : ∀ a, L ≤ a → h₃.get? a = none := fun a ha => by
    cases q : h₃.get? a with
    | none => rfl
    | some o => exact absurd (Heap.lt_size q) (Nat.not_lt.mpr ha)
  have slt : ∀ y c, env.cells.lookup y = some c → c < L := fun y c hc => by
    obtain ⟨ov, o, ho, _⟩ := shared y c hc
    exact Heap.lt_size (R.ext c o ho)
  have hlk : ∀ y, (y, NameKind.free) ∈ scope.names → ∃ c, env.cells.lookup y = some c ∧ cells.lookup y = some c := fun y hy => by
    obtain ⟨c₀, hm⟩ := clOf_has (cells := env.cells) scope.names [] (y := y) (.inl hy)
    obtain ⟨c₁, hc₁⟩ := lookup_some_of_mem hm
    obtain ⟨c, hc⟩ := Option.isSome_iff_exists.mp (cells_some scope.names (L + 1) (clOf env.cells scope.names []) (x := y) (.inr (by rw [hc₁]; rfl)))
    rcases wh y c hc with ⟨_, _, h3⟩ | ⟨h1, _⟩
    · cases nodup_kind hnd h3 hy
    · exact ⟨c, h1, hc⟩
  have escope : cenv.scope = relab sc scope := by
    show relabel scope env = relab sc scope
    unfold relabel relab Env.kindOf
    rw [he.scope]
  have hst : storable (relab sc scope) x = true := by
    simp only [storable, Bool.and_eq_true, Bool.or_eq_true, beq_iff_eq]
    exact ⟨hx.imp (relab_own (by simp)) (relab_own (by simp)), hpx⟩
  have kd : ∀ y, cenv.kindOf y = (relab sc scope).names.lookup y := fun y => by unfold Env.kindOf; rw [escope]
  have hasC : ∀ y, cenv.kindOf y = some .cell → (cells.lookup y).isSome = true := fun y hy => by
    rw [kd] at hy
    rcases relab_cell hy with h | h
    · exact cells_some _ _ _ (.inl (nodup_lookup hnd h))
    · obtain ⟨c, _, hc⟩ := hlk y h; rw [hc]; rfl
  have hap : cells.Pairwise fun x y => x.2 ≠ y.2 := by
    refine cells_apart _ _ _ (clOf_apart he.apart scope.names [] hgen hnd (fun _ h => by cases h) (fun _ h => by cases h) .nil) fun z hz => ?_
    obtain ⟨y, c⟩ := z
    exact Nat.lt_succ_of_lt (slt y c (clm y c hz).1)
  have freeMem : ∀ y, scope.names.lookup y = some .free → (y, NameKind.free) ∈ scope.names := fun y h => mem_of_lookup h
  have hR := R.fresh (newNone L (Nat.le_refl _))
  refine ⟨⟨escope, by rw [escope]; exact hkind, he.glob, he.blt, hap, fun y hy => hy.elim (hasC y) fun e => ?_⟩, ⟨⟨⟨fun _ => none, ?_, ?_⟩, ?_, ?_, ?_⟩, hasC, hap, ?_, hR.1, ?_, ?_⟩, hst, closureFor_eq hgen, hkind, fun y hy e => ?_, ?_⟩
  · -- a free name of the frame is free in the scope
    rw [kd] at e
    have : (y, NameKind.free) ∈ scope.names := by
      unfold relab at e
      dsimp only at e
      have hm := mem_of_lookup e
      obtain ⟨⟨n, k⟩, hm', e'⟩ := List.mem_map.mp hm
      simp only at e'
      split at e'
      · cases e'
      · cases e'; exact hm'
    obtain ⟨c, _, hc⟩ := hlk y this
    show (cells.lookup y).isSome = true
    rw [hc]; rfl
  · exact (Heap.Ns.new h₃ (.type "dict")).keeps (pushCells_keeps _ _)
  · intro y v hy hl
    unfold capt at hy
    split at hy
    · rename_i hf
      rw [kd] at hl
      rcases relab_free (sc := sc) hf with e | e <;> (rw [e] at hl; cases hl)
    · cases hy
  · intro y v hy _
    unfold capt at hy
    split at hy
    · rename_i hf
      obtain ⟨c, hc, hc'⟩ := hlk y (freeMem y hf)
      obtain ⟨c₂, V, hc₂, ⟨o, ho, hd⟩, hr⟩ := hF.cells y v hy (hfree y (freeMem y hf))
      rw [hc] at hc₂; cases hc₂
      exact ⟨c, V, hc', ⟨o, lift c o (R.ext c o ho), hd⟩, hr⟩
    · cases hy
  · intro y v hy
    unfold capt at hy
    split at hy
    · rename_i hf
      exact ⟨by rw [kd]; exact .inr (relab_free hf), (hF.dom y v hy).2⟩
    · cases hy
  · intro y c hc
    rcases wh y c hc with ⟨_, h2, _⟩ | ⟨h1, _⟩
    · exact ⟨none, h2⟩
    · obtain ⟨ov, o, ho, hd⟩ := shared y c h1
      exact ⟨ov, o, lift c o (R.ext c o ho), hd⟩
  · intro y c hm e
    rcases cells_ge _ _ _ hm with h | h
    · have := slt y c (clm y c h).1
      rw [e] at this; exact Nat.lt_irrefl _ this
    · rw [e] at h; exact absurd h (Nat.not_succ_le_self _)
  · intro y c hy hc
    have hy' : y = x := hy
    subst hy'
    rcases wh y c hc with ⟨h1, _, _⟩ | ⟨_, h2⟩
    · exact (R.fresh (newNone c (Nat.le_of_succ_le h1))).1
    · exfalso
      rcases hx with e | e
      · cases nodup_kind hnd (mem_of_lookup e) h2
      · cases nodup_kind hnd (mem_of_lookup e) h2
  · intro a ha
    rcases ha with rfl | ⟨y, hc⟩
    · exact hR.2
    · rcases wh y a hc with ⟨h1, _, _⟩ | ⟨h1, _⟩
      · exact (R.fresh (newNone a (Nat.le_of_succ_le h1))).2
      · obtain ⟨ov, hcell⟩ := shared y a h1
        exact R.cell_off hcell
  · exact nodup_lookup hnd (by rw [← e]; exact hy)
  · intro a ha hPa
    rcases ha with rfl | ⟨y, hc⟩
    · exact newNone _ (Nat.le_refl _)
    · rcases wh y a hc with ⟨h1, _, _⟩ | ⟨h1, _⟩
      · exact newNone a (Nat.le_of_succ_le h1)
      · obtain ⟨ov, o, ho, _⟩ := shared y a h1
        rw [hPa] at ho; cases ho
end
end Mine

-- Core7
namespace Mine
open PySem

/-- an object that the heap bears and nobody tracks is taken over -/
theorem Rep.adopt {cx : Cx} {P : PH} {H : Hp} {h : Heap} (R : Rep cx P H h) {a : Addr} {o : AObj} {O : Obj} (hP : P a = none) (hH : H a = none) (hO : h.get? a = some O) (r : OR cx o O) : Rep cx P (H.put a o) h := by
  refine ⟨R.base, R.ext, fun b ob q => ?_, fun b ob Ob q hq => ?_, ?_⟩
  · by_cases hb : b = a
    · subst hb; rw [Hp.put_self] at q; cases q; exact ⟨O, hO, r⟩
    · rw [Hp.put_ne hb] at q; exact R.obj b ob q
  · by_cases hb : b = a
    · subst hb; rw [hP] at hq; cases hq
    · rw [Hp.put_ne hb] at q; exact R.sep b ob Ob q hq
  · have hne : cx.script ≠ a := fun z => by have := R.scr; rw [z, hH] at this; cases this
    rw [Hp.put_ne hne]; exact R.scr

section
variable {cx : Cx} {d : Nat} {sc scope : Scope} {loc : Loc} {H : Hp} {x : Str} {px : Pos} {ifs : List Expr} {elt iter : Expr} {pos : Pos}

theorem Tests.sound {csc : Scope} {cloc : Loc} {ifs : List Expr} {H : Hp} {QB : Bool → Hp → Prop} (h : Tests cx d csc cloc ifs H QB) {W : Str → Prop} {env : Env} {A : Around} {P : PH} {s : Shared} {E : Value → Shared → Prop}
    {Q' : Bool → Shared → Prop} (he : EnvOk csc env) (F : FrameW W env cloc P H s.heap) (hA : Room d A) (R : Rep cx P H s.heap)
    (k : ∀ v H' h' tk, QB v H' → FrameW W env cloc P H' h' → Rep cx P H' h' → Q' v { s with heap := h', toks := tk }) :
    wpAny (model cx.prog cx.w) A (forIn ifs true fun c r => if r = true then do let ok ← isTrue c env (eval c env); pure (ForInStep.yield ok) else pure (ForInStep.yield r)) Q' E s := by
  match ifs, h with
  | [], h => exact wpAny_tests_nil (k true H s.heap s.toks h F R)
  | [c], h => exact wpAny_tests_one (TV.here h he F hA R k)
  | _ :: _ :: _, h => exact h.elim

theorem comp_block {env : Env} {A : Around} {P : PH} {s : Shared} {E : Value → Shared → Prop} {els : List AV} {keep : Hp → Prop} {Qf : List AV → Hp → Prop} {I : Addr} {O : Obj} {St : Nat → Obj → Prop} {RR : Value → Addr → Result → Shared → Prop}
    (he : EnvOk sc env) (hF : FrameP env loc P) (hA : Room d A) (R : Rep cx P H s.heap) (hok : compOk sc scope x = true) (hlen : els.length ≤ 2 ^ 20) (W : ItP cx I els keep St) (hI : s.heap.get? I = some O) (hSt : St 0 O)
    (hPI : P I = none) (hHI : H I = none) (C : CompW cx d sc scope loc x ifs elt els keep H Qf)
    (hRR : ∀ D C h' tk m' ys H' items n, h'.Ns C m' → Rep cx P H' h' → P D = none → P C = none → H' D = none → H' C = none → D ≠ C → s.heap.get? D = none → s.heap.get? C = none →
      h'.get? D = some { cls := .type "list", dict := none, data := .seq items n, slots := #[] } → VRs ys items.toList → Qf ys H' → RR (.ref D) C (.ok .next) { s with heap := h', toks := tk }) :
    wpAny (model cx.prog cx.w) A (newList []) (fun acc s₃ => wpAny (model cx.prog cx.w) A (newFunctionEnv scope env.globals (clOf env.cells scope.names []) [] env.qual none .none (some env)) (fun cenv s₄ =>
      codeAny (model cx.prog cx.w) A (.compStart (.ListComp elt [⟨.Name x px, iter, ifs, 0⟩] scope pos) 0 (.ref I) acc { cenv with scope := relabel scope env }) (RR acc cenv.locals) s₄) E s₃) E s := by
  obtain ⟨J, hJ0, hkeep, turn, fin⟩ := C
  refine wpAny_newObj_type (wpAny_newCompEnv ?_)
  -- the list that is built, the frame
  generalize hD : s.heap.objs.size = D
  generalize hh₃ : s.heap.push { cls := .type "list", dict := none, data := .seq ([] : List Value).toArray } = h₃
  have hDs : s.heap.get? D = none := hD ▸ get_size _
  have fD := R.fresh hDs
  have up₃ : ∀ b o, s.heap.get? b = some o → h₃.get? b = some o := fun b o e => hh₃ ▸ Heap.get?_push_of_some _ e
  have hD₃ : h₃.get? D = some { cls := .type "list", dict := none, data := .seq ([] : List Value).toArray 0, slots := #[] } := by rw [← hh₃, ← hD]; exact Heap.get?_push_size _ rfl
  have R₃ : Rep cx P H h₃ := R.grow up₃
  obtain ⟨eok, F₄, hst, _, _, _, hfree⟩ := comp_frame he hF R₃ hok
  have up₄ : ∀ b o, h₃.get? b = some o → (pushCells (h₃.push { cls := .type "dict", data := .dict #[] }) scope.names).get? b = some o := fun b o e => pushCells_keeps _ _ b o (Heap.get?_push_of_some _ e)
  generalize hh₄ : pushCells (h₃.push { cls := .type "dict", data := .dict #[] }) scope.names = h₄ at F₄ up₄
  show codeAny _ A (.compStart _ 0 (.ref I) (.ref D) { newEnv scope h₃.objs.size env.globals (cellsFrom (h₃.objs.size + 1) scope.names (clOf env.cells scope.names [])) env.qual none .none (some env) builtinsNs with scope := relabel scope env })
    (RR (.ref D) h₃.objs.size) { s with heap := h₄ }
  generalize hcenv : ({ newEnv scope h₃.objs.size env.globals (cellsFrom (h₃.objs.size + 1) scope.names (clOf env.cells scope.names [])) env.qual none .none (some env) builtinsNs with scope := relabel scope env } : Env) = cenv at eok F₄ hfree
  have hL : cenv.locals = h₃.objs.size := by rw [← hcenv]; rfl
  rw [← hL]
  have R₄ : Rep cx P H h₄ := R₃.grow up₄
  have hI₄ : h₄.get? I = some O := up₄ I O (up₃ I O hI)
  have hD₄ := up₄ D _ hD₃
  have hID : I ≠ D := fun z => by rw [z, hDs] at hI; cases hI
  have offI : ¬ fp cenv I := fun z => by have := hfree I z hPI; rw [up₃ I O hI] at this; cases this
  have offD : ¬ fp cenv D := fun z => by have := hfree D z fD.1; rw [hD₃] at this; cases this
  have hCs : s.heap.get? cenv.locals = none := by
    cases q : s.heap.get? cenv.locals with
    | none => rfl
    | some o => have := hfree _ (.inl rfl) F₄.locP; rw [up₃ _ o q] at this; cases this
  have hDC : D ≠ cenv.locals := fun z => offD (.inl z)
  have loop : codeAny (model cx.prog cx.w) A (.compLoop (.ListComp elt [⟨.Name x px, iter, ifs, 0⟩] scope pos) 0 (.ref I) (.ref D) cenv) (RR (.ref D) cenv.locals) { s with heap := h₄ } := by
    refine codeAny_compLoop_tests (fun m s' => ∃ i ys H₂ h₂ tk₂ O₂ items n lc, s' = { s with heap := h₂, toks := tk₂ } ∧ J i ys H₂ ∧ (lc = capt scope loc ∨ ∃ w, lc = upd (capt scope loc) x w) ∧ FrameW (· = x) cenv lc P H₂ h₂ ∧
      Rep cx P H₂ h₂ ∧ h₂.get? I = some O₂ ∧ St i O₂ ∧ H₂ I = none ∧ h₂.get? D = some { cls := .type "list", dict := none, data := .seq items n, slots := #[] } ∧ VRs ys items.toList ∧ H₂ D = none ∧ ys.length ≤ i ∧ i ≤ els.length ∧ m = els.length + 1 - i)
      ?_ (els.length + 1) ⟨0, [], H, h₄, s.toks, O, #[], 0, capt scope loc, rfl, hJ0, .inl rfl, F₄, R₄, hI₄, hSt, hHI, hD₄, trivial, fD.2, Nat.le_refl _, Nat.zero_le _, rfl⟩ (by intro _; rfl)
    rintro m s' ⟨i, ys, H₂, h₂, tk₂, O₂, items, n, lc, rfl, hJ, hlc, F₂, R₂, hI₂, hSt₂, hHI₂, hD₂, hys, hHD₂, hyl, hi, rfl⟩
    cases hel : els[i]? with
    | none =>
      have hil : i = els.length := Nat.le_antisymm hi (by simpa using hel)
      subst hil
      refine W.done A P H₂ _ _ _ O₂ hA.handled (hkeep _ _ _ hJ) R₂ hHI₂ hI₂ hSt₂ fun h₅ tk₅ e₅ => ?_
      obtain ⟨m', hn, _⟩ := F₂.at_.ns
      refine hRR D cenv.locals h₅ tk₅ m' ys H₂ items n (hn.heap.at' fun o e => e₅ _ o (fun z => offI (.inl z.symm)) e) (R₂.ext_to hPI hHI₂ e₅) fD.1 F₄.locP hHD₂ (F₂.offH _ (.inl rfl)) hDC hDs hCs (e₅ D _ (Ne.symm hID) hD₂) hys (fin _ _ hJ)
    | some w =>
      have hlt : i < els.length := (List.getElem?_eq_some_iff.mp hel).1
      refine W.item i w A P H₂ _ _ _ O₂ hel (hkeep _ _ _ hJ) R₂ hHI₂ hI₂ hSt₂ fun V h₅ O₅ tk₅ hV e₅ hI₅ hSt₅ => ?_
      have F₅ : FrameW (· = x) cenv lc P H₂ h₅ := F₂.eq_on (fun a ha o e => (e₅.2 a fun z => offI (z ▸ ha)).trans e) F₂.offH
      have R₅ : Rep cx P H₂ h₅ := R₂.ext_to hPI hHI₂ e₅.extBut
      have hD₅ := (e₅.2 D (Ne.symm hID)).trans hD₂
      -- the iterator and the list are laid aside
      have PD : addP P I O₅ D = none := by unfold addP; rw [if_neg (Ne.symm hID)]; exact fD.1
      have R₅' := (R₅.add hI₅ hPI hHI₂).add hD₅ PD hHD₂
      have F₅' := (F₅.add (O := O₅) offI).add (O := { cls := .type "list", dict := none, data := .seq items n, slots := #[] }) offD
      have hb : ∀ a o, cx.base.get? a = some o → addP P I O₅ a = some o := (R₅.add hI₅ hPI hHI₂).base
      refine wpAny_assign_Name (store_own eok F₅' R₅' hst hV (fun h₆ tk₆ F₆ R₆ => ?_) rfl)
      have elc : upd lc x w = upd (capt scope loc) x w := by
        rcases hlc with rfl | ⟨w', rfl⟩
        · rfl
        · exact upd_upd ..
      rw [elc] at F₆
      refine (turn i w ys H₂ hel hJ).sound eok F₆ hA R₆ fun ok H₇ h₇ tk₇ q₇ F₇ R₇ => ?_
      cases ok with
      | false =>
        simp only [Bool.false_eq_true, if_false] at q₇ ⊢
        obtain ⟨R₈, hD₈, hHD₈⟩ := R₇.drop PD hb
        obtain ⟨R₉, hI₉, hHI₉⟩ := R₈.drop hPI R.base
        exact ⟨els.length + 1 - (i + 1), by omega, i + 1, ys, H₇, h₇, tk₇, O₅, items, n, _, rfl, q₇, .inr ⟨w, rfl⟩, F₇.drop.drop, R₉, hI₉, hSt₅, hHI₉, hD₈, hys, hHD₈, by omega, hlt, rfl⟩
      | true =>
        simp only [if_true] at q₇ ⊢
        refine q₇.here eok F₇ hA R₇ fun y Y H₈ h₈ tk₈ q₈ hY F₈ R₈ => ?_
        obtain ⟨R₉, hD₉, hHD₉⟩ := R₈.drop PD hb
        obtain ⟨R₁₀, hI₁₀, hHI₁₀⟩ := R₉.drop hPI R.base
        have F₁₀ := F₈.drop.drop
        have hz : items.size ≤ sizeLine := by
          have := hys.length
          simp only [Array.length_toList] at this
          show items.size ≤ 2 ^ 24
          omega
        refine wpAny_list_append_plain (items := items) ⟨n, hD₉⟩ (fun h₁₁ hpl e₁₁ => ?_) hz
        obtain ⟨n', hD₁₁⟩ := hpl
        refine ⟨els.length + 1 - (i + 1), by omega, i + 1, ys ++ [y], H₈, h₁₁, tk₈, O₅, items.push Y, n', _, rfl, q₈, .inr ⟨w, rfl⟩, F₁₀.eq_on (fun a ha o e => (e₁₁.2 a fun z => offD (z ▸ ha)).trans e) F₁₀.offH,
          R₁₀.ext_to fD.1 hHD₉ e₁₁.extBut, (e₁₁.2 I hID).trans hI₁₀, hSt₅, hHI₁₀, hD₁₁, ?_, hHD₉, by rw [List.length_append, List.length_singleton]; omega, hlt, rfl⟩
        rw [Array.toList_push]
        exact hys.snoc hY
  exact codeAny_compStart_list loop (W.self 0 A _ _ _ O hI₄ hSt loop)

theorem EV_ListComp {Q : AV → Hp → Prop}
    (h : EV cx d sc loc iter H fun v H₁ => ∃ els keep, Src H₁ v els keep ∧ els.length ≤ 2 ^ 20 ∧ CompW cx d sc scope loc x ifs elt els keep H₁ fun ys H₂ => ∀ a, H₂ a = none → Q (.ref a) (H₂.put a (.list false ys)))
    (hok : compOk sc scope x = true := by rfl) (hs : ∀ env v, foldedSetIterable iter env v = pure v := by intro _ _; rfl) : EV cx d sc loc (.ListComp elt [⟨.Name x px, iter, ifs, 0⟩] scope pos) H Q := by
  intro env A P s E Q' he hF hA R k
  rw [eval_ListComp]
  obtain ⟨_, _, _, hcl, hkd, hnm, _⟩ := comp_frame he hF R hok
  refine wpAny_comprehension_free (use := none) rfl (hs env) hcl hkd hnm (h env A P s E _ he hF hA R fun v V H₁ h₁ tk₁ q hv R₁ => ?_)
  obtain ⟨els, keep, S, hlen, C⟩ := q
  refine iter_of S hv R₁ fun I O St W hI hk hSt eI hfr => ?_
  have f₁ := R₁.fresh hI
  have up : ∀ b o, h₁.get? b = some o → (h₁.push O).get? b = some o := fun b o e => Heap.get?_push_of_some _ e
  refine comp_block (RR := fun acc C => compPost (model cx.prog cx.w) A E none Q' acc C) he hF hA (R₁.grow up) hok hlen W (by show (h₁.push O).get? I = some O; rw [eI]; exact Heap.get?_push_size _ hfr) hSt f₁.1 f₁.2 C ?_
  intro D C' h' tk m' ys H' items n hn R' hPD hPC hHD hHC hDC hDs hCs hD' hys q'
  refine ⟨m', hn, fun h'' e'' => ?_⟩
  have R'' := R'.ext_to hPC hHC e''.extBut
  exact k (.ref D) (.ref D) _ h'' tk (q' D hHD) rfl (R''.adopt hPD hHD ((e''.2 D hDC).trans hD') ⟨items, n, rfl, hys⟩)

theorem EX_AssignComp {Q : AF → Loc → Hp → Prop} {y : Str} {py spos : Pos}
    (h : EV cx d sc loc iter H fun v H₁ => ∃ els keep, Src H₁ v els keep ∧ els.length ≤ 2 ^ 20 ∧ CompW cx d sc scope loc x ifs elt els keep H₁ fun ys H₂ => ∀ a, H₂ a = none → Q .next (upd loc y (.ref a)) (H₂.put a (.list false ys)))
    (hok : compOk sc scope x = true := by rfl) (hy : storable sc y = true := by rfl) (hs : ∀ env v, foldedSetIterable iter env v = pure v := by intro _ _; rfl) :
    EX1 cx d sc loc (.Assign [.Name y py] (.ListComp elt [⟨.Name x px, iter, ifs, 0⟩] scope pos) spos) H Q := by
  intro env A P s E Q' he F hA R k
  obtain ⟨b, hsw⟩ : ∃ b, swapsWith (.ListComp elt [⟨.Name x px, iter, ifs, 0⟩] scope pos) (some (.Name y py)) spos.line env = pure b := ⟨_, rfl⟩
  cases b with
  | false =>
    refine wpAny_Assign_Name (EV.here (EV_ListComp (Q := fun v H' => Q .next (upd loc y v) H') h hok hs) he F hA R fun v V H' h' tk q hv F' R' => ?_) hsw
    exact store_own he F' R' hy hv fun h₂ tk₂ F₂ R₂ => k .next .next _ H' h₂ tk₂ q rfl F₂ R₂
  | true =>
    rw [exec_Assign_Name_used _ _ _ _ hsw]
    have hF := aside_frame F
    have RA := aside_rep F R
    obtain ⟨_, _, _, hcl, hkd, hnm, _⟩ := comp_frame he hF RA hok
    refine wpAny_bind (wpAny_standAt (wpAny_bind ?_))
    show wpAny _ A (do let _ ← comprehension (.ListComp elt [⟨.Name x px, iter, ifs, 0⟩] scope pos) scope env _ (newList []) false (eval iter env) (some (assign (.Name y py) env))) _ _ s
    refine wpAny_bind (wpAny_mono (wpAny_comprehension_free (use := some (assign (.Name y py) env)) (Q := fun _ s' => Q' .next s') rfl (hs env) hcl hkd hnm
      (h env A _ s E _ he hF hA RA fun v V H₁ h₁ tk₁ q hv R₁ => ?_)) (fun _ s' hq => wpAny_pure (wpAny_pure hq)) fun _ _ e => e)
    obtain ⟨els, keep, S, hlen, C⟩ := q
    refine iter_of S hv R₁ fun I O St W hI hk hSt eI hfr => ?_
    have f₁ := R₁.fresh hI
    have up : ∀ b o, h₁.get? b = some o → (h₁.push O).get? b = some o := fun b o e => Heap.get?_push_of_some _ e
    refine comp_block (RR := fun acc C => compPost (model cx.prog cx.w) A E (some (assign (.Name y py) env)) (fun _ s' => Q' .next s') acc C) he hF hA (R₁.grow up) hok hlen W
      (by show (h₁.push O).get? I = some O; rw [eI]; exact Heap.get?_push_size _ hfr) hSt f₁.1 f₁.2 C ?_
    intro D C' h' tk m' ys H' items n hn R' hPD hPC hHD hHC hDC hDs hCs hD' hys q'
    show wpAny _ A (assign (.Name y py) env (.ref D)) _ _ _
    have RD := R'.adopt hPD hHD hD' (o := .list false ys) ⟨items, n, rfl, hys⟩
    obtain ⟨F₂, R₂⟩ := aside_back F R RD
    obtain ⟨oC, es, ep, hoC, hdC, hkC, hfC⟩ := id hn
    have offC : ¬ fp env C' := fun z => by
      obtain ⟨o, ho⟩ := F.live C' z
      have : aside P env s.heap C' = some o := by unfold aside; rw [if_pos z]; exact ho
      rw [hPC] at this; cases this
    have PC : P C' = none := by
      cases qq : P C' with
      | none => rfl
      | some o => have : aside P env s.heap C' = some o := by unfold aside; rw [if_neg offC]; exact qq
                  rw [hPC] at this; cases this
    have HC : (H'.put D (.list false ys)) C' = none := by rw [Hp.put_ne (Ne.symm hDC)]; exact hHC
    refine wpAny_assign_Name (store_own he (F₂.add (O := oC) offC) (R₂.add hoC PC HC) hy (v := .ref D) rfl fun h₃ tk₃ F₃ R₃ => ?_)
    obtain ⟨R₄, hC₄, hHC₄⟩ := R₃.drop PC R.base
    have F₄ := F₃.drop
    refine ⟨m', ⟨oC, es, ep, hC₄, hdC, hkC, hfC⟩, fun h₅ e₅ => ?_⟩
    exact k .next .next _ _ h₅ tk₃ (q' D hHD) rfl (F₄.eq_on (fun a ha o e => (e₅.2 a fun z => offC (z ▸ ha)).trans e) F₄.offH) (R₄.ext_to PC hHC₄ e₅.extBut)
end
end Mine

-- Core8
namespace Mine
open PySem

/-! ## methods of lists -/
section
variable {cx : Cx} {d : Nat} {sc : Scope} {loc : Loc} {H : Hp} {Q : AV → Hp → Prop} {pos : Pos}

theorem EV_Meth {o : Expr} {name : Str} {id : String} {apos : Pos} {args : List Expr} (slot : Slot "list" name id) (hty : typeOf (.builtin id) = pure (.type "method_descriptor"))
    (h : EV cx d sc loc o H fun v H₁ => ∃ a ro vs, v = .ref a ∧ H₁ a = some (.list ro vs) ∧ EVs cx d sc loc args H₁ fun ws H₂ => CW cx d (.builtin id) (.ref a :: ws) H₂ Q)
    (hn : args.all notStar = true := by rfl)
    (he : ∀ env, ∃ pl : Sem Bool, eval (.Call (.Attribute o name apos) args [] pos) env = (do
      let ov ← eval o env
      standAt apos.atName
      let (f, first) ← holding [ov] (getMethod ov name pl)
      callWith pos f first (backTo pos (starEach args env)) []) := by intro _; exact ⟨_, rfl⟩) : EV cx d sc loc (.Call (.Attribute o name apos) args [] pos) H Q := by
  intro env A P s E Q' hE hF hA R k
  obtain ⟨pl, he⟩ := he env
  refine PyProof.Rows.MethodCall_ (pl := pl) (h env A P s E _ hE hF hA R fun v V H₁ h₁ tk₁ q hv R₁ => ?_) he
  obtain ⟨a, ro, vs, rfl, ha, q⟩ := q
  cases hv
  obtain ⟨items, n, hO, hr⟩ := R₁.isList ha
  refine getMethod_builtin (T := "list") ⟨_, hO, rfl⟩ F.plainAttrs_list slot hty (fun b e => by cases e; exact ⟨_, hO, rfl⟩) ?_
  cases args with
  | nil => exact PyProof.Rows.callWith_method0 (q A P _ E Q' [.ref a] hA R₁ ⟨rfl, trivial⟩ fun v V H₂ h₂ tk₂ => k v V H₂ h₂ tk₂)
  | cons e r =>
    have hn1 : notStar e = true := by simp only [List.all_cons, Bool.and_eq_true] at hn; exact hn.1
    have hn2 : r.all notStar = true := by simp only [List.all_cons, Bool.and_eq_true] at hn; exact hn.2
    refine PyProof.Rows.callWith_method1 (EVs.sound q hn hE hF hA R₁ fun ws Ws H₂ h₂ tk₂ q₂ hw R₂ => ?_) (starEach_cons hn1) (backTo_plain hn2)
    exact q₂ A P _ E Q' (.ref a :: Ws) hA R₂ ⟨rfl, hw⟩ fun v V H₃ h₃ tk₃ => k v V H₃ h₃ tk₃

theorem own_list {P : PH} {s : Shared} {a : Addr} {vs : List AV} (R : Rep cx P H s.heap) (ha : H a = some (.list false vs)) :
    ∃ items n, s.heap.get? a = some { cls := .type "list", dict := none, data := .seq items n, slots := #[] } ∧ VRs vs items.toList ∧ P a = none ∧ a ≠ cx.script := by
  obtain ⟨items, n, hO, hr⟩ := R.isList ha
  obtain ⟨h1, h2⟩ := R.own_free ha (by intro _ e; cases e)
  exact ⟨items, n, hO, hr, h1, h2⟩

theorem VRs.size {vs : List AV} {items : Array Value} (h : VRs vs items.toList) : vs.length = items.size := by have := h.length; simpa using this

theorem set_list {P : PH} {s : Shared} {a : Addr} {vs : List AV} {items : Array Value} {n : Nat} {f : Array Value → Array Value} (R : Rep cx P H s.heap) (hO : s.heap.get? a = some { cls := .type "list", dict := none, data := .seq items n, slots := #[] })
    (hP : P a = none) (hs : a ≠ cx.script) (hv : VRs vs (f items).toList) : Rep cx P (H.put a (.list false vs)) (s.heap.update a (Obj.mapSeq f)) :=
  R.put_own hP hs (Heap.SameBut.update ..) (IsL.update hO f) ⟨_, _, rfl, hv⟩

theorem CW_append {a : Addr} {vs : List AV} {v : AV} (ha : H a = some (.list false vs)) (hl : vs.length ≤ 2 ^ 20) (hq : Q .none (H.put a (.list false (vs ++ [v])))) :
    CW cx d (.builtin "list.append") [.ref a, v] H Q := by
  rintro A P s E Q' (_ | ⟨V, _ | ⟨W, _ | ⟨_, _⟩⟩⟩) hA R hr k
  all_goals try exact hr.elim
  all_goals try exact hr.2.elim
  all_goals try exact hr.2.2.elim
  obtain ⟨h1, h2, _⟩ := hr
  cases h1
  obtain ⟨items, n, hO, hv, hP, hs⟩ := own_list R ha
  have hz : items.size ≤ sizeLine := by have := hv.size; show items.size ≤ 2 ^ 24; omega
  refine call_meets F.slot_list_append ⟨_, hO, rfl⟩ F.entry_list_append (F.args_list_append_2 _ _) (list_append a items n W hz) ⟨hO, ?_⟩
  exact k .none .none _ _ _ hq rfl (set_list R hO hP hs (by rw [Array.toList_push]; exact hv.snoc h2))

theorem CW_reverse {a : Addr} {vs : List AV} (ha : H a = some (.list false vs)) (hl : vs.length ≤ 2 ^ 20) (hq : Q .none (H.put a (.list false vs.reverse))) :
    CW cx d (.builtin "list.reverse") [.ref a] H Q := by
  rintro A P s E Q' (_ | ⟨V, _ | ⟨_, _⟩⟩) hA R hr k
  all_goals try exact hr.elim
  all_goals try exact hr.2.elim
  cases hr.1
  obtain ⟨items, n, hO, hv, hP, hs⟩ := own_list R ha
  have hz : items.size ≤ sizeLine := by have := hv.size; show items.size ≤ 2 ^ 24; omega
  refine call_meets F.slot_list_reverse ⟨_, hO, rfl⟩ F.entry_list_reverse (F.args_list_reverse_1 _) (AutoSeq1.list_reverse_list_0 a items n hz) ⟨hO, ?_⟩
  exact k .none .none _ _ _ hq rfl (set_list R hO hP hs (by rw [Array.toList_reverse]; exact hv.reverse))

theorem CW_clear {a : Addr} {vs : List AV} (ha : H a = some (.list false vs)) (hl : vs.length ≤ 2 ^ 20) (hq : Q .none (H.put a (.list false []))) :
    CW cx d (.builtin "list.clear") [.ref a] H Q := by
  rintro A P s E Q' (_ | ⟨V, _ | ⟨_, _⟩⟩) hA R hr k
  all_goals try exact hr.elim
  all_goals try exact hr.2.elim
  cases hr.1
  obtain ⟨items, n, hO, hv, hP, hs⟩ := own_list R ha
  have hz : items.size ≤ sizeLine := by have := hv.size; show items.size ≤ 2 ^ 24; omega
  refine call_meets F.slot_list_clear ⟨_, hO, rfl⟩ F.entry_list_clear (F.args_list_clear_1 _) (AutoSeq1.list_clear_list_0 a items n hz) ⟨hO, ?_⟩
  exact k .none .none _ _ _ hq rfl (set_list R hO hP hs trivial)

theorem CW_pop {a : Addr} {vs : List AV} {i : Int} {v : AV} (ha : H a = some (.list false vs)) (hl : vs.length ≤ 2 ^ 20) (h0 : 0 ≤ i) (hv : vs[i.toNat]? = some v) (hq : Q v (H.put a (.list false (vs.eraseIdx i.toNat)))) :
    CW cx d (.builtin "list.pop") [.ref a, .int i] H Q := by
  rintro A P s E Q' (_ | ⟨V, _ | ⟨W, _ | ⟨_, _⟩⟩⟩) hA R hr k
  all_goals try exact hr.elim
  all_goals try exact hr.2.elim
  all_goals try exact hr.2.2.elim
  obtain ⟨h1, ⟨t, rfl⟩, _⟩ := hr
  cases h1
  obtain ⟨items, n, hO, hr, hP, hs⟩ := own_list R ha
  have hsz := hr.size
  have hz : items.size ≤ sizeLine := by show items.size ≤ 2 ^ 24; omega
  obtain ⟨Y, hY, hy⟩ := hr.get hv
  have hlt : i.toNat < items.size := by
    rcases Nat.lt_or_ge i.toNat items.size with h | h
    · exact h
    · rw [List.getElem?_eq_none (by rw [Array.length_toList]; exact h)] at hY; cases hY
  refine call_meets F.slot_list_pop ⟨_, hO, rfl⟩ F.entry_list_pop (F.args_list_pop_2 _ _) (MeetsSeq.list_pop_at a items n i t i.toNat Y (fitsIndex_of h0 (by omega)) (seqIndex_of h0 (by omega)) (by simpa using hY) hz) ⟨hO, ?_⟩
  refine k v Y _ _ _ hq hy (set_list R hO hP hs ?_)
  rw [Array.eraseIdxIfInBounds, dif_pos hlt, Array.toList_eraseIdx]
  exact hr.eraseIdx _

theorem CW_extend {a b : Addr} {vs ws : List AV} {ro : Bool} (ha : H a = some (.list false vs)) (hb : H b = some (.list ro ws)) (hl : vs.length ≤ 2 ^ 20) (hl' : ws.length ≤ 2 ^ 20) (hq : Q .none (H.put a (.list false (vs ++ ws)))) :
    CW cx d (.builtin "list.extend") [.ref a, .ref b] H Q := by
  rintro A P s E Q' (_ | ⟨V, _ | ⟨W, _ | ⟨_, _⟩⟩⟩) hA R hr k
  all_goals try exact hr.elim
  all_goals try exact hr.2.elim
  all_goals try exact hr.2.2.elim
  obtain ⟨h1, h2, _⟩ := hr
  cases h1; cases h2
  obtain ⟨items, n, hO, hv, hP, hs⟩ := own_list R ha
  obtain ⟨items2, n2, hO2, hv2⟩ := R.isList hb
  have hz := hv.size
  have hz2 := hv2.size
  refine call_meets F.slot_list_extend ⟨_, hO, rfl⟩ F.entry_list_extend (F.args_list_extend_2 _ _) (AutoSeq1.list_extend_list_list_0 a items n b items2 n2 ?_ (by show items.size ≤ 2 ^ 24; omega) (by show items.size + items2.size ≤ 2 ^ 24 + 1; omega)) ⟨hO, hO2, ?_⟩
  · intro hh
    simp only [Bool.and_eq_true] at hh
    have := hh.2
    unfold Builtin.List.listTooLong at this
    simp [sizeLine] at this
    omega
  · exact k .none .none _ _ _ hq rfl (set_list R hO hP hs (by rw [Array.toList_append]; exact hv.append hv2))
end
end Mine

-- Core9
namespace Mine
open PySem

section
variable {cx : Cx} {d : Nat} {sc : Scope} {loc : Loc} {H : Hp} {Q : AV → Hp → Prop} {pos : Pos}

/-! ## built-in names, calls of built-in types -/
theorem EV_BType {x : Str} {T : String} (hf : IsBuiltin cx x (.type T)) (hq : Q (.ty T) H) (hx : globalName sc x = true := by rfl) : EV cx d sc loc (.Name x pos) H Q :=
  fun _ _ _ s _ _ he _ _ R k => load_builtin he R hx hf.g hf.n hf.b (k (.ty T) (.type T) H s.heap s.toks hq rfl R)

theorem EV_CallT {f : Str} {T : String} {e : Expr} {r : List Expr} {p pos : Pos} (hf : IsBuiltin cx f (.type T))
    (h : EVs cx d sc loc (e :: r) H fun vs H' => CW cx d (.type T) vs H' Q) (hx : globalName sc f = true := by rfl) (hn : (e :: r).all notStar = true := by rfl) :
    EV cx d sc loc (.Call (.Name f p) (e :: r) [] pos) H Q := by
  intro env A P s E Q' he hF hA R k
  rw [eval_Call_Name]
  refine wpAny_bind (load_builtin he R hx hf.g hf.n hf.b (callWith_type (backTo_plain hn) ?_))
  have hn1 : notStar e = true := by simp only [List.all_cons, Bool.and_eq_true] at hn; exact hn.1
  have hs := EVs.sound (env := env) (A := A) (P := P) (s := s) (E := E) (pos := pos) h hn he hF hA R (Q' := fun vs s₁ => wpAny (model cx.prog cx.w) A (call (.type T) vs) Q' E s₁)
    (fun vs Vs H' h' tk q hvs R' => q A P _ E Q' Vs hA R' hvs fun v V H₂ h₂ tk₂ => k v V H₂ h₂ tk₂)
  rw [starEach_cons hn1] at hs ⊢
  exact Calls.evalArgs_plain hs

theorem vrs1 {a : AV} {vs : List Value} (h : VRs [a] vs) : ∃ V, vs = [V] ∧ VR a V := by
  match vs, h with
  | [V], h => exact ⟨V, rfl, h.1⟩
  | [], h => exact h.elim
  | _ :: _ :: _, h => exact h.2.elim
theorem vrs2 {a b : AV} {vs : List Value} (h : VRs [a, b] vs) : ∃ V W, vs = [V, W] ∧ VR a V ∧ VR b W := by
  match vs, h with
  | V :: vs, h => obtain ⟨W, rfl, h2⟩ := vrs1 h.2; exact ⟨V, W, rfl, h.1, h2⟩
  | [], h => exact h.elim

theorem CW_len {a : Addr} {ro : Bool} {vs : List AV} (ha : H a = some (.list ro vs)) (hl : vs.length ≤ 2 ^ 20) (hq : Q (.int vs.length) H) : CW cx d (.builtin "len") [.ref a] H Q := by
  intro A P s E Q' us hA R hr k
  obtain ⟨V, rfl, hv⟩ := vrs1 hr
  cases hv
  obtain ⟨items, n, hO, hr⟩ := R.isList ha
  have hz := hr.size
  refine Calls.call_len_list ⟨_, hO, rfl, n, rfl⟩ (by omega) ?_
  rw [← hz]
  exact k _ _ H s.heap _ hq ⟨_, rfl⟩ R

theorem CW_isinst_list {a : Addr} {ro : Bool} {vs : List AV} (ha : H a = some (.list ro vs)) (hq : Q (.bool true) H) : CW cx d (.builtin "isinstance") [.ref a, .ty "list"] H Q := by
  intro A P s E Q' us hA R hr k
  obtain ⟨V, W, rfl, hv, hw⟩ := vrs2 hr
  cases hv; cases hw
  obtain ⟨items, n, hO, _⟩ := R.isList ha
  exact IsiPair.list_list hO rfl (k _ _ H s.heap s.toks hq rfl R)
theorem CW_isinst_int_int {i : Int} (hq : Q (.bool true) H) : CW cx d (.builtin "isinstance") [.int i, .ty "int"] H Q := by
  intro A P s E Q' us hA R hr k
  obtain ⟨V, W, rfl, ⟨t, rfl⟩, hw⟩ := vrs2 hr
  cases hw
  exact IsiPair.int_int (k _ _ H s.heap s.toks hq rfl R)
theorem CW_isinst_int_bool {i : Int} (hq : Q (.bool false) H) : CW cx d (.builtin "isinstance") [.int i, .ty "bool"] H Q := by
  intro A P s E Q' us hA R hr k
  obtain ⟨V, W, rfl, ⟨t, rfl⟩, hw⟩ := vrs2 hr
  cases hw
  exact IsiPair.int_bool (k _ _ H s.heap _ hq rfl R)
theorem CW_isinst_bool_bool {b : Bool} (hq : Q (.bool true) H) : CW cx d (.builtin "isinstance") [.bool b, .ty "bool"] H Q := by
  intro A P s E Q' us hA R hr k
  obtain ⟨V, W, rfl, hv, hw⟩ := vrs2 hr
  cases hv; cases hw
  exact IsiPair.bool_bool (k _ _ H s.heap s.toks hq rfl R)

/-- list(xs) of a list -/
theorem CW_list_copy {a : Addr} {ro : Bool} {vs : List AV} (ha : H a = some (.list ro vs)) (hl : vs.length ≤ 2 ^ 20) (hq : ∀ b, H b = none → Q (.ref b) (H.put b (.list false vs))) : CW cx d (.type "list") [.ref a] H Q := by
  intro A P s E Q' us hA R hr k
  obtain ⟨V, rfl, hv⟩ := vrs1 hr
  cases hv
  obtain ⟨items, n, hO, hr⟩ := R.isList ha
  have hz := hr.size
  refine call_list_seq a (.inl rfl) hO rfl rfl (fun h' c' up hD => ?_) (by show items.size ≤ 2 ^ 24; omega)
  exact k _ _ _ h' s.toks (hq _ (R.fresh (get_size _)).2) rfl (R.put_new (get_size _) up hD ⟨items, c', rfl, hr⟩)

theorem CW_range1 {n : Int} (hq : ∀ b, H b = none → Q (.ref b) (H.put b (.range 0 n))) : CW cx d (.type "range") [.int n] H Q := by
  intro A P s E Q' us hA R hr k
  obtain ⟨V, rfl, ⟨t, rfl⟩⟩ := vrs1 hr
  exact call_range_1 (k _ _ _ _ _ (hq _ (R.fresh (get_size _)).2) rfl (R.push (o := .range 0 n) ⟨_, _, _, rfl⟩ rfl))
theorem CW_range2 {a n : Int} (hq : ∀ b, H b = none → Q (.ref b) (H.put b (.range a n))) : CW cx d (.type "range") [.int a, .int n] H Q := by
  intro A P s E Q' us hA R hr k
  obtain ⟨V, W, rfl, ⟨t, rfl⟩, ⟨u, rfl⟩⟩ := vrs2 hr
  exact call_range_2 (k _ _ _ _ _ (hq _ (R.fresh (get_size _)).2) rfl (R.push (o := .range a n) ⟨_, _, _, rfl⟩ rfl))

theorem vrs_of_get : ∀ {as : List AV} {vs : List Value}, as.length = vs.length → (∀ (j : Nat) (a : AV) (v : Value), as[j]? = some a → vs[j]? = some v → VR a v) → VRs as vs
  | [], [], _, _ => trivial
  | a :: as, v :: vs, hl, h => ⟨h 0 a v rfl rfl, vrs_of_get (by simpa using hl) fun j a v ha hv => h (j + 1) a v (by simpa using ha) (by simpa using hv)⟩
  | [], _ :: _, hl, _ => by simp at hl
  | _ :: _, [], hl, _ => by simp at hl
theorem items_span {lo : Int} {n : Nat} {acc : Array Value} (h : ItemsOf (fun i v => ∃ t, v = Value.int (lo + i * 1) t) acc n) : VRs ((List.range n).map fun (i : Nat) => AV.int (lo + i)) acc.toList := by
  obtain ⟨h1, h2⟩ := h
  refine vrs_of_get (by simp [h1]) fun j a v ha hv => ?_
  have hj : j < n := by
    rcases Nat.lt_or_ge j n with h | h
    · exact h
    · rw [List.getElem?_eq_none (by simpa using h)] at ha; cases ha
  obtain ⟨t, rfl⟩ := h2 j v (by simpa using hv)
  simp [hj] at ha
  subst ha
  exact ⟨t, by rw [Int.mul_one]⟩

/-- list(range(..)) -/
theorem CW_list_range {a : Addr} {lo hi : Int} (ha : H a = some (.range lo hi)) (h1 : -2 ^ 20 ≤ lo) (h2 : lo ≤ 2 ^ 20) (h3 : hi ≤ 2 ^ 20) (h4 : -2 ^ 20 ≤ hi) (hq : ∀ b, H b = none → Q (.ref b) (H.put b (.list false (spanZ lo hi)))) :
    CW cx d (.type "list") [.ref a] H Q := by
  intro A P s E Q' us hA R hr k
  obtain ⟨V, rfl, hv⟩ := vrs1 hr
  cases hv
  obtain ⟨O, hO, t, u, v, rfl⟩ := R.obj a _ ha
  have hsm : Builtin.Range.small lo hi 1 = true := by
    unfold Builtin.Range.small
    rw [rangeSize_one]
    simp [Builtin.Range.rangeFitsLong]
    omega
  refine call_list_range hA.handled hO hsm (rangeSize_one lo hi) (by omega) fun h' tk acc' c' up hD hit => ?_
  exact k _ _ _ h' tk (hq _ (R.fresh (get_size _)).2) rfl (R.put_new (get_size _) up hD ⟨acc', c', rfl, items_span hit⟩)

theorem Op_addList {a b : Addr} {ro ro' : Bool} {vs ws : List AV} (ha : H a = some (.list ro vs)) (hb : H b = some (.list ro' ws)) (h1 : vs.length ≤ 2 ^ 20) (h2 : ws.length ≤ 2 ^ 20)
    (hq : ∀ c, H c = none → Q (.ref c) (H.put c (.list false (vs ++ ws)))) : OpW cx d (binaryOp .Add) (.ref a) (.ref b) H Q := by
  intro A P s E Q' V W hA R hv hw k
  cases hv; cases hw
  obtain ⟨i1, n1, hO1, hr1⟩ := R.isList ha
  obtain ⟨i2, n2, hO2, hr2⟩ := R.isList hb
  have z1 := hr1.size
  have z2 := hr2.size
  refine PySem.P.add_list hO1 hO2 ?_ (by show i1.size + i2.size ≤ 2 ^ 24; omega)
  exact k _ _ _ _ s.toks (hq _ (R.fresh (get_size _)).2) rfl (R.push (o := .list false (vs ++ ws)) ⟨_, _, rfl, by rw [Array.toList_append]; exact hr1.append hr2⟩ rfl)

/-! ## comparison of data -/
mutual
def Is (H : Hp) : AV → PyData → Prop
  | v, .none => v = .none
  | v, .bool b => v = .bool b
  | v, .int i => v = .int i
  | v, .str x => v = .str x
  | v, .list ds => ∃ a ro vs, v = .ref a ∧ H a = some (.list ro vs) ∧ Iss H vs ds
  | v, .tuple ds => ∃ a vs, v = .ref a ∧ H a = some (.tuple vs) ∧ Iss H vs ds
  | _, .dict _ => False
def Iss (H : Hp) : List AV → List PyData → Prop
  | [], [] => True
  | v :: vs, d :: ds => Is H v d ∧ Iss H vs ds
  | _, _ => False
end

mutual
theorem Is.reads {P : PH} {h : Heap} (R : Rep cx P H h) : ∀ (d : PyData) (v : AV) (V : Value), Is H v d → VR v V → ∃ as, Reads h V d as
  | .none, v, V, hi, hv => by rw [Is] at hi; subst hi; cases hv; exact ⟨_, .none⟩
  | .bool b, v, V, hi, hv => by rw [Is] at hi; subst hi; cases hv; exact ⟨_, .bool b⟩
  | .int i, v, V, hi, hv => by rw [Is] at hi; subst hi; obtain ⟨t, rfl⟩ := hv; exact ⟨_, .int i t⟩
  | .str x, v, V, hi, hv => by rw [Is] at hi; subst hi; obtain ⟨t, rfl⟩ := hv; exact ⟨_, .str x t⟩
  | .list ds, v, V, hi, hv => by
    rw [Is] at hi
    obtain ⟨a, ro, vs, rfl, ha, hs⟩ := hi
    cases hv
    obtain ⟨items, n, hO, hr⟩ := R.isList ha
    obtain ⟨as, q⟩ := Iss.reads R ds vs items.toList hs hr
    exact ⟨_, .list hO rfl rfl q⟩
  | .tuple ds, v, V, hi, hv => by
    rw [Is] at hi
    obtain ⟨a, vs, rfl, ha, hs⟩ := hi
    cases hv
    obtain ⟨O, hO, items, n, rfl, hr⟩ := R.obj a _ ha
    obtain ⟨as, q⟩ := Iss.reads R ds vs items.toList hs hr
    exact ⟨_, .tuple hO rfl rfl q⟩
  | .dict _, v, V, hi, _ => by rw [Is] at hi; exact hi.elim
theorem Iss.reads {P : PH} {h : Heap} (R : Rep cx P H h) : ∀ (ds : List PyData) (vs : List AV) (Vs : List Value), Iss H vs ds → VRs vs Vs → ∃ as, ReadsAll h Vs ds as
  | [], [], [], _, _ => ⟨_, .nil⟩
  | d :: ds, v :: vs, V :: Vs, hi, hv => by
    rw [Iss] at hi
    obtain ⟨as, q⟩ := Is.reads R d v V hi.1 hv.1
    obtain ⟨bs, p⟩ := Iss.reads R ds vs Vs hi.2 hv.2
    exact ⟨_, .cons q p⟩
  | [], [], _ :: _, _, h => h.elim
  | _ :: _, _ :: _, [], _, h => h.elim
  | [], _ :: _, _, h, _ => by rw [Iss] at h; exact h.elim; all_goals intros; simp_all
  | _ :: _, [], _, h, _ => by rw [Iss] at h; exact h.elim; all_goals intros; simp_all
end

theorem Op_eqD {v w : AV} {x y : PyData} (hv : Is H v x) (hw : Is H w y) (hx : x.canLay0 = true) (hy : y.canLay0 = true) (hd : min x.depth y.depth ≤ 8) (hq : Q (.bool (PyData.eqv x y)) H) :
    OpW cx (d + 1) (compareOp .Eq) v w H Q := by
  intro A P s E Q' V W hA R h1 h2 k
  obtain ⟨as, ra⟩ := hv.reads R x v V h1
  obtain ⟨bs, rb⟩ := hw.reads R y w W h2
  exact SeqAt.compareEq_reads ra rb hx hy (by have := hA.units; omega) (k _ _ H s.heap s.toks hq rfl R)
theorem Op_neD {v w : AV} {x y : PyData} (hv : Is H v x) (hw : Is H w y) (hx : x.canLay0 = true) (hy : y.canLay0 = true) (hd : min x.depth y.depth ≤ 8) (hq : Q (.bool (!PyData.eqv x y)) H) :
    OpW cx (d + 1) (compareOp .NotEq) v w H Q := by
  intro A P s E Q' V W hA R h1 h2 k
  obtain ⟨as, ra⟩ := hv.reads R x v V h1
  obtain ⟨bs, rb⟩ := hw.reads R y w W h2
  exact SeqAt.compareNe_reads ra rb hx hy (by have := hA.units; omega) (k _ _ H s.heap s.toks hq rfl R)

/-! int in a list of nums -/
theorem in_ints {ns : List Int} {items : Array Value} {i : Int} (h : VRs (ns.map .int) items.toList) :
    (∀ y ∈ items, ∃ b t, y = Value.int b t) ∧ items.any (fun y => match y with | .int b _ => b == i | _ => false) = decide (i ∈ ns) := by
  have key : ∀ (ns : List Int) (l : List Value), VRs (ns.map .int) l → (∀ y ∈ l, ∃ b t, y = Value.int b t) ∧ l.any (fun y => match y with | .int b _ => b == i | _ => false) = decide (i ∈ ns) := by
    intro ns
    induction ns with
    | nil => intro l hl; match l, hl with | [], _ => exact ⟨by simp, by simp⟩ | _ :: _, hl => exact hl.elim
    | cons a r ih =>
      intro l hl
      match l, hl with
      | [], hl => exact hl.elim
      | V :: l, hl =>
        obtain ⟨⟨t, rfl⟩, hl⟩ := hl
        obtain ⟨h1, h2⟩ := ih l hl
        refine ⟨fun y hy => ?_, ?_⟩
        · rcases List.mem_cons.mp hy with rfl | hy
          · exact ⟨a, t, rfl⟩
          · exact h1 y hy
        · rw [List.any_cons, h2]
          simp only [List.mem_cons]
          by_cases e : a = i
          · subst e; simp
          · have e' : ¬ i = a := fun z => e z.symm
            have : (a == i) = false := by simpa using e
            simp [this, e']
  have := key ns items.toList h
  exact ⟨fun y hy => this.1 y (by simpa using hy), by rw [← Array.any_toList]; exact this.2⟩

theorem Op_in {a : Addr} {ro : Bool} {ns : List Int} {i : Int} (ha : H a = some (.list ro (ns.map .int))) (hq : Q (.bool (decide (i ∈ ns))) H) : OpW cx d (compareOp .In) (.int i) (.ref a) H Q := by
  intro A P s E Q' V W hA R hv hw k
  obtain ⟨t, rfl⟩ := hv
  cases hw
  obtain ⟨items, n, hO, hr⟩ := R.isList ha
  obtain ⟨h1, h2⟩ := in_ints (i := i) hr
  refine SeqAt.in_listAt (fun y => match y with | .int b _ => b == i | _ => false) ⟨_, hO, rfl, n, rfl⟩ (fun y hy => ?_) ?_
  · obtain ⟨b, u, rfl⟩ := h1 y hy; exact SeqAt.EqAt.int_int b u i t
  · rw [h2]; exact k _ _ H s.heap s.toks hq rfl R
theorem Op_notIn {a : Addr} {ro : Bool} {ns : List Int} {i : Int} (ha : H a = some (.list ro (ns.map .int))) (hq : Q (.bool (decide (i ∉ ns))) H) : OpW cx d (compareOp .NotIn) (.int i) (.ref a) H Q := by
  intro A P s E Q' V W hA R hv hw k
  obtain ⟨t, rfl⟩ := hv
  cases hw
  obtain ⟨items, n, hO, hr⟩ := R.isList ha
  obtain ⟨h1, h2⟩ := in_ints (i := i) hr
  refine SeqAt.notIn_listAt (fun y => match y with | .int b _ => b == i | _ => false) ⟨_, hO, rfl, n, rfl⟩ (fun y hy => ?_) ?_
  · obtain ⟨b, u, rfl⟩ := h1 y hy; exact SeqAt.EqAt.int_int b u i t
  · rw [h2]; exact k _ _ H s.heap s.toks hq (by simp [VR]) R

/-! ## subscripts -/
def GetW (cx : Cx) (d : Nat) (o i : AV) (H : Hp) (Q : AV → Hp → Prop) : Prop :=
  ∀ (A : Around) (P : PH) (s : Shared) (E : Value → Shared → Prop) (Q' : Value → Shared → Prop) (V W : Value), Room d A → Rep cx P H s.heap → VR o V → VR i W →
    (∀ v V H' h' tk, Q v H' → VR v V → Rep cx P H' h' → Q' V { s with heap := h', toks := tk }) →
    (∃ T id, s.TypeIs V T ∧ typeLookup (.type T) "__getitem__" = pure (some (.builtin id))) ∧ wpAny (model cx.prog cx.w) A (getItem V W) Q' E s

theorem EV_Sub {value slice : Expr} (h : EV cx d sc loc value H fun o H₁ => EV cx d sc loc slice H₁ fun i H₂ => GetW cx d o i H₂ Q)
    (hs : ∀ o i, subscripted slice false o i = operate [o, i] (getItem o i) := by intro _ _; rfl) : EV cx d sc loc (.Subscript value slice pos) H Q := by
  intro env A P s E Q' he hF hA R k
  refine PyProof.Rows.Subscript_ (h env A P s E _ he hF hA R fun o V H₁ h₁ tk₁ q₁ ho R₁ => ?_)
  refine q₁ env A P _ E _ he hF hA R₁ fun i W H₂ h₂ tk₂ q₂ hi R₂ => ?_
  obtain ⟨⟨T, id, hT, hl⟩, hg⟩ := q₂ A P { s with heap := h₂, toks := tk₂ } E Q' V W hA R₂ ho hi fun v V H₃ h₃ tk₃ => k v V H₃ h₃ tk₃
  exact PyProof.Rows.tail_any hT hl hg (hs V W)

theorem Get_list {a : Addr} {ro : Bool} {vs : List AV} {i : Int} {v : AV} (ha : H a = some (.list ro vs)) (h0 : 0 ≤ i) (hl : vs.length ≤ 2 ^ 20) (hv : vs[i.toNat]? = some v) (hq : Q v H) : GetW cx d (.ref a) (.int i) H Q := by
  intro A P s E Q' V W hA R ho hi k
  cases ho
  obtain ⟨t, rfl⟩ := hi
  obtain ⟨items, n, hO, hr⟩ := R.isList ha
  obtain ⟨X, hX, hx⟩ := hr.get hv
  have hlt : i.toNat < vs.length := (List.getElem?_eq_some_iff.mp hv).1
  refine ⟨⟨"list", _, ⟨_, hO, rfl⟩, list_getitem_lookup⟩, ?_⟩
  exact wpAny_getItem_list ⟨_, hO, rfl, n, rfl⟩ h0 (by omega) (by simpa using hX) (k v X H s.heap s.toks hq hx R)
end
end Mine

-- Core10
namespace Mine
open PySem

/-! ## slices -/
def bnd (n dflt : Nat) : Option Int → Nat
  | none => dflt
  | some i => (max 0 (min (if i < 0 then i + n else i) n)).toNat
def pySlice {α : Type} (vs : List α) (lo hi : Option Int) : List α := (vs.drop (bnd vs.length 0 lo)).take (bnd vs.length vs.length hi - bnd vs.length 0 lo)

theorem bnd_le (n : Nat) (dflt : Nat) (hd : dflt ≤ n) (o : Option Int) : bnd n dflt o ≤ n := by
  cases o with
  | none => exact hd
  | some i => simp only [bnd]; omega

theorem slicePick_eq (items : Array Value) (lo hi : Option Int) : slicePick items lo hi none = (pySlice items.toList lo hi).toArray := by
  unfold slicePick pySlice
  have e1 : (sliceBounds lo hi none items.size).1 = ((bnd items.size 0 lo : Nat) : Int) := by
    cases lo with
    | none => simp [sliceBounds, bnd]
    | some i => simp only [sliceBounds, bnd, Option.getD_none]; simp
  have e2 : (sliceBounds lo hi none items.size).2.1 = ((bnd items.size items.size hi : Nat) : Int) := by
    cases hi with
    | none => simp [sliceBounds, bnd]
    | some i => simp only [sliceBounds, bnd, Option.getD_none]; simp
  have e3 : (sliceBounds lo hi none items.size).2.2 = 1 := rfl
  rw [e1, e2, e3, sliceRange_one, pick_run, Array.length_toList]

theorem VRs.slice {as : List AV} {vs : List Value} (lo hi : Option Int) (h : VRs as vs) : VRs (pySlice as lo hi) (pySlice vs lo hi) := by
  unfold pySlice
  rw [h.length]
  exact (h.drop _).take _

theorem pySlice_length {α : Type} (vs : List α) (lo hi : Option Int) : (pySlice vs lo hi).length ≤ vs.length := by
  unfold pySlice
  rw [List.length_take, List.length_drop]
  omega

def EVo (cx : Cx) (d : Nat) (sc : Scope) (loc : Loc) : Option Expr → Hp → (Option Int → Hp → Prop) → Prop
  | none, H, Q => Q none H
  | some e, H, Q => EV cx d sc loc e H fun v H' => ∃ k, v = .int k ∧ Q (some k) H'

section
variable {cx : Cx} {d : Nat} {sc : Scope} {loc : Loc} {H : Hp} {Q : AV → Hp → Prop} {pos : Pos}

theorem EVo.sound {o : Option Expr} {Qo : Option Int → Hp → Prop} (h : EVo cx d sc loc o H Qo) {env : Env} {A : Around} {P : PH} {s : Shared} {E : Value → Shared → Prop} {Q' : Value → Shared → Prop}
    (he : EnvOk sc env) (hF : FrameP env loc P) (hA : Room d A) (R : Rep cx P H s.heap)
    (k : ∀ x V H' h' tk, Qo x H' → IsPart V x → Rep cx P H' h' → Q' V { s with heap := h', toks := tk }) : wpAny (model cx.prog cx.w) A (evalPart o env) Q' E s := by
  cases o with
  | none => rw [evalPart_none]; exact wpAny_pure (k none .none H s.heap s.toks h .none R)
  | some e =>
    rw [evalPart_some]
    refine h env A P s E Q' he hF hA R fun v V H' h' tk q hv R' => ?_
    obtain ⟨i, rfl, q⟩ := q
    obtain ⟨t, rfl⟩ := hv
    exact k (some i) _ H' h' tk q (.int i t) R'

theorem EV_Slice {value : Expr} {lower upper : Option Expr} {p : Pos}
    (h : EV cx d sc loc value H fun o H₁ => EVo cx d sc loc lower H₁ fun lo H₂ => EVo cx d sc loc upper H₂ fun hi H₃ =>
      ∃ a ro vs, o = .ref a ∧ H₃ a = some (.list ro vs) ∧ vs.length ≤ 2 ^ 20 ∧ ∀ b, H₃ b = none → Q (.ref b) (H₃.put b (.list false (pySlice vs lo hi)))) :
    EV cx d sc loc (.Subscript value (.Slice lower upper none p) pos) H Q := by
  intro env A P s E Q' he hF hA R k
  refine PyProof.Rows.Subscript_ (h env A P s E _ he hF hA R fun o V H₁ h₁ tk₁ q₁ ho R₁ => ?_)
  refine wpAny_Slice (EVo.sound q₁ he hF hA R₁ fun lo VL H₂ h₂ tk₂ q₂ hlo R₂ => EVo.sound q₂ he hF hA R₂ fun hi VU H₃ h₃ tk₃ q₃ hhi R₃ => ?_)
  obtain ⟨a, ro, vs, rfl, ha, hl, q⟩ := q₃
  cases ho
  rw [evalPart_none]
  refine wpAny_pure ?_
  obtain ⟨items, n, hO, hr⟩ := R₃.isList ha
  have hz := hr.size
  have hl3 : h₃.IsList a items := ⟨_, hO, rfl, n, rfl⟩
  refine PyProof.Rows.tail_any (T := "list") (ops := [_, _]) (hl3.push _).typeIs list_getitem_lookup (wpAny_getItem_list_slice (hl3.push _) (Heap.IsSliceOf.new ..) hlo hhi .none (by simp) ?_ (by show items.size ≤ 2 ^ 24; omega)) rfl
  have R₄ : Rep cx P H₃ (h₃.push { cls := .type "slice", data := .fields #[VL, VU, .none] }) := R₃.grow fun b o e => Heap.get?_push_of_some _ e
  have hf := (R₄.fresh (get_size _)).2
  exact k _ _ _ _ tk₃ (q _ hf) rfl (R₄.push (o := .list false (pySlice vs lo hi)) ⟨_, _, rfl, by rw [slicePick_eq]; exact hr.slice lo hi⟩ rfl)

/-! ## all, any over a list of bools -/
theorem vrs_bools {bs : List Bool} {items : Array Value} (h : VRs (bs.map .bool) items.toList) : ∀ (i : Nat) (v : Value), items[i]? = some v → v = .bool (bs.getD i false) := by
  intro i v hv
  obtain ⟨a, ha, hr⟩ := h.get' (i := i) (by simpa using hv)
  simp only [List.getElem?_map, Option.map_eq_some_iff] at ha
  obtain ⟨b, hb, rfl⟩ := ha
  rw [List.getD_eq_getElem?_getD, hb]
  exact hr

theorem range_all (bs : List Bool) : (List.range bs.length).all (fun i => bs.getD i false) = bs.all id := by
  induction bs with
  | nil => rfl
  | cons b r ih =>
    rw [List.length_cons, List.range_succ_eq_map, List.all_cons, List.all_map]
    simp only [List.all_cons, id]
    rw [← ih]
    rfl
theorem range_any (bs : List Bool) : (List.range bs.length).any (fun i => bs.getD i false) = bs.any id := by
  induction bs with
  | nil => rfl
  | cons b r ih =>
    rw [List.length_cons, List.range_succ_eq_map, List.any_cons, List.any_map]
    simp only [List.any_cons, id]
    rw [← ih]
    rfl

theorem CW_all {a : Addr} {ro : Bool} {bs : List Bool} (ha : H a = some (.list ro (bs.map .bool))) (hq : Q (.bool (bs.all id)) H) : CW cx d (.builtin "all") [.ref a] H Q := by
  intro A P s E Q' us hA R hr k
  obtain ⟨V, rfl, hv⟩ := vrs1 hr
  cases hv
  obtain ⟨items, n, hO, hr⟩ := R.isList ha
  have hz : bs.length = items.size := by have := hr.size; simpa using this
  have hl : s.heap.IsList a items := ⟨_, hO, rfl, n, rfl⟩
  have hne : a ≠ s.heap.objs.size := Nat.ne_of_lt (Heap.lt_size hO)
  refine call_all_walk (wpAny_pyIter_list hl ⟨s.heap.objs.size, _, _, _, _, _, fun i => bs.getD i false, rfl, Walks.list (A := A.in1) hA.handled s.heap.objs.size a hne items, ⟨⟨_, Heap.get?_push_size _ rfl, rfl, rfl⟩, hl.push _⟩, ?_, fun h' tk up => ?_⟩)
  · intro i v s' Q₂ E₂ hi hq₂
    rw [vrs_bools hr i v hi]
    exact wpAny_truthy_bool hq₂
  · rw [← hz, range_all]
    refine k _ _ H h' tk hq rfl (R.grow fun b o e => up b o ?_ (Heap.get?_push_of_some _ e))
    intro hm
    simp at hm
    exact absurd (Heap.lt_size e) (by rw [hm]; exact Nat.lt_irrefl _)
theorem CW_any {a : Addr} {ro : Bool} {bs : List Bool} (ha : H a = some (.list ro (bs.map .bool))) (hq : Q (.bool (bs.any id)) H) : CW cx d (.builtin "any") [.ref a] H Q := by
  intro A P s E Q' us hA R hr k
  obtain ⟨V, rfl, hv⟩ := vrs1 hr
  cases hv
  obtain ⟨items, n, hO, hr⟩ := R.isList ha
  have hz : bs.length = items.size := by have := hr.size; simpa using this
  have hl : s.heap.IsList a items := ⟨_, hO, rfl, n, rfl⟩
  have hne : a ≠ s.heap.objs.size := Nat.ne_of_lt (Heap.lt_size hO)
  refine call_any_walk (wpAny_pyIter_list hl ⟨s.heap.objs.size, _, _, _, _, _, fun i => bs.getD i false, rfl, Walks.list (A := A.in1) hA.handled s.heap.objs.size a hne items, ⟨⟨_, Heap.get?_push_size _ rfl, rfl, rfl⟩, hl.push _⟩, ?_, fun h' tk up => ?_⟩)
  · intro i v s' Q₂ E₂ hi hq₂
    rw [vrs_bools hr i v hi]
    exact wpAny_truthy_bool hq₂
  · rw [← hz, range_any]
    refine k _ _ H h' tk hq rfl (R.grow fun b o e => up b o ?_ (Heap.get?_push_of_some _ e))
    intro hm
    simp at hm
    exact absurd (Heap.lt_size e) (by rw [hm]; exact Nat.lt_irrefl _)

/-! ## more values -/
theorem EV_Neg {e : Expr} (h : EV cx d sc loc e H fun v H' => ∃ i, v = .int i ∧ Q (.int (-i)) H') : EV cx d sc loc (.UnaryOp .USub e pos) H Q := by
  intro env A P s E Q' he hF hA R k
  refine wpAny_UnaryOp (h env A P s E _ he hF hA R fun v V H' h' tk q hv R' => ?_)
  obtain ⟨i, rfl, q⟩ := q
  obtain ⟨t, rfl⟩ := hv
  exact PySem.P.neg_int (k _ _ H' h' _ q ⟨_, rfl⟩ R')
theorem Op_pow {a n : Int} (hn : 0 ≤ n) (hsz : (Builtin.Int.intBits a : Int) * n ≤ 2 ^ 27) (hq : Q (.int (a ^ n.toNat)) H) : OpW cx d (binaryOp .Pow) (.int a) (.int n) H Q := by
  rintro A P s E Q' V W hA R ⟨t, rfl⟩ ⟨u, rfl⟩ k
  exact PyProof.Rows.pow_int hn hsz (k _ _ H s.heap _ hq ⟨_, rfl⟩ R)
theorem Op_isNone {v : AV} (hq : Q (.bool (decide (v = .none))) H) : OpW cx d (compareOp .Is) v .none H Q := by
  intro A P s E Q' V W hA R hv hw k
  cases hw
  refine is_none ?_
  refine k _ _ H s.heap s.toks hq ?_ R
  cases v <;> (try obtain ⟨t, rfl⟩ := hv) <;> (try cases hv) <;> rfl
theorem EX_Return0 {Q : AF → Loc → Hp → Prop} (h : Q (.ret .none) loc H) : EX1 cx d sc loc (.Return none pos) H Q :=
  fun _ _ _ s _ _ _ F _ R k => wpAny_Return_none (k (.ret .none) (.ret .none) loc H s.heap s.toks h ⟨_, rfl, rfl⟩ F R)
end
end Mine

-- Core11
namespace Mine
open PySem PySem.Calls PyProof.Rows

/-! ## the text's defs -/
structure FDef where
  name : Str
  params : Arguments
  body : List Stmt
  scope : Scope

def defAt (p : Program) (k : Nat) : FDef := match p.main.body[k]? with
  | some (.FunctionDef name args body _ _ _ scope _ _ _) => ⟨name, args, body, scope⟩
  | _ => ⟨⟨#[]⟩, ⟨[], [], none, [], [], none, []⟩, [], { kind := .function, names := [], isGenerator := false, isCoroutine := false, more := [] }⟩

/-- the def stands at fa as the text has it -/
def HasDef (cx : Cx) (D : FDef) (fa : Addr) : Prop := ∃ pm code doc, IsFn cx D.name fa (docDef D.name D.params D.body D.scope pm code doc)

def plainParams (D : FDef) : Bool := match D.params with
  | ⟨[], _, none, [], [], none, []⟩ => true
  | _ => false
def FDef.names (D : FDef) : List Str := D.params.args.map (·.arg)

section
variable {cx : Cx} {d : Nat} {sc : Scope} {loc : Loc} {H : Hp} {Q : AV → Hp → Prop} {pos : Pos}

theorem CW_fn {D : FDef} {fa : Addr} {args : List AV} (hf : HasDef cx D fa)
    (hbind : ∀ (pm code doc : Value) (vs : List Value), vs.length = args.length → bindArgs (docDef D.name D.params D.body D.scope pm code doc) ⟨vs, []⟩ = pure (D.names.zip vs))
    (h : EX cx d D.scope (bindA (D.names.zip args) fun _ => none) D.body H (retQ Q))
    (hnm : D.names.all (storable D.scope) = true := by rfl) (hnf : D.scope.names.all (fun y => y.2 != .free) = true := by rfl)
    (hco : D.scope.isCoroutine = false := by rfl) (hgen : D.scope.isGenerator = false := by rfl) (hk : D.scope.kind = .function := by rfl) : CW cx (d + 1) (.ref fa) args H Q := by
  obtain ⟨pm, code, doc, hf⟩ := hf
  exact CW_def hf rfl rfl (hbind pm code doc) hnm rfl rfl h hnf hco hgen hk

theorem EV_CallD {D : FDef} {f : Str} {fa : Addr} {e : Expr} {r : List Expr} {p pos : Pos} (hf : HasDef cx D fa) 
    (h : EVs cx d sc loc (e :: r) H fun vs H' => CW cx d (.ref fa) vs H' Q) (hn : D.name = f := by rfl) (hx : globalName sc f = true := by rfl) (hns : (e :: r).all notStar = true := by rfl) :
    EV cx d sc loc (.Call (.Name f p) (e :: r) [] pos) H Q := by
  obtain ⟨pm, code, doc, hf⟩ := hf
  subst hn
  exact EV_CallF hf h hx hns
end
end Mine

-- Core12
namespace Mine
open PySem

/-! ## small steps of the walk -/
section
variable {cx : Cx} {d : Nat} {sc : Scope} {loc : Loc} {H : Hp} {Q : AV → Hp → Prop} {QF : AF → Loc → Hp → Prop} {QB : Bool → Hp → Prop} {J : Loc → Hp → Prop}

theorem at_next {rest : List Stmt} (h : EX cx d sc loc rest H QF) : andThen cx d sc rest QF .next loc H := h
theorem at_ret {rest : List Stmt} {v : AV} (h : QF (.ret v) loc H) : andThen cx d sc rest QF (.ret v) loc H := h
theorem at_brk {rest : List Stmt} (h : QF .brk loc H) : andThen cx d sc rest QF .brk loc H := h
theorem ret_ret {v : AV} (h : Q v H) : retQ Q (.ret v) loc H := h
theorem ret_next (h : Q .none H) : retQ Q .next loc H := h
theorem lp_next (h : J loc H) : loopQ J QF .next loc H := h
theorem lp_ret {v : AV} (h : QF (.ret v) loc H) : loopQ J QF (.ret v) loc H := h
theorem asB_b {b : Bool} (h : QB b H) : asB QB (.bool b) H := h
/-- only what goes on, not what leaves -/
def nextQ (Q₁ : Loc → Hp → Prop) : AF → Loc → Hp → Prop
  | .next, l, H => Q₁ l H
  | _, _, _ => False
theorem nxt {Q₁ : Loc → Hp → Prop} (h : Q₁ loc H) : nextQ Q₁ .next loc H := h
theorem EX_cut {st : Stmt} {rest : List Stmt} (Q₁ : Loc → Hp → Prop) (h1 : EX1 cx d sc loc st H (nextQ Q₁)) (h2 : ∀ l' H', Q₁ l' H' → EX cx d sc l' rest H' QF) : EX cx d sc loc (st :: rest) H QF :=
  EX_cons (h1.mono fun f l H' q => by cases f <;> first | exact h2 l H' q | exact q.elim)
theorem ite_dec {p : Prop} [Decidable p] {X Y : Prop} (h1 : p → X) (h2 : ¬ p → Y) : if decide p = true then X else Y := by
  by_cases h : p
  · simpa [h] using h1 h
  · simpa [h] using h2 h
theorem ite_ndec {p : Prop} [Decidable p] {X Y : Prop} (h1 : ¬ p → X) (h2 : p → Y) : if (!decide p) = true then X else Y := by
  by_cases h : p
  · simpa [h] using h2 h
  · simpa [h] using h1 h
theorem ite_bool {b : Bool} {X Y : Prop} (h1 : b = true → X) (h2 : b = false → Y) : if b = true then X else Y := by
  cases b
  · simpa using h2 rfl
  · simpa using h1 rfl
theorem ite_t {X Y : Prop} (h : X) : if true = true then X else Y := by simpa using h
theorem ite_f {X Y : Prop} (h : Y) : if false = true then X else Y := by simpa using h
theorem ite_nt {X Y : Prop} (h : Y) : if (!true) = true then X else Y := by simpa using h
theorem ite_nf {X Y : Prop} (h : X) : if (!false) = true then X else Y := by simpa using h
theorem evs_nil {QL : List AV → Hp → Prop} (h : QL [] H) : EVs cx d sc loc [] H QL := h
theorem evs_cons {e : Expr} {r : List Expr} {QL : List AV → Hp → Prop} (h : EV cx d sc loc e H fun v H₁ => EVs cx d sc loc r H₁ fun vs H₂ => QL (v :: vs) H₂) : EVs cx d sc loc (e :: r) H QL := h
theorem tand_nil (h : QB true H) : TAnd cx d sc loc [] H QB := h
theorem tand_cons {e : Expr} {r : List Expr} (h : TV cx d sc loc e H fun b H' => if b = true then TAnd cx d sc loc r H' QB else QB false H') : TAnd cx d sc loc (e :: r) H QB := h
theorem tor_nil (h : QB false H) : TOr cx d sc loc [] H QB := h
theorem tor_cons {e : Expr} {r : List Expr} (h : TV cx d sc loc e H fun b H' => if b = true then QB true H' else TOr cx d sc loc r H' QB) : TOr cx d sc loc (e :: r) H QB := h
theorem evo_none {Qo : Option Int → Hp → Prop} (h : Qo none H) : EVo cx d sc loc none H Qo := h
theorem evo_some {e : Expr} {Qo : Option Int → Hp → Prop} (h : EV cx d sc loc e H fun v H' => ∃ k, v = .int k ∧ Qo (some k) H') : EVo cx d sc loc (some e) H Qo := h
theorem int_ok {k : Int} {P : Int → Prop} (h : P k) : ∃ i, AV.int k = .int i ∧ P i := ⟨k, rfl, h⟩
end

/-- a new object does not stand where one stands already -/
theorem ne_of_new {H : Hp} {a b : Addr} {o : AObj} (ha : H a = none) (hb : H b = some o) : b ≠ a := fun e => by rw [e, ha] at hb; cases hb
/-- what stood stays: the abstract heap has only grown -/
def Ext (H H' : Hp) : Prop := ∀ a o, H a = some o → H' a = some o
theorem Ext.refl (H : Hp) : Ext H H := fun _ _ h => h
theorem Ext.trans {H₁ H₂ H₃ : Hp} (h : Ext H₁ H₂) (h' : Ext H₂ H₃) : Ext H₁ H₃ := fun a o e => h' a o (h a o e)
theorem Ext.put {H : Hp} {a : Addr} {o : AObj} (ha : H a = none) : Ext H (H.put a o) := fun b ob hb => by rw [Hp.put_ne (ne_of_new ha hb)]; exact hb
theorem Ext.put_r {H H' : Hp} {a : Addr} {o : AObj} (h : Ext H H') (ha : H' a = none) : Ext H (H'.put a o) := h.trans (.put ha)
/-- an object that is new since H may turn -/
theorem Ext.own {H H' : Hp} {a : Addr} {o : AObj} (h : Ext H H') (ha : H a = none) : Ext H (H'.put a o) := fun b ob hb => by rw [Hp.put_ne (ne_of_new ha hb)]; exact h b ob hb
theorem Ext.none {H H' : Hp} {a : Addr} (h : Ext H H') (ha : H' a = none) : H a = none := by
  cases q : H a with
  | none => rfl
  | some o => rw [h a o q] at ha; cases ha
end Mine

-- Core13
namespace Mine
open PySem

def bnames : List String := ["len", "range", "list", "isinstance", "all", "any", "int", "bool", "dict", "set", "tuple", "enumerate", "max", "min", "sorted"]
/-- the text binds none of the built-in names that it uses -/
def Bs (cx : Cx) : Prop := ∀ x ∈ bnames, cx.mg (Str.ofString x) = none

set_option maxRecDepth 100000
section
variable {cx : Cx} (hB : Bs cx)
theorem boot_len : bootBuiltins "len" = some (.builtin "len") := by decide +kernel
theorem boot_range : bootBuiltins "range" = some (.type "range") := by decide +kernel
theorem boot_list : bootBuiltins "list" = some (.type "list") := by decide +kernel
theorem boot_isinstance : bootBuiltins "isinstance" = some (.builtin "isinstance") := by decide +kernel
theorem boot_all : bootBuiltins "all" = some (.builtin "all") := by decide +kernel
theorem boot_any : bootBuiltins "any" = some (.builtin "any") := by decide +kernel
theorem boot_int : bootBuiltins "int" = some (.type "int") := by decide +kernel
theorem boot_bool : bootBuiltins "bool" = some (.type "bool") := by decide +kernel
theorem boot_dict : bootBuiltins "dict" = some (.type "dict") := by decide +kernel
theorem boot_set : bootBuiltins "set" = some (.type "set") := by decide +kernel
theorem boot_tuple : bootBuiltins "tuple" = some (.type "tuple") := by decide +kernel
theorem boot_enumerate : bootBuiltins "enumerate" = some (.type "enumerate") := by decide +kernel
theorem boot_max : bootBuiltins "max" = some (.builtin "max") := by decide +kernel
theorem boot_min : bootBuiltins "min" = some (.builtin "min") := by decide +kernel
theorem boot_sorted : bootBuiltins "sorted" = some (.builtin "sorted") := by decide +kernel
include hB
theorem b_len : IsBuiltin cx "len" (.builtin "len") := ⟨hB "len" (by decide), by decide, boot_len⟩
theorem b_range : IsBuiltin cx "range" (.type "range") := ⟨hB "range" (by decide), by decide, boot_range⟩
theorem b_list : IsBuiltin cx "list" (.type "list") := ⟨hB "list" (by decide), by decide, boot_list⟩
theorem b_isinstance : IsBuiltin cx "isinstance" (.builtin "isinstance") := ⟨hB "isinstance" (by decide), by decide, boot_isinstance⟩
theorem b_all : IsBuiltin cx "all" (.builtin "all") := ⟨hB "all" (by decide), by decide, boot_all⟩
theorem b_any : IsBuiltin cx "any" (.builtin "any") := ⟨hB "any" (by decide), by decide, boot_any⟩
theorem b_int : IsBuiltin cx "int" (.type "int") := ⟨hB "int" (by decide), by decide, boot_int⟩
theorem b_bool : IsBuiltin cx "bool" (.type "bool") := ⟨hB "bool" (by decide), by decide, boot_bool⟩
theorem b_dict : IsBuiltin cx "dict" (.type "dict") := ⟨hB "dict" (by decide), by decide, boot_dict⟩
theorem b_set : IsBuiltin cx "set" (.type "set") := ⟨hB "set" (by decide), by decide, boot_set⟩
theorem b_tuple : IsBuiltin cx "tuple" (.type "tuple") := ⟨hB "tuple" (by decide), by decide, boot_tuple⟩
theorem b_enumerate : IsBuiltin cx "enumerate" (.type "enumerate") := ⟨hB "enumerate" (by decide), by decide, boot_enumerate⟩
theorem b_max : IsBuiltin cx "max" (.builtin "max") := ⟨hB "max" (by decide), by decide, boot_max⟩
theorem b_min : IsBuiltin cx "min" (.builtin "min") := ⟨hB "min" (by decide), by decide, boot_min⟩
theorem b_sorted : IsBuiltin cx "sorted" (.builtin "sorted") := ⟨hB "sorted" (by decide), by decide, boot_sorted⟩
end

section
variable {cx : Cx} {d : Nat} {sc : Scope} {loc : Loc} {H : Hp} {Q : AV → Hp → Prop} {QF : AF → Loc → Hp → Prop}
/-- the script's list is always there -/
theorem EX.scr {ss : List Stmt} (h : H cx.script = some (.list true (cx.nums.map .int)) → EX cx d sc loc ss H QF) : EX cx d sc loc ss H QF :=
  fun env A P s E Q' he F hA R k => h R.scr env A P s E Q' he F hA R k
theorem CW.scr {V : Value} {args : List AV} (h : H cx.script = some (.list true (cx.nums.map .int)) → CW cx d V args H Q) : CW cx d V args H Q :=
  fun A P s E Q' vs hA R hr k => h R.scr A P s E Q' vs hA R hr k
theorem EV.scr {e : Expr} (h : H cx.script = some (.list true (cx.nums.map .int)) → EV cx d sc loc e H Q) : EV cx d sc loc e H Q :=
  fun env A P s E Q' he F hA R k => h R.scr env A P s E Q' he F hA R k

/-- more room does no harm -/
theorem Room.le {d d' : Nat} {A : Around} (h : Room d A) (hd : d' ≤ d) : Room d' A := ⟨h.handled, by have := h.depth; omega, by have := h.units; omega⟩
theorem CW.le {V : Value} {args : List AV} {d d' : Nat} (h : CW cx d' V args H Q) (hd : d' ≤ d) : CW cx d V args H Q :=
  fun A P s E Q' vs hA R hr k => h A P s E Q' vs (hA.le hd) R hr k

theorem Op_floordiv' {a b : Int} (hb : 0 < b) (hb' : b.natAbs.log2 < 9000) (hq : Q (.int (a / b)) H) : OpW cx d (binaryOp .FloorDiv) (.int a) (.int b) H Q := by
  rintro A P s E Q' V W hA R ⟨t, rfl⟩ ⟨u, rfl⟩ k
  refine PyProof.Rows.floordiv_int (by omega) ?_ (.inl (PyProof.noPylong_of_log2 hb'))
  rw [Int.fdiv_eq_ediv_of_nonneg _ (by omega)]
  exact k _ _ H s.heap _ hq ⟨_, rfl⟩ R
end
end Mine

-- Core14
namespace Mine
open PySem

theorem capt_of {scope : Scope} {loc : Loc} {y : Str} {v : AV} (h : scope.names.lookup y = some .free) (hv : loc y = some v) : capt scope loc y = some v := by unfold capt; rw [if_pos h]; exact hv

section
variable {cx : Cx} {d : Nat} {sc scope : Scope} {loc : Loc} {H : Hp} {x : Str} {elt c : Expr} {keep : Hp → Prop} {Qf : List AV → Hp → Prop} {α : Type}

/-- a comprehension whose elements make nothing -/
theorem CompW_map (xs : List α) (g f : α → AV) (hk : keep H) (h : ∀ a ∈ xs, EV cx d (relab sc scope) (upd (capt scope loc) x (g a)) elt H fun y H' => y = f a ∧ H' = H) (hq : Qf (xs.map f) H) :
    CompW cx d sc scope loc x [] elt (xs.map g) keep H Qf := by
  refine ⟨fun i ys H' => H' = H ∧ ys = (xs.take i).map f, ⟨rfl, rfl⟩, ?_, ?_, ?_⟩
  · rintro i ys H' ⟨rfl, _⟩; exact hk
  · rintro i w ys H' hi ⟨rfl, rfl⟩
    simp only [List.getElem?_map, Option.map_eq_some_iff] at hi
    obtain ⟨a, ha, rfl⟩ := hi
    simp only [Tests, if_true]
    refine EV.mono (h a (List.mem_of_getElem? ha)) ?_
    rintro v H₂ ⟨rfl, rfl⟩
    exact ⟨rfl, by rw [List.take_add_one, ha, List.map_append]; rfl⟩
  · rintro ys H' ⟨rfl, rfl⟩
    rw [List.length_map, List.take_length]; exact hq

theorem CompW_filter (xs : List α) (g f : α → AV) (p : α → Bool) (hk : keep H) (h1 : ∀ a ∈ xs, TV cx d (relab sc scope) (upd (capt scope loc) x (g a)) c H fun b H' => b = p a ∧ H' = H)
    (h : ∀ a ∈ xs, p a = true → EV cx d (relab sc scope) (upd (capt scope loc) x (g a)) elt H fun y H' => y = f a ∧ H' = H) (hq : Qf ((xs.filter p).map f) H) :
    CompW cx d sc scope loc x [c] elt (xs.map g) keep H Qf := by
  refine ⟨fun i ys H' => H' = H ∧ ys = ((xs.take i).filter p).map f, ⟨rfl, rfl⟩, ?_, ?_, ?_⟩
  · rintro i ys H' ⟨rfl, _⟩; exact hk
  · rintro i w ys H' hi ⟨rfl, rfl⟩
    simp only [List.getElem?_map, Option.map_eq_some_iff] at hi
    obtain ⟨a, ha, rfl⟩ := hi
    have hm := List.mem_of_getElem? ha
    refine TV.mono (h1 a hm) ?_
    rintro b H₂ ⟨rfl, rfl⟩
    refine ite_bool (fun hp => ?_) (fun hp => ?_)
    · refine EV.mono (h a hm hp) ?_
      rintro v H₃ ⟨rfl, rfl⟩
      exact ⟨rfl, by rw [List.take_add_one, ha, List.filter_append]; simp [hp]⟩
    · exact ⟨rfl, by rw [List.take_add_one, ha, List.filter_append]; simp [hp]⟩
  · rintro ys H' ⟨rfl, rfl⟩
    rw [List.length_map, List.take_length]; exact hq

/-- a comprehension whose elements may make things: the heap grows, each element is told behind -/
theorem CompW_grow (xs : List α) (g : α → AV) (T : α → AV → Hp → Prop) (hT : ∀ a y H₁ H₂, Ext H₁ H₂ → T a y H₁ → T a y H₂) (hk : ∀ H', Ext H H' → keep H')
    (h : ∀ a H', a ∈ xs → Ext H H' → EV cx d (relab sc scope) (upd (capt scope loc) x (g a)) elt H' fun y H₂ => Ext H' H₂ ∧ T a y H₂)
    (hq : ∀ ys H', Ext H H' → ys.length = xs.length → (∀ (i : Nat) (a : α) (y : AV), xs[i]? = some a → ys[i]? = some y → T a y H') → Qf ys H') :
    CompW cx d sc scope loc x [] elt (xs.map g) keep H Qf := by
  refine ⟨fun i ys H' => Ext H H' ∧ ys.length = min i xs.length ∧ ∀ (j : Nat) (a : α) (y : AV), xs[j]? = some a → ys[j]? = some y → T a y H', ⟨.refl H, by simp, by simp⟩, ?_, ?_, ?_⟩
  · rintro i ys H' ⟨he, _⟩; exact hk H' he
  · rintro i w ys H' hi ⟨he, hl, ht⟩
    simp only [List.getElem?_map, Option.map_eq_some_iff] at hi
    obtain ⟨a, ha, rfl⟩ := hi
    have hlt : i < xs.length := (List.getElem?_eq_some_iff.mp ha).1
    simp only [Tests, if_true]
    refine EV.mono (h a H' (List.mem_of_getElem? ha) he) ?_
    rintro v H₂ ⟨he₂, htv⟩
    refine ⟨he.trans he₂, by rw [List.length_append, List.length_singleton, hl]; omega, fun j b y hb hy => ?_⟩
    rcases Nat.lt_trichotomy j ys.length with h1 | h1 | h1
    · exact hT _ _ _ _ he₂ (ht j b y hb (by rwa [List.getElem?_append_left h1] at hy))
    · have hji : j = i := by omega
      subst hji
      rw [ha] at hb; cases hb
      rw [List.getElem?_append_right (by omega), h1, Nat.sub_self] at hy
      cases hy; exact htv
    · rw [List.getElem?_eq_none (by rw [List.length_append, List.length_singleton]; omega)] at hy; cases hy
  · rintro ys H' ⟨he, hl, ht⟩
    rw [List.length_map, Nat.min_self] at hl
    exact hq ys H' he hl ht
end
end Mine

-- Core15
namespace Mine
open PySem PySem.W PyProof.Rows

/-! ## the way in -/
def mkCx (prog : Program) (w : World) (base : Heap) (a : Addr) (ns : List Int) (mg mb : Str → Option Value) (g : base.Ns mainGlobals mg) (b : base.Ns builtinsNs mb) (nl : base.NoLimit) (hs : ∃ o, base.get? a = some o)
    (hb : ∀ x : Str, x ≠ "__name__" → mb x = bootBuiltins x) : Cx := ⟨prog, w, base, a, ns, mg, mb, g, b, nl, hs, hb⟩

theorem ints_vrs : ∀ {vs : List Value} {ns : List Int}, IntsAre vs ns → VRs (ns.map .int) vs := by
  intro vs ns h
  induction h with
  | nil => exact trivial
  | cons n t _ ih => exact ⟨⟨t, rfl⟩, ih⟩

theorem hasDef_of {p : Program} {loose : List Str} {mean : ExcName → Option Value} {mg mb : Str → Option Value} {h : Heap} (T : Top p loose mean mg mb h) {cx : Cx} (hb : cx.base = h) (hm : cx.mg = mg) (D : FDef) (pos : Pos)
    (hr : (⟨D.name, D.params, D.body, D.scope, pos⟩ : DefRec) ∈ recsOf p) : ∃ fa, HasDef cx D fa ∧ mg D.name = some (.ref fa) := by
  obtain ⟨a, o, pm, code, doc, h1, h2, h3, h4⟩ := T.fn _ hr
  subst hb hm
  exact ⟨a, ⟨pm, code, doc, ⟨h1, ⟨o, h2, h3⟩, h4⟩⟩, h1⟩

theorem law_end {l : OpenLaw} {cl : Str → Option Addr} {mean : ExcName → Option Value} {args : List WData} {s₁ s' : Shared} (hk : ∀ b o, s₁.heap.get? b = some o → s'.heap.get? b = some o) (hos : s'.os = s₁.os) (hg : s'.gens = #[]) :
    GoodW l.row.claim cl mean args s₁ (.ok (.ret (.bool true))) s' :=
  ⟨.inl ⟨.bool true, .bool true, [], rfl, fun _ => rfl, .bool true, by (show (WShape.has [] (.bool true) .bool && WTm.holds [] (.eq .res (.lit (.bool true))) _) = true); rw [Bool.and_eq_true]; exact ⟨by unfold WShape.has; simp [WShape.arms], by unfold WTm.holds; simp [WTm.value, same]⟩, fun _ => ⟨.nil, fun _ h => by cases h⟩⟩, hk, hos, hg⟩

theorem law_in {l : OpenLaw} {cx : Cx} {cl : Str → Option Addr} {mean : ExcName → Option Value} {args : List WData} {s₁ : Shared} {vs : List Value} {fa : Addr} {E : Value → Shared → Prop} (hp : cx.prog = l.prog) (hb : cx.base = s₁.heap)
    (hW : s₁.heap.get? cx.script = some { cls := .type "list", data := .seq vs.toArray }) (hI : IntsAre vs cx.nums) (hg : s₁.gens = #[])
    (h : ∀ H, CW cx 60 (.ref fa) [.ref cx.script] H fun v _ => v = .bool true) :
    wpAny (model l.row.prog cx.w) callerA (call (.ref fa) [.ref cx.script]) (fun v s' => GoodWG l.row.claim cl mean args s₁ (.ok (.ret v)) s') E s₁ := by
  have hprog : l.row.prog = cx.prog := hp.symm
  rw [hprog]
  have R : Rep cx s₁.heap.get? (fun a => if a = cx.script then some (.list true (cx.nums.map .int)) else none) s₁.heap := by
    refine ⟨fun a o e => hb ▸ e, fun a o e => e, fun a o e => ?_, fun a o O e _ => ?_, by simp⟩
    · split at e
      · rename_i z; cases e; subst z; exact ⟨_, hW, vs.toArray, 0, rfl, by simpa using ints_vrs hI⟩
      · cases e
    · split at e
      · rename_i z; exact z
      · cases e
  refine h _ callerA _ s₁ E _ [.ref cx.script] ⟨rfl, by decide, by decide⟩ R ⟨rfl, trivial⟩ fun v V H' h' tk q hv R' => ?_
  subst q
  cases hv
  exact (law_end (s' := { s₁ with heap := h', toks := tk }) (fun b o e => R'.ext b o e) rfl hg).toG

theorem well_get {P : Params} {h : Heap} {l : Addr} {vs : List Value} {ns : List Int} (W : Well P h (.ref l) (ofPy (.list (ns.map .int)))) (hl : h.IsList l vs.toArray) : h.get? l = some { cls := .type "list", data := .seq vs.toArray } := by
  have W' : Well P h (.ref l) (.list (ofPys (ns.map .int))) := W
  cases W' with
  | list ha wa =>
    obtain ⟨o, ho, _, n, hd⟩ := hl
    rw [ha] at ho; cases ho
    obtain ⟨e, _⟩ := Data.seq.inj hd
    obtain rfl := List.toArray_inj e
    exact ha

def posAt (p : Program) (k : Nat) : Pos := match p.main.body[k]? with
  | some (.FunctionDef _ _ _ _ _ _ _ _ _ pos) => pos
  | _ => ⟨0, 0, 0, 0⟩

def freeB (p : Program) (loose : List Str) (x : Str) : Bool :=
  !(startupNames.contains x) && !(loose.contains x) && !(((recsOf p).map (·.name)).contains x) && !(((litsOf p).map (·.1)).contains x) && !(((clssOf p loose).map (·.name)).contains x)
theorem bs_of {p : Program} {loose : List Str} {mean : ExcName → Option Value} {mg mb : Str → Option Value} {h : Heap} (T : Top p loose mean mg mb h) {cx : Cx} (hm : cx.mg = mg) (hf : bnames.all (fun x => freeB p loose (Str.ofString x)) = true) : Bs cx := by
  intro x hx
  have := List.all_eq_true.mp hf x hx
  simp only [freeB, Bool.and_eq_true, Bool.not_eq_true', List.contains_eq_mem, decide_eq_false_iff_not] at this
  rw [hm]
  exact T.free _ this.1.1.1.1 this.1.1.1.2 this.1.1.2 this.1.2 this.2
end Mine

-- MXor
namespace Mine

/-! ## numbers laid over one another -/
theorem xor_mod_two (a b : Nat) : (a ^^^ b) % 2 = (if a % 2 ≠ b % 2 then 1 else 0) := by
  have h := Nat.testBit_xor a b 0
  simp only [Nat.testBit_zero] at h
  have ha : a % 2 < 2 := Nat.mod_lt _ (by decide)
  have hb : b % 2 < 2 := Nat.mod_lt _ (by decide)
  have hx : (a ^^^ b) % 2 < 2 := Nat.mod_lt _ (by decide)
  rcases (by omega : a % 2 = 0 ∨ a % 2 = 1) with e1 | e1 <;> rcases (by omega : b % 2 = 0 ∨ b % 2 = 1) with e2 | e2 <;>
    rcases (by omega : (a ^^^ b) % 2 = 0 ∨ (a ^^^ b) % 2 = 1) with e3 | e3 <;> rw [e1, e2, e3] at h <;> rw [e1, e2, e3] <;> first | rfl | (exact absurd h (by decide))
theorem xor_split (a b : Nat) : a ^^^ b = 2 * (a / 2 ^^^ b / 2) + (if a % 2 ≠ b % 2 then 1 else 0) := by
  have h1 := Nat.div_add_mod (a ^^^ b) 2
  rw [Nat.xor_div_two, xor_mod_two] at h1
  omega

/-- the nim sum -/
def nx (a b : Int) : Int := ((a.toNat ^^^ b.toNat : Nat) : Int)
theorem nx_nonneg (a b : Int) : 0 ≤ nx a b := Int.natCast_nonneg _
theorem nx_split {x y : Int} (hx : 0 ≤ x) (hy : 0 ≤ y) : nx x y = 2 * nx (x / 2) (y / 2) + (if x % 2 ≠ y % 2 then 1 else 0) := by
  unfold nx
  rw [xor_split]
  have e1 : (x / 2).toNat = x.toNat / 2 := by omega
  have e2 : (y / 2).toNat = y.toNat / 2 := by omega
  rw [e1, e2]
  have e3 : (x % 2 ≠ y % 2) ↔ (x.toNat % 2 ≠ y.toNat % 2) := by omega
  by_cases h : x % 2 ≠ y % 2
  · rw [if_pos h, if_pos (e3.mp h)]; omega
  · rw [if_neg h, if_neg (fun z => h (e3.mpr z))]; omega
theorem nx_zero_zero : nx 0 0 = 0 := rfl
theorem nx_zero {a : Int} (h : 0 ≤ a) : nx 0 a = a := by unfold nx; simp; omega
theorem nx_zero' {a : Int} (h : 0 ≤ a) : nx a 0 = a := by unfold nx; simp; omega
theorem nx_comm (a b : Int) : nx a b = nx b a := by unfold nx; rw [Nat.xor_comm]
theorem nx_assoc (a b c : Int) : nx (nx a b) c = nx a (nx b c) := by unfold nx; simp only [Int.toNat_natCast]; rw [Nat.xor_assoc]
theorem nx_self (a : Int) : nx a a = 0 := by unfold nx; rw [Nat.xor_self]; rfl
theorem nx_cancel {a b : Int} (ha : 0 ≤ a) (hb : 0 ≤ b) : nx a b = 0 ↔ a = b := by
  constructor
  · intro h
    have : nx a (nx a b) = nx a 0 := by rw [h]
    rw [← nx_assoc, nx_self, nx_zero hb, nx_zero' ha] at this
    exact this.symm
  · rintro rfl; exact nx_self a

def nxs (ns : List Int) : Int := ns.foldl nx 0
theorem foldl_nx_nonneg : ∀ (ns : List Int) (a : Int), 0 ≤ a → 0 ≤ ns.foldl nx a
  | [], _, h => h
  | _ :: r, _, _ => foldl_nx_nonneg r _ (nx_nonneg _ _)
theorem nxs_nonneg (ns : List Int) : 0 ≤ nxs ns := foldl_nx_nonneg ns 0 (Int.le_refl 0)
theorem foldl_nx (ns : List Int) : ∀ a : Int, 0 ≤ a → ns.foldl nx a = nx a (nxs ns) := by
  unfold nxs
  induction ns with
  | nil => intro a h; rw [List.foldl_nil, List.foldl_nil, nx_zero' h]
  | cons n r ih =>
    intro a ha
    rw [List.foldl_cons, List.foldl_cons, ih _ (nx_nonneg _ _), ih _ (nx_nonneg 0 n), ← nx_assoc, ← nx_assoc]
    have e : nx a n = nx (nx a 0) n := by rw [nx_zero' ha]
    rw [e]
theorem nxs_cons (n : Int) (ns : List Int) (h : 0 ≤ n) : nxs (n :: ns) = nx n (nxs ns) := by
  show ns.foldl nx (nx 0 n) = _
  rw [nx_zero h, foldl_nx ns n h]
theorem nxs_append (a b : List Int) : nxs (a ++ b) = nx (nxs a) (nxs b) := by
  unfold nxs
  rw [List.foldl_append, foldl_nx b _ (foldl_nx_nonneg a 0 (Int.le_refl 0))]
  rfl
theorem nxs_single {n : Int} (h : 0 ≤ n) : nxs [n] = n := nx_zero h
theorem nxs_nil : nxs [] = 0 := rfl
theorem nxs_reverse {ns : List Int} (h : ∀ n ∈ ns, 0 ≤ n) : nxs ns.reverse = nxs ns := by
  induction ns with
  | nil => rfl
  | cons n r ih =>
    have hn := h n (.head _)
    rw [List.reverse_cons, nxs_append, ih (fun m hm => h m (.tail _ hm)), nxs_single hn, nxs_cons n r hn, nx_comm]

/-- the count of those that bear the power -/
def cnt (k : Nat) (ns : List Int) : Nat := (ns.filter fun n => decide (n / ((2 ^ k : Nat) : Int) % 2 = 1)).length

theorem bit_nx (k : Nat) {a b : Int} (ha : 0 ≤ a) (hb : 0 ≤ b) : nx a b / ((2 ^ k : Nat) : Int) % 2 = (if (a / ((2 ^ k : Nat) : Int) % 2 = 1) ↔ (b / ((2 ^ k : Nat) : Int) % 2 = 1) then 0 else 1) := by
  obtain ⟨m, rfl⟩ := Int.eq_ofNat_of_zero_le ha
  obtain ⟨n, rfl⟩ := Int.eq_ofNat_of_zero_le hb
  unfold nx
  simp only [Int.toNat_natCast]
  have h := Nat.testBit_xor m n k
  simp only [Nat.testBit_eq_decide_div_mod_eq] at h
  have e : ∀ x : Nat, ((x : Int) / ((2 ^ k : Nat) : Int) % 2 = 1) ↔ (x / 2 ^ k % 2 = 1) := fun x => by rw [← Int.natCast_ediv]; omega
  have e0 : ((m ^^^ n : Nat) : Int) / ((2 ^ k : Nat) : Int) % 2 = (((m ^^^ n) / 2 ^ k % 2 : Nat) : Int) := by rw [← Int.natCast_ediv]; omega
  rw [e0]
  simp only [e]
  have hx : (m ^^^ n) / 2 ^ k % 2 < 2 := Nat.mod_lt _ (by decide)
  rcases (by omega : (m ^^^ n) / 2 ^ k % 2 = 0 ∨ (m ^^^ n) / 2 ^ k % 2 = 1) with e3 | e3 <;> by_cases h1 : m / 2 ^ k % 2 = 1 <;> by_cases h2 : n / 2 ^ k % 2 = 1 <;> rw [e3] at h ⊢ <;>
    first | (simp [h1, h2]; done) | (exact absurd h (by simp [h1, h2]))

theorem bit_nxs (k : Nat) (ns : List Int) (h : ∀ n ∈ ns, 0 ≤ n) : nxs ns / ((2 ^ k : Nat) : Int) % 2 = ((cnt k ns % 2 : Nat) : Int) := by
  induction ns with
  | nil => simp [nxs, cnt]
  | cons n r ih =>
    have ih' := ih fun m hm => h m (.tail _ hm)
    have hn := h n (.head _)
    rw [nxs_cons n r hn, bit_nx k hn (nxs_nonneg r), ih']
    unfold cnt at *
    rw [List.filter_cons]
    by_cases e : n / ((2 ^ k : Nat) : Int) % 2 = 1
    · simp only [e, decide_true, if_true, List.length_cons, true_iff]
      split <;> omega
    · simp only [e, decide_false, Bool.false_eq_true, if_false, false_iff]
      split <;> omega

theorem mod_succ (x : Int) (hx : 0 ≤ x) (k : Nat) : x % ((2 ^ (k + 1) : Nat) : Int) = x % ((2 ^ k : Nat) : Int) + ((2 ^ k : Nat) : Int) * (x / ((2 ^ k : Nat) : Int) % 2) := by
  obtain ⟨n, rfl⟩ := Int.eq_ofNat_of_zero_le hx
  have h := Nat.mod_mul (x := n) (a := 2 ^ k) (b := 2)
  rw [← Nat.pow_succ] at h
  have e : (n : Int) % ((2 ^ (k + 1) : Nat) : Int) = ((n % 2 ^ (k + 1) : Nat) : Int) := by omega
  rw [e, h]
  push_cast
  rfl
theorem nxs_lt (k : Nat) (ns : List Int) (h : ∀ n ∈ ns, 0 ≤ n ∧ n < ((2 ^ k : Nat) : Int)) : nxs ns < ((2 ^ k : Nat) : Int) := by
  induction ns with
  | nil => show (0 : Int) < _; have := Nat.pow_pos (n := k) (show 0 < 2 by decide); omega
  | cons n r ih =>
    have h1 := h n (.head _)
    have h2 := ih fun m hm => h m (.tail _ hm)
    have h3 := nxs_nonneg r
    rw [nxs_cons n r h1.1]
    unfold nx
    have := Nat.xor_lt_two_pow (x := n.toNat) (y := (nxs r).toNat) (n := k) (by omega) (by omega)
    omega
end Mine

-- L06a
namespace Mine
open PySem PySem.Calls PyProof.Rows PySem.Challenge
local macro_rules | `(tactic| walk_at "lk") => `(tactic| first | exact upd_self _ _ _ | assumption | ((with_reducible refine Eq.trans (upd_ne ?hne) ?_); (case hne => decide); walk_at "lk") | ((with_reducible refine capt_of ?hcf ?_); (case hcf => rfl); walk_at "lk") | rfl)
local macro_rules | `(tactic| walk_at "e") => `(tactic| first
  | with_reducible refine EX_cons ?_ | with_reducible refine at_next ?_
  | ((with_reducible refine EV_Name (v := ?v) ?h ?_); (case h => walk_at "lk"))
  | with_reducible refine EV_int ?_
  | with_reducible refine EV_BinOp ?_ | ((with_reducible refine EV_Compare1 ?_ ?hm); (case hm => with_unfolding_all rfl))
  | ((with_reducible refine TV_Compare1 ?_ ?hm); (case hm => with_unfolding_all rfl)) | ((with_reducible refine TV_Compare2 ?_ ?hm); (case hm => with_unfolding_all rfl)) | with_reducible refine TV_Not ?_ | with_reducible refine TV_And ?_ | with_reducible refine TV_Or ?_
  | with_reducible refine Op_add ?_ | with_reducible refine Op_sub ?_ | (with_reducible refine Op_mod (by omega) ?_) | (with_reducible refine Op_floordiv (by omega) (by omega) ?_)
  | with_reducible refine Op_eq ?_ | with_reducible refine Op_ne ?_ | with_reducible refine Op_lt ?_ | with_reducible refine Op_le ?_ | with_reducible refine Op_gt ?_ | with_reducible refine Op_ge ?_
  | with_reducible refine asB_b ?_
  | with_reducible refine evs_cons ?_ | with_reducible refine evs_nil ?_
  | ((with_reducible refine EX_Assign ?_ ?hx ?hs); (case hx => rfl); (case hs => intro _; rfl))
  | ((with_reducible refine EX_Expr ?_ ?hs); (case hs => intro _; rfl))
  | with_reducible refine EX_If ?_ | with_reducible refine EX_Return ?_ | with_reducible refine at_ret (ret_ret ?_) | with_reducible refine ret_ret ?_ | with_reducible refine ret_next ?_
  | with_reducible refine at_ret ?_ | with_reducible refine nxt ?_ | with_reducible refine lp_next ?_ | with_reducible refine lp_ret ?_ | with_reducible refine EX_nil ?_
  | with_reducible refine EV_bool ?_ | with_reducible refine EV_none ?_ | with_reducible refine EV_str ?_
  | ((with_reducible refine EV_Sub ?_ ?hs); (case hs => intro _ _; rfl))
  | ((with_reducible refine EV_Compare2 ?_ ?hm); (case hm => with_unfolding_all rfl))
  | with_reducible refine EV_And2 ?_ | with_reducible refine EV_Or2 ?_ | with_reducible refine EV_Not ?_
  | with_reducible refine tand_cons ?_ | with_reducible refine tand_nil ?_ | with_reducible refine tor_cons ?_ | with_reducible refine tor_nil ?_
  | with_reducible refine evo_none ?_ | with_reducible refine evo_some ?_
  | with_reducible refine EV_IfExp ?_
  | ((with_reducible refine EV_CallB (b_len ?hB) ?_ ?hx ?hn); (case hB => assumption); (case hx => rfl); (case hn => rfl))
  | ((with_reducible refine EV_CallB (b_isinstance ?hB) ?_ ?hx ?hn); (case hB => assumption); (case hx => rfl); (case hn => rfl))
  | ((with_reducible refine EV_CallB (b_any ?hB) ?_ ?hx ?hn); (case hB => assumption); (case hx => rfl); (case hn => rfl))
  | ((with_reducible refine EV_CallB (b_all ?hB) ?_ ?hx ?hn); (case hB => assumption); (case hx => rfl); (case hn => rfl))
  | ((with_reducible refine EV_CallT (b_list ?hB) ?_ ?hx ?hn); (case hB => assumption); (case hx => rfl); (case hn => rfl))
  | ((with_reducible refine EV_CallT (b_range ?hB) ?_ ?hx ?hn); (case hB => assumption); (case hx => rfl); (case hn => rfl))
  | ((with_reducible refine EV_BType (b_int ?hB) ?_ ?hx); (case hB => assumption); (case hx => rfl))
  | ((with_reducible refine EV_BType (b_bool ?hB) ?_ ?hx); (case hB => assumption); (case hx => rfl))
  | ((with_reducible refine EV_BType (b_list ?hB) ?_ ?hx); (case hB => assumption); (case hx => rfl))
  | with_reducible refine CW_isinst_int_int ?_ | with_reducible refine CW_isinst_int_bool ?_ | with_reducible refine ite_t ?_ | with_reducible refine ite_f ?_ | with_reducible refine ite_nt ?_ | with_reducible refine ite_nf ?_
  | ((with_reducible refine TV_val ?_ ?ht); (case ht => intro _ _; rfl)))
local macro_rules | `(tactic| walk_at "E") => `(tactic| repeat (first | walk_at "e" | (with_reducible dsimp only)))
abbrev p06 := pw_uf050033_06
set_option maxRecDepth 10000

section
variable {cx : Cx} {d : Nat} {H : Hp} {Q : AV → Hp → Prop}

/-! laid_two -/
theorem laid_two_bind : ∀ (pm code doc : Value) (vs : List Value), vs.length = 2 → bindArgs (docDef (defAt p06 1).name (defAt p06 1).params (defAt p06 1).body (defAt p06 1).scope pm code doc) ⟨vs, []⟩ = pure ((defAt p06 1).names.zip vs) := by
  intro pm code doc vs h
  match vs, h with
  | [_, _], _ => rfl

theorem laid_two_spec {fa : Addr} (hf : HasDef cx (defAt p06 1) fa) {a b : Int} (ha : 0 ≤ a) (hb : 0 ≤ b) (hq : Q (.int (nx a b)) H) : CW cx (d + 1) (.ref fa) [.int a, .int b] H Q := by
  refine CW_fn hf laid_two_bind ?_
  show EX cx d _ (upd (upd (fun _ => none) "one" (.int a)) "other" (.int b)) _ H _
  refine EX_cons ?_
  walk_at "E"
  refine EX_While (fun n l H' => H' = H ∧ ∃ x y f p : Int, 0 ≤ x ∧ 0 ≤ y ∧ n = (x + y).toNat ∧ f + p * nx x y = nx a b ∧ l "one" = some (.int x) ∧ l "other" = some (.int y) ∧ l "found" = some (.int f) ∧ l "power" = some (.int p)) (a + b).toNat
    ⟨rfl, a, b, 0, 1, ha, hb, rfl, by omega, by walk_at "lk", by walk_at "lk", by walk_at "lk", by walk_at "lk"⟩ ?_
  rintro n l H' ⟨rfl, x, y, f, p, hx, hy, rfl, hI, h1, h2, h3, h4⟩
  refine TV.mono (Q₁ := fun c H₁ => H₁ = H' ∧ c = decide (0 < x ∨ 0 < y)) ?_ ?_
  · walk_at "E"
    refine ite_dec (fun h => ?_) (fun h => ?_)
    · exact ⟨rfl, by simp [h]⟩
    · walk_at "E"
      refine ite_dec (fun h' => ?_) (fun h' => ?_)
      · exact ⟨rfl, by simp [h']⟩
      · walk_at "E"; exact ⟨rfl, by simp [h, h']⟩
  rintro c H₁ ⟨rfl, rfl⟩
  refine ite_dec (fun h => ?_) (fun h => ?_)
  · have hs := nx_split hx hy
    refine EX_cut (fun l' H' => H' = H₁ ∧ l' "one" = some (.int x) ∧ l' "other" = some (.int y) ∧ l' "found" = some (.int (f + p * (if x % 2 ≠ y % 2 then 1 else 0))) ∧ l' "power" = some (.int p)) ?_ ?_
    · walk_at "E"
      refine ite_dec (fun h' => ?_) (fun h' => ?_)
      · walk_at "E"
        refine ⟨rfl, by walk_at "lk", by walk_at "lk", ?_, by walk_at "lk"⟩
        rw [if_pos h', Int.mul_one]; walk_at "lk"
      · walk_at "E"
        refine ⟨rfl, h1, h2, ?_, h4⟩
        rw [if_neg h', Int.mul_zero, Int.add_zero]; exact h3
    · rintro l' H' ⟨rfl, g1, g2, g3, g4⟩
      walk_at "E"
      refine Op_mul (.of_right (by decide)) ?_
      walk_at "E"
      refine ⟨(x / 2 + y / 2).toNat, by omega, rfl, x / 2, y / 2, _, _, by omega, by omega, rfl, ?_, by walk_at "lk", by walk_at "lk", by walk_at "lk", by walk_at "lk"⟩
      rw [← hI, hs, Int.mul_add, Int.mul_assoc]
      generalize p * (if x % 2 ≠ y % 2 then 1 else 0) = z
      have : p * (2 * nx (x / 2) (y / 2)) = p * (2 * nx (x / 2) (y / 2)) := rfl
      omega
  · walk_at "E"
    have : nx x y = 0 := by
      have e1 : x = 0 := by omega
      have e2 : y = 0 := by omega
      rw [e1, e2]; rfl
    rw [this] at hI
    simp at hI
    rw [hI]; exact hq

/-! laid_over -/
theorem laid_over_bind : ∀ (pm code doc : Value) (vs : List Value), vs.length = 1 → bindArgs (docDef (defAt p06 2).name (defAt p06 2).params (defAt p06 2).body (defAt p06 2).scope pm code doc) ⟨vs, []⟩ = pure ((defAt p06 2).names.zip vs) := by
  intro pm code doc vs h
  match vs, h with
  | [_], _ => rfl

theorem laid_over_spec {fa ga : Addr} (hf : HasDef cx (defAt p06 2) fa) (hg : HasDef cx (defAt p06 1) ga) {l : Addr} {ro : Bool} {ns : List Int} (hl : H l = some (.list ro (ns.map .int))) (hn : ∀ n ∈ ns, 0 ≤ n) (hq : Q (.int (nxs ns)) H) :
    CW cx (d + 2) (.ref fa) [.ref l] H Q := by
  refine CW_fn hf laid_over_bind ?_
  show EX cx (d + 1) _ (upd (fun _ => none) "numbers" (.ref l)) _ H _
  refine EX_cons ?_
  walk_at "E"
  refine EX_For ?_
  walk_at "E"
  refine ⟨_, _, .list hl, fun i l' H' => H' = H ∧ ∃ f : Int, 0 ≤ f ∧ l' "found" = some (.int f) ∧ f = (ns.take i).foldl nx 0, ⟨rfl, 0, by omega, by walk_at "lk", rfl⟩, ?_, ?_, ?_⟩
  · rintro i l' H' ⟨rfl, _⟩; exact hl
  · rintro i w l' H' hi ⟨rfl, f, hf0, h1, hf⟩
    simp only [List.getElem?_map, Option.map_eq_some_iff] at hi
    obtain ⟨n, hi, rfl⟩ := hi
    have hn0 := hn n (List.mem_of_getElem? hi)
    walk_at "E"
    refine EV_CallD hg ?_
    walk_at "E"
    refine laid_two_spec hg hf0 hn0 ?_
    walk_at "E"
    refine ⟨rfl, nx f n, nx_nonneg _ _, by walk_at "lk", ?_⟩
    rw [List.take_add_one, hi, List.foldl_append, ← hf]; rfl
  · rintro l' H' ⟨rfl, f, hf0, h1, hf⟩
    walk_at "E"
    rw [List.length_map, List.take_length] at hf
    rw [hf]; exact hq

/-! _law_cell_at -/
theorem cell_at_bind : ∀ (pm code doc : Value) (vs : List Value), vs.length = 2 → bindArgs (docDef (defAt p06 4).name (defAt p06 4).params (defAt p06 4).body (defAt p06 4).scope pm code doc) ⟨vs, []⟩ = pure ((defAt p06 4).names.zip vs) := by
  intro pm code doc vs h
  match vs, h with
  | [_, _], _ => rfl
theorem cell_at_spec {fa : Addr} (hB : Bs cx) (hf : HasDef cx (defAt p06 4) fa) (hlen : cx.nums.length ≤ 63) {k : Int} (hk : 0 ≤ k) (hq : Q (.int (cx.nums.getD k.toNat 0)) H) : CW cx (d + 1) (.ref fa) [.ref cx.script, .int k] H Q := by
  refine CW.scr fun hs => ?_
  refine CW_fn hf cell_at_bind ?_
  show EX cx d _ (upd (upd (fun _ => none) "_law_script" (.ref cx.script)) "_law_k" (.int k)) _ H _
  refine EX_cons ?_
  walk_at "E"
  refine CW_len hs (by simp; omega) ?_
  walk_at "E"
  refine ite_dec (fun h => ?_) (fun h => ?_)
  · walk_at "E"
    have hlt : k.toNat < cx.nums.length := by simp at h; omega
    refine Get_list hs hk (by simp; omega) (v := .int cx.nums[k.toNat]) (by simp [hlt]) ?_
    walk_at "E"
    rw [List.getD_eq_getElem?_getD] at hq
    simpa [hlt] using hq
  · walk_at "E"
    have hge : cx.nums.length ≤ k.toNat := by simp at h; omega
    rw [List.getD_eq_getElem?_getD, List.getElem?_eq_none hge] at hq
    exact hq
end

end Mine

-- L06b
namespace Mine
open PySem PySem.Calls PyProof.Rows PySem.Challenge
local macro_rules | `(tactic| walk_at "lk") => `(tactic| first | exact upd_self _ _ _ | assumption | ((with_reducible refine Eq.trans (upd_ne ?hne) ?_); (case hne => decide); walk_at "lk") | ((with_reducible refine capt_of ?hcf ?_); (case hcf => rfl); walk_at "lk") | rfl)
local macro_rules | `(tactic| walk_at "e") => `(tactic| first
  | with_reducible refine EX_cons ?_ | with_reducible refine at_next ?_
  | ((with_reducible refine EV_Name (v := ?v) ?h ?_); (case h => walk_at "lk"))
  | with_reducible refine EV_int ?_
  | with_reducible refine EV_BinOp ?_ | ((with_reducible refine EV_Compare1 ?_ ?hm); (case hm => with_unfolding_all rfl))
  | ((with_reducible refine TV_Compare1 ?_ ?hm); (case hm => with_unfolding_all rfl)) | ((with_reducible refine TV_Compare2 ?_ ?hm); (case hm => with_unfolding_all rfl)) | with_reducible refine TV_Not ?_ | with_reducible refine TV_And ?_ | with_reducible refine TV_Or ?_
  | with_reducible refine Op_add ?_ | with_reducible refine Op_sub ?_ | (with_reducible refine Op_mod (by omega) ?_) | (with_reducible refine Op_floordiv (by omega) (by omega) ?_)
  | with_reducible refine Op_eq ?_ | with_reducible refine Op_ne ?_ | with_reducible refine Op_lt ?_ | with_reducible refine Op_le ?_ | with_reducible refine Op_gt ?_ | with_reducible refine Op_ge ?_
  | with_reducible refine asB_b ?_
  | with_reducible refine evs_cons ?_ | with_reducible refine evs_nil ?_
  | ((with_reducible refine EX_Assign ?_ ?hx ?hs); (case hx => rfl); (case hs => intro _; rfl))
  | ((with_reducible refine EX_Expr ?_ ?hs); (case hs => intro _; rfl))
  | with_reducible refine EX_If ?_ | with_reducible refine EX_Return ?_ | with_reducible refine at_ret (ret_ret ?_) | with_reducible refine ret_ret ?_ | with_reducible refine ret_next ?_
  | with_reducible refine at_ret ?_ | with_reducible refine nxt ?_ | with_reducible refine lp_next ?_ | with_reducible refine lp_ret ?_ | with_reducible refine EX_nil ?_
  | with_reducible refine EV_bool ?_ | with_reducible refine EV_none ?_ | with_reducible refine EV_str ?_
  | ((with_reducible refine EV_Sub ?_ ?hs); (case hs => intro _ _; rfl))
  | ((with_reducible refine EV_Compare2 ?_ ?hm); (case hm => with_unfolding_all rfl))
  | with_reducible refine EV_And2 ?_ | with_reducible refine EV_Or2 ?_ | with_reducible refine EV_Not ?_
  | with_reducible refine tand_cons ?_ | with_reducible refine tand_nil ?_ | with_reducible refine tor_cons ?_ | with_reducible refine tor_nil ?_
  | with_reducible refine evo_none ?_ | with_reducible refine evo_some ?_
  | with_reducible refine EV_IfExp ?_
  | ((with_reducible refine EV_CallB (b_len ?hB) ?_ ?hx ?hn); (case hB => assumption); (case hx => rfl); (case hn => rfl))
  | ((with_reducible refine EV_CallB (b_isinstance ?hB) ?_ ?hx ?hn); (case hB => assumption); (case hx => rfl); (case hn => rfl))
  | ((with_reducible refine EV_CallB (b_any ?hB) ?_ ?hx ?hn); (case hB => assumption); (case hx => rfl); (case hn => rfl))
  | ((with_reducible refine EV_CallB (b_all ?hB) ?_ ?hx ?hn); (case hB => assumption); (case hx => rfl); (case hn => rfl))
  | ((with_reducible refine EV_CallT (b_list ?hB) ?_ ?hx ?hn); (case hB => assumption); (case hx => rfl); (case hn => rfl))
  | ((with_reducible refine EV_CallT (b_range ?hB) ?_ ?hx ?hn); (case hB => assumption); (case hx => rfl); (case hn => rfl))
  | ((with_reducible refine EV_BType (b_int ?hB) ?_ ?hx); (case hB => assumption); (case hx => rfl))
  | ((with_reducible refine EV_BType (b_bool ?hB) ?_ ?hx); (case hB => assumption); (case hx => rfl))
  | ((with_reducible refine EV_BType (b_list ?hB) ?_ ?hx); (case hB => assumption); (case hx => rfl))
  | with_reducible refine CW_isinst_int_int ?_ | with_reducible refine CW_isinst_int_bool ?_ | with_reducible refine ite_t ?_ | with_reducible refine ite_f ?_ | with_reducible refine ite_nt ?_ | with_reducible refine ite_nf ?_
  | ((with_reducible refine TV_val ?_ ?ht); (case ht => intro _ _; rfl)))
local macro_rules | `(tactic| walk_at "E") => `(tactic| repeat (first | walk_at "e" | (with_reducible dsimp only)))

set_option maxRecDepth 10000
section
variable {cx : Cx} {d : Nat} {H : Hp} {Q : AV → Hp → Prop}
/-! _law_laid -/
theorem laid_bind : ∀ (pm code doc : Value) (vs : List Value), vs.length = 1 → bindArgs (docDef (defAt p06 5).name (defAt p06 5).params (defAt p06 5).body (defAt p06 5).scope pm code doc) ⟨vs, []⟩ = pure ((defAt p06 5).names.zip vs) := by
  intro pm code doc vs h
  match vs, h with
  | [_], _ => rfl
theorem laid_spec {fa : Addr} (hB : Bs cx) (hf : HasDef cx (defAt p06 5) fa) {l : Addr} {ro : Bool} {ns : List Int} {B : Nat} (hl : H l = some (.list ro (ns.map .int))) (hn : ∀ n ∈ ns, 0 ≤ n ∧ n < ((2 ^ B : Nat) : Int)) (hB' : B ≤ 8000)
    (hlen : ns.length ≤ 2 ^ 20) (hq : ∀ H', Ext H H' → Q (.int (nxs ns)) H') : CW cx (d + 1) (.ref fa) [.ref l] H Q := by
  refine CW_fn hf laid_bind ?_
  show EX cx d _ (upd (fun _ => none) "_law_numbers" (.ref l)) _ H _
  refine EX_cons ?_
  walk_at "E"
  refine EX_While (fun n l' H' => Ext H H' ∧ ∃ k : Nat, k ≤ B ∧ n = B - k ∧ l' "_law_numbers" = some (.ref l) ∧ l' "_law_found" = some (.int (nxs ns % ((2 ^ k : Nat) : Int))) ∧ l' "_law_power" = some (.int ((2 ^ k : Nat) : Int))) B
    ⟨.refl H, 0, Nat.zero_le _, rfl, by walk_at "lk", by rw [Nat.pow_zero, show nxs ns % ((1 : Nat) : Int) = 0 by omega]; walk_at "lk", by walk_at "lk"⟩ ?_
  rintro n l' H' ⟨he, k, hk, rfl, h1, h2, h3⟩
  have hl' := he _ _ hl
  refine TV_val ?_
  refine EV_CallB (b_any hB) ?_
  walk_at "E"
  refine EV_ListComp ?_
  walk_at "E"
  refine ⟨_, _, .list hl', by simp; omega, CompW_map ns .int (fun n => .bool (decide (((2 ^ k : Nat) : Int) ≤ n))) hl' ?_ ?_⟩
  · intro a ha
    walk_at "E"
    exact ⟨rfl, rfl⟩
  intro b hb
  walk_at "E"
  refine CW_any (ro := false) (bs := ns.map fun n => decide (((2 ^ k : Nat) : Int) ≤ n)) (by rw [Hp.put_self, List.map_map]; rfl) ?_
  walk_at "E"
  have he₂ := he.put_r (o := .list false (ns.map fun n => .bool (decide (((2 ^ k : Nat) : Int) ≤ n)))) hb
  generalize H'.put b _ = H₂ at he₂ ⊢
  have hpos : 0 < ((2 ^ k : Nat) : Int) := by have := Nat.pow_pos (n := k) (show 0 < 2 by decide); omega
  have hlog : ((2 ^ k : Nat) : Int).natAbs.log2 < 9000 := by rw [Int.natAbs_natCast, Nat.log2_two_pow]; omega
  refine ite_bool (fun h => ?_) (fun h => ?_)
  · have hkB : k < B := by
      simp only [List.any_map, List.any_eq_true, Function.comp, id, decide_eq_true_eq] at h
      obtain ⟨n, hm, hle⟩ := h
      have := (hn n hm).2
      rcases Nat.lt_or_ge k B with h | h
      · exact h
      · have : 2 ^ B ≤ 2 ^ k := Nat.pow_le_pow_right (by decide) h
        omega
    refine EX_cut (fun l₂ H₃ => Ext H H₃ ∧ l₂ "_law_numbers" = some (.ref l) ∧ l₂ "_law_found" = some (.int (nxs ns % ((2 ^ (k + 1) : Nat) : Int))) ∧ l₂ "_law_power" = some (.int ((2 ^ k : Nat) : Int))) ?_ ?_
    · walk_at "E"
      refine EV_ListComp ?_
      walk_at "E"
      have hl₂ := he₂ _ _ hl
      refine ⟨_, _, .list hl₂, by simp; omega, CompW_filter ns .int .int (fun n => decide (n / ((2 ^ k : Nat) : Int) % 2 = 1)) hl₂ ?_ ?_ ?_⟩
      · intro a ha
        walk_at "E"
        refine Op_floordiv' hpos hlog ?_
        walk_at "E"
        exact ⟨rfl, rfl⟩
      · intro a ha _
        walk_at "E"
        exact ⟨rfl, rfl⟩
      · intro c hc
        walk_at "E"
        have hle : (ns.filter fun n => decide (n / ((2 ^ k : Nat) : Int) % 2 = 1)).length ≤ ns.length := List.length_filter_le _ _
        refine CW_len (Hp.put_self ..) (by rw [List.length_map]; omega) ?_
        walk_at "E"
        have he₃ := he₂.put_r (o := .list false ((ns.filter fun n => decide (n / ((2 ^ k : Nat) : Int) % 2 = 1)).map .int)) hc
        have hbit := bit_nxs k ns (fun n hm => (hn n hm).1)
        have hms := mod_succ (nxs ns) (nxs_nonneg ns) k
        rw [List.length_map]
        refine ite_dec (fun h' => ?_) (fun h' => ?_)
        · walk_at "E"
          refine ⟨he₃, by walk_at "lk", ?_, by walk_at "lk"⟩
          have : ((cnt k ns % 2 : Nat) : Int) = 1 := by unfold cnt; omega
          rw [hms, hbit, this, Int.mul_one]; walk_at "lk"
        · walk_at "E"
          refine ⟨he₃, by walk_at "lk", ?_, by walk_at "lk"⟩
          have : ((cnt k ns % 2 : Nat) : Int) = 0 := by unfold cnt; omega
          rw [hms, hbit, this, Int.mul_zero, Int.add_zero]; walk_at "lk"
    · rintro l₂ H₃ ⟨he₃, g1, g2, g3⟩
      walk_at "E"
      refine Op_mul (.of_right (by decide)) ?_
      walk_at "E"
      refine ⟨B - (k + 1), by omega, he₃, k + 1, hkB, rfl, by walk_at "lk", by walk_at "lk", ?_⟩
      have : ((2 ^ (k + 1) : Nat) : Int) = ((2 ^ k : Nat) : Int) * 2 := by rw [Nat.pow_succ]; push_cast; rfl
      rw [this]; walk_at "lk"
  · walk_at "E"
    have hlt : nxs ns < ((2 ^ k : Nat) : Int) := by
      refine nxs_lt k ns fun n hm => ⟨(hn n hm).1, ?_⟩
      simp only [List.any_map, List.any_eq_false, Function.comp, id, decide_eq_true_eq] at h
      have := h n hm
      omega
    rw [Int.emod_eq_of_lt (nxs_nonneg ns) hlt]
    exact hq _ he₂
end

end Mine

-- L06c
namespace Mine
open PySem PySem.Calls PyProof.Rows PySem.Challenge
local macro_rules | `(tactic| walk_at "lk") => `(tactic| first | exact upd_self _ _ _ | assumption | ((with_reducible refine Eq.trans (upd_ne ?hne) ?_); (case hne => decide); walk_at "lk") | ((with_reducible refine capt_of ?hcf ?_); (case hcf => rfl); walk_at "lk") | rfl)
local macro_rules | `(tactic| walk_at "e") => `(tactic| first
  | with_reducible refine EX_cons ?_ | with_reducible refine at_next ?_
  | ((with_reducible refine EV_Name (v := ?v) ?h ?_); (case h => walk_at "lk"))
  | with_reducible refine EV_int ?_
  | with_reducible refine EV_BinOp ?_ | ((with_reducible refine EV_Compare1 ?_ ?hm); (case hm => with_unfolding_all rfl))
  | ((with_reducible refine TV_Compare1 ?_ ?hm); (case hm => with_unfolding_all rfl)) | ((with_reducible refine TV_Compare2 ?_ ?hm); (case hm => with_unfolding_all rfl)) | with_reducible refine TV_Not ?_ | with_reducible refine TV_And ?_ | with_reducible refine TV_Or ?_
  | with_reducible refine Op_add ?_ | with_reducible refine Op_sub ?_ | (with_reducible refine Op_mod (by omega) ?_) | (with_reducible refine Op_floordiv (by omega) (by omega) ?_)
  | with_reducible refine Op_eq ?_ | with_reducible refine Op_ne ?_ | with_reducible refine Op_lt ?_ | with_reducible refine Op_le ?_ | with_reducible refine Op_gt ?_ | with_reducible refine Op_ge ?_
  | with_reducible refine asB_b ?_
  | with_reducible refine evs_cons ?_ | with_reducible refine evs_nil ?_
  | ((with_reducible refine EX_Assign ?_ ?hx ?hs); (case hx => rfl); (case hs => intro _; rfl))
  | ((with_reducible refine EX_Expr ?_ ?hs); (case hs => intro _; rfl))
  | with_reducible refine EX_If ?_ | with_reducible refine EX_Return ?_ | with_reducible refine at_ret (ret_ret ?_) | with_reducible refine ret_ret ?_ | with_reducible refine ret_next ?_
  | with_reducible refine at_ret ?_ | with_reducible refine nxt ?_ | with_reducible refine lp_next ?_ | with_reducible refine lp_ret ?_ | with_reducible refine EX_nil ?_
  | with_reducible refine EV_bool ?_ | with_reducible refine EV_none ?_ | with_reducible refine EV_str ?_
  | ((with_reducible refine EV_Sub ?_ ?hs); (case hs => intro _ _; rfl))
  | ((with_reducible refine EV_Compare2 ?_ ?hm); (case hm => with_unfolding_all rfl))
  | with_reducible refine EV_And2 ?_ | with_reducible refine EV_Or2 ?_ | with_reducible refine EV_Not ?_
  | with_reducible refine tand_cons ?_ | with_reducible refine tand_nil ?_ | with_reducible refine tor_cons ?_ | with_reducible refine tor_nil ?_
  | with_reducible refine evo_none ?_ | with_reducible refine evo_some ?_
  | with_reducible refine EV_IfExp ?_
  | ((with_reducible refine EV_CallB (b_len ?hB) ?_ ?hx ?hn); (case hB => assumption); (case hx => rfl); (case hn => rfl))
  | ((with_reducible refine EV_CallB (b_isinstance ?hB) ?_ ?hx ?hn); (case hB => assumption); (case hx => rfl); (case hn => rfl))
  | ((with_reducible refine EV_CallB (b_any ?hB) ?_ ?hx ?hn); (case hB => assumption); (case hx => rfl); (case hn => rfl))
  | ((with_reducible refine EV_CallB (b_all ?hB) ?_ ?hx ?hn); (case hB => assumption); (case hx => rfl); (case hn => rfl))
  | ((with_reducible refine EV_CallT (b_list ?hB) ?_ ?hx ?hn); (case hB => assumption); (case hx => rfl); (case hn => rfl))
  | ((with_reducible refine EV_CallT (b_range ?hB) ?_ ?hx ?hn); (case hB => assumption); (case hx => rfl); (case hn => rfl))
  | ((with_reducible refine EV_BType (b_int ?hB) ?_ ?hx); (case hB => assumption); (case hx => rfl))
  | ((with_reducible refine EV_BType (b_bool ?hB) ?_ ?hx); (case hB => assumption); (case hx => rfl))
  | ((with_reducible refine EV_BType (b_list ?hB) ?_ ?hx); (case hB => assumption); (case hx => rfl))
  | with_reducible refine CW_isinst_int_int ?_ | with_reducible refine CW_isinst_int_bool ?_ | with_reducible refine ite_t ?_ | with_reducible refine ite_f ?_ | with_reducible refine ite_nt ?_ | with_reducible refine ite_nf ?_
  | ((with_reducible refine TV_val ?_ ?ht); (case ht => intro _ _; rfl)))
local macro_rules | `(tactic| walk_at "E") => `(tactic| repeat (first | walk_at "e" | (with_reducible dsimp only)))

set_option maxRecDepth 10000
section
variable {cx : Cx} {d : Nat} {H : Hp} {Q : AV → Hp → Prop}
/-! _law_number_by -/
def numBy (c : Int) : Int := if c % 3 = 1 then c * (10 ^ 59 + 7) % 10 ^ 60 else c / 3 % 70
theorem numBy_ok (c : Int) : 0 ≤ numBy c ∧ numBy c < ((2 ^ 200 : Nat) : Int) := by
  unfold numBy
  split
  · have h1 : (0 : Int) < 10 ^ 60 := by decide
    have h2 := Int.emod_nonneg (c * (10 ^ 59 + 7)) (show (10 ^ 60 : Int) ≠ 0 by decide)
    have h3 := Int.emod_lt_of_pos (c * (10 ^ 59 + 7)) h1
    have h4 : (10 ^ 60 : Int) < ((2 ^ 200 : Nat) : Int) := by decide
    exact ⟨h2, Int.lt_trans h3 h4⟩
  · have h4 : (70 : Int) < ((2 ^ 200 : Nat) : Int) := by decide
    omega
theorem number_by_bind : ∀ (pm code doc : Value) (vs : List Value), vs.length = 1 → bindArgs (docDef (defAt p06 6).name (defAt p06 6).params (defAt p06 6).body (defAt p06 6).scope pm code doc) ⟨vs, []⟩ = pure ((defAt p06 6).names.zip vs) := by
  intro pm code doc vs h
  match vs, h with
  | [_], _ => rfl
theorem number_by_spec {fa : Addr} (hf : HasDef cx (defAt p06 6) fa) {c : Int} (hc : Builtin.Int.intBits c ≤ 2 ^ 20) (hq : Q (.int (numBy c)) H) : CW cx (d + 1) (.ref fa) [.int c] H Q := by
  refine CW_fn hf number_by_bind ?_
  show EX cx d _ (upd (fun _ => none) "_law_cell" (.int c)) _ H _
  refine EX_cons ?_
  walk_at "E"
  unfold numBy at hq
  refine ite_dec (fun h => ?_) (fun h => ?_)
  · rw [if_pos h] at hq
    walk_at "E"
    refine Op_pow (by decide) (by decide) ?_
    walk_at "E"
    refine Op_mul (.of_bits hc (by decide +kernel)) ?_
    walk_at "E"
    refine Op_pow (by decide) (by decide) ?_
    refine Op_mod (by decide) ?_
    walk_at "E"
    exact hq
  · rw [if_neg h] at hq
    walk_at "E"
    exact hq
end

end Mine

-- L06d
namespace Mine
open PySem PySem.Calls PyProof.Rows PySem.Challenge
local macro_rules | `(tactic| walk_at "lk") => `(tactic| first | exact upd_self _ _ _ | assumption | ((with_reducible refine Eq.trans (upd_ne ?hne) ?_); (case hne => decide); walk_at "lk") | ((with_reducible refine capt_of ?hcf ?_); (case hcf => rfl); walk_at "lk") | rfl)
local macro_rules | `(tactic| walk_at "e") => `(tactic| first
  | with_reducible refine EX_cons ?_ | with_reducible refine at_next ?_
  | ((with_reducible refine EV_Name (v := ?v) ?h ?_); (case h => walk_at "lk"))
  | with_reducible refine EV_int ?_
  | with_reducible refine EV_BinOp ?_ | ((with_reducible refine EV_Compare1 ?_ ?hm); (case hm => with_unfolding_all rfl))
  | ((with_reducible refine TV_Compare1 ?_ ?hm); (case hm => with_unfolding_all rfl)) | ((with_reducible refine TV_Compare2 ?_ ?hm); (case hm => with_unfolding_all rfl)) | with_reducible refine TV_Not ?_ | with_reducible refine TV_And ?_ | with_reducible refine TV_Or ?_
  | with_reducible refine Op_add ?_ | with_reducible refine Op_sub ?_ | (with_reducible refine Op_mod (by omega) ?_) | (with_reducible refine Op_floordiv (by omega) (by omega) ?_)
  | with_reducible refine Op_eq ?_ | with_reducible refine Op_ne ?_ | with_reducible refine Op_lt ?_ | with_reducible refine Op_le ?_ | with_reducible refine Op_gt ?_ | with_reducible refine Op_ge ?_
  | with_reducible refine asB_b ?_
  | with_reducible refine evs_cons ?_ | with_reducible refine evs_nil ?_
  | ((with_reducible refine EX_Assign ?_ ?hx ?hs); (case hx => rfl); (case hs => intro _; rfl))
  | ((with_reducible refine EX_Expr ?_ ?hs); (case hs => intro _; rfl))
  | with_reducible refine EX_If ?_ | with_reducible refine EX_Return ?_ | with_reducible refine at_ret (ret_ret ?_) | with_reducible refine ret_ret ?_ | with_reducible refine ret_next ?_
  | with_reducible refine at_ret ?_ | with_reducible refine nxt ?_ | with_reducible refine lp_next ?_ | with_reducible refine lp_ret ?_ | with_reducible refine EX_nil ?_
  | with_reducible refine EV_bool ?_ | with_reducible refine EV_none ?_ | with_reducible refine EV_str ?_
  | ((with_reducible refine EV_Sub ?_ ?hs); (case hs => intro _ _; rfl))
  | ((with_reducible refine EV_Compare2 ?_ ?hm); (case hm => with_unfolding_all rfl))
  | with_reducible refine EV_And2 ?_ | with_reducible refine EV_Or2 ?_ | with_reducible refine EV_Not ?_
  | with_reducible refine tand_cons ?_ | with_reducible refine tand_nil ?_ | with_reducible refine tor_cons ?_ | with_reducible refine tor_nil ?_
  | with_reducible refine evo_none ?_ | with_reducible refine evo_some ?_
  | with_reducible refine EV_IfExp ?_
  | ((with_reducible refine EV_CallB (b_len ?hB) ?_ ?hx ?hn); (case hB => assumption); (case hx => rfl); (case hn => rfl))
  | ((with_reducible refine EV_CallB (b_isinstance ?hB) ?_ ?hx ?hn); (case hB => assumption); (case hx => rfl); (case hn => rfl))
  | ((with_reducible refine EV_CallB (b_any ?hB) ?_ ?hx ?hn); (case hB => assumption); (case hx => rfl); (case hn => rfl))
  | ((with_reducible refine EV_CallB (b_all ?hB) ?_ ?hx ?hn); (case hB => assumption); (case hx => rfl); (case hn => rfl))
  | ((with_reducible refine EV_CallT (b_list ?hB) ?_ ?hx ?hn); (case hB => assumption); (case hx => rfl); (case hn => rfl))
  | ((with_reducible refine EV_CallT (b_range ?hB) ?_ ?hx ?hn); (case hB => assumption); (case hx => rfl); (case hn => rfl))
  | ((with_reducible refine EV_BType (b_int ?hB) ?_ ?hx); (case hB => assumption); (case hx => rfl))
  | ((with_reducible refine EV_BType (b_bool ?hB) ?_ ?hx); (case hB => assumption); (case hx => rfl))
  | ((with_reducible refine EV_BType (b_list ?hB) ?_ ?hx); (case hB => assumption); (case hx => rfl))
  | with_reducible refine CW_isinst_int_int ?_ | with_reducible refine CW_isinst_int_bool ?_ | with_reducible refine ite_t ?_ | with_reducible refine ite_f ?_ | with_reducible refine ite_nt ?_ | with_reducible refine ite_nf ?_
  | ((with_reducible refine TV_val ?_ ?ht); (case ht => intro _ _; rfl)))
local macro_rules | `(tactic| walk_at "E") => `(tactic| repeat (first | walk_at "e" | (with_reducible dsimp only)))

set_option maxRecDepth 10000
set_option maxHeartbeats 4000000
section
variable {cx : Cx} {d : Nat} {H : Hp} {Q : AV → Hp → Prop}
theorem law_bind : ∀ (pm code doc : Value) (vs : List Value), vs.length = 1 → bindArgs (docDef (defAt p06 7).name (defAt p06 7).params (defAt p06 7).body (defAt p06 7).scope pm code doc) ⟨vs, []⟩ = pure ((defAt p06 7).names.zip vs) := by
  intro pm code doc vs h
  match vs, h with
  | [_], _ => rfl

theorem pySlice_map {α β : Type} (f : α → β) (xs : List α) (lo hi : Option Int) : pySlice (xs.map f) lo hi = (pySlice xs lo hi).map f := by
  unfold pySlice; rw [List.length_map, List.map_take, List.map_drop]
theorem mem_pySlice {α : Type} {xs : List α} {lo hi : Option Int} {x : α} (h : x ∈ pySlice xs lo hi) : x ∈ xs := List.mem_of_mem_drop (List.mem_of_mem_take h)

def dInts (ns : List Int) : PyData := .list (ns.map .int)
theorem iss_ints (H : Hp) : ∀ ns : List Int, Iss H (ns.map .int) (ns.map .int)
  | [] => by rw [List.map_nil, List.map_nil, Iss]; trivial
  | n :: r => by rw [List.map_cons, List.map_cons, Iss]; exact ⟨by rw [Is], iss_ints H r⟩
theorem is_ints {H : Hp} {a : Addr} {ro : Bool} {ns : List Int} (h : H a = some (.list ro (ns.map .int))) : Is H (.ref a) (dInts ns) := by
  unfold dInts; rw [Is]; exact ⟨a, ro, _, rfl, h, iss_ints H ns⟩
theorem lay_ints : ∀ ns : List Int, PyData.canLayAll0 (ns.map .int) = true
  | [] => by rw [List.map_nil, PyData.canLayAll0]
  | n :: r => by rw [List.map_cons, PyData.canLayAll0, PyData.canLay0, lay_ints r]; rfl
theorem lay_dInts (ns : List Int) : (dInts ns).canLay0 = true := by unfold dInts; rw [PyData.canLay0]; exact lay_ints ns
theorem depth_ints : ∀ ns : List Int, PyData.depthAll (ns.map .int) = 0
  | [] => by rw [List.map_nil, PyData.depthAll]
  | n :: r => by rw [List.map_cons, PyData.depthAll, PyData.depth, depth_ints r]; rfl
theorem depth_dInts (ns : List Int) : (dInts ns).depth = 1 := by unfold dInts; rw [PyData.depth, depth_ints]
theorem eqv_ints : ∀ ns ms : List Int, PyData.eqvAll (ns.map .int) (ms.map .int) = decide (ns = ms)
  | [], [] => by simp [PyData.eqvAll]
  | [], _ :: _ => by simp [PyData.eqvAll]
  | _ :: _, [] => by simp [PyData.eqvAll]
  | a :: r, b :: q => by
    simp only [List.map_cons, PyData.eqvAll, PyData.eqv, eqv_ints r q]
    by_cases h : a = b <;> simp [h]
theorem eqv_dInts (ns ms : List Int) : PyData.eqv (dInts ns) (dInts ms) = decide (ns = ms) := by unfold dInts; rw [PyData.eqv]; exact eqv_ints ns ms

theorem law06_spec {f1 f2 f4 f5 f6 fa : Addr} (hB : Bs cx) (h1 : HasDef cx (defAt p06 1) f1) (h2 : HasDef cx (defAt p06 2) f2) (h4 : HasDef cx (defAt p06 4) f4) (h5 : HasDef cx (defAt p06 5) f5) (h6 : HasDef cx (defAt p06 6) f6)
    (hf : HasDef cx (defAt p06 7) fa) (hlen : cx.nums.length ≤ 63) (hbits : ∀ n ∈ cx.nums, Builtin.Int.intBits n ≤ 2 ^ 20) (hq : ∀ H', Q (.bool true) H') : CW cx (d + 4) (.ref fa) [.ref cx.script] H Q := by
  refine CW.scr fun hs => ?_
  refine CW_fn hf law_bind ?_
  show EX cx (d + 3) _ (upd (fun _ => none) "_law_script" (.ref cx.script)) _ H _
  refine EX_cons ?_
  refine EX_AssignComp ?_
  refine EV_Slice ?_
  walk_at "E"
  refine int_ok ?_
  walk_at "E"
  refine int_ok ?_
  refine ⟨cx.script, true, _, rfl, hs, by simp; omega, fun b hb => ?_⟩
  rw [pySlice_map]
  have e1 := Ext.put (o := .list false ((pySlice cx.nums (some 1) (some 13)).map AV.int)) hb
  have hS1 : (H.put b (.list false ((pySlice cx.nums (some 1) (some 13)).map AV.int))) b = _ := Hp.put_self ..
  generalize H.put b _ = H₁ at e1 hS1 ⊢
  refine ⟨_, _, .list hS1, ?_, ?_⟩
  · have := pySlice_length cx.nums (some 1) (some 13); simp; omega
  refine CompW_map (pySlice cx.nums (some 1) (some 13)) AV.int (fun c => .int (numBy c)) hS1 ?_ ?_
  · intro a ha
    refine EV_CallD h6 ?_
    walk_at "E"
    refine (number_by_spec h6 (hbits a (mem_pySlice ha)) ?_).le (d := d + 3) (d' := 1) (by omega)
    exact ⟨rfl, rfl⟩
  intro a ha
  have e2 := e1.put_r (o := .list false ((pySlice cx.nums (some 1) (some 13)).map fun c => .int (numBy c))) ha
  have hN : (H₁.put a (.list false ((pySlice cx.nums (some 1) (some 13)).map fun c => .int (numBy c)))) a = some (.list false (((pySlice cx.nums (some 1) (some 13)).map numBy).map .int)) := by rw [Hp.put_self, List.map_map]; rfl
  generalize H₁.put a _ = H₂ at e2 hN ⊢
  have hok : ∀ n ∈ (pySlice cx.nums (some 1) (some 13)).map numBy, 0 ≤ n ∧ n < ((2 ^ 200 : Nat) : Int) := fun n hn => by
    obtain ⟨c, _, rfl⟩ := List.mem_map.mp hn; exact numBy_ok c
  have hsz : ((pySlice cx.nums (some 1) (some 13)).map numBy).length ≤ 63 := by rw [List.length_map]; have := pySlice_length cx.nums (some 1) (some 13); omega
  generalize (pySlice cx.nums (some 1) (some 13)).map numBy = ns at hN hok hsz
  refine at_next ?_
  refine EX_cut (fun l H' => Ext H H' ∧ l "_law_script" = some (.ref cx.script) ∧ ∃ (a : Addr) (ns : List Int), l "_law_numbers" = some (.ref a) ∧ H' a = some (.list false (ns.map .int)) ∧ ns.length ≤ 200 ∧ ∀ n ∈ ns, 0 ≤ n ∧ n < ((2 ^ 200 : Nat) : Int)) ?_ ?_
  · walk_at "E"
    refine EV_CallD h4 ?_
    walk_at "E"
    refine (cell_at_spec hB h4 hlen (by omega) ?_).le (d := d + 3) (d' := 1) (by omega)
    walk_at "E"
    refine ite_dec (fun h => ?_) (fun h => ?_)
    · walk_at "E"
      refine EV_Slice ?_
      walk_at "E"
      refine EV_CallD h4 ?_
      walk_at "E"
      refine (cell_at_spec hB h4 hlen (by omega) ?_).le (d := d + 3) (d' := 1) (by omega)
      walk_at "E"
      refine CW_len hN (by simp; omega) ?_
      walk_at "E"
      refine int_ok ?_
      refine ⟨a, false, _, rfl, hN, by simp; omega, fun c hc => ?_⟩
      rw [pySlice_map]
      have e3 := e2.put_r (o := .list false ((pySlice ns none (some (cx.nums.getD (0 : Int).toNat 0 / 3 % ((ns.map AV.int).length + 1)))).map AV.int)) hc
      have hlen2 := pySlice_length ns none (some (cx.nums.getD (0 : Int).toNat 0 / 3 % ((ns.map AV.int).length + 1)))
      refine Op_addList (ro := false) (ro' := false) (by rw [Hp.put_ne (ne_of_new hc hN)]; exact hN) (Hp.put_self ..) (by rw [List.length_map]; omega) (by rw [List.length_map]; omega) fun e he => ?_
      walk_at "E"
      refine ⟨e3.put_r he, by walk_at "lk", e, ns ++ pySlice ns none _, by walk_at "lk", by rw [Hp.put_self, List.map_append], by rw [List.length_append]; omega, fun n hn => ?_⟩
      rcases List.mem_append.mp hn with hn | hn
      · exact hok n hn
      · exact hok n (mem_pySlice hn)
    · walk_at "E"
      exact ⟨e2, by walk_at "lk", a, ns, by walk_at "lk", hN, by omega, hok⟩
  clear hN hok hsz e2 hb ha e1 hS1
  rintro l H₃ ⟨e3, g1, a, ns, g2, hN, hsz, hok⟩
  have hnn : ∀ n ∈ ns, 0 ≤ n := fun n hn => (hok n hn).1
  -- handed = list(numbers)
  walk_at "E"
  refine CW_list_copy hN (by simp; omega) fun c hc => ?_
  have e4 := e3.put_r (o := .list false (ns.map .int)) hc
  have hN4 : (H₃.put c (.list false (ns.map .int))) a = some (.list false (ns.map .int)) := by rw [Hp.put_ne (ne_of_new hc hN)]; exact hN
  have hC4 : (H₃.put c (.list false (ns.map .int))) c = some (.list false (ns.map .int)) := Hp.put_self ..
  generalize H₃.put c _ = H₄ at e4 hN4 hC4 ⊢
  walk_at "E"
  refine EV_CallD h2 ?_
  walk_at "E"
  refine (laid_over_spec h2 h1 hC4 hnn ?_).le (d := d + 3) (d' := 2) (by omega)
  refine at_next ?_
  refine EX_cut (fun l' H' => Ext H₄ H' ∧ l' "_law_numbers" = some (.ref a) ∧ l' "_law_handed" = some (.ref c) ∧ l' "_law_found" = some (.int (nxs ns))) ?_ ?_
  · walk_at "E"
    refine EV_CallD h5 ?_
    walk_at "E"
    refine (laid_spec hB h5 hN4 hok (by omega) (by omega) fun H₅ e5 => ?_).le (d := d + 3) (d' := 1) (by omega)
    walk_at "E"
    refine ite_dec (fun h => absurd rfl h) (fun _ => ?_)
    walk_at "E"
    refine Op_neD (is_ints (e5 _ _ hC4)) (is_ints (e5 _ _ hN4)) (lay_dInts _) (lay_dInts _) (by rw [depth_dInts]; omega) ?_
    rw [eqv_dInts, decide_eq_true rfl]
    walk_at "E"
    exact ⟨e5, by walk_at "lk", by walk_at "lk", by walk_at "lk"⟩
  clear g1 g2
  rintro l' H₅ ⟨e5, g1, g2, g3⟩
  have hN5 := e5 _ _ hN4
  have hC5 := e5 _ _ hC4
  have hac : a ≠ c := ne_of_new hc hN
  -- handed.reverse()
  walk_at "E"
  refine EV_Meth F.slot_list_reverse F.type_list_reverse ?_
  walk_at "E"
  refine ⟨c, false, _, rfl, hC5, ?_⟩
  walk_at "E"
  refine CW_reverse hC5 (by rw [List.length_map]; omega) ?_
  rw [← List.map_reverse]
  have hC6 : (H₅.put c (.list false (ns.reverse.map .int))) c = _ := Hp.put_self ..
  have hN6 : (H₅.put c (.list false (ns.reverse.map .int))) a = _ := (Hp.put_ne hac).trans hN5
  generalize H₅.put c _ = H₆ at hC6 hN6 ⊢
  have hnr : ∀ n ∈ ns.reverse, 0 ≤ n := fun n hn => hnn n (List.mem_reverse.mp hn)
  refine ⟨rfl, ?_⟩
  refine at_next ?_
  refine EX_cut (fun l'' H' => Ext H₆ H' ∧ l'' "_law_numbers" = some (.ref a) ∧ l'' "_law_found" = some (.int (nxs ns))) ?_ ?_
  · walk_at "E"
    refine EV_CallD h2 ?_
    walk_at "E"
    refine (laid_over_spec h2 h1 hC6 hnr ?_).le (d := d + 3) (d' := 2) (by omega)
    rw [nxs_reverse hnn]
    walk_at "E"
    refine ite_dec (fun h => absurd rfl h) (fun _ => ?_)
    walk_at "E"
    refine EV_CallD h2 ?_
    walk_at "E"
    refine Op_addList hN6 hC6 (by rw [List.length_map]; omega) (by rw [List.length_map, List.length_reverse]; omega) fun e he => ?_
    rw [← List.map_append]
    walk_at "E"
    refine (laid_over_spec h2 h1 (Hp.put_self ..) ?_ ?_).le (d := d + 3) (d' := 2) (by omega)
    · intro n hn
      rcases List.mem_append.mp hn with hn | hn
      · exact hnn n hn
      · exact hnr n hn
    rw [nxs_append, nxs_reverse hnn, nx_self]
    walk_at "E"
    refine ite_dec (fun h => absurd rfl h) (fun _ => ?_)
    walk_at "E"
    exact ⟨.put he, by walk_at "lk", by walk_at "lk"⟩
  rintro l'' H₇ ⟨e7, k1, k2⟩
  have hN7 := e7 _ _ hN6
  walk_at "E"
  refine EV_CallD h2 ?_
  walk_at "E"
  refine EV_List ?_
  walk_at "E"
  refine ⟨by decide, fun e he => ?_⟩
  have hE : (H₇.put e (.list false [])) e = some (.list false (([] : List Int).map .int)) := Hp.put_self ..
  have hN8 : (H₇.put e (.list false [])) a = _ := (Hp.put_ne (ne_of_new he hN7)).trans hN7
  generalize H₇.put e _ = H₈ at hE hN8 ⊢
  walk_at "E"
  refine (laid_over_spec h2 h1 hE (by simp) ?_).le (d := d + 3) (d' := 2) (by omega)
  walk_at "E"
  refine ite_dec (fun _ => ?_) (fun h => absurd rfl h)
  walk_at "E"
  refine EV_CallD h2 ?_
  walk_at "E"
  refine EV_List ?_
  walk_at "E"
  refine ⟨by simp, fun g hg => ?_⟩
  refine Op_addList (ws := [.int (nxs ns)]) ((Hp.put_ne (ne_of_new hg hN8)).trans hN8) (Hp.put_self ..) (by rw [List.length_map]; omega) (by simp) fun i hi => ?_
  walk_at "E"
  refine (laid_over_spec h2 h1 (ns := ns ++ [nxs ns]) (by rw [Hp.put_self, List.map_append]; rfl) ?_ ?_).le (d := d + 3) (d' := 2) (by omega)
  · intro n hn
    rcases List.mem_append.mp hn with hn | hn
    · exact hnn n hn
    · rw [List.mem_singleton.mp hn]; exact nxs_nonneg ns
  rw [nxs_append, nxs_single (nxs_nonneg ns), nx_self]
  walk_at "E"
  rw [decide_eq_true rfl]
  exact hq _
end

end Mine

open PySem PySem.W PyProof.Rows
set_option maxRecDepth 100000
set_option maxHeartbeats 8000000
open Mine
theorem PySem.Challenge.cw_uf050033_06_holds : PySem.Challenge.rw_uf050033_06.Holds := by
  w_on; o_law; k_head; (case hw => w_witness2)
  k_fill
  intro w s₀ s₁ mg mb G Y fa o pm cd doc dV kV ho hd hcd hD hmg hg args vals as hpre hlay hrd hwl hlo
  have T := Ground.T G
  clear hd hcd hD Y G
  wrow_args hpre hlay hrd hwl hlo
  rename_i ns _ _ hL _ _ _ _ l vs _ hl _ hW _ hI _ hc _
  have hget := well_get hW hl
  let cx := mkCx Challenge.rw_uf050033_06.prog w s₁.heap l ns mg mb T.g T.b T.nolimit ⟨_, hget⟩ T.builtins
  have hB : Bs cx := bs_of T rfl (by decide +kernel)
  obtain ⟨f1, h1, -⟩ := hasDef_of T (cx := cx) rfl rfl (defAt p06 1) (posAt p06 1) (List.mem_of_getElem? (i := 0) rfl)
  obtain ⟨f2, h2, -⟩ := hasDef_of T (cx := cx) rfl rfl (defAt p06 2) (posAt p06 2) (List.mem_of_getElem? (i := 1) rfl)
  obtain ⟨f4, h4, -⟩ := hasDef_of T (cx := cx) rfl rfl (defAt p06 4) (posAt p06 4) (List.mem_of_getElem? (i := 2) rfl)
  obtain ⟨f5, h5, -⟩ := hasDef_of T (cx := cx) rfl rfl (defAt p06 5) (posAt p06 5) (List.mem_of_getElem? (i := 3) rfl)
  obtain ⟨f6, h6, -⟩ := hasDef_of T (cx := cx) rfl rfl (defAt p06 6) (posAt p06 6) (List.mem_of_getElem? (i := 4) rfl)
  obtain ⟨f7, h7, e7⟩ := hasDef_of T (cx := cx) rfl rfl (defAt p06 7) (posAt p06 7) (List.mem_of_getElem? (i := 5) rfl)
  have e : some (Value.ref fa) = some (.ref f7) := hmg.symm.trans e7
  cases e
  refine law_in (l := Challenge.rw_uf050033_06) (cx := cx) rfl rfl hget hI hg fun H => ?_
  exact law06_spec (d := 56) hB h1 h2 h4 h5 h6 h7 (by show ns.length ≤ 63; omega) (fun n hn => PyData.bits_item_of_ints hL hn) (fun _ => rfl)
