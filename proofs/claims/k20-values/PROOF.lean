import PyProof.Rows.All
import Wide.All
import OpenK.AllK
import Wide.FinOn
import HandS.ForMost
import HandS.ForExc
import HandS.CallSlots
import HandS.HeadHook2
import HandS.HeadEnd
import HandS.EndBits
import HandS.IsInst
import HandS.Wide
import HandS.WideBits
import HandS.SortRule
import HandS.SortInts
import HandS.SuiteRaise
import HandS.Flow
import HandS.Deep
import HandS.TupAny
import HandS.HeadHook4
import HandS.EndTab
import HandS.Head2
import HandS.Nested
import PySem.Challenge.RW_rowjudge_k20_values
import KE.LtSeq
import KE.LtData
import KE.DataCmp
import HandS.ClsMeth
import HandS.ExcIs
import HandS.Rev
import HandS.RevTup
import HandS.SetFor
import HandS.Strs
import HandS.Zip
import PyProof.ListRange
import PyProof.ListNew
import HandS.RevRange
import PyProof.CollectIter
import PyProof.FactsAll.range_iterator_1
import PyProof.MaxThree
import HandS.RaiseMore
import HandS.HeadWalk
import KE.IntTextLaws
import KE.KIntText
import KE.IntTextText
set_option Elab.async false
set_option linter.all false
set_option maxRecDepth 100000
set_option maxHeartbeats 0
/-! The law is reckoned, not walked by hand: Rj holds a small language, what must hold so that a text of it ends well (wp ..), and the proof that a def whose text it mirrors keeps that promise over HandS. Then the law: its text, the head, the plain law. By an AI agent, no person has read it; unjudged. -/
namespace Rj
open PySem PySem.Spec PyProof.Rows L2
/-! ### the program as it is reckoned with: names by slots -/
inductive BOp where
  | add | sub | mul | fdiv | mod | pow | shl | shr | band | bor | bxor
  deriving DecidableEq
inductive COp where
  | eq | ne | lt | le | gt | ge | isN | notN | isin | notin
  deriving DecidableEq
inductive Blt where
  | len | list | tuple | int | str | sum | max | min | abs | sortedI | sortedP | bool | all | any | divmod
  deriving DecidableEq
inductive BMt where
  | join | split | partition | startswith | find | index
  deriving DecidableEq
inductive Ty where
  | bool | int | str | list | tuple | dict
inductive Tg where
  | name (i : Nat) | tup (is : List Nat)
mutual
inductive E where
  | var (i : Nat)
  | cint (n : Int) | cbl (b : Bool) | cstr (x : Str) | cnon
  | gint (x : Str) (n : Int) | gstr (x z : Str)
  | bin (op : BOp) (a b : E)
  | neg (a : E) | not (a : E)
  | cmp (op : COp) (a b : E)
  | chain (op op' : COp) (a b c : E)
  | and (a b : E) | or (a b : E)
  | tup (es : Es) | lst (es : Es)
  | ix (a b : E)
  | sl (a : E) (lo hi : Eo)
  | call (f : Nat) (fr : Bool) (es : Es)
  | blt (b : Blt) (es : Es)
  | isi (a : E) (t : Ty)
  | comp (elt : E) (t : Tg) (it : It) (c : T)
  /-- a field of an instance -/
  | fld (a : E) (x : Str)
  /-- a method of the receiver's class -/
  | meth (a : E) (x : Str) (fr : Bool) (es : Es)
  /-- a new instance of x, by its __init__, the def i -/
  | make (x : Str) (i : Nat) (es : Es)
  /-- isinstance with a class of the text -/
  | isc (a : E) (x : Str)
  | ife (t : T) (a b : E)
  /-- a method of a built-in type, with one argument -/
  | bm (op : BMt) (a b : E)
  | upper (a : E)
  /-- list(reversed(a)) -/
  | lrev (a : E)
  /-- sorted(set(a)) of ints -/
  | sset (a : E)
  /-- list(range(a)) -/
  | lrng (a : E)
  /-- list(reversed(range(a))) -/
  | lrr (a : E)
  /-- the function that slot i holds, called -/
  | callv (i : Nat) (es : Es)
  /-- the nested def k, in slot i of the row that made it, called; it captures the slots js -/
  | calln (i k : Nat) (js : List Nat) (es : Es)
  /-- what slot i holds, an item of a list of lists -/
  | alv (i : Nat)
  /-- the def f called, its last parameter by its default None -/
  | calld (f : Nat) (fr : Bool) (es : Es)
  /-- the def f called, its last argument the local function in slot i (the nested def k), which captures the slots js -/
  | callc (f : Nat) (es : Es) (i k : Nat) (js : List Nat)
  /-- d[k], d a dict -/
  | dix (a b : E)
inductive Es where
  | nil | cons (e : E) (es : Es)
inductive Eo where
  | none | some (e : E)
inductive It where
  | e (a : E)
  | rng1 (a : E) | rng2 (a b : E) | rng3 (a b c : E)
  | zip (a b : E)
  | enum (a : E)
inductive T where
  | tru
  | e (a : E)
  | not (a : T)
  | and (a b : T)
  | or (a b : T)
  | cmp (op : COp) (a b : E)
  | chain (op op' : COp) (a b c : E)
  /-- k in d (neg: not in), d a dict -/
  | din (neg : Bool) (a b : E)
end
/-- what is asked of an exception -/
inductive XE where
  | cbl (b : Bool)
  | is (x : Str)
  | isv
  | isT (xs : List Str)
  | not (a : XE)
  | and (a b : XE)
/-- what stands in an except -/
inductive Hd where
  | asg (i : Nat) (x : XE)
  | asgL (i : Nat) (xs : List XE)
  | asgN (i : Nat)
  | app (i : Nat) (x : XE)
  | raise (x : Str)
  | asgS (i : Nat) (x : Str)
  | cat (i : Nat) (xs : List XE)
  | seq (a b : Hd)
  | sum2 (i : Nat) (a b : XE)
  | pick (j : Nat) (ss : List Str) (i : Nat) (a : XE)
def Hd.isR : Hd → Bool
  | .raise _ => true
  | _ => false
mutual
inductive S where
  | asg (i : Nat) (e : E)
  | unp (is : List Nat) (e : E)
  | aug (i : Nat) (op : BOp) (e : E)
  | app (i : Nat) (e : E)
  | ext (i : Nat) (e : E)
  | setix (i : Nat) (k e : E)
  | expr (e : E)
  | ite (c : T) (a b : Ss)
  | for (t : Tg) (it : It) (body : Ss)
  | whl (c : T) (body : Ss)
  | ret (e : E) | retN | brk | cnt | pass
  | raise (c : Str)
  /-- self.x = e, self in slot 0 -/
  | setf (x : Str) (e : E)
  /-- D.__init__(self, ..), the def i -/
  | sup (x : Str) (i : Nat) (es : Es)
  /-- i = j.pop() -/
  | pop (i j : Nat)
  | rev (i : Nat) | clr (i : Nat)
  | ins (i : Nat) (k e : E)
  /-- the dict that slot i owns: i[k] = e -/
  | dset (i : Nat) (k e : E)
  /-- i = {} -/
  | dnw (i : Nat)
  /-- i = [], a list of tuples whose item q is a list -/
  | nnw (i : Nat) (q : Nat)
  /-- i = [[] for t in it] -/
  | nlc (i : Nat) (t : Tg) (it : It)
  /-- i.append((a, [])), i.append((a, b, [])) -/
  | napp1 (i : Nat) (a : E) | napp2 (i : Nat) (a b : E)
  /-- i[k].append(e), i[k].extend(e) -/
  | ninA (i : Nat) (k e : E) | ninE (i : Nat) (k e : E)
  /-- i[k][q].append(e) -/
  | ninQ (i q : Nat) (k e : E)
  /-- s = i[k], an item of the list of lists -/
  | als (s i : Nat) (k : E)
  /-- s[q].append(e), s such an item -/
  | aapp (s q : Nat) (e : E)
  /-- s = i[k], an item of the list of lists that slot i owns, a list itself; s.append(e) -/
  | alsl (s i : Nat) (k : E) | aapl (s : Nat) (e : E)
  /-- def within a def: the nested def k into slot i -/
  | ndef (i k : Nat)
  /-- for over the list that slot i owns: it is owned behind the loop -/
  | forO (t : Tg) (i : Nat) (body : Ss)
  /-- s, the slots is given up ahead of it -/
  | fz (is : List Nat) (s : S)
  /-- try: body, except x (as slot e): h -/
  | try (body : Ss) (x : Str) (e : Option Nat) (h : Hd)
inductive Ss where
  | nil | cons (s : S) (ss : Ss)
end
/-- a def: own: the class whose method it is -/
structure Fn where
  name : Str
  N : List Str
  np : Nat
  fr : Bool
  body : Ss
  own : Option Str := none
  qual : Str := name
  /-- so many parameters have the default None -/
  dv : Nat := 0
def Fn.ini (f : Fn) : Bool := f.own.isSome && decide (f.name = "__init__")
/-- the text: its defs, which methods classes have, what is an instance of what -/
structure Prg where
  fns : List Fn
  mt : List ((Str × Str) × Nat) := []
  st : List ((Str × Str) × Bool) := []
  xt : List ((Str × Str) × Bool) := []
  at_ : List (Str × Str) := []
  /-- defs that let out exceptions without a context alone -/
  cm : List Str := []
  /-- defs within defs: the captured names stand behind the parameters -/
  nds : List (Fn × List Str) := []
def Prg.mi (p : Prg) (C x : Str) : Option Nat := p.mt.lookup (C, x)
def Prg.sub (p : Prg) (C x : Str) : Option Bool := p.st.lookup (C, x)
def Prg.xs (p : Prg) (C x : Str) : Option Bool := p.xt.lookup (C, x)
def Prg.ok (p : Prg) (C x : Str) : Bool := p.at_.contains (C, x)
structure MC where
  N : List Str
  sc : Scope
  fs : Prg
  gi : List (Str × Int)
  gs : List (Str × Str)
  bl : List Str
  ex : List Str
  /-- classes that are made, by which def -/
  mks : List (Str × Nat) := []
  /-- __init__ read off a class -/
  su : List (Str × Nat) := []
  /-- classes that are asked for by isinstance -/
  ty : List Str := []
  /-- within a def (or a try) that lets out such alone -/
  q : Bool := false
  /-- not within a try -/
  tp : Bool := true
  /-- the texts of the defs within defs; the defs that make them -/
  nst : Nat → Stmt := fun _ => .Pass ⟨0, 0, 0, 0⟩
  mkd : List (Str × Option Str) := []
  /-- not within a comprehension -/
  nb : Bool := true
  /-- a def of the module's row -/
  tl : Bool := true
  /-- the def itself; the words ahead of the names of the defs that it makes -/
  dn : Str × Option Str := ("", none)
  ql : Str := ""
def Fn.at (f : Fn) : Str × Option Str := match f.own with
  | none => (f.name, none)
  | some C => (C, some f.name)
def plainTys : List String := ["NoneType", "bool", "int", "str", "list", "tuple", "dict"]
def dOf (f : Fn) (st : Stmt) : He.DefD := ⟨f.at, f.name, f.qual, defArgs st, defBody st, defScope st, List.replicate f.dv .non, []⟩
def fnsOf (fs : List Fn) (sts : List Stmt) : List He.DefD := List.zipWith dOf fs sts
def faOf (m : MC) : List He.Fa := (m.fs.fns.filter (·.own.isNone)).map (fun f => He.Fa.glo f.name) ++ (m.bl.map He.Fa.free ++ (m.gi.map (fun p => He.Fa.int p.1 p.2) ++ (m.gs.map (fun p => He.Fa.str p.1 p.2) ++ (m.ex.map He.Fa.exc ++ m.ex.map He.Fa.glo))))
/-! ### what the classes say, as one look at the written part -/
def ownB (fs : List Fn) (i : Nat) (C x : Str) : Bool := match fs[i]? with
  | some f => decide (f.own = some C) && decide (f.name = x)
  | none => false
def tycB (K : PySem.W.Frag) (C : Addr) : Bool := He.eqO (PySem.W.findIn K (.ref C) "__class__") (some (some (.builtin "object.__class__"))) && (He.eqO (PySem.W.specialIn K (.builtin "object.__class__") "__get__") (some (some (.builtin "getset_descriptor.__get__"))) &&
  (decide (PySem.W.takesIn K (.builtin "object.__class__") = some true) && decide (PySem.W.mroIn K C (.type "object") = some true)))
def excB (K : PySem.W.Frag) (D : Addr) : Bool := He.eqO (PySem.W.findIn K (.ref D) "__getattribute__") (some (some (.builtin "BaseException.__getattribute__"))) && (He.eqO (PySem.W.findIn K (.ref D) "__getattr__") (some none) &&
  (decide (PySem.W.subIn K (.ref D) (.type "BaseException") = some true) && (PySem.W.hasDictIn K D && tycB K D)))
def initB (K : PySem.W.Frag) (C : Addr) : Bool := match PySem.W.findCls K (.ref C) (.type "type") "__init__" with
  | some (.val (.ref a)) => decide (a = He.ma K C "__init__")
  | _ => false
def facB (m : MC) (K : PySem.W.Frag) : Bool :=
  (m.fs.mt.all fun p => ownB m.fs.fns p.2 p.1.1 p.1.2 && (!decide (p.1.2 = "__init__") && ((He.Fa.cls p.1.1).ok K && (He.Fa.meth p.1.1 p.1.2).ok K))) &&
  ((m.mks.all fun p => ownB m.fs.fns p.2 p.1 "__init__" && ((He.Fa.mkr p.1).ok K && (He.Fa.glo p.1).ok K)) &&
  ((m.su.all fun p => ownB m.fs.fns p.2 p.1 "__init__" && ((He.Fa.glo p.1).ok K && (PySem.W.readsIn K (He.ga K p.1) (.type "type") && (He.eqO (PySem.W.specialIn K (.ref (He.ga K p.1)) "__getattribute__") (some (some (.builtin "type.__getattribute__"))) && initB K (He.ga K p.1))))) &&
  ((m.fs.at_.all fun p => (He.Fa.cls p.1).ok K && (He.Fa.noat p.1 p.2).ok K) &&
  ((m.fs.st.all fun p => (He.Fa.cls p.1.1).ok K && (tycB K (He.ga K p.1.1) && decide (PySem.W.kitOne K (.ref (He.ga K p.1.1)) (.ref (He.ga K p.1.2)) = some p.2))) &&
  ((m.ty.all fun T => (He.Fa.glo T).ok K && plainTys.all fun s => decide (PySem.W.kitOne K (.type s) (.ref (He.ga K T)) = some false)) &&
  ((m.fs.xt.all fun p => decide (PySem.W.exmOne K (.ref (He.ga K p.1.1)) (.ref (He.ga K p.1.2)) = some p.2) && (decide (PySem.W.kitOne K (.ref (He.ga K p.1.1)) (.ref (He.ga K p.1.2)) = some p.2) && decide (p.1.1 ∈ m.ex))) &&
  (m.ex.all fun x => decide (PySem.W.kitOne K (.ref (He.ga K x)) (.type "ValueError") = some true) && excB K (He.ga K x))))))))
/-- its two halves -/
def fac1 (m : MC) (K : PySem.W.Frag) : Bool :=
  (m.fs.mt.all fun p => ownB m.fs.fns p.2 p.1.1 p.1.2 && (!decide (p.1.2 = "__init__") && ((He.Fa.cls p.1.1).ok K && (He.Fa.meth p.1.1 p.1.2).ok K))) &&
  ((m.mks.all fun p => ownB m.fs.fns p.2 p.1 "__init__" && ((He.Fa.mkr p.1).ok K && (He.Fa.glo p.1).ok K)) &&
  ((m.su.all fun p => ownB m.fs.fns p.2 p.1 "__init__" && ((He.Fa.glo p.1).ok K && (PySem.W.readsIn K (He.ga K p.1) (.type "type") && (He.eqO (PySem.W.specialIn K (.ref (He.ga K p.1)) "__getattribute__") (some (some (.builtin "type.__getattribute__"))) && initB K (He.ga K p.1))))) &&
  (m.fs.at_.all fun p => (He.Fa.cls p.1).ok K && (He.Fa.noat p.1 p.2).ok K)))
def fac2 (m : MC) (K : PySem.W.Frag) : Bool :=
  ((m.fs.st.all fun p => (He.Fa.cls p.1.1).ok K && (tycB K (He.ga K p.1.1) && decide (PySem.W.kitOne K (.ref (He.ga K p.1.1)) (.ref (He.ga K p.1.2)) = some p.2))) &&
  ((m.ty.all fun T => (He.Fa.glo T).ok K && plainTys.all fun s => decide (PySem.W.kitOne K (.type s) (.ref (He.ga K T)) = some false)) &&
  ((m.fs.xt.all fun p => decide (PySem.W.exmOne K (.ref (He.ga K p.1.1)) (.ref (He.ga K p.1.2)) = some p.2) && (decide (PySem.W.kitOne K (.ref (He.ga K p.1.1)) (.ref (He.ga K p.1.2)) = some p.2) && decide (p.1.1 ∈ m.ex))) &&
  (m.ex.all fun x => decide (PySem.W.kitOne K (.ref (He.ga K x)) (.type "ValueError") = some true) && excB K (He.ga K x)))))
theorem fac_eq {m : MC} {K : PySem.W.Frag} : facB m K = (fac1 m K && fac2 m K) := by
  unfold facB fac1 fac2
  simp only [Bool.and_assoc]
/-- three looks at one run -/
theorem join3 {α β γ δ : Type} {x : Option α} {f : α → β} {g : α → γ} {d : α → δ} {c1 c2 cc : α → Bool} {a : β} {b : γ} {v : δ} (hc : ∀ s, cc s = (c1 s && c2 s)) (h1 : x.map (fun s => (f s, g s, d s)) = some (a, b, v)) (h2 : x.map c1 = some true) (h3 : x.map c2 = some true) : x.map (fun s => (f s, g s, (d s, cc s))) = some (a, b, (v, true)) := by
  cases x with
  | none => cases h1
  | some s =>
    have e1 : (f s, g s, d s) = (a, b, v) := Option.some.inj h1
    have e2 : c1 s = true := Option.some.inj h2
    have e3 : c2 s = true := Option.some.inj h3
    show some (f s, g s, (d s, cc s)) = _
    rw [hc, e2, e3]
    cases e1
    rfl
/-! ### the look at the top -/
abbrev AlM : Type := He.AlD × Bool
/-- the written part: what the module's names reach, and the statics -/
def frM (n : Nat) (g : Addr → Option Obj) : PySem.W.Frag := He.frG g (PySem.cStatics :: He.asD g n)
def obsM (n : Nat) (fa : List He.Fa) (fn : List He.DefD) (ex : PySem.W.Frag → Bool) (g : Addr → Option Obj) : AlM := (He.obsD fa fn (frM n g), ex (frM n g))
def hookM (n : Nat) (fa : List He.Fa) (fn : List He.DefD) (ex : PySem.W.Frag → Bool) : PySem.W.Hook where
  α := AlM
  obs s := obsM n fa fn ex s.heap.get?
  val _ := (He.valD fn, true)
  says _ h := ∃ K : PySem.W.Frag, K.In h ∧ (He.SaysD fa fn K ∧ ex K = true)
  of _ _ e := ⟨_, He.frG_in, congrArg Prod.fst e, congrArg Prod.snd e⟩
  keeps _ _ _ z k := let ⟨K, hK, c⟩ := z; ⟨K, PySem.W.Frag.In.keeps hK k, c⟩
theorem obsM_eq {n : Nat} {fa : List He.Fa} {fn : List He.DefD} {ex : PySem.W.Frag → Bool} {g : Addr → Option Obj} {s : Shared} (h : ∀ a, g a = s.heap.get? a) : obsM n fa fn ex g = (hookM n fa fn ex).obs s := by
  rw [show g = s.heap.get? from funext h]
  rfl
end Rj

namespace Rj
open PySem PySem.Spec PyProof.Rows L2
/-! ### the look at the top, with the tables of the defs tf -/
def frY (n : Nat) (g : Addr → Option Obj) : PySem.W.Frag := He.frT g (PySem.cStatics :: He.asD g n)
def tbY (g : Addr → Option Obj) (tf : List (Str × Option Str)) (K : PySem.W.Frag) : Bool := tf.all fun p => PySem.W.codeHdIn K (He.cT K p).1 (He.cT K p).2 && (match g (He.cT K p).2 with
  | some o => He.emptyTab o
  | none => false)
def obsY (n : Nat) (fa : List He.Fa) (fn : List He.DefD) (tf : List (Str × Option Str)) (ex : PySem.W.Frag → Bool) (g : Addr → Option Obj) : AlM := (He.obsD fa fn (frY n g), ex (frY n g) && tbY g tf (frY n g))
structure SaysY (fa : List He.Fa) (fn : List He.DefD) (tf : List (Str × Option Str)) (ex : PySem.W.Frag → Bool) (h : Heap) (K : PySem.W.Frag) : Prop where
  d : He.SaysD fa fn K
  x : ex K = true
  hd : ∀ p ∈ tf, PySem.W.codeHdIn K (He.cT K p).1 (He.cT K p).2 = true
  no : ∀ p ∈ tf, K.lookup (He.cT K p).2 = none
  em : ∀ p ∈ tf, h.get? (He.cT K p).2 = some { cls := .none, data := .fields #[] }
theorem saysY_of {n : Nat} {fa : List He.Fa} {fn : List He.DefD} {tf : List (Str × Option Str)} {ex : PySem.W.Frag → Bool} {h : Heap} (e : obsY n fa fn tf ex h.get? = (He.valD fn, true)) : SaysY fa fn tf ex h (frY n h.get?) := by
  have a1 := congrArg Prod.fst e
  have a2 : (ex (frY n h.get?) && tbY h.get? tf (frY n h.get?)) = true := congrArg Prod.snd e
  obtain ⟨b1, b2⟩ := Bool.and_eq_true_iff.mp a2
  have look : ∀ p ∈ tf, PySem.W.codeHdIn (frY n h.get?) (He.cT (frY n h.get?) p).1 (He.cT (frY n h.get?) p).2 = true ∧ ∃ o, h.get? (He.cT (frY n h.get?) p).2 = some o ∧ He.emptyTab o = true := fun p hp => by
    obtain ⟨c1, c2⟩ := Bool.and_eq_true_iff.mp (List.all_eq_true.mp b2 p hp)
    refine ⟨c1, ?_⟩
    revert c2
    cases h.get? (He.cT (frY n h.get?) p).2 with
    | none => exact fun z => by cases z
    | some o => exact fun z => ⟨o, rfl, z⟩
  refine ⟨a1, b1, fun p hp => (look p hp).1, fun p hp => ?_, fun p hp => ?_⟩
  · obtain ⟨_, o, q, z⟩ := look p hp
    exact He.frT_none q z
  · obtain ⟨_, o, q, z⟩ := look p hp
    rw [q, He.emptyTab_eq z]
def hookY (n : Nat) (fa : List He.Fa) (fn : List He.DefD) (tf : List (Str × Option Str)) (ex : PySem.W.Frag → Bool) : PySem.W.Hook where
  α := AlM
  obs s := obsY n fa fn tf ex s.heap.get?
  val _ := (He.valD fn, true)
  says _ h := ∃ K : PySem.W.Frag, K.In h ∧ SaysY fa fn tf ex h K
  of _ _ e := ⟨_, He.frT_in, saysY_of e⟩
  keeps _ _ _ z k := let ⟨K, hK, c⟩ := z; ⟨K, PySem.W.Frag.In.keeps hK k, ⟨c.d, c.x, c.hd, c.no, fun p hp => k _ _ (c.em p hp)⟩⟩
theorem obsY_eq {n : Nat} {fa : List He.Fa} {fn : List He.DefD} {tf : List (Str × Option Str)} {ex : PySem.W.Frag → Bool} {g : Addr → Option Obj} {s : Shared} (h : ∀ a, g a = s.heap.get? a) : obsY n fa fn tf ex g = (hookY n fa fn tf ex).obs s := by
  rw [show g = s.heap.get? from funext h]
  rfl
/-! ### the head by pieces -/
def tabK (ts : List Addr) (tf : List (Str × Option Str)) (K : PySem.W.Frag) : Bool := tf.all fun p => PySem.W.codeHdIn K (He.cT K p).1 (He.cT K p).2 && ((K.lookup (He.cT K p).2).isNone && decide ((He.cT K p).2 ∈ ts))
theorem kh_fin {K : Params → PySem.W.Frag} {as : List Addr} {e : ∀ P : Params, as = (K P).map (·.1)} {ts : List Addr} {w : World} {h : Heap} {fa : List He.Fa} {fn : List He.DefD} {tf : List (Str × Option Str)} {ex : PySem.W.Frag → Bool}
    (Y : (PySem.W.kmHook K as e ts).says w h) (hK : ∀ P : Params, (He.obsD fa fn (K P), ex (K P) && tabK ts tf (K P)) = (He.valD fn, true)) : ∃ K : PySem.W.Frag, K.In h ∧ SaysY fa fn tf ex h K := by
  obtain ⟨Y1, Y2⟩ := Y
  have e1 := congrArg Prod.fst (hK w.params)
  have e2 : (ex (K w.params) && tabK ts tf (K w.params)) = true := congrArg Prod.snd (hK w.params)
  obtain ⟨b1, b2⟩ := Bool.and_eq_true_iff.mp e2
  have look : ∀ p ∈ tf, PySem.W.codeHdIn (K w.params) (He.cT (K w.params) p).1 (He.cT (K w.params) p).2 = true ∧ (K w.params).lookup (He.cT (K w.params) p).2 = none ∧ (He.cT (K w.params) p).2 ∈ ts := fun p hp => by
    obtain ⟨c1, c2⟩ := Bool.and_eq_true_iff.mp (List.all_eq_true.mp b2 p hp)
    obtain ⟨c2, c3⟩ := Bool.and_eq_true_iff.mp c2
    exact ⟨c1, Option.isNone_iff_eq_none.mp c2, of_decide_eq_true c3⟩
  exact ⟨K w.params, Y1, e1, b1, fun p hp => (look p hp).1, fun p hp => (look p hp).2.1, fun p hp => Y2 _ (look p hp).2.2⟩
theorem kh_mono {q : Program} {loose : List Str} {XP : (Str → Option Value) → Heap → Prop} {YP YP' : World → Heap → Prop} {r : PySem.W.RowW} {d : DefRec} {kwd : List (Str × Expr)} {run : Value → List Value → Sem Value} (i : ∀ w h, YP w h → YP' w h) (H : PySem.W.WalkO q loose XP YP' r d kwd run) : PySem.W.WalkO q loose XP YP r d kwd run :=
  fun w s0 s1 mg mb G Y => H w s0 s1 mg mb G (i _ _ Y)
end Rj

namespace Lw_k20_values
open PySem PySem.Spec PyProof.Rows L2 Rj
def top (i : Nat) : Stmt := PySem.Challenge.pw_rowjudge_k20_values.main.body.getD i (.Pass ⟨0, 0, 0, 0⟩)
def sub (i k : Nat) : Stmt := match top i with
  | .ClassDef _ _ _ body _ _ _ _ _ _ _ => body.getD k (.Pass ⟨0, 0, 0, 0⟩)
  | s => s
/-- _wall -/
def f__wall : Fn := ⟨"_wall", ["k"], 1, false,
 (.cons (.whl (.e (.cbl true))
 (.cons .pass
 .nil))
 .nil), none, "_wall", 0⟩
/-- is_word -/
def f_is_word : Fn := ⟨"is_word", ["text", "sign"], 1, false,
 (.cons (.ite (.or (.cmp .eq (.var 0) (.cstr "not")) (.not (.chain .le .le (.cint 1) (.blt .len (.cons (.var 0) .nil)) (.gint "MOST_SIGNS" (12)))))
 (.cons (.ret (.cbl false))
 .nil)
 .nil)
 (.cons (.ret (.blt .all (.cons (.comp (.cmp .isin (.var 1) (.gstr "LETTERS" "abcdefghijklmnopqrstuvwxyz")) (.name 1) (.e (.var 0)) .tru) .nil)))
 .nil)), none, "is_word", 0⟩
/-- number_of -/
def f_number_of : Fn := ⟨"number_of", ["text", "figures", "sign"], 1, false,
 (.cons (.asg 1 (.var 0))
 (.cons (.ite (.cmp .eq (.sl (.var 0) .none (.some (.cint 1))) (.cstr "-"))
 (.cons (.asg 1 (.sl (.var 0) (.some (.cint 1)) .none))
 .nil)
 .nil)
 (.cons (.ite (.not (.chain .le .le (.cint 1) (.blt .len (.cons (.var 1) .nil)) (.gint "MOST_FIGURES" (60))))
 (.cons (.raise "BadNumber")
 .nil)
 .nil)
 (.cons (.for (.name 2) (.e (.var 1))
 (.cons (.ite (.cmp .notin (.var 2) (.gstr "FIGURES" "0123456789"))
 (.cons (.raise "BadNumber")
 .nil)
 .nil)
 .nil))
 (.cons (.ite (.and (.cmp .eq (.ix (.var 1) (.cint 0)) (.cstr "0")) (.cmp .ne (.var 0) (.cstr "0")))
 (.cons (.raise "BadNumber")
 .nil)
 .nil)
 (.cons (.ret (.blt .int (.cons (.var 0) .nil)))
 .nil)))))), none, "number_of", 0⟩
/-- number_text -/
def f_number_text : Fn := ⟨"number_text", ["number"], 1, false,
 (.cons (.ret (.blt .str (.cons (.var 0) .nil)))
 .nil), none, "number_text", 0⟩
/-- read_value -/
def f_read_value : Fn := ⟨"read_value", ["domain", "text"], 2, false,
 (.cons (.ite (.e (.isc (.var 0) "Words"))
 (.cons (.ret (.meth (.var 0) "code" false (.cons (.var 1) .nil)))
 .nil)
 .nil)
 (.cons (.ret (.meth (.var 0) "code" false (.cons (.call 2 false (.cons (.var 1) .nil)) .nil)))
 .nil)), none, "read_value", 0⟩
/-- show_value -/
def f_show_value : Fn := ⟨"show_value", ["domain", "code"], 2, false,
 (.cons (.ite (.e (.isc (.var 0) "Words"))
 (.cons (.ret (.meth (.var 0) "worth" false (.cons (.var 1) .nil)))
 .nil)
 .nil)
 (.cons (.ret (.call 3 false (.cons (.var 1) .nil)))
 .nil)), none, "show_value", 0⟩
/-- _law_cell_at -/
def f__law_cell_at : Fn := ⟨"_law_cell_at", ["script", "k"], 2, false,
 (.cons (.ite (.cmp .lt (.var 1) (.blt .len (.cons (.var 0) .nil)))
 (.cons (.ret (.ix (.var 0) (.var 1)))
 .nil)
 .nil)
 (.cons (.ret (.cint 0))
 .nil)), none, "_law_cell_at", 0⟩
/-- _law_low -/
def f__law_low : Fn := ⟨"_law_low", ["cell"], 1, false,
 (.cons (.ite (.cmp .eq (.bin .mod (.bin .mod (.bin .mul (.bin .mod (.var 0) (.cint 10007)) (.cint 613)) (.cint 10007)) (.cint 3)) (.cint 0))
 (.cons (.ret (.bin .sub (.bin .mod (.var 0) (.cint 41)) (.cint 20)))
 .nil)
 .nil)
 (.cons (.ret (.bin .add (.bin .sub (.bin .mod (.bin .mul (.var 0) (.bin .pow (.cint 48271) (.cint 12))) (.bin .sub (.bin .mul (.cint 2) (.bin .pow (.cint 10) (.cint 60))) (.cint 1))) (.bin .pow (.cint 10) (.cint 60))) (.cint 1)))
 .nil)), none, "_law_low", 0⟩
/-- _law_high -/
def f__law_high : Fn := ⟨"_law_high", ["low", "cell", "way", "more"], 2, false,
 (.cons (.asg 2 (.bin .mod (.bin .mod (.bin .mul (.bin .mod (.var 1) (.cint 10009)) (.cint 617)) (.cint 10009)) (.cint 4)))
 (.cons (.asg 3 (.ix (.lst (.cons (.cint 0) (.cons (.bin .mod (.var 1) (.cint 30)) (.cons (.bin .mod (.var 1) (.bin .pow (.cint 10) (.cint 60))) (.cons (.bin .mod (.bin .mul (.var 1) (.bin .pow (.cint 48271) (.cint 12))) (.bin .pow (.cint 10) (.cint 60))) .nil))))) (.var 2)))
 (.cons (.ret (.blt .min (.cons (.bin .add (.var 0) (.var 3)) (.cons (.bin .sub (.bin .pow (.cint 10) (.cint 60)) (.cint 1)) .nil))))
 .nil))), none, "_law_high", 0⟩
/-- _law_whole -/
def f__law_whole : Fn := ⟨"_law_whole", ["found"], 1, false,
 (.cons (.ret (.and (.isi (.var 0) .int) (.not (.isi (.var 0) .bool))))
 .nil), none, "_law_whole", 0⟩
/-- _law_read -/
def f__law_read : Fn := ⟨"_law_read", ["domain", "text", "found", "told", "e", "kind"], 2, false,
 (.cons (.asg 2 .cnon)
 (.cons (.asg 3 (.cstr "said"))
 (.cons (.try (.cons (.asg 2 (.call 4 false (.cons (.var 0) (.cons (.var 1) .nil))))
 .nil)
 "TableError" (some 4) (.seq (.sum2 5 (.is "BadNumber") (.is "Outside")) (.pick 3 ["other", "number", "outside", "both"] 5 .isv)))
 (.cons (.ret (.tup (.cons (.var 3) (.cons (.var 2) .nil))))
 .nil)))), none, "_law_read", 0⟩
/-- _law_said -/
def f__law_said : Fn := ⟨"_law_said", ["pair", "code"], 2, false,
 (.cons (.ret (.and (.cmp .eq (.ix (.var 0) (.cint 0)) (.cstr "said")) (.and (.call 9 false (.cons (.ix (.var 0) (.cint 1)) .nil)) (.cmp .eq (.ix (.var 0) (.cint 1)) (.var 1)))))
 .nil), none, "_law_said", 0⟩
/-- _law_numbers_right -/
def f__law_numbers_right : Fn := ⟨"_law_numbers_right", ["domain", "low", "high", "cell", "code", "text", "far", "odd"], 4, false,
 (.cons (.asg 4 (.bin .add (.var 1) (.bin .mod (.bin .mul (.var 3) (.bin .pow (.cint 48271) (.cint 12))) (.bin .add (.bin .sub (.var 2) (.var 1)) (.cint 1)))))
 (.cons (.asg 5 (.call 5 false (.cons (.var 0) (.cons (.var 4) .nil))))
 (.cons (.ite (.or (.not (.e (.isi (.var 5) .str))) (.or (.cmp .ne (.var 5) (.blt .str (.cons (.var 4) .nil))) (.not (.e (.call 11 false (.cons (.call 10 false (.cons (.var 0) (.cons (.var 5) .nil))) (.cons (.var 4) .nil)))))))
 (.cons (.ret (.cbl false))
 .nil)
 .nil)
 (.cons (.asg 6 (.bin .add (.bin .pow (.cint 10) (.cint 58)) (.bin .mod (.var 3) (.bin .pow (.cint 10) (.cint 58)))))
 (.cons (.ite (.cmp .ne (.ix (.call 10 false (.cons (.var 0) (.cons (.blt .str (.cons (.bin .add (.var 2) (.cint 1)) .nil)) .nil))) (.cint 0)) (.ix (.lst (.cons (.cstr "outside") (.cons (.cstr "number") .nil))) (.blt .int (.cons (.cmp .eq (.var 2) (.bin .sub (.bin .pow (.cint 10) (.cint 60)) (.cint 1))) .nil))))
 (.cons (.ret (.cbl false))
 .nil)
 .nil)
 (.cons (.ite (.and (.cmp .gt (.var 1) (.bin .mul (.neg (.cint 9)) (.bin .pow (.cint 10) (.cint 59)))) (.cmp .ne (.ix (.call 10 false (.cons (.var 0) (.cons (.blt .str (.cons (.bin .sub (.var 1) (.var 6)) .nil)) .nil))) (.cint 0)) (.cstr "outside")))
 (.cons (.ret (.cbl false))
 .nil)
 .nil)
 (.cons (.asg 7 (.lst (.cons (.cstr "") (.cons (.cstr "-") (.cons (.bin .add (.cstr "0") (.blt .str (.cons (.blt .abs (.cons (.var 4) .nil)) .nil))) (.cons (.cstr "+1") (.cons (.cstr " 1") (.cons (.cstr "one") (.cons (.cstr "1..2") (.cons (.bin .add (.blt .str (.cons (.var 4) .nil)) (.cstr " ")) (.cons (.cstr "-0") (.cons (.cstr "1_0") .nil))))))))))))
 (.cons (.ret (.cmp .eq (.ix (.call 10 false (.cons (.var 0) (.cons (.ix (.var 7) (.bin .mod (.bin .mod (.bin .mul (.bin .mod (.var 3) (.cint 10037)) (.cint 619)) (.cint 10037)) (.cint 10))) .nil))) (.cint 0)) (.cstr "number")))
 .nil)))))))), none, "_law_numbers_right", 0⟩
/-- _law_words_right -/
def f__law_words_right : Fn := ⟨"_law_words_right", ["domain", "words", "cell", "code", "text", "odd"], 3, false,
 (.cons (.asg 3 (.bin .mod (.bin .mod (.bin .mul (.bin .mod (.var 2) (.cint 10037)) (.cint 619)) (.cint 10037)) (.blt .len (.cons (.var 1) .nil))))
 (.cons (.asg 4 (.call 5 false (.cons (.var 0) (.cons (.var 3) .nil))))
 (.cons (.ite (.or (.not (.e (.isi (.var 4) .str))) (.or (.cmp .ne (.var 4) (.ix (.var 1) (.var 3))) (.not (.e (.call 11 false (.cons (.call 10 false (.cons (.var 0) (.cons (.var 4) .nil))) (.cons (.var 3) .nil)))))))
 (.cons (.ret (.cbl false))
 .nil)
 .nil)
 (.cons (.asg 5 (.lst (.cons (.cstr "") (.cons (.blt .str (.cons (.var 3) .nil)) (.cons (.cstr "not") (.cons (.cstr "One") (.cons (.cstr "tw") (.cons (.bin .add (.ix (.var 1) (.var 3)) (.cstr "x")) (.cons (.bin .add (.cstr " ") (.ix (.var 1) (.var 3))) (.cons (.cstr "-") (.cons (.cstr "oneoneone") .nil)))))))))))
 (.cons (.ret (.cmp .eq (.ix (.call 10 false (.cons (.var 0) (.cons (.ix (.var 5) (.bin .mod (.bin .mod (.bin .mul (.bin .mod (.var 2) (.cint 10039)) (.cint 631)) (.cint 10039)) (.cint 9))) .nil))) (.cint 0)) (.cstr "outside")))
 .nil))))), none, "_law_words_right", 0⟩
/-- law -/
def f_law : Fn := ⟨"law", ["script", "low", "high", "count", "words", "numbers", "named", "cell"], 1, false,
 (.cons (.asg 1 (.call 7 false (.cons (.call 6 false (.cons (.var 0) (.cons (.cint 0) .nil))) .nil)))
 (.cons (.asg 2 (.call 8 false (.cons (.var 1) (.cons (.call 6 false (.cons (.var 0) (.cons (.cint 1) .nil))) .nil))))
 (.cons (.asg 3 (.bin .add (.cint 1) (.bin .mod (.bin .mod (.bin .mul (.bin .mod (.call 6 false (.cons (.var 0) (.cons (.cint 1) .nil))) (.cint 10061)) (.cint 641)) (.cint 10061)) (.cint 8))))
 (.cons (.asg 4 (.sl (.lst (.cons (.cstr "two") (.cons (.cstr "one") (.cons (.cstr "three") (.cons (.cstr "oneone") (.cons (.cstr "o") (.cons (.cstr "zero") (.cons (.cstr "on") (.cons (.cstr "abcdefghijkl") .nil))))))))) .none (.some (.var 3))))
 (.cons (.asg 5 (.make "Numbers" 16 (.cons (.var 1) (.cons (.var 2) .nil))))
 (.cons (.asg 6 (.make "Words" 15 (.cons (.blt .list (.cons (.var 4) .nil)) .nil)))
 (.cons (.for (.name 7) (.e (.bin .add (.lst (.cons (.cint 0) .nil)) (.sl (.var 0) (.some (.cint 2)) .none)))
 (.cons (.ite (.not (.e (.call 12 false (.cons (.var 5) (.cons (.var 1) (.cons (.var 2) (.cons (.var 7) .nil)))))))
 (.cons (.ret (.cbl false))
 .nil)
 .nil)
 (.cons (.ite (.not (.e (.call 13 false (.cons (.var 6) (.cons (.var 4) (.cons (.var 7) .nil))))))
 (.cons (.ret (.cbl false))
 .nil)
 .nil)
 .nil)))
 (.cons (.ret (.cbl true))
 .nil)))))))), none, "law", 0⟩
/-- Words___init__ -/
def f_Words___init__ : Fn := ⟨"__init__", ["self", "words", "k"], 2, false,
 (.cons (.ite (.not (.chain .le .le (.cint 1) (.blt .len (.cons (.var 1) .nil)) (.gint "MOST_WORDS" (40))))
 (.cons (.raise "BadDomain")
 .nil)
 .nil)
 (.cons (.for (.name 2) (.rng1 (.blt .len (.cons (.var 1) .nil)))
 (.cons (.ite (.or (.not (.e (.call 1 false (.cons (.ix (.var 1) (.var 2)) .nil)))) (.cmp .isin (.ix (.var 1) (.var 2)) (.sl (.var 1) .none (.some (.var 2)))))
 (.cons (.raise "BadDomain")
 .nil)
 .nil)
 .nil))
 (.cons (.sup "Domain" 17 (.cons (.cint 0) (.cons (.bin .sub (.blt .len (.cons (.var 1) .nil)) (.cint 1)) .nil)))
 (.cons (.setf "words" (.blt .list (.cons (.var 1) .nil)))
 .nil)))), some "Words", "Words.__init__", 0⟩
/-- Numbers___init__ -/
def f_Numbers___init__ : Fn := ⟨"__init__", ["self", "low", "high"], 3, false,
 (.cons (.ite (.cmp .gt (.var 1) (.var 2))
 (.cons (.raise "BadDomain")
 .nil)
 .nil)
 (.cons (.sup "Domain" 17 (.cons (.var 1) (.cons (.var 2) .nil)))
 .nil)), some "Numbers", "Numbers.__init__", 0⟩
/-- Domain___init__ -/
def f_Domain___init__ : Fn := ⟨"__init__", ["self", "low", "high"], 3, false,
 (.cons (.setf "low" (.var 1))
 (.cons (.setf "high" (.var 2))
 .nil)), some "Domain", "Domain.__init__", 0⟩
/-- Numbers_code -/
def f_Numbers_code : Fn := ⟨"code", ["self", "value"], 2, false,
 (.cons (.ite (.not (.e (.meth (.var 0) "bears" false (.cons (.var 1) .nil))))
 (.cons (.raise "Outside")
 .nil)
 .nil)
 (.cons (.ret (.meth (.var 0) "place" false (.cons (.var 1) .nil)))
 .nil)), some "Numbers", "Domain.code", 0⟩
/-- Words_code -/
def f_Words_code : Fn := ⟨"code", ["self", "value"], 2, false,
 (.cons (.ite (.not (.e (.meth (.var 0) "bears" false (.cons (.var 1) .nil))))
 (.cons (.raise "Outside")
 .nil)
 .nil)
 (.cons (.ret (.meth (.var 0) "place" false (.cons (.var 1) .nil)))
 .nil)), some "Words", "Domain.code", 0⟩
/-- Numbers_worth -/
def f_Numbers_worth : Fn := ⟨"worth", ["self", "code"], 2, false,
 (.cons (.ite (.not (.chain .le .le (.fld (.var 0) "low") (.var 1) (.fld (.var 0) "high")))
 (.cons (.raise "Outside")
 .nil)
 .nil)
 (.cons (.ret (.meth (.var 0) "told" false (.cons (.var 1) .nil)))
 .nil)), some "Numbers", "Domain.worth", 0⟩
/-- Words_worth -/
def f_Words_worth : Fn := ⟨"worth", ["self", "code"], 2, false,
 (.cons (.ite (.not (.chain .le .le (.fld (.var 0) "low") (.var 1) (.fld (.var 0) "high")))
 (.cons (.raise "Outside")
 .nil)
 .nil)
 (.cons (.ret (.meth (.var 0) "told" false (.cons (.var 1) .nil)))
 .nil)), some "Words", "Domain.worth", 0⟩
/-- Numbers_bears -/
def f_Numbers_bears : Fn := ⟨"bears", ["self", "value"], 2, false,
 (.cons (.ite (.or (.e (.isi (.var 1) .bool)) (.not (.e (.isi (.var 1) .int))))
 (.cons (.ret (.cbl false))
 .nil)
 .nil)
 (.cons (.ret (.chain .le .le (.fld (.var 0) "low") (.var 1) (.fld (.var 0) "high")))
 .nil)), some "Numbers", "Numbers.bears", 0⟩
/-- Words_bears -/
def f_Words_bears : Fn := ⟨"bears", ["self", "value"], 2, false,
 (.cons (.ret (.and (.isi (.var 1) .str) (.cmp .isin (.var 1) (.fld (.var 0) "words"))))
 .nil), some "Words", "Words.bears", 0⟩
/-- Numbers_place -/
def f_Numbers_place : Fn := ⟨"place", ["self", "value"], 2, false,
 (.cons (.ret (.var 1))
 .nil), some "Numbers", "Numbers.place", 0⟩
/-- Words_place -/
def f_Words_place : Fn := ⟨"place", ["self", "value"], 2, false,
 (.cons (.ret (.bm .index (.fld (.var 0) "words") (.var 1)))
 .nil), some "Words", "Words.place", 0⟩
/-- Numbers_told -/
def f_Numbers_told : Fn := ⟨"told", ["self", "code"], 2, false,
 (.cons (.ret (.var 1))
 .nil), some "Numbers", "Numbers.told", 0⟩
/-- Words_told -/
def f_Words_told : Fn := ⟨"told", ["self", "code"], 2, false,
 (.cons (.ret (.ix (.fld (.var 0) "words") (.var 1)))
 .nil), some "Words", "Words.told", 0⟩
def fns : List Fn := [f__wall, f_is_word, f_number_of, f_number_text, f_read_value, f_show_value, f__law_cell_at, f__law_low, f__law_high, f__law_whole, f__law_read, f__law_said, f__law_numbers_right, f__law_words_right, f_law, f_Words___init__, f_Numbers___init__, f_Domain___init__, f_Numbers_code, f_Words_code, f_Numbers_worth, f_Words_worth, f_Numbers_bears, f_Words_bears, f_Numbers_place, f_Words_place, f_Numbers_told, f_Words_told]
def fs : Prg := { fns := fns, mt := [((("Numbers" : Str), ("code" : Str)), (18 : Nat)), ((("Words" : Str), ("code" : Str)), (19 : Nat)), ((("Numbers" : Str), ("worth" : Str)), (20 : Nat)), ((("Words" : Str), ("worth" : Str)), (21 : Nat)), ((("Numbers" : Str), ("bears" : Str)), (22 : Nat)), ((("Words" : Str), ("bears" : Str)), (23 : Nat)), ((("Numbers" : Str), ("place" : Str)), (24 : Nat)), ((("Words" : Str), ("place" : Str)), (25 : Nat)), ((("Numbers" : Str), ("told" : Str)), (26 : Nat)), ((("Words" : Str), ("told" : Str)), (27 : Nat))], st := [((("Numbers" : Str), ("Words" : Str)), false), ((("Words" : Str), ("Words" : Str)), true)], xt := [((("BadDomain" : Str), ("BadNumber" : Str)), false), ((("BadDomain" : Str), ("Outside" : Str)), false), ((("BadDomain" : Str), ("TableError" : Str)), true), ((("BadNumber" : Str), ("BadNumber" : Str)), true), ((("BadNumber" : Str), ("Outside" : Str)), false), ((("BadNumber" : Str), ("TableError" : Str)), true), ((("Outside" : Str), ("BadNumber" : Str)), false), ((("Outside" : Str), ("Outside" : Str)), true), ((("Outside" : Str), ("TableError" : Str)), true), ((("TableError" : Str), ("BadNumber" : Str)), false), ((("TableError" : Str), ("Outside" : Str)), false), ((("TableError" : Str), ("TableError" : Str)), true)], at_ := [(("Numbers" : Str), ("high" : Str)), (("Numbers" : Str), ("low" : Str)), (("Numbers" : Str), ("words" : Str)), (("Words" : Str), ("high" : Str)), (("Words" : Str), ("low" : Str)), (("Words" : Str), ("words" : Str))] }
def sts : List Stmt := [top 0, top 12, top 13, top 14, top 19, top 20, top 22, top 23, top 24, top 25, top 26, top 27, top 28, top 29, top 30, sub 17 0, sub 16 0, sub 15 0, sub 15 5, sub 15 5, sub 15 6, sub 15 6, sub 16 1, sub 17 1, sub 16 2, sub 17 2, sub 16 3, sub 17 3]
abbrev i__wall : Nat := 0
abbrev i_is_word : Nat := 1
abbrev i_number_of : Nat := 2
abbrev i_number_text : Nat := 3
abbrev i_read_value : Nat := 4
abbrev i_show_value : Nat := 5
abbrev i__law_cell_at : Nat := 6
abbrev i__law_low : Nat := 7
abbrev i__law_high : Nat := 8
abbrev i__law_whole : Nat := 9
abbrev i__law_read : Nat := 10
abbrev i__law_said : Nat := 11
abbrev i__law_numbers_right : Nat := 12
abbrev i__law_words_right : Nat := 13
abbrev i_law : Nat := 14
abbrev i_Words___init__ : Nat := 15
abbrev i_Numbers___init__ : Nat := 16
abbrev i_Domain___init__ : Nat := 17
abbrev i_Numbers_code : Nat := 18
abbrev i_Words_code : Nat := 19
abbrev i_Numbers_worth : Nat := 20
abbrev i_Words_worth : Nat := 21
abbrev i_Numbers_bears : Nat := 22
abbrev i_Words_bears : Nat := 23
abbrev i_Numbers_place : Nat := 24
abbrev i_Words_place : Nat := 25
abbrev i_Numbers_told : Nat := 26
abbrev i_Words_told : Nat := 27
def mc : MC := { N := [], sc := defScope (top 0), fs := fs, gi := [("MOST_FIGURES", (60 : Int)), ("MOST_SIGNS", (12 : Int)), ("MOST_WORDS", (40 : Int))], gs := [("FIGURES", ("0123456789" : Str)), ("LETTERS", ("abcdefghijklmnopqrstuvwxyz" : Str))], bl := [("ValueError" : Str), ("abs" : Str), ("all" : Str), ("bool" : Str), ("int" : Str), ("isinstance" : Str), ("len" : Str), ("list" : Str), ("min" : Str), ("range" : Str), ("str" : Str)], ex := [("BadDomain" : Str), ("BadNumber" : Str), ("Outside" : Str), ("TableError" : Str)], mks := [("Numbers", 16), ("Words", 15)], su := [("Domain", 17)], ty := [("Words" : Str)] }
def fn : List He.DefD := fnsOf mc.fs.fns sts
def fa : List He.Fa := faOf mc
abbrev R : PySem.W.OpenRow := PySem.W.OpenLaw.row PySem.Challenge.rw_rowjudge_k20_values
abbrev hk : PySem.W.Hook := hookM 6 fa fn (facB mc)
def ob (s : PySem.W.SharedT) : AlM := obsM 6 fa fn (facB mc) (HandSHeadRun.getT s)
theorem ob_eq (s : PySem.W.SharedT) : ob s = hk.obs s.abs := obsM_eq (HandSHeadRun.getT_eq s)

theorem run (w : World) : HandSHeadRun.RunEq R (PySem.W.view R.prog [30]) hk ob 22060 [("_wall" : Str), ("TableError" : Str), ("BadNumber" : Str), ("BadDomain" : Str), ("Outside" : Str), ("LETTERS" : Str), ("FIGURES" : Str), ("MOST_FIGURES" : Str), ("MOST_SIGNS" : Str), ("MOST_WORDS" : Str), ("is_word" : Str), ("number_of" : Str), ("number_text" : Str), ("Domain" : Str), ("Numbers" : Str), ("Words" : Str), ("read_value" : Str), ("show_value" : Str), ("_law_cell_at" : Str), ("_law_low" : Str), ("_law_high" : Str), ("_law_whole" : Str), ("_law_read" : Str), ("_law_said" : Str), ("_law_numbers_right" : Str), ("_law_words_right" : Str)] w := by
  intro os
  kernel_rfl
end Lw_k20_values

namespace Rj
open PySem PySem.Spec PyProof.Rows L2
/-! ### data as values, without addresses -/
inductive D where
  | non | bl (b : Bool) | int (i : Int) | str (x : Str)
  | lst (xs : List D) | tup (xs : List D)
  | ins (c : Str) (ks : List Str) (vs : List D)
  | dic (ks : List Key) (vs : List D)
  /-- the law's script: it is read alone -/
  | scr (ns : List Int)
  /-- a thing of which nothing is told -/
  | any
  /-- a function made within a def: the nested def k, what it captured -/
  | fn (k : Nat) (cs : List D)
mutual
def D.imm : D → Bool
  | .lst _ => false
  | .tup xs => immL xs
  | .ins _ _ _ => false
  | .dic _ _ => false
  | .scr _ => true
  | .non => true
  | .bl _ => true
  | .int _ => true
  | .str _ => true
  | .any => false
  | .fn _ _ => false
def immL : List D → Bool
  | [] => true
  | d :: ds => d.imm && immL ds
end
mutual
def D.py : D → PyData
  | .non => .none
  | .bl b => .bool b
  | .int i => .int i
  | .str x => .str x
  | .lst xs => .list (pyL xs)
  | .tup xs => .tuple (pyL xs)
  | .ins _ _ _ => .dict []
  | .dic _ _ => .dict []
  | .scr ns => .list (ns.map .int)
  | .any => .dict []
  | .fn _ _ => .dict []
def pyL : List D → List PyData
  | [] => []
  | d :: ds => d.py :: pyL ds
end
/-- the names of the code objects of nested defs, by line and column -/
class Nm where
  nm : Nat → Nat → Str
/-- where classes stand; the nested defs: their words, what they capture; the tables of code objects -/
structure Ca where
  at_ : Str → Addr
  nf : Nat → List (Str × Addr) → Addr → NdefX.NF
  fv : Nat → List Str
  tb : List (Addr × Addr)
instance : CoeFun Ca fun _ => Str → Addr := ⟨Ca.at_⟩
/-- what stays the same through a law's run -/
structure G where
  K : PySem.W.Frag
  ca : Ca
/-- .. and through a frame's: its cells -/
structure GZ where
  g : G
  zc : List (Str × Addr)
instance : Coe GZ G := ⟨GZ.g⟩
abbrev GZ.K (g : GZ) : PySem.W.Frag := g.g.K
abbrev GZ.ca (g : GZ) : Ca := g.g.ca
/-- no table -/
def NT : HO → Prop
  | .tbl _ => False
  | _ => True
/-- every table that is tracked tells tracked code objects, named by their place -/
def TabG [Nm] (P : Addr) (H : Hp) : Prop := NdefX.TabN H P Nm.nm
/-- all that stood stands, tables may have grown -/
structure Same [Nm] (H H' : Hp) : Prop where
  k : ∀ b o, H b = some o → NT o → H' b = some o
  tt : ∀ b ps, H b = some (.tbl ps) → H' b ≠ none
  t : ∀ {P : Addr}, TabG P H → TabG P H'
theorem Same.ap [Nm] {H H' : Hp} (s : Same H H') (b : Addr) (o : HO) (h : H b = some o) (nt : NT o := by exact trivial) : H' b = some o := s.k b o h nt
instance [Nm] (H H' : Hp) : CoeFun (Same H H') fun _ => ∀ (b : Addr) (o : HO) (h : H b = some o) (nt : NT o := by exact trivial), H' b = some o := ⟨@Same.ap _ H H'⟩
section
variable [Nm]
theorem Same.refl (H : Hp) : Same H H := ⟨fun _ _ h _ => h, fun _ ps h z => (by rw [h] at z; cases z), id⟩
theorem Same.free {H H' : Hp} (e : Same H H') {l : Addr} (h : H' l = Option.none) : H l = Option.none := by
  cases q : H l with
  | none => rfl
  | some o =>
    cases o with
    | tbl ps => exact absurd h (e.tt l ps q)
    | _ =>
      have h' := e.k l _ q trivial
      rw [h] at h'
      cases h'
theorem Same.trans {H H1 H2 : Hp} (a : Same H H1) (b : Same H1 H2) : Same H H2 := ⟨fun c o h n => b.k c o (a.k c o h n) n, fun c ps h z => a.tt c ps h (b.free z), fun z => b.t (a.t z)⟩
/-- nothing but tracked things more, no tables -/
theorem Same.of {H H' : Hp} (k : ∀ b o, H b = some o → H' b = some o) (n : ∀ b ps, H' b = some (.tbl ps) → H b = some (.tbl ps)) : Same H H' :=
  ⟨fun b o h _ => k b o h, fun b ps h z => (by rw [k b _ h] at z; cases z), fun z => NdefX.TabN.ext z k⟩
theorem same_new {H : Hp} {p : Addr} {o : HO} (hp : H p = none) (nt : NT o := by exact trivial) : Same H (L2.upd H p o) := by
  refine .of (fun b u q => by rw [upd_ne (ne_of_none q hp)]; exact q) fun b ps e => ?_
  by_cases hb : b = p
  · subst hb
    rw [upd_same] at e
    cases e
    exact nt.elim
  · rw [upd_ne hb] at e
    exact e
end
/-- a tracked thing that may be written -/
def Wr : HO → Prop
  | .lst _ => True
  | .dK _ => True
  | .ins _ _ _ => True
  | _ => False
/-- a list that is never written: the script, a list of the written part -/
def Fz (K : PySem.W.Frag) (H : Hp) (a : Addr) (xs : List V) : Prop := (∃ o, H a = some (.frz o (.lst xs))) ∨
  ∃ (o : Obj) (its : Array Value) (n : Nat), K.lookup a = some o ∧ o.cls = .type "list" ∧ o.dict = none ∧ o.data = .seq its n ∧ its.size ≤ sizeLine ∧ Vals xs its.toList
theorem Fz.sq {K : PySem.W.Frag} {H : Hp} {a : Addr} {xs : List V} (h : Fz K H a xs) : SqL K H a xs := h.imp_left .inr
theorem Fz.ext [Nm] {K : PySem.W.Frag} {H H' : Hp} {a : Addr} {xs : List V} (e : Same H H') (h : Fz K H a xs) : Fz K H' a xs := h.imp_left fun ⟨o, z⟩ => ⟨o, e _ _ z⟩
/-- a captured cell, as long as it is not its frame's own -/
def CelO (a : Addr) (o : Obj) : HO := .ext fun h => h.get? a = some o
/-- the captured cells are tracked and hold the values -/
structure CellT (H : Hp) (cl : List (Str × Addr)) (fr : List Str) (ws : List V) : Prop where
  len : ws.length = fr.length
  all : ∀ y c, cl.lookup y = some c → ∃ o, H c = some (CelO c o) ∧ ∃ v, o.data = .cell v
  inj : ∀ x y c, cl.lookup x = some c → cl.lookup y = some c → x = y
  has : ∀ (i : Nat) (y : Str), fr[i]? = some y → ∃ c o u w, cl.lookup y = some c ∧ H c = some (CelO c o) ∧ o.data = .cell (some u) ∧ ws[i]? = some w ∧ L2.RelV w u
theorem CellT.ext {H H' : Hp} {cl : List (Str × Addr)} {fr : List Str} {ws : List V} (c : CellT H cl fr ws) (e : ∀ a o, H a = some (CelO a o) → H' a = some (CelO a o)) : CellT H' cl fr ws :=
  ⟨c.len, fun y a h => let ⟨o, h1, h2⟩ := c.all y a h; ⟨o, e _ _ h1, h2⟩, c.inj, fun i y h => let ⟨a, o, u, w, h1, h2, h3⟩ := c.has i y h; ⟨a, o, u, w, h1, e _ _ h2, h3⟩⟩
section
variable (g : G)
mutual
def Rep (A : Addr → Prop) (H : Hp) : D → V → Prop
  | .non, v => v = .non
  | .bl b, v => v = .bl b
  | .int i, v => v = .int i
  | .str x, v => v = .str x
  | .lst ds, v => ∃ a xs, v = .ref a ∧ A a ∧ H a = some (.lst xs) ∧ RepL A H ds xs
  | .tup ds, v => ∃ a xs, v = .ref a ∧ H a = some (.tup xs) ∧ RepL A H ds xs
  | .ins c ks ds, v => ∃ a dx fs, v = .ref a ∧ A a ∧ H a = some (.ins (g.ca c) dx fs) ∧ fs.map (·.1) = ks ∧ RepL A H ds (fs.map (·.2))
  | .dic ks ds, v => ∃ a kvs, v = .ref a ∧ A a ∧ H a = some (.dK kvs) ∧ kvs.map (·.1) = ks ∧ RepL A H ds (kvs.map (·.2))
  | .scr ns, v => ∃ a, v = .ref a ∧ Fz g.K H a (ns.map V.int)
  | .any, _ => True
  | .fn k cs, v => ∃ f cl c ws, v = .ref f ∧ H f = some (NdefX.FnO f (g.ca.nf k cl c)) ∧ (g.ca.nf k cl c).c = c ∧ H c = some (LamX.CodeO c (g.ca.nf k cl c).qual) ∧ CellT H (g.ca.nf k cl c).cl (g.ca.fv k) ws ∧ RepL A H cs ws
def RepL (A : Addr → Prop) (H : Hp) : List D → List V → Prop
  | [], vs => vs = []
  | d :: ds, vs => ∃ v r, vs = v :: r ∧ Rep A H d v ∧ RepL A H ds r
end
end
theorem Same.sqT [Nm] {K : PySem.W.Frag} {H H' : Hp} {a : Addr} {xs : List V} (e : Same H H') (h : SqT K H a xs) : SqT K H' a xs := by
  rcases h with (h | ⟨o, h⟩) | h
  · exact .inl (.inl (e _ _ h))
  · exact .inl (.inr ⟨o, e _ _ h⟩)
  · exact .inr h
section
variable [Nm] {g : G}
mutual
theorem Rep.imp {A A' : Addr → Prop} {H H' : Hp} (hA : ∀ a, A a → A' a) (e : Same H H') : ∀ {d : D} {v : V}, Rep g A H d v → Rep g A' H' d v
  | .non, _, h => h
  | .bl _, _, h => h
  | .int _, _, h => h
  | .str _, _, h => h
  | .lst ds, _, h => by
    obtain ⟨a, xs, ev, ha, hs, hl⟩ := h
    exact ⟨a, xs, ev, hA a ha, e _ _ hs, RepL.imp hA e hl⟩
  | .tup ds, _, h => by
    obtain ⟨a, xs, ev, hs, hl⟩ := h
    exact ⟨a, xs, ev, e _ _ hs, RepL.imp hA e hl⟩
  | .ins c ks ds, _, h => by
    obtain ⟨a, dx, fs, ev, ha, hs, hk, hl⟩ := h
    exact ⟨a, dx, fs, ev, hA a ha, e _ _ hs, hk, RepL.imp hA e hl⟩
  | .dic ks ds, _, h => by
    obtain ⟨a, kvs, ev, ha, hs, hk, hl⟩ := h
    exact ⟨a, kvs, ev, hA a ha, e _ _ hs, hk, RepL.imp hA e hl⟩
  | .scr ns, _, h => by
    obtain ⟨a, ev, hs⟩ := h
    exact ⟨a, ev, hs.ext e⟩
  | .any, _, _ => trivial
  | .fn k cs, _, h => by
    obtain ⟨f, cl, c, ws, ev, h1, h2, h3, h4, hl⟩ := h
    exact ⟨f, cl, c, ws, ev, e _ _ h1, h2, e _ _ h3, h4.ext fun a o z => e _ _ z, RepL.imp hA e hl⟩
theorem RepL.imp {A A' : Addr → Prop} {H H' : Hp} (hA : ∀ a, A a → A' a) (e : Same H H') : ∀ {ds : List D} {vs : List V}, RepL g A H ds vs → RepL g A' H' ds vs
  | [], _, h => h
  | d :: ds, _, h => by
    obtain ⟨v, r, ev, h1, h2⟩ := h
    exact ⟨v, r, ev, Rep.imp hA e h1, RepL.imp hA e h2⟩
end
theorem Rep.ext {A : Addr → Prop} {H H' : Hp} {d : D} {v : V} (h : Rep g A H d v) (e : Same H H') : Rep g A H' d v := h.imp (fun _ z => z) e
theorem Rep.mono {A A' : Addr → Prop} {H : Hp} {d : D} {v : V} (h : Rep g A H d v) (hA : ∀ a, A a → A' a) : Rep g A' H d v := h.imp hA (Same.refl _)
theorem RepL.ext {A : Addr → Prop} {H H' : Hp} {d : List D} {v : List V} (h : RepL g A H d v) (e : Same H H') : RepL g A H' d v := h.imp (fun _ z => z) e
theorem RepL.mono {A A' : Addr → Prop} {H : Hp} {d : List D} {v : List V} (h : RepL g A H d v) (hA : ∀ a, A a → A' a) : RepL g A' H d v := h.imp hA (Same.refl _)
mutual
theorem Rep.there {A : Addr → Prop} {H : Hp} : ∀ {d : D} {v : V}, Rep g A H d v → Rep g (fun b => A b ∧ H b ≠ none) H d v
  | .non, _, h => h
  | .bl _, _, h => h
  | .int _, _, h => h
  | .str _, _, h => h
  | .lst ds, _, h => by
    obtain ⟨a, xs, ev, ha, hs, hl⟩ := h
    exact ⟨a, xs, ev, ⟨ha, by rw [hs]; exact fun z => nomatch z⟩, hs, RepL.there hl⟩
  | .tup ds, _, h => by
    obtain ⟨a, xs, ev, hs, hl⟩ := h
    exact ⟨a, xs, ev, hs, RepL.there hl⟩
  | .ins c ks ds, _, h => by
    obtain ⟨a, dx, fs, ev, ha, hs, hk, hl⟩ := h
    exact ⟨a, dx, fs, ev, ⟨ha, by rw [hs]; exact fun z => nomatch z⟩, hs, hk, RepL.there hl⟩
  | .dic ks ds, _, h => by
    obtain ⟨a, kvs, ev, ha, hs, hk, hl⟩ := h
    exact ⟨a, kvs, ev, ⟨ha, by rw [hs]; exact fun z => nomatch z⟩, hs, hk, RepL.there hl⟩
  | .scr ns, _, h => h
  | .any, _, _ => trivial
  | .fn k cs, _, h => by
    obtain ⟨f, cl, c, ws, ev, h1, h2, h3, h4, hl⟩ := h
    exact ⟨f, cl, c, ws, ev, h1, h2, h3, h4, RepL.there hl⟩
theorem RepL.there {A : Addr → Prop} {H : Hp} : ∀ {ds : List D} {vs : List V}, RepL g A H ds vs → RepL g (fun b => A b ∧ H b ≠ none) H ds vs
  | [], _, h => h
  | d :: ds, _, h => by
    obtain ⟨v, r, ev, h1, h2⟩ := h
    exact ⟨v, r, ev, Rep.there h1, RepL.there h2⟩
end
/-- all that is read stays where one thing that may be written is written -/
theorem rd_upd {H : Hp} {p a : Addr} {o o' u : HO} (hp : H p = some o) (hw : Wr o) (nu : ¬ Wr u) (h : H a = some u) : L2.upd H p o' a = some u := by
  have ne : a ≠ p := fun z => by
    subst z
    rw [hp] at h
    cases h
    exact nu hw
  rw [upd_ne ne]
  exact h
mutual
theorem Rep.upd {A : Addr → Prop} {H : Hp} {p : Addr} {o o' : HO} (hp : H p = some o) (hw : Wr o) (hA : ∀ a, A a → a ≠ p) : ∀ {d : D} {v : V}, Rep g A H d v → Rep g A (L2.upd H p o') d v
  | .non, _, h => h
  | .bl _, _, h => h
  | .int _, _, h => h
  | .str _, _, h => h
  | .lst ds, _, h => by
    obtain ⟨a, xs, ev, ha, hs, hl⟩ := h
    exact ⟨a, xs, ev, ha, by rw [upd_ne (hA a ha)]; exact hs, RepL.upd hp hw hA hl⟩
  | .tup ds, _, h => by
    obtain ⟨a, xs, ev, hs, hl⟩ := h
    exact ⟨a, xs, ev, rd_upd hp hw (fun z => z) hs, RepL.upd hp hw hA hl⟩
  | .ins c ks ds, _, h => by
    obtain ⟨a, dx, fs, ev, ha, hs, hk, hl⟩ := h
    exact ⟨a, dx, fs, ev, ha, by rw [upd_ne (hA a ha)]; exact hs, hk, RepL.upd hp hw hA hl⟩
  | .dic ks ds, _, h => by
    obtain ⟨a, kvs, ev, ha, hs, hk, hl⟩ := h
    exact ⟨a, kvs, ev, ha, by rw [upd_ne (hA a ha)]; exact hs, hk, RepL.upd hp hw hA hl⟩
  | .scr ns, _, h => by
    obtain ⟨a, ev, hs⟩ := h
    exact ⟨a, ev, hs.imp_left fun ⟨u, z⟩ => ⟨u, rd_upd hp hw (fun z => z) z⟩⟩
  | .any, _, _ => trivial
  | .fn k cs, _, h => by
    obtain ⟨f, cl, c, ws, ev, h1, h2, h3, h4, hl⟩ := h
    exact ⟨f, cl, c, ws, ev, rd_upd hp hw (fun z => z) h1, h2, rd_upd hp hw (fun z => z) h3, h4.ext fun a o z => rd_upd hp hw (fun z => z) z, RepL.upd hp hw hA hl⟩
theorem RepL.upd {A : Addr → Prop} {H : Hp} {p : Addr} {o o' : HO} (hp : H p = some o) (hw : Wr o) (hA : ∀ a, A a → a ≠ p) : ∀ {ds : List D} {vs : List V}, RepL g A H ds vs → RepL g A (L2.upd H p o') ds vs
  | [], _, h => h
  | d :: ds, _, h => by
    obtain ⟨v, r, ev, h1, h2⟩ := h
    exact ⟨v, r, ev, Rep.upd hp hw hA h1, RepL.upd hp hw hA h2⟩
end
mutual
theorem Rep.imm {A A' : Addr → Prop} {H : Hp} : ∀ {d : D} {v : V}, d.imm = true → Rep g A H d v → Rep g A' H d v
  | .non, _, _, h => h
  | .bl _, _, _, h => h
  | .int _, _, _, h => h
  | .str _, _, _, h => h
  | .lst _, _, i, _ => by simp [D.imm] at i
  | .tup ds, _, i, h => by
    obtain ⟨a, xs, ev, hs, hl⟩ := h
    exact ⟨a, xs, ev, hs, RepL.imm (by simpa [D.imm] using i) hl⟩
  | .ins _ _ _, _, i, _ => by simp [D.imm] at i
  | .dic _ _, _, i, _ => by simp [D.imm] at i
  | .scr _, _, _, h => h
  | .any, _, i, _ => by simp [D.imm] at i
  | .fn _ _, _, i, _ => by simp [D.imm] at i
theorem RepL.imm {A A' : Addr → Prop} {H : Hp} : ∀ {ds : List D} {vs : List V}, immL ds = true → RepL g A H ds vs → RepL g A' H ds vs
  | [], _, _, h => h
  | d :: ds, _, i, h => by
    obtain ⟨v, r, ev, h1, h2⟩ := h
    have i2 : d.imm = true ∧ immL ds = true := by simpa [immL] using i
    exact ⟨v, r, ev, Rep.imm i2.1 h1, RepL.imm i2.2 h2⟩
end
theorem RepL.len {A : Addr → Prop} {H : Hp} : ∀ {ds : List D} {vs : List V}, RepL g A H ds vs → vs.length = ds.length
  | [], _, h => by
    have h : _ = [] := h
    subst h
    rfl
  | d :: ds, _, h => by
    obtain ⟨v, r, ev, _, h2⟩ := h
    subst ev
    simp [RepL.len h2]
theorem RepL.get {A : Addr → Prop} {H : Hp} : ∀ {ds : List D} {vs : List V}, RepL g A H ds vs → ∀ {i : Nat} {d : D}, ds[i]? = some d → ∃ v, vs[i]? = some v ∧ Rep g A H d v
  | [], _, _, _, _, e => by simp at e
  | d :: ds, _, h, 0, _, e => by
    obtain ⟨v, r, rfl, h1, _⟩ := h
    simp at e
    subst e
    exact ⟨v, rfl, h1⟩
  | d :: ds, _, h, i + 1, _, e => by
    obtain ⟨v, r, rfl, _, h2⟩ := h
    simp only [List.getElem?_cons_succ] at e ⊢
    exact RepL.get h2 e
theorem RepL.app {A : Addr → Prop} {H : Hp} : ∀ {ds es : List D} {vs us : List V}, RepL g A H ds vs → RepL g A H es us → RepL g A H (ds ++ es) (vs ++ us)
  | [], _, _, _, h, k => by
    have h : _ = [] := h
    subst h
    exact k
  | d :: ds, _, _, _, h, k => by
    obtain ⟨v, r, rfl, h1, h2⟩ := h
    exact ⟨v, r ++ _, rfl, h1, RepL.app h2 k⟩
theorem RepL.one {A : Addr → Prop} {H : Hp} {d : D} {v : V} (h : Rep g A H d v) : RepL g A H [d] [v] := ⟨v, [], rfl, h, rfl⟩
theorem RepL.drop {A : Addr → Prop} {H : Hp} : ∀ (n : Nat) {ds : List D} {vs : List V}, RepL g A H ds vs → RepL g A H (ds.drop n) (vs.drop n)
  | 0, _, _, h => h
  | n + 1, [], _, h => by
    have h : _ = [] := h
    subst h
    exact (rfl : _ = [])
  | n + 1, d :: ds, _, h => by
    obtain ⟨v, r, rfl, _, h2⟩ := h
    exact RepL.drop n h2
theorem RepL.take {A : Addr → Prop} {H : Hp} : ∀ (n : Nat) {ds : List D} {vs : List V}, RepL g A H ds vs → RepL g A H (ds.take n) (vs.take n)
  | 0, _, _, h => (rfl : _ = [])
  | n + 1, [], _, h => by
    have h : _ = [] := h
    subst h
    exact (rfl : _ = [])
  | n + 1, d :: ds, _, h => by
    obtain ⟨v, r, rfl, h1, h2⟩ := h
    exact ⟨v, r.take n, rfl, h1, RepL.take n h2⟩
theorem RepL.set {A : Addr → Prop} {H : Hp} {d : D} {v : V} (h : Rep g A H d v) : ∀ (i : Nat) {ds : List D} {vs : List V}, RepL g A H ds vs → RepL g A H (ds.set i d) (vs.set i v)
  | _, [], _, k => by
    have k : _ = [] := k
    subst k
    exact (rfl : _ = [])
  | 0, e :: ds, _, k => by
    obtain ⟨u, r, rfl, _, h2⟩ := k
    exact ⟨v, r, rfl, h, h2⟩
  | i + 1, e :: ds, _, k => by
    obtain ⟨u, r, rfl, h1, h2⟩ := k
    exact ⟨u, r.set i v, rfl, h1, RepL.set h i h2⟩
theorem RepL.reverse {A : Addr → Prop} {H : Hp} : ∀ {ds : List D} {vs : List V}, RepL g A H ds vs → RepL g A H ds.reverse vs.reverse
  | [], _, h => by
    have h : _ = [] := h
    subst h
    exact (rfl : _ = [])
  | d :: ds, _, h => by
    obtain ⟨v, r, rfl, h1, h2⟩ := h
    rw [List.reverse_cons, List.reverse_cons]
    exact RepL.app (RepL.reverse h2) (RepL.one h1)
theorem RepL.ints {A : Addr → Prop} {H : Hp} : ∀ {ns : List Int}, RepL g A H (ns.map D.int) (ns.map V.int)
  | [] => rfl
  | n :: ns => ⟨.int n, _, rfl, rfl, RepL.ints⟩
mutual
theorem Rep.dp {A : Addr → Prop} {H : Hp} : ∀ {d : D} {v : V}, Rep g A H d v → d.py.canLay0 = true → Dp g.K H v d.py
  | .non, _, h, _ => by cases h; exact .non
  | .bl _, _, h, _ => by cases h; exact .bl _
  | .int _, _, h, _ => by cases h; exact .int _
  | .str _, _, h, _ => by cases h; exact .str _
  | .lst ds, _, h, c => by
    obtain ⟨a, xs, rfl, _, hs, hl⟩ := h
    exact .lst (.of hs) (RepL.dp hl (by simpa [D.py, PyData.canLay0] using c))
  | .tup ds, _, h, c => by
    obtain ⟨a, xs, rfl, hs, hl⟩ := h
    exact .tup (.of hs) (RepL.dp hl (by simpa [D.py, PyData.canLay0] using c))
  | .ins _ _ _, _, _, c => by simp [D.py, PyData.canLay0] at c
  | .dic _ _, _, _, c => by simp [D.py, PyData.canLay0] at c
  | .any, _, _, c => by simp [D.py, PyData.canLay0] at c
  | .fn _ _, _, _, c => by simp [D.py, PyData.canLay0] at c
  | .scr ns, _, h, c => by
    obtain ⟨a, rfl, hs⟩ := h
    refine .lst hs.sq ?_
    clear hs
    clear c
    induction ns with
    | nil => exact .nil
    | cons n r ih => exact .cons (.int n) ih
theorem RepL.dp {A : Addr → Prop} {H : Hp} : ∀ {ds : List D} {vs : List V}, RepL g A H ds vs → PyData.canLayAll0 (pyL ds) = true → DpAll g.K H vs (pyL ds)
  | [], _, h, _ => by
    have h : _ = [] := h
    subst h
    exact .nil
  | d :: ds, _, h, c => by
    obtain ⟨v, r, rfl, h1, h2⟩ := h
    have c2 : d.py.canLay0 = true ∧ PyData.canLayAll0 (pyL ds) = true := by simpa [pyL, PyData.canLayAll0] using c
    exact .cons (Rep.dp h1 c2.1) (RepL.dp h2 c2.2)
end
end
end Rj

namespace Rj
open PySem PySem.Spec PyProof.Rows L2
/-! ### what is known of a value beside its data -/
/-- me: it is the list that a slot owns; al: lists that slots own may lie within it; fr: its lists are younger than the def's entry; top: a list of its own at the top -/
structure Inf where
  al : List Nat
  me : List Nat
  fr : Bool
  top : Bool
def ci : Inf := ⟨[], [], true, false⟩
def Inf.all (i : Inf) : List Nat := i.me ++ i.al
def Inf.j (a b : Inf) : Inf := ⟨a.all ++ b.all, [], a.fr && b.fr, false⟩
/-- of a part of a value -/
def Inf.n (d : D) (i : Inf) : Inf := bif d.imm then ci else ⟨i.al, [], i.fr, false⟩
/-- of what may hold the value -/
def Inf.h (i : Inf) : Inf := ⟨i.all, [], i.fr, false⟩
/-- a new list that may hold it -/
def Inf.nw (i : Inf) : Inf := ⟨i.all, [], i.fr, true⟩
/-- a new list of its parts -/
def Inf.np (i : Inf) : Inf := ⟨i.al, [], i.fr, true⟩
inductive Sl where
  | un | val (d : D) (fr : Bool) | own (ds : List D) (fr : Bool)
  /-- the instance that __init__ is making: its class, its fields so far -/
  | slf (C : Str) (ks : List Str) (ds : List D) (fr : Bool)
  /-- a dict that the slot owns -/
  | dic (ks : List Key) (ds : List D) (fr : Bool)
  /-- a list that the slot owns, and the lists in it: its items (none), the items at q of its tuples (some q); as: where they stand -/
  | nst (q : Option Nat) (ds : List D) (as : List Addr) (fr : Bool)
  /-- the item j of slot i's list of that kind; d: what is known of it -/
  | als (i j : Nat) (d : D)
  /-- the nested def k -/
  | fnv (k : Nat)
  /-- the list at p, which is gone over -/
  | pin (p : Addr)
abbrev Post := D → Inf → Prop
abbrev Exn := Str → Prop
def rdS : Sl → Nat → Post → Prop
  | .un, _, _ => False
  | .val d fr, _, Q => Q d ⟨[], [], d.imm || fr, false⟩
  | .own ds fr, i, Q => Q (.lst ds) ⟨[], [i], fr, true⟩
  | .slf _ _ _ _, _, _ => False
  | .dic ks ds fr, i, Q => Q (.dic ks ds) ⟨[i], [], fr, false⟩
  | .nst _ ds _ fr, i, Q => Q (.lst ds) ⟨[i], [i], fr, true⟩
  | .als _ _ d, _, Q => Q d ⟨[], [], false, false⟩
  | .fnv _, _, _ => False
  | .pin _, _, _ => False
def frz1 : Sl → Sl
  | .own ds fr => .val (.lst ds) fr
  | .val d fr => .val d fr
  | .un => .un
  | .slf C ks ds fr => .slf C ks ds fr
  | .dic ks ds fr => .val (.dic ks ds) fr
  | .nst _ ds _ fr => .val (.lst ds) fr
  | .als i j d => .als i j d
  | .fnv k => .fnv k
  | .pin p => .pin p
def frz : List Nat → List Sl → List Sl
  | [], env => env
  | i :: l, env => frz l (env.set i (frz1 (env.getD i .un)))
def slOf : D → Inf → Sl
  | .lst ds, inf => bif inf.top && inf.all.isEmpty then .own ds inf.fr else .val (.lst ds) inf.fr
  | d, inf => .val d inf.fr
def setMany (fr : Bool) : List Nat → List D → List Sl → List Sl
  | i :: is, d :: ds, env => setMany fr is ds (env.set i (.val d fr))
  | _, _, env => env
def ownFree : List Nat → List Sl → Bool
  | [], _ => true
  | i :: l, env => (match env.getD i .un with
    | .own _ _ => false
    | .dic _ _ _ => false
    | .nst _ _ _ _ => false
    | _ => true) && ownFree l env
/-- no slot is told of as an item of slot i -/
def noAls (i : Nat) (env : List Sl) : Bool := env.all fun s => match s with
  | .als j _ _ => !decide (j = i)
  | _ => true
/-- but for its item q -/
def hole (q : Nat) : D → D
  | .tup ds => .tup (ds.set q .any)
  | d => d
/-- what a function captures -/
def capOf : Sl → Option D
  | .val d _ => some d
  | .own ds _ => some (.lst ds)
  | .dic ks ds _ => some (.dic ks ds)
  | .nst _ ds _ _ => some (.lst ds)
  | _ => none
def capsOf (env : List Sl) : List Nat → Option (List D)
  | [] => some []
  | j :: js => (match capOf (env.getD j .un), capsOf env js with
    | some d, some ds => some (d :: ds)
    | _, _ => none)
mutual
/-- no function within -/
def D.nf : D → Bool
  | .fn _ _ => false
  | .lst xs => nfL xs
  | .tup xs => nfL xs
  | .ins _ _ xs => nfL xs
  | .dic _ xs => nfL xs
  | .non => true
  | .bl _ => true
  | .int _ => true
  | .str _ => true
  | .scr _ => true
  | .any => true
def nfL : List D → Bool
  | [] => true
  | d :: ds => d.nf && nfL ds
end
def hasK (ks : List Key) (k : Key) : Bool := ks.any fun x => decide (x = k)
/-- what a dict tells, what it becomes -/
def dicGet (k : Key) : List Key → List D → Option D
  | x :: ks, d :: ds => if x = k then some d else dicGet k ks ds
  | _, _ => none
def dicPut (ks : List Key) (ds : List D) (k : Key) (d : D) : List Key × List D :=
  if hasK ks k = true then (ks, (ks.zip ds).map fun p => if p.1 = k then d else p.2) else (ks ++ [k], ds ++ [d])
def keyD : D → (Key → Prop) → Prop
  | .int i, Q => Q (.inl i)
  | .str x, Q => Q (.inr x)
  | _, _ => False
def dixD : D → D → (D → Prop) → Prop
  | .dic ks ds, k, Q => keyD k fun k => ∃ d, dicGet k ks ds = some d ∧ Q d
  | _, _, _ => False
def dinD : D → D → (Bool → Prop) → Prop
  | k, .dic ks _, Q => keyD k fun k => Q (hasK ks k)
  | _, _, _ => False
def Tg.ns : Tg → List Nat
  | .name i => [i]
  | .tup is => is
def bindT (fr : Bool) (env : List Sl) (k : List Sl → Prop) : Tg → D → Prop
  | .name i, x => k (env.set i (.val x fr))
  | .tup is, .tup ds => ds.length = is.length ∧ k (setMany fr is ds env)
  | .tup _, _ => False
/-! ### operators on data -/
def MulOk (i j : Int) : Prop := j.natAbs < 2 ^ 64 ∨ i.natAbs < 2 ^ 64 ∨ Builtin.Int.intBits i + Builtin.Int.intBits j ≤ 134217728
def DivOk (j : Int) : Prop := 0 < j ∧ j.natAbs < 2 ^ 8999
/-- a text so many times -/
def repS (z : Str) (n : Nat) : Str := ⟨((List.replicate n z.cps.toList).flatten).toArray⟩
/-- a list so many times -/
def repL (xs : List D) (n : Nat) : List D := (List.replicate n xs).flatten
def binD : BOp → D → Inf → D → Inf → Post → Prop
  | .add, .int i, _, .int j, _, Q => Q (.int (i + j)) ci
  | .add, .str x, _, .str y, _, Q => x.length + y.length ≤ sizeLine ∧ Q (.str (x ++ y)) ci
  | .add, .lst xs, i, .lst ys, j, Q => xs.length + ys.length ≤ sizeLine ∧ Q (.lst (xs ++ ys)) ⟨i.al ++ j.al, [], i.fr && j.fr, true⟩
  | .add, .lst xs, i, .scr ns, j, Q => xs.length + ns.length ≤ sizeLine ∧ Q (.lst (xs ++ ns.map .int)) ⟨i.al, [], i.fr, true⟩
  | .add, .scr ns, i, .lst ys, j, Q => ns.length + ys.length ≤ sizeLine ∧ Q (.lst (ns.map .int ++ ys)) ⟨j.al, [], j.fr, true⟩
  | .add, .tup xs, i, .tup ys, j, Q => xs.length + ys.length ≤ sizeLine ∧ Q (.tup (xs ++ ys)) ⟨i.al ++ j.al, [], i.fr && j.fr, false⟩
  | .sub, .int i, _, .int j, _, Q => Q (.int (i - j)) ci
  | .mul, .int i, _, .int j, _, Q => MulOk i j ∧ Q (.int (i * j)) ci
  | .mul, .str z, _, .int j, _, Q => (-(2 ^ 62) < j ∧ j < 2 ^ 62 ∧ z.length * j.toNat ≤ sizeLine) ∧ Q (.str (repS z j.toNat)) ci
  | .mul, .lst xs, i, .int j, _, Q => (-(2 ^ 62) < j ∧ j < 2 ^ 62 ∧ xs.length * j.toNat ≤ sizeLine) ∧ Q (.lst (repL xs j.toNat)) ⟨i.al, [], i.fr, true⟩
  | .fdiv, .int i, _, .int j, _, Q => DivOk j ∧ Q (.int (i / j)) ci
  | .mod, .int i, _, .int j, _, Q => 0 < j ∧ Q (.int (i % j)) ci
  | .pow, .int i, _, .int j, _, Q => (0 ≤ j ∧ j ≤ 1000000 ∧ i.natAbs < 2 ^ 64) ∧ Q (.int (i ^ j.toNat)) ci
  | .shl, .int i, _, .int j, _, Q => (0 ≤ j ∧ j ≤ 1000000 ∧ i.natAbs < 2 ^ 64) ∧ Q (.int (i * 2 ^ j.toNat)) ci
  | .shr, .int i, _, .int j, _, Q => 0 ≤ j ∧ Q (.int (i / 2 ^ j.toNat)) ci
  | .band, .int i, _, .int j, _, Q => Q (.int (Builtin.bitAnd i j)) ci
  | .bor, .int i, _, .int j, _, Q => Q (.int (Builtin.bitOr i j)) ci
  | .bxor, .int i, _, .int j, _, Q => Q (.int (Builtin.bitXor i j)) ci
  | _, _, _, _, _, _ => False
/-- truth -/
def truD : D → (Bool → Prop) → Prop
  | .non, k => k false
  | .bl b, k => k b
  | .int i, k => k (i != 0)
  | .str x, k => x.length ≤ sizeLine ∧ k ((x.length : Int) != 0)
  | .lst xs, k => k (!xs.isEmpty)
  | .scr xs, k => k (!xs.isEmpty)
  | .tup xs, k => k (!xs.isEmpty)
  | _, _ => False
def eqD : D → D → (Bool → Prop) → Prop
  | .int i, .int j, k => k (decide (i = j))
  | .str x, .str y, k => k (decide (x = y))
  | .bl a, .bl b, k => k (decide (a = b))
  | .non, .non, k => k true
  | .non, .int _, k => k false
  | .int _, .non, k => k false
  | .non, .str _, k => k false
  | .str _, .non, k => k false
  | .non, .bl _, k => k false
  | .bl _, .non, k => k false
  | .int _, .str _, k => k false
  | .str _, .int _, k => k false
  | .bl _, .str _, k => k false
  | .str _, .bl _, k => k false
  | a, b, k => (SeqAt.shaped a.py = true ∧ SeqAt.shaped b.py = true) ∧ k (PyData.eqv a.py b.py)
def intsOf : List D → Option (List Int)
  | [] => some []
  | .int i :: r => (intsOf r).map (i :: ·)
  | _ => none
/-- a < b of lists of ints: the first place that differs -/
def lexD (ns ms : List Int) : Bool := SeqAt.firstLt (fun j => decide (ns.getD j 0 = ms.getD j 0)) (fun j => decide (ns.getD j 0 < ms.getD j 0)) (decide (ns.length < ms.length)) (List.range (min ns.length ms.length))
def cmpD : COp → D → D → (Bool → Prop) → Prop
  | .eq, a, b, k => eqD a b k
  | .ne, a, b, k => eqD a b fun r => k (!r)
  | .lt, .int i, .int j, k => k (decide (i < j))
  | .le, .int i, .int j, k => k (decide (i ≤ j))
  | .gt, .int i, .int j, k => k (decide (j < i))
  | .ge, .int i, .int j, k => k (decide (j ≤ i))
  | .lt, .str x, .str y, k => k (decide (x.cps.toList < y.cps.toList))
  | .isN, a, .non, k => (match a with
    | .non => k true
    | .any => False
    | _ => k false)
  | .notN, a, .non, k => (match a with
    | .non => k false
    | .any => False
    | _ => k true)
  | .isin, .str x, .str y, k => k (!(Builtin.Str.occurrences y x 0 y.length 1).isEmpty)
  | .notin, .str x, .str y, k => k (!(!(Builtin.Str.occurrences y x 0 y.length 1).isEmpty))
  | .isin, a, .lst ys, k => (SeqAt.shaped a.py = true ∧ SeqAt.shaped (.list (pyL ys)) = true) ∧ k ((pyL ys).any fun z => PyData.eqv z a.py)
  | .notin, a, .lst ys, k => (SeqAt.shaped a.py = true ∧ SeqAt.shaped (.list (pyL ys)) = true) ∧ k (!(pyL ys).any fun z => PyData.eqv z a.py)
  | .isin, a, .tup ys, k => (SeqAt.shaped a.py = true ∧ SeqAt.shaped (.tuple (pyL ys)) = true) ∧ k ((pyL ys).any fun z => PyData.eqv z a.py)
  | .notin, a, .tup ys, k => (SeqAt.shaped a.py = true ∧ SeqAt.shaped (.tuple (pyL ys)) = true) ∧ k (!(pyL ys).any fun z => PyData.eqv z a.py)
  | .lt, .tup xs, .tup ys, k => (SeqAt.shaped (.tuple (pyL xs)) = true ∧ SeqAt.shaped (.tuple (pyL ys)) = true ∧ PySem.W.alike (.tuple (pyL xs)) (.tuple (pyL ys)) = true) ∧ k (PySem.W.dataLt (.tuple (pyL xs)) (.tuple (pyL ys)))
  | .ge, .tup xs, .tup ys, k => (SeqAt.shaped (.tuple (pyL xs)) = true ∧ SeqAt.shaped (.tuple (pyL ys)) = true ∧ PySem.W.alike (.tuple (pyL xs)) (.tuple (pyL ys)) = true) ∧ k (!PySem.W.dataLt (.tuple (pyL xs)) (.tuple (pyL ys)))
  | .lt, .lst xs, .lst ys, k => ∃ ns ms, (intsOf xs = some ns ∧ intsOf ys = some ms) ∧ k (lexD ns ms)
  | .isN, .bl a, .bl b, k => k (decide (a = b))
  | .notN, .bl a, .bl b, k => k (!decide (a = b))
  | _, _, _, _ => False
/-- an item -/
def atD (xs : List D) (i : Int) (Q : D → Prop) : Prop := ∃ d, atI xs i = some d ∧ Q d
def ixD : D → D → (D → Prop) → Prop
  | .scr ns, .int i, Q => ∃ n, atI ns i = some n ∧ Q (.int n)
  | .lst xs, .int i, Q => atD xs i Q
  | .tup xs, .int i, Q => atD xs i Q
  | .str z, .int i, Q => z.length ≤ sizeLine ∧ ∃ c, atI z.cps.toList i = some c ∧ Q (.str ⟨#[c]⟩)
  | _, _, _ => False
def cutD (xs : List D) (lo hi : Option Int) : List D := (xs.drop (HT.sIx xs.length 0 lo)).take (HT.sIx xs.length xs.length hi - HT.sIx xs.length 0 lo)
def cutI (xs : List Int) (lo hi : Option Int) : List Int := (xs.drop (HT.sIx xs.length 0 lo)).take (HT.sIx xs.length xs.length hi - HT.sIx xs.length 0 lo)
def slD : D → Option Int → Option Int → Inf → Post → Prop
  | .scr ns, lo, hi, _, Q => Q (.lst ((cutI ns lo hi).map .int)) ⟨[], [], true, true⟩
  | .lst xs, lo, hi, i, Q => Q (.lst (cutD xs lo hi)) i.np
  | .tup xs, lo, hi, i, Q => Q (.tup (cutD xs lo hi)) ⟨i.al, [], i.fr, false⟩
  | .str z, lo, hi, _, Q => z.length ≤ sizeLine ∧ Q (.str (cutS z lo hi)) ci
  | _, _, _, _, _ => False
def pairsOf' : List D → Option (List (Int × Int))
  | [] => some []
  | .tup [.int i, .int j] :: r => (pairsOf' r).map ((i, j) :: ·)
  | _ => none
def boolsOf : List D → Option (List Bool)
  | [] => some []
  | .bl i :: r => (boolsOf r).map (i :: ·)
  | _ => none
def strsOf : List D → Option (List Str)
  | [] => some []
  | .str i :: r => (strsOf r).map (i :: ·)
  | _ => none
def pairD (p : Int × Int) : D := .tup [.int p.1, .int p.2]
def lexLe (p q : Int × Int) : Prop := p.1 < q.1 ∨ (p.1 = q.1 ∧ p.2 ≤ q.2)
def bltD : Blt → List D → Inf → Post → Prop
  | .len, [.lst xs], _, Q => Q (.int xs.length) ci
  | .len, [.scr xs], _, Q => Q (.int xs.length) ci
  | .len, [.tup xs], _, Q => Q (.int xs.length) ci
  | .len, [.str x], _, Q => x.length ≤ sizeLine ∧ Q (.int x.length) ci
  | .list, [.lst xs], i, Q => Q (.lst xs) ⟨i.al, [], i.fr || immL xs, true⟩
  | .list, [.scr ns], _, Q => Q (.lst (ns.map .int)) ⟨[], [], true, true⟩
  | .list, [.tup xs], i, Q => Q (.lst xs) ⟨i.al, [], i.fr, true⟩
  | .tuple, [.lst xs], i, Q => Q (.tup xs) ⟨i.al, [], i.fr, false⟩
  | .tuple, [.tup xs], i, Q => Q (.tup xs) ⟨i.al, [], i.fr, false⟩
  | .all, [.lst xs], _, Q => ∃ bs, boolsOf xs = some bs ∧ Q (.bl (bs.all id)) ci
  | .any, [.lst xs], _, Q => ∃ bs, boolsOf xs = some bs ∧ Q (.bl (bs.any id)) ci
  | .divmod, [.int i, .int j], _, Q => CDivP i j ∧ Q (.tup [.int (i / j), .int (i % j)]) ci
  | .max, [.lst xs], _, Q => ∃ ns, intsOf xs = some ns ∧ 0 < ns.length ∧ ∀ m, m ∈ ns → (∀ y, y ∈ ns → y ≤ m) → Q (.int m) ci
  | .min, [.lst xs], _, Q => ∃ ns, intsOf xs = some ns ∧ 0 < ns.length ∧ ∀ m, m ∈ ns → (∀ y, y ∈ ns → m ≤ y) → Q (.int m) ci
  | .max, [.int i, .int j], _, Q => Q (.int (if j > i then j else i)) ci
  | .min, [.int i, .int j], _, Q => Q (.int (if j < i then j else i)) ci
  | .min, [.int a, .int b, .int c, .int d, .int e], _, Q => Q (.int (min (min (min (min a b) c) d) e)) ci
  | .abs, [.int i], _, Q => Q (.int (if i < 0 then -i else i)) ci
  | .sum, [.scr ns], _, Q => Q (.int ns.sum) ci
  | .sum, [.lst xs], _, Q => ∃ ns, intsOf xs = some ns ∧ Q (.int ns.sum) ci
  | .sortedI, [.lst xs], _, Q => ∃ ns, intsOf xs = some ns ∧ ∀ ms : List Int, ms.Perm ns → ms.Pairwise (· ≤ ·) → Q (.lst (ms.map .int)) ⟨[], [], true, true⟩
  | .sortedP, [.lst xs], i, Q => ∃ ps, pairsOf' xs = some ps ∧ ∀ qs : List (Int × Int), qs.Perm ps → qs.Pairwise lexLe → Q (.lst (qs.map pairD)) ⟨[], [], true, true⟩
  | .str, [.int i], _, Q => i.natAbs.log2 < 1920 ∧ Q (.str (toString i)) ci
  | .str, [.str x], _, Q => Q (.str x) ci
  | .int, [.str x], _, Q => ∃ n, intText? x = some n ∧ x.length ≤ 640 ∧ Q (.int n) ci
  | .int, [.int i], _, Q => Q (.int i) ci
  | .int, [.bl b], _, Q => Q (.int (if b then 1 else 0)) ci
  | _, _, _, _ => False
/-- the ints of a list, ascending, each once; there are fewer than 64 -/
def setD (xs : List D) (k : List Int → Prop) : Prop := ∃ ns, intsOf xs = some ns ∧ (ns.length ≤ 4000 ∧ ∃ B : List Int, B.length < 64 ∧ ∀ z ∈ ns, z ∈ B) ∧ ∀ ms : List Int, ms.Pairwise (· < ·) → (∀ z, z ∈ ms ↔ z ∈ ns) → k ms
/-- whose method it is -/
def bmO : BMt → D → Bool
  | .index, .lst _ => true
  | .index, _ => false
  | _, .str _ => true
  | _, _ => false
/-- a method of a built-in type -/
def bmD : BMt → D → D → Post → Prop
  | .join, .str a, .lst xs, Q => ∃ ys, strsOf xs = some ys ∧ (ys.map (·.length)).sum + ys.length * a.length ≤ 16777216 ∧ Q (.str (Txt.join a ys)) ci
  | .split, .str a, .str b, Q => ((b.length == 0) = false ∧ a.length + 2 ≤ sizeLine) ∧ Q (.lst ((Txt.split a b).map .str)) ⟨[], [], true, true⟩
  | .partition, .str a, .str b, Q => ((b.length == 0) = false ∧ a.length ≤ sizeLine) ∧ Q (.tup [.str (Txt.partition a b).1, .str (Txt.partition a b).2.1, .str (Txt.partition a b).2.2]) ci
  | .startswith, .str a, .str b, Q => Q (.bl (Txt.startswith a b)) ci
  | .find, .str a, .str b, Q => Q (.int (Txt.find a b)) ci
  | .index, .lst xs, .str b, Q => ∃ ys, strsOf xs = some ys ∧ ∃ j : Nat, ys[j]? = some b ∧ (∀ m : Nat, m < j → ys[m]? ≠ some b) ∧ Q (.int j) ci
  | .index, .lst xs, .int b, Q => ∃ ys, intsOf xs = some ys ∧ ∃ j : Nat, ys[j]? = some b ∧ (∀ m : Nat, m < j → ys[m]? ≠ some b) ∧ Q (.int j) ci
  | _, _, _, _ => False
/-- a field -/
def fldD (x : Str) : List Str → List D → (D → Prop) → Prop
  | k :: ks, d :: ds, Q => if k = x then Q d else fldD x ks ds Q
  | _, _, _ => False
def isL : D → Bool
  | .lst _ => true
  | _ => false
def rngD (n : Nat) (a : Int) : List D := (List.range n).map fun k : Nat => .int (a + (k : Int))
/-- a, a + c, .. -/
def rngC (n : Nat) (a c : Int) : List D := (List.range n).map fun k : Nat => .int (a + (k : Int) * c)
def enumD (xs : List D) : List D := (List.range xs.length).zipWith (fun (k : Nat) (x : D) => D.tup [.int (k : Int), x]) xs
def SmallI (i : Int) : Prop := -(2 ^ 62) ≤ i ∧ i < 2 ^ 62
/-- isinstance with a built-in type -/
def isiD : D → Ty → (Bool → Prop) → Prop
  | .bl _, .bool, k => k true
  | .bl _, .int, k => k true
  | .int _, .int, k => k true
  | .str _, .str, k => k true
  | .lst _, .list, k => k true
  | .scr _, .list, k => k true
  | .tup _, .tuple, k => k true
  | .dic _ _, .dict, k => k true
  | .ins _ _ _, _, _ => False
  | .any, _, _ => False
  | .fn _ _, _, _ => False
  | _, _, k => k false
/-- one of the classes -/
def isTB (is : Str → Option Bool) : List Str → Option Bool
  | [] => some false
  | x :: xs => (match is x, isTB is xs with
    | some a, some b => some (a || b)
    | _, _ => none)
/-- what is asked of an exception of a class -/
def xeB (is : Str → Option Bool) : XE → Option Bool
  | .cbl b => some b
  | .is x => is x
  | .isv => some true
  | .isT xs => isTB is xs
  | .not a => (xeB is a).map (!·)
  | .and a b => (match xeB is a, xeB is b with
    | some x, some y => some (x && y)
    | _, _ => none)
def xesB (is : Str → Option Bool) : List XE → Option (List Bool)
  | [] => some []
  | x :: xs => (match xeB is x, xesB is xs with
    | some a, some b => some (a :: b)
    | _, _ => none)
def iscD (p : Prg) (x : Str) : D → (Bool → Prop) → Prop
  | .ins C _ _, k => ∃ b, p.sub C x = some b ∧ k b
  | .any, _ => False
  | .fn _ _, _ => False
  | _, k => k false
/-! ### what must hold so that a piece ends well -/
structure Cl where
  call : Nat → List D → (D → Prop) → Exn → Prop
  init : Nat → Str → List D → (List Str → List D → Prop) → Exn → Prop
  mkr : Nat → Str → List D → (List Str → List D → Prop) → Exn → Prop
  fnc : Nat → List D → List D → (D → Prop) → Prop
  prg : Prg
structure En where
  nx : List Sl → Prop
  rt : Post
  bk : List Sl → Prop
  ct : List Sl → Prop
  ex : Str → List Sl → Prop
def loopC (f : D → Post → Prop → Prop) : List D → List D → Inf → (List D → Inf → Prop) → Prop
  | [], acc, inf, Q => Q acc inf
  | x :: r, acc, inf, Q => f x (fun d i => loopC f r (acc ++ [d]) (inf.j i) Q) (loopC f r acc inf Q)
/-- an __init__ that is marked as one that tells new things -/
def nwB (p : Prg) (i : Nat) : Bool := match p.fns[i]? with
  | some f => f.fr
  | none => false
/-- what an instance may reach -/
def mkI (b : Bool) (i : Inf) : Inf := bif b then ⟨[], [], true, false⟩ else i.h
def nstS (s : Sl) (k : Option Nat → List D → List Addr → Bool → Prop) : Prop := match s with
  | .nst q ds as fr => k q ds as fr
  | _ => False
def alsS (s : Sl) (k : Nat → Nat → D → Prop) : Prop := match s with
  | .als i j d => k i j d
  | _ => False
/-- the item m of a list of lists, the item q of the item m -/
def ninS (ds : List D) (m : Nat) (k : List D → Prop) : Prop := ∃ es, ds[m]? = some (.lst es) ∧ k es
def ninT (ds : List D) (m q : Nat) (k : List D → List D → Prop) : Prop := ∃ ts es, ds[m]? = some (.tup ts) ∧ ts[q]? = some (.lst es) ∧ k ts es
/-- the function that a slot holds -/
def fnS (s : Sl) (k : Nat → List D → Prop) : Prop := match s with
  | .val (.fn i cs) _ => k i cs
  | _ => False
def fnvS (s : Sl) (k : Nat → Prop) : Prop := match s with
  | .fnv i => k i
  | _ => False
def capS (o : Option (List D)) (k : List D → Prop) : Prop := match o with
  | some cs => k cs
  | none => False
mutual
def wpE (c : Cl) : E → List Sl → Post → Exn → Prop
  | .var i, env, Q, _ => rdS (env.getD i .un) i Q
  | .cint n, _, Q, _ => Q (.int n) ci
  | .cbl b, _, Q, _ => Q (.bl b) ci
  | .cstr x, _, Q, _ => Q (.str x) ci
  | .cnon, _, Q, _ => Q .non ci
  | .gint _ n, _, Q, _ => Q (.int n) ci
  | .gstr _ z, _, Q, _ => Q (.str z) ci
  | .bin op a b, env, Q, R => wpE c a env (fun x i => wpE c b env (fun y j => binD op x i y j Q) R) R
  | .neg a, env, Q, R => wpE c a env (fun x _ => match x with
    | .int i => Q (.int (-i)) ci
    | _ => False) R
  | .not a, env, Q, R => wpE c a env (fun x _ => truD x fun k => Q (.bl (!k)) ci) R
  | .cmp op a b, env, Q, R => wpE c a env (fun x _ => wpE c b env (fun y _ => cmpD op x y fun k => Q (.bl k) ci) R) R
  | .chain op op' a b e, env, Q, R => wpE c a env (fun x _ => wpE c b env (fun y _ => cmpD op x y fun k => if k = true then wpE c e env (fun z _ => cmpD op' y z fun k' => Q (.bl k') ci) R else Q (.bl false) ci) R) R
  | .and a b, env, Q, R => wpE c a env (fun x _ => match x with
    | .bl k => if k = true then wpE c b env Q R else Q (.bl false) ci
    | _ => False) R
  | .or a b, env, Q, R => wpE c a env (fun x _ => match x with
    | .bl k => if k = true then Q (.bl true) ci else wpE c b env Q R
    | _ => False) R
  | .tup es, env, Q, R => wpEs c es env (fun ds inf => ds.length ≤ sizeLine ∧ Q (.tup ds) inf.h) R
  | .lst es, env, Q, R => wpEs c es env (fun ds inf => ds.length ≤ sizeLine ∧ Q (.lst ds) inf.nw) R
  | .ix a b, env, Q, R => wpE c a env (fun x i => wpE c b env (fun y _ => ixD x y fun d => Q d (Inf.n d i)) R) R
  | .sl a lo hi, env, Q, R => wpE c a env (fun x i => wpO c lo env (fun l => wpO c hi env (fun h => slD x l h i Q) R) R) R
  | .call f fr es, env, Q, R => wpEs c es env (fun ds inf => c.call f ds (fun d => Q d (bif fr then ⟨[], [], true, isL d⟩ else bif d.imm then ci else inf.h)) R) R
  | .blt b es, env, Q, R => wpEs1 c es env (fun ds inf => bltD b ds inf Q) R
  | .isi a t, env, Q, R => wpE c a env (fun d _ => isiD d t fun b => Q (.bl b) ci) R
  | .comp elt t it cd, env, Q, R => wpI c it env (fun xs inf => (xs.length ≤ sizeLine ∧ inf.al = [] ∧ ownFree t.ns env = true) ∧
      loopC (fun x k skip => bindT inf.fr env (fun env1 => wpT c cd env1 (fun b => if b = true then wpE c elt env1 k (fun _ => False) else skip) (fun _ => False)) t x) xs [] ci (fun ds i => Q (.lst ds) i.nw)) R
  | .fld a x, env, Q, R => wpE c a env (fun d i => match d with
    | .ins C ks vs => c.prg.ok C x = true ∧ fldD x ks vs fun e => Q e (Inf.n e i)
    | _ => False) R
  | .meth a x fr es, env, Q, R => wpE c a env (fun d i => match d with
    | .ins C ks vs => (match c.prg.mi C x with
      | some f => ks.contains x = false ∧ wpEs c es env (fun ds j => c.call f (.ins C ks vs :: ds) (fun d => Q d (bif fr then ⟨[], [], true, isL d⟩ else bif d.imm then ci else (i.j j).h)) R) R
      | none => False)
    | _ => False) R
  | .make x f es, env, Q, R => wpEs c es env (fun ds inf => c.mkr f x ds (fun ks vs => Q (.ins x ks vs) (mkI (nwB c.prg f) inf)) R) R
  | .isc a x, env, Q, R => wpE c a env (fun d _ => iscD c.prg x d fun b => Q (.bl b) ci) R
  | .ife t a b, env, Q, R => wpT c t env (fun k => if k = true then wpE c a env Q R else wpE c b env Q R) R
  | .bm op a b, env, Q, R => wpE c a env (fun x _ => bmO op x = true ∧ wpE c b env (fun y _ => bmD op x y Q) R) R
  | .upper a, env, Q, R => wpE c a env (fun x _ => match x with
    | .str z => z.length ≤ 5592405 ∧ Q (.str (Txt.upper z)) ci
    | _ => False) R
  | .lrev a, env, Q, R => wpE c a env (fun x i => match x with
    | .lst xs => Q (.lst xs.reverse) ⟨i.al, [], i.fr || immL xs, true⟩
    | _ => False) R
  | .sset a, env, Q, R => wpE c a env (fun x _ => match x with
    | .lst xs => setD xs (fun ms => Q (.lst (ms.map .int)) ⟨[], [], true, true⟩)
    | _ => False) R
  | .lrng a, env, Q, R => wpE c a env (fun x _ => match x with
    | .int n => (SmallI n ∧ n ≤ 16777216) ∧ Q (.lst (rngD n.toNat 0)) ⟨[], [], true, true⟩
    | _ => False) R
  | .lrr a, env, Q, R => wpE c a env (fun x _ => match x with
    | .int n => (SmallI n ∧ n ≤ 16777216) ∧ Q (.lst (rngD n.toNat 0).reverse) ⟨[], [], true, true⟩
    | _ => False) R
  | .callv i es, env, Q, R => fnS (env.getD i .un) fun k cs => wpEs c es env (fun ds _ => (nfL ds = true ∧ nfL cs = true) ∧ c.fnc k ds cs (fun d => d.imm = true ∧ Q d ci)) R
  | .calln i k js es, env, Q, R => fnvS (env.getD i .un) fun k' => k' = k ∧ wpEs c es env (fun ds _ => capS (capsOf env js) fun cs => (nfL ds = true ∧ nfL cs = true) ∧ c.fnc k ds cs (fun d => d.imm = true ∧ Q d ci)) R
  | .alv s, env, Q, _ => alsS (env.getD s .un) fun i m _ => nstS (env.getD i .un) fun q ds _ fr => ninS ds m fun es => q = none ∧ Q (.lst es) ⟨[i], [], fr, false⟩
  | .calld f fr es, env, Q, R => wpEs c es env (fun ds inf => c.call f (ds ++ [.non]) (fun d => Q d (bif fr then ⟨[], [], true, isL d⟩ else bif d.imm then ci else inf.h)) R) R
  | .callc f es i k js, env, Q, R => fnvS (env.getD i .un) fun k' => k' = k ∧ wpEs c es env (fun ds _ => capS (capsOf env js) fun cs => c.call f (ds ++ [.fn k cs]) (fun d => d.imm = true ∧ Q d ci) R) R
  | .dix a b, env, Q, R => wpE c a env (fun x i => wpE c b env (fun y _ => dixD x y fun d => Q d (Inf.n d i)) R) R
def wpEs (c : Cl) : Es → List Sl → (List D → Inf → Prop) → Exn → Prop
  | .nil, _, Q, _ => Q [] ci
  | .cons e es, env, Q, R => wpE c e env (fun d i => wpEs c es env (fun ds j => Q (d :: ds) (i.j j)) R) R
/-- arguments of a built-in: of one alone its own Inf -/
def wpEs1 (c : Cl) : Es → List Sl → (List D → Inf → Prop) → Exn → Prop
  | .nil, _, Q, _ => Q [] ci
  | .cons e .nil, env, Q, R => wpE c e env (fun d i => Q [d] i) R
  | .cons e (.cons e2 es), env, Q, R => wpE c e env (fun d i => wpE c e2 env (fun d2 i2 => wpEs c es env (fun ds j => Q (d :: d2 :: ds) ((i.j i2).j j)) R) R) R
def wpO (c : Cl) : Eo → List Sl → (Option Int → Prop) → Exn → Prop
  | .none, _, Q, _ => Q none
  | .some e, env, Q, R => wpE c e env (fun d _ => match d with
    | .int i => Q (some i)
    | _ => False) R
def wpI (c : Cl) : It → List Sl → (List D → Inf → Prop) → Exn → Prop
  | .e a, env, Q, R => wpE c a env (fun d i => match d with
    | .lst ds => Q ds i
    | .tup ds => Q ds i
    | .scr ns => Q (ns.map .int) ci
    | .str x => Q (x.cps.toList.map fun ch => .str ⟨#[ch]⟩) ci
    | _ => False) R
  | .rng1 a, env, Q, R => wpE c a env (fun d _ => match d with
    | .int n => SmallI n ∧ Q (rngD n.toNat 0) ci
    | _ => False) R
  | .rng2 a b, env, Q, R => wpE c a env (fun d _ => wpE c b env (fun e _ => match d, e with
    | .int i, .int j => (SmallI i ∧ SmallI j) ∧ Q (rngD (j - i).toNat i) ci
    | _, _ => False) R) R
  | .rng3 a b s, env, Q, R => wpE c a env (fun d _ => wpE c b env (fun e _ => wpE c s env (fun f _ => match d, e, f with
    | .int i, .int j, .int k => ∃ n : Nat, L2.RgC i j k n ∧ Q (rngC n i k) ci
    | _, _, _ => False) R) R) R
  | .zip a b, env, Q, R => wpE c a env (fun d i => wpE c b env (fun e j => match d, e with
    | .lst xs, .lst ys => Q (xs.zipWith (fun x y => D.tup [x, y]) ys) ⟨i.al ++ j.al, i.me ++ j.me, i.fr && j.fr, false⟩
    | .lst xs, .tup ys => Q (xs.zipWith (fun x y => D.tup [x, y]) ys) ⟨i.al ++ j.al, i.me ++ j.me, i.fr && j.fr, false⟩
    | _, _ => False) R) R
  | .enum a, env, Q, R => wpE c a env (fun d i => match d with
    | .lst xs => Q (enumD xs) i
    | _ => False) R
def wpT (c : Cl) : T → List Sl → (Bool → Prop) → Exn → Prop
  | .tru, _, Q, _ => Q true
  | .e a, env, Q, R => wpE c a env (fun x _ => truD x Q) R
  | .not a, env, Q, R => wpT c a env (fun k => Q (!k)) R
  | .and a b, env, Q, R => wpT c a env (fun k => if k = true then wpT c b env Q R else Q false) R
  | .or a b, env, Q, R => wpT c a env (fun k => if k = true then Q true else wpT c b env Q R) R
  | .cmp op a b, env, Q, R => wpE c a env (fun x _ => wpE c b env (fun y _ => cmpD op x y Q) R) R
  | .chain op op' a b e, env, Q, R => wpE c a env (fun x _ => wpE c b env (fun y _ => cmpD op x y fun k => if k = true then wpE c e env (fun z _ => cmpD op' y z Q) R else Q false) R) R
  | .din neg a b, env, Q, R => wpE c a env (fun x _ => wpE c b env (fun y _ => dinD x y fun k => Q (bif neg then !k else k)) R) R
end
/-! ### statements -/
def En.loop (K : En) (f : List Sl → Prop) : En := { K with nx := f, ct := f, bk := K.nx }
def loopF (t : Tg) (fr : Bool) (f : List Sl → En → Prop) (K : En) : List D → List Sl → Prop
  | [], env => K.nx env
  | x :: r, env => bindT fr env (fun env1 => f env1 (K.loop fun env2 => loopF t fr f K r env2)) t x
def loopW (tst : List Sl → (Bool → Prop) → Prop) (f : List Sl → En → Prop) (K : En) : Nat → List Sl → Prop
  | 0, _ => False
  | n + 1, env => tst env fun b => if b = true then f env (K.loop fun env2 => loopW tst f K n env2) else K.nx env
/-- behind the loop the slot has its list again -/
def En.pn (K : En) (i : Nat) (p : Addr) (ds : List D) (fr : Bool) : En := { K with nx := fun env => env.getD i .un = .pin p ∧ K.nx (env.set i (.own ds fr)) }
/-- writing to the list that a slot owns -/
def ownS (env : List Sl) (i : Nat) (k : List D → Bool → Prop) : Prop := match env.getD i .un with
  | .own ds fr => k ds fr
  | _ => False
/-- the instance that is being made -/
def slfS (env : List Sl) (k : Str → List Str → List D → Bool → Prop) : Prop := match env.getD 0 .un with
  | .slf C ks ds fr => k C ks ds fr
  | _ => False
def dicS (s : Sl) (k : List Key → List D → Bool → Prop) : Prop := match s with
  | .dic ks ds fr => k ks ds fr
  | _ => False
/-- an index of a list -/
def idxS (n : Nat) (j : Int) (k : Nat → Prop) : Prop := ∃ m, ixN n j = some m ∧ k m
/-- the last item and those ahead of it -/
def popS (ds : List D) (k : List D → D → Prop) : Prop := ∃ es d, ds = es ++ [d] ∧ k es d
/-- the exception's slot is wiped -/
def un1 : Option Nat → List Sl → List Sl
  | some j, env => env.set j .un
  | none, env => env
/-- behind an except -/
def wpH (p : Prg) (e : Option Nat) (x : Str) (env : List Sl) (K : En) : Hd → Prop
  | .asg i a => (match xeB (p.xs x) a with
    | some b => K.nx ((un1 e env).set i (.val (.bl b) true))
    | none => False)
  | .asgL i as => (match xesB (p.xs x) as with
    | some bs => K.nx ((un1 e env).set i (.own (bs.map .bl) true))
    | none => False)
  | .asgN i => K.nx ((un1 e env).set i (.val .non true))
  | .app i a => (match xeB (p.xs x) a with
    | some b => ownS (un1 e env) i fun ds fr => ds.length < sizeLine ∧ K.nx ((un1 e env).set i (.own (ds ++ [.bl b]) fr))
    | none => False)
  | .raise y => K.ex y env
  | .asgS i z => K.nx ((un1 e env).set i (.val (.str z) true))
  | .cat i as => (match xesB (p.xs x) as with
    | some bs => ownS (un1 e env) i fun ds _ => ∃ bs0, boolsOf ds = some bs0 ∧ bs0.length + bs.length ≤ sizeLine ∧ K.nx ((un1 e env).set i (.own ((bs0 ++ bs).map .bl) true))
    | none => False)
  | .seq a b => wpH p e x env { K with nx := fun env1 => wpH p none x env1 K b } a
  | .sum2 i a b => (match xeB (p.xs x) a, xeB (p.xs x) b with
    | some k, some l => K.nx ((un1 e env).set i (.val (.int ((if k then 1 else 0) + 2 * if l then 1 else 0)) true))
    | _, _ => False)
  | .pick j ss i a => (match xeB (p.xs x) a with
    | some k => ∃ z u, (un1 e env)[i]? = some (.val (.int z) u) ∧ ∃ m y, ixN ss.length (z * if k then 1 else 0) = some m ∧ ss[m]? = some y ∧ K.nx ((un1 e env).set j (.val (.str y) true))
    | none => False)
def binI : BOp → Int → Int → (Int → Prop) → Prop
  | .add, i, j, k => k (i + j)
  | .sub, i, j, k => k (i - j)
  | _, _, _, _ => False
mutual
def wpS (c : Cl) : S → List Sl → En → Prop
  | .asg i e, env, K => wpE c e env (fun d inf => K.nx ((frz inf.all env).set i (slOf d inf))) (fun x => K.ex x env)
  | .unp is e, env, K => wpE c e env (fun d inf => bindT inf.fr (frz inf.all env) K.nx (.tup is) d) (fun x => K.ex x env)
  | .aug i op e, env, K => rdS (env.getD i .un) i fun x _ => wpE c e env (fun y _ => match x, y with
    | .int a, .int b => binI op a b fun r => K.nx (env.set i (.val (.int r) true))
    | _, _ => False) (fun x => K.ex x env)
  | .app i e, env, K => ownS env i fun ds fr => wpE c e env (fun d inf => (ds.length < sizeLine ∧ inf.all.contains i = false) ∧ K.nx ((frz inf.all env).set i (.own (ds ++ [d]) (fr && inf.fr)))) (fun x => K.ex x env)
  | .ext i e, env, K => ownS env i fun ds fr => wpE c e env (fun d inf => match d with
    | .lst es => (ds.length + es.length ≤ sizeLine ∧ inf.al.contains i = false) ∧ K.nx ((frz inf.al env).set i (.own (ds ++ es) (fr && inf.fr)))
    | _ => False) (fun x => K.ex x env)
  | .setix i k e, env, K => ownS env i fun ds fr => wpE c e env (fun d inf => wpE c k env (fun y _ => match y with
    | .int j => inf.all.contains i = false ∧ ∃ m, ixN ds.length j = some m ∧ K.nx ((frz inf.all env).set i (.own (ds.set m d) (fr && inf.fr)))
    | _ => False) (fun x => K.ex x env)) (fun x => K.ex x env)
  | .expr e, env, K => wpE c e env (fun _ _ => K.nx env) (fun x => K.ex x env)
  | .ite t a b, env, K => wpT c t env (fun k => if k = true then wpSs c a env K else wpSs c b env K) (fun x => K.ex x env)
  | .for t it body, env, K => wpI c it env (fun xs inf => loopF t inf.fr (fun env1 K1 => wpSs c body env1 K1) K xs (frz inf.all env)) (fun x => K.ex x env)
  | .whl t body, env, K => ∃ n, loopW (fun env1 k => wpT c t env1 k (fun x => K.ex x env1)) (fun env1 K1 => wpSs c body env1 K1) K n env
  | .ret e, env, K => wpE c e env K.rt (fun x => K.ex x env)
  | .retN, _, K => K.rt .non ci
  | .brk, env, K => K.bk env
  | .cnt, env, K => K.ct env
  | .pass, env, K => K.nx env
  | .raise x, env, K => K.ex x env
  | .setf x e, env, K => slfS env fun C ks ds fr => wpE c e env (fun d inf => (ks.contains x = false ∧ c.prg.ok C x = true ∧ ks.length < 100) ∧ K.nx ((frz inf.all env).set 0 (.slf C (ks ++ [x]) (ds ++ [d]) (fr && inf.fr)))) (fun x => K.ex x env)
  | .sup x i es, env, K => slfS env fun C ks ds fr => wpEs c es env (fun as inf => ks = [] ∧ c.init i C as (fun ks vs => K.nx ((frz inf.all env).set 0 (.slf C ks vs (fr && inf.fr)))) (fun _ => False)) (fun x => K.ex x env)
  | .pop i j, env, K => ownS env j fun ds fr => popS ds fun es d => K.nx ((env.set j (.own es fr)).set i (.val d fr))
  | .rev i, env, K => ownS env i fun ds fr => K.nx (env.set i (.own ds.reverse fr))
  | .clr i, env, K => ownS env i fun _ fr => K.nx (env.set i (.own [] fr))
  | .ins i k e, env, K => ownS env i fun ds fr => wpE c k env (fun y _ => match y with
    | .int j => wpE c e env (fun d inf => ((0 ≤ j ∧ j < 2 ^ 63) ∧ ds.length < sizeLine ∧ inf.all.contains i = false) ∧ K.nx ((frz inf.all env).set i (.own (ds.take j.toNat ++ [d] ++ ds.drop j.toNat) (fr && inf.fr)))) (fun x => K.ex x env)
    | _ => False) (fun x => K.ex x env)
  | .dset i k e, env, K => dicS (env.getD i .un) fun ks ds fr => wpE c e env (fun d inf => wpE c k env (fun y _ => keyD y fun z => (ks.length < sizeLine ∧ inf.all.contains i = false) ∧ K.nx ((frz inf.all env).set i (.dic (dicPut ks ds z d).1 (dicPut ks ds z d).2 (fr && inf.fr)))) (fun x => K.ex x env)) (fun x => K.ex x env)
  | .dnw i, env, K => K.nx (env.set i (.dic [] [] true))
  | .nnw i q, env, K => noAls i env = true ∧ K.nx (env.set i (.nst (some q) [] [] true))
  | .nlc i t it, env, K => wpI c it env (fun xs inf => (xs.length ≤ sizeLine ∧ inf.al = [] ∧ ownFree t.ns env = true) ∧ (∀ x ∈ xs, bindT inf.fr env (fun _ => True) t x) ∧ noAls i (frz inf.all env) = true ∧ ∀ as : List Addr, as.length = xs.length → K.nx ((frz inf.all env).set i (.nst none (xs.map fun _ => .lst []) as true))) (fun x => K.ex x env)
  | .napp1 i a, env, K => nstS (env.getD i .un) fun q ds as fr => wpE c a env (fun d inf => (q = some 1 ∧ ds.length < sizeLine ∧ inf.all.contains i = false) ∧ ∀ p, K.nx ((frz inf.all env).set i (.nst q (ds ++ [.tup [d, .lst []]]) (as ++ [p]) (fr && inf.fr)))) (fun x => K.ex x env)
  | .napp2 i a b, env, K => nstS (env.getD i .un) fun q ds as fr => wpE c a env (fun d inf => wpE c b env (fun e inf2 => (q = some 2 ∧ ds.length < sizeLine ∧ inf.all.contains i = false ∧ inf2.all.contains i = false) ∧ ∀ p, K.nx ((frz (inf.j inf2).all env).set i (.nst q (ds ++ [.tup [d, e, .lst []]]) (as ++ [p]) (fr && (inf.j inf2).fr)))) (fun x => K.ex x env)) (fun x => K.ex x env)
  | .ninA i k e, env, K => nstS (env.getD i .un) fun q ds as fr => wpE c k env (fun y _ => match y with
    | .int j => idxS ds.length j fun m => ninS ds m fun es => wpE c e env (fun d inf => (q = none ∧ es.length < sizeLine ∧ inf.all.contains i = false) ∧ K.nx ((frz inf.all env).set i (.nst q (ds.set m (.lst (es ++ [d]))) as (fr && inf.fr)))) (fun x => K.ex x env)
    | _ => False) (fun x => K.ex x env)
  | .ninE i k e, env, K => nstS (env.getD i .un) fun q ds as fr => wpE c k env (fun y _ => match y with
    | .int j => idxS ds.length j fun m => ninS ds m fun es => wpE c e env (fun d inf => match d with
      | .lst us => (q = none ∧ es.length + us.length ≤ sizeLine ∧ inf.al.contains i = false) ∧ K.nx ((frz inf.al env).set i (.nst q (ds.set m (.lst (es ++ us))) as (fr && inf.fr)))
      | _ => False) (fun x => K.ex x env)
    | _ => False) (fun x => K.ex x env)
  | .ninQ i q k e, env, K => nstS (env.getD i .un) fun q2 ds as fr => wpE c k env (fun y _ => match y with
    | .int j => idxS ds.length j fun m => ninT ds m q fun ts es => wpE c e env (fun d inf => (q2 = some q ∧ es.length < sizeLine ∧ inf.all.contains i = false) ∧ K.nx ((frz inf.all env).set i (.nst q2 (ds.set m (.tup (ts.set q (.lst (es ++ [d]))))) as (fr && inf.fr)))) (fun x => K.ex x env)
    | _ => False) (fun x => K.ex x env)
  | .als s i k, env, K => nstS (env.getD i .un) fun q ds _ _ => wpE c k env (fun y _ => match y with
    | .int j => idxS ds.length j fun m => ∃ q1, q = some q1 ∧ s ≠ i ∧ K.nx (env.set s (.als i m (hole q1 (ds.getD m .any))))
    | _ => False) (fun x => K.ex x env)
  | .aapp s q e, env, K => alsS (env.getD s .un) fun i m _ => nstS (env.getD i .un) fun q2 ds as fr => ninT ds m q fun ts es => wpE c e env (fun d inf => (q2 = some q ∧ es.length < sizeLine ∧ inf.all.contains i = false) ∧ K.nx ((frz inf.all env).set i (.nst q2 (ds.set m (.tup (ts.set q (.lst (es ++ [d]))))) as (fr && inf.fr)))) (fun x => K.ex x env)
  | .alsl s i k, env, K => nstS (env.getD i .un) fun q ds _ _ => wpE c k env (fun y _ => match y with
    | .int j => idxS ds.length j fun m => q = none ∧ s ≠ i ∧ K.nx (env.set s (.als i m .any))
    | _ => False) (fun x => K.ex x env)
  | .aapl s e, env, K => alsS (env.getD s .un) fun i m _ => nstS (env.getD i .un) fun q2 ds as fr => ninS ds m fun es => wpE c e env (fun d inf => (q2 = none ∧ es.length < sizeLine ∧ inf.all.contains i = false) ∧ K.nx ((frz inf.all env).set i (.nst q2 (ds.set m (.lst (es ++ [d]))) as (fr && inf.fr)))) (fun x => K.ex x env)
  | .ndef i k, env, K => K.nx (env.set i (.fnv k))
  | .forO t i body, env, K => ownS env i fun ds fr => ∀ p, loopF t fr (fun env1 K1 => wpSs c body env1 K1) (K.pn i p ds fr) ds (env.set i (.pin p))
  | .fz is s, env, K => wpS c s (frz is env) K
  | .try body x e h, env, K => wpSs c body env { K with ex := fun y env1 => match c.prg.xs y x with
    | some true => wpH c.prg e y env1 K h
    | some false => K.ex y env1
    | none => False }
def wpSs (c : Cl) : Ss → List Sl → En → Prop
  | .nil, env, K => K.nx env
  | .cons s ss, env, K => wpS c s env { K with nx := fun env1 => wpSs c ss env1 K }
end
/-! ### defs -/
/-- what a def that is to tell new things may hand back -/
def chk (fr : Bool) (d : D) (inf : Inf) : Bool := !fr || d.imm || (inf.fr && (!isL d || inf.top))
def env0 (n : Nat) (ds : List D) : List Sl := ds.map (fun d => Sl.val d false) ++ List.replicate (n - ds.length) Sl.un
def wpF (c : Cl) (f : Fn) (ds : List D) (Q : D → Prop) (R : Exn) : Prop :=
  ds.length = f.np ∧ wpSs c f.body (env0 f.N.length ds) { nx := fun _ => Q .non, rt := fun d inf => chk f.fr d inf = true ∧ Q d, bk := fun _ => False, ct := fun _ => False, ex := fun x _ => R x }
/-- an __init__ -/
def wpN (c : Cl) (f : Fn) (C : Str) (ds : List D) (Q : List Str → List D → Prop) (R : Exn) : Prop :=
  ds.length + 1 = f.np ∧ wpSs c f.body (.slf C [] [] true :: env0 (f.N.length - 1) ds) { nx := fun env => slfS env fun C2 ks vs fl => (C2 = C ∧ (f.fr = true → fl = true)) ∧ Q ks vs, rt := fun _ _ => False, bk := fun _ => False, ct := fun _ => False, ex := fun x _ => R x }
/-- a nested def: what it captured stands behind its arguments -/
def wpD (c : Cl) (f : Fn) (fv : List Str) (ds cs : List D) (Q : D → Prop) : Prop :=
  (ds.length = f.np ∧ cs.length = fv.length) ∧ wpSs c f.body (env0 f.N.length (ds ++ cs)) { nx := fun _ => False, rt := fun d _ => d.imm = true ∧ Q d, bk := fun _ => False, ct := fun _ => False, ex := fun _ _ => False }
def clo (p : Prg) : Nat → Cl
  | 0 => ⟨fun _ _ _ _ => False, fun _ _ _ _ _ => False, fun _ _ _ _ _ => False, fun _ _ _ _ => False, p⟩
  | n + 1 => ⟨fun i ds Q R => match p.fns[i]? with
    | some f => wpF (clo p n) f ds Q R
    | none => False, fun i C ds Q R => match p.fns[i]? with
    | some f => wpN (clo p n) f C ds Q R
    | none => False, (clo p n).init, fun k ds cs Q => match p.nds[k]? with
    | some f => wpD (clo p n) f.1 f.2 ds cs Q
    | none => False, p⟩
@[simp] theorem clo_prg {p : Prg} {n : Nat} : (clo p n).prg = p := by cases n <;> rfl
end Rj

namespace Rj
open PySem PySem.Spec PyProof.Rows L2
/-! ### the slots of the machine and those of the reckoning -/
/-- a slot's own things -/
def OwA (s : Sl) (v : Option V) (a : Addr) : Prop := match s with
  | .own _ _ => v = some (.ref a)
  | .dic _ _ _ => v = some (.ref a)
  | .nst _ _ as _ => v = some (.ref a) ∨ a ∈ as
  | _ => False
/-- .. and the instance that is being made -/
def RgA (s : Sl) (v : Option V) (a : Addr) : Prop := match s with
  | .slf _ _ _ _ => v = some (.ref a)
  | s => OwA s v a
theorem RgA.of {s : Sl} {v : Option V} {a : Addr} (h : OwA s v a) : RgA s v a := by
  cases s <;> first | exact h | exact h.elim
/-- the addresses of the things that slots own -/
def Ow (env : List Sl) (σ : L2.St) (i : Nat) (a : Addr) : Prop := ∃ (s : Sl) (v : Option V), env[i]? = some s ∧ σ[i]? = some v ∧ OwA s v a
def Ex (env : List Sl) (σ : L2.St) (a : Addr) : Prop := ∃ (i : Nat), Ow env σ i a
/-- the instance that is being made -/
def Sx (env : List Sl) (σ : L2.St) (a : Addr) : Prop := ∃ (C : Str) (ks : List Str) (ds : List D) (fr : Bool), env[0]? = some (.slf C ks ds fr) ∧ σ[0]? = some (some (.ref a))
/-- v is the item j of slot i's list of lists -/
def AlsAt (env : List Sl) (σ : L2.St) (H : Hp) (i j : Nat) (v : V) : Prop := ∀ q ds as fr, env[i]? = some (.nst q ds as fr) → ∃ p xs, σ[i]? = some (some (.ref p)) ∧ H p = some (.lst xs) ∧ xs[j]? = some v
section
variable (g : G)
/-- an item of a list of lists: a, its list -/
def NstI (A : Addr → Prop) (H : Hp) (q : Option Nat) (d : D) (a : Addr) (v : V) : Prop := match q with
  | none => ∃ es ys, d = .lst es ∧ v = .ref a ∧ H a = some (.lst ys) ∧ RepL g A H es ys
  | some k => ∃ t ds vs es ys, d = .tup ds ∧ v = .ref t ∧ H t = some (.tup vs) ∧ ds[k]? = some (.lst es) ∧ vs[k]? = some (.ref a) ∧ H a = some (.lst ys) ∧ RepL g A H es ys ∧ RepL g A H (ds.set k .any) vs
def NstL (A : Addr → Prop) (H : Hp) (q : Option Nat) : List D → List Addr → List V → Prop
  | [], [], xs => xs = []
  | d :: ds, a :: as, xs => ∃ v r, xs = v :: r ∧ NstI g A H q d a v ∧ NstL A H q ds as r
  | _, _, _ => False
end
section
variable (g : GZ) (U : Addr → Prop) (F B : Hp)
/-- what a slot's value may reach -/
def Ok1 (env : List Sl) (σ : L2.St) (fr : Bool) (a : Addr) : Prop := (U a ∧ ¬ Ex env σ a) ∧ (fr = true → F a = none)
/-- a slot's value -/
def SlOk (env : List Sl) (σ : L2.St) (H : Hp) (i : Nat) : Sl → Prop
  | .un => True
  | .val d fr => ∃ v, σ[i]? = some (some v) ∧ Rep g (Ok1 U F env σ fr) H d v
  | .own ds fr => ∃ p xs, σ[i]? = some (some (.ref p)) ∧ H p = some (.lst xs) ∧ (B p = none ∧ U p) ∧ RepL g (Ok1 U F env σ fr) H ds xs
  | .slf C ks ds fr => i = 0 ∧ ∃ x dx fs, σ[i]? = some (some (.ref x)) ∧ H x = some (.ins (g.ca C) dx fs) ∧ fs.map (·.1) = ks ∧ (B x = none ∧ ¬ U x) ∧ RepL g (Ok1 U F env σ fr) H ds (fs.map (·.2))
  | .dic ks ds fr => ∃ p kvs, σ[i]? = some (some (.ref p)) ∧ H p = some (.dK kvs) ∧ kvs.map (·.1) = ks ∧ (B p = none ∧ U p) ∧ RepL g (Ok1 U F env σ fr) H ds (kvs.map (·.2))
  | .nst q ds as fr => ∃ p xs, σ[i]? = some (some (.ref p)) ∧ H p = some (.lst xs) ∧ (B p = none ∧ U p) ∧ (as.Nodup ∧ p ∉ as ∧ ∀ a, a ∈ as → B a = none ∧ U a) ∧ NstL g (Ok1 U F env σ fr) H q ds as xs
  | .als j k d => ∃ v, σ[i]? = some (some v) ∧ Rep g (Ok1 U F env σ false) H d v ∧ AlsAt env σ H j k v
  | .fnv k => ∃ f c, σ[i]? = some (some (.ref f)) ∧ H f = some (NdefX.FnO f (g.ca.nf k g.zc c)) ∧ (g.ca.nf k g.zc c).c = c ∧ H c = some (LamX.CodeO c (g.ca.nf k g.zc c).qual)
  | .pin p => σ[i]? = some (some (.ref p))
end
variable [Nm]
/-- the tables of code objects are tracked -/
def TbOk (ca : Ca) (H : Hp) : Prop := ∀ p ∈ ca.tb, TabG p.2 H
theorem TbOk.ext {ca : Ca} {H H' : Hp} (t : TbOk ca H) (e : Same H H') : TbOk ca H' := fun p hp => e.t (t p hp)
theorem TabG.upd {H : Hp} {p P : Addr} {o o' : HO} (hp : H p = some o) (hw : Wr o) (_ : NT o') (g : TabG P H) : TabG P (L2.upd H p o') :=
  let ⟨ps, h1, h2, h3⟩ := g
  ⟨ps, rd_upd hp hw (fun z => z) h1, h2, fun pos cv hc => let ⟨c, e1, e2⟩ := h3 pos cv hc; ⟨c, e1, rd_upd hp hw (fun z => z) e2⟩⟩
/-- what was not there is written -/
theorem Same.over {H H' : Hp} {p : Addr} {o o' : HO} (s : Same H H') (hp : H p = none) (e : H' p = some o) (hw : Wr o) (nt : NT o') : Same H (L2.upd H' p o') := by
  refine ⟨fun b u q n => ?_, fun b ps q => ?_, fun g => (s.t g).upd e hw nt⟩
  · rw [upd_ne (ne_of_none q hp)]
    exact s.k b u q n
  · rw [upd_ne (ne_of_none q hp)]
    exact s.tt b ps q
section
variable (g : GZ) (U : Addr → Prop) (F B : Hp)
structure RelW (env : List Sl) (σ : L2.St) (H : Hp) : Prop where
  len : env.length = σ.length
  uf : ∀ a, H a = none → U a
  fb : Same F B
  bh : Same B H
  slot : ∀ (i : Nat) (s : Sl), env[i]? = some s → SlOk g U F B env σ H i s
  apart : ∀ (i j : Nat) (a : Addr), Ow env σ i a → Ow env σ j a → i = j
  tb : TbOk g.ca H
/-- what an expression's value may reach -/
def Rch (env : List Sl) (σ : L2.St) (al : List Nat) (fr : Bool) (a : Addr) : Prop := U a ∧ (Ex env σ a → ∃ i, i ∈ al ∧ Ow env σ i a) ∧ (fr = true → F a = none)
/-- an expression's value, H the heap ahead of it, H' behind it -/
def RepI (env : List Sl) (σ : L2.St) (H H' : Hp) (d : D) (inf : Inf) (v : V) : Prop :=
  if inf.top = true then ∃ (p : Addr) (xs : List V) (ds : List D), d = .lst ds ∧ v = .ref p ∧ H' p = some (.lst xs) ∧ RepL g (fun a => Rch U F env σ inf.al inf.fr a ∧ a ≠ p) H' ds xs ∧
    ((inf.me = [] ∧ H p = none) ∨ ∃ (i : Nat), inf.me = [i] ∧ Ow env σ i p)
  else inf.me = [] ∧ Rep g (Rch U F env σ inf.al inf.fr) H' d v
end
mutual
/-- a value's reading stays where what it reaches and what is never written stay -/
theorem Rep.kept {g : G} {A : Addr → Prop} {H H' : Hp} (h1 : ∀ a o, A a → H a = some o → NT o → H' a = some o) (h2 : ∀ a o, H a = some o → ¬ Wr o → NT o → H' a = some o) : ∀ {d : D} {v : V}, Rep g A H d v → Rep g A H' d v
  | .non, _, h => h
  | .bl _, _, h => h
  | .int _, _, h => h
  | .str _, _, h => h
  | .lst ds, _, h => by
    obtain ⟨a, xs, ev, ha, hs, hl⟩ := h
    exact ⟨a, xs, ev, ha, h1 _ _ ha hs trivial, RepL.kept h1 h2 hl⟩
  | .tup ds, _, h => by
    obtain ⟨a, xs, ev, hs, hl⟩ := h
    exact ⟨a, xs, ev, h2 _ _ hs (fun z => z) trivial, RepL.kept h1 h2 hl⟩
  | .ins _ ks ds, _, h => by
    obtain ⟨a, dx, fs, ev, ha, hs, hk, hl⟩ := h
    exact ⟨a, dx, fs, ev, ha, h1 _ _ ha hs trivial, hk, RepL.kept h1 h2 hl⟩
  | .dic ks ds, _, h => by
    obtain ⟨a, kvs, ev, ha, hs, hk, hl⟩ := h
    exact ⟨a, kvs, ev, ha, h1 _ _ ha hs trivial, hk, RepL.kept h1 h2 hl⟩
  | .scr ns, _, h => by
    obtain ⟨a, ev, hs⟩ := h
    exact ⟨a, ev, hs.imp_left fun ⟨o, z⟩ => ⟨o, h2 _ _ z (fun z => z) trivial⟩⟩
  | .any, _, _ => trivial
  | .fn k cs, _, h => by
    obtain ⟨f, cl, c, ws, ev, e1, e2, e3, e4, hl⟩ := h
    exact ⟨f, cl, c, ws, ev, h2 _ _ e1 (fun z => z) trivial, e2, h2 _ _ e3 (fun z => z) trivial, e4.ext fun a o z => h2 _ _ z (fun z => z) trivial, RepL.kept h1 h2 hl⟩
theorem RepL.kept {g : G} {A : Addr → Prop} {H H' : Hp} (h1 : ∀ a o, A a → H a = some o → NT o → H' a = some o) (h2 : ∀ a o, H a = some o → ¬ Wr o → NT o → H' a = some o) : ∀ {ds : List D} {vs : List V}, RepL g A H ds vs → RepL g A H' ds vs
  | [], _, h => h
  | d :: ds, _, h => by
    obtain ⟨v, r, ev, k1, k2⟩ := h
    exact ⟨v, r, ev, Rep.kept h1 h2 k1, RepL.kept h1 h2 k2⟩
end
section
variable {g : G} {A A' : Addr → Prop} {H H' : Hp} {q : Option Nat}
theorem NstI.mv (hA : ∀ a, A a → H a ≠ none → A' a) (h1 : ∀ a o, A a → H a = some o → NT o → H' a = some o) (h2 : ∀ a o, H a = some o → ¬ Wr o → NT o → H' a = some o) {d : D} {a : Addr} {v : V} (h3 : ∀ o, H a = some o → NT o → H' a = some o) (h : NstI g A H q d a v) : NstI g A' H' q d a v := by
  have mv : ∀ {es : List D} {ys : List V}, RepL g A H es ys → RepL g A' H' es ys := fun hl => (hl.there.mono fun a z => z).kept (H' := H') (fun a o z e n => h1 a o z.1 e n) h2 |>.mono fun a z => hA a z.1 z.2
  cases q with
  | none =>
    obtain ⟨es, ys, e1, e2, e3, e4⟩ := h
    exact ⟨es, ys, e1, e2, h3 _ e3 trivial, mv e4⟩
  | some k =>
    obtain ⟨t, ds, vs, es, ys, e1, e2, e3, e4, e5, e6, e7, e8⟩ := h
    exact ⟨t, ds, vs, es, ys, e1, e2, h2 _ _ e3 (fun z => z) trivial, e4, e5, h3 _ e6 trivial, mv e7, mv e8⟩
theorem NstL.mv (hA : ∀ a, A a → H a ≠ none → A' a) (h1 : ∀ a o, A a → H a = some o → NT o → H' a = some o) (h2 : ∀ a o, H a = some o → ¬ Wr o → NT o → H' a = some o) : ∀ {ds : List D} {as : List Addr} {xs : List V}, (∀ a o, a ∈ as → H a = some o → NT o → H' a = some o) → NstL g A H q ds as xs → NstL g A' H' q ds as xs
  | [], [], _, _, h => h
  | d :: ds, a :: as, _, h3, h => by
    obtain ⟨v, r, e, k1, k2⟩ := h
    exact ⟨v, r, e, k1.mv hA h1 h2 fun o => h3 a o List.mem_cons_self, NstL.mv hA h1 h2 (fun a o z => h3 a o (List.mem_cons_of_mem _ z)) k2⟩
  | [], _ :: _, _, _, h => h.elim
  | _ :: _, [], _, _, h => h.elim
theorem NstL.there : ∀ {ds : List D} {as : List Addr} {xs : List V}, NstL g A H q ds as xs → ∀ a, a ∈ as → ∃ ys, H a = some (.lst ys)
  | [], [], _, _, b, hb => by cases hb
  | [], _ :: _, _, h, _, _ => h.elim
  | _ :: _, [], _, h, _, _ => h.elim
  | d :: ds, a :: as, _, ⟨v, r, e, k1, k2⟩, b, hb => by
    rcases List.mem_cons.mp hb with e | hb
    · subst e
      cases q with
      | none =>
        obtain ⟨es, ys, _, _, e3, _⟩ := k1
        exact ⟨ys, e3⟩
      | some k =>
        obtain ⟨t, ds, vs, es, ys, _, _, _, _, _, e6, _⟩ := k1
        exact ⟨ys, e6⟩
    · exact NstL.there k2 b hb
theorem RepL.fill : ∀ {ds : List D} {vs : List V} {k : Nat} {d : D} {v : V}, ds[k]? = some d → vs[k]? = some v → Rep g A H d v → RepL g A H (ds.set k .any) vs → RepL g A H ds vs
  | [], vs, k, d, v, e, _, _, _ => by cases e
  | d0 :: ds, vs, 0, d, v, e1, e2, h, hl => by
    obtain ⟨v', r, rfl, _, h2⟩ := hl
    cases e1
    cases e2
    exact ⟨_, _, rfl, h, h2⟩
  | d0 :: ds, vs, k + 1, d, v, e1, e2, h, hl => by
    obtain ⟨v', r, rfl, h1, h2⟩ := hl
    exact ⟨_, _, rfl, h1, RepL.fill (by simpa using e1) (by simpa using e2) h h2⟩
/-- the list of lists as a value -/
theorem NstL.rep (hA : ∀ a, A a → A' a) : ∀ {ds : List D} {as : List Addr} {xs : List V}, (∀ a, a ∈ as → A' a) → NstL g A H q ds as xs → RepL g A' H ds xs
  | [], [], _, _, h => h
  | d :: ds, a :: as, _, h3, h => by
    obtain ⟨v, r, e, k1, k2⟩ := h
    refine ⟨v, r, e, ?_, NstL.rep hA (fun a z => h3 a (List.mem_cons_of_mem _ z)) k2⟩
    cases q with
    | none =>
      obtain ⟨es, ys, rfl, rfl, e3, e4⟩ := k1
      exact ⟨a, ys, rfl, h3 a List.mem_cons_self, e3, e4.mono hA⟩
    | some k =>
      obtain ⟨t, ds, vs, es, ys, rfl, rfl, e3, e4, e5, e6, e7, e8⟩ := k1
      exact ⟨t, vs, rfl, e3, RepL.fill e4 e5 ⟨a, ys, rfl, h3 a List.mem_cons_self, e6, e7.mono hA⟩ (e8.mono hA)⟩
  | [], _ :: _, _, _, h => h.elim
  | _ :: _, [], _, _, h => h.elim
theorem NstL.len : ∀ {ds : List D} {as : List Addr} {xs : List V}, NstL g A H q ds as xs → xs.length = ds.length ∧ as.length = ds.length
  | [], [], _, h => by
    have h : _ = [] := h
    subst h
    exact ⟨rfl, rfl⟩
  | d :: ds, a :: as, _, ⟨v, r, e, k1, k2⟩ => by
    subst e
    obtain ⟨e1, e2⟩ := NstL.len k2
    exact ⟨by simp [e1], by simp [e2]⟩
  | [], _ :: _, _, h => h.elim
  | _ :: _, [], _, h => h.elim
theorem NstL.at : ∀ {ds : List D} {as : List Addr} {xs : List V} {m : Nat} {d : D}, NstL g A H q ds as xs → ds[m]? = some d → ∃ a v, as[m]? = some a ∧ xs[m]? = some v ∧ NstI g A H q d a v
  | d0 :: ds, a :: as, _, 0, d, ⟨v, r, e, k1, k2⟩, e2 => by
    cases e2
    subst e
    exact ⟨a, v, rfl, rfl, k1⟩
  | d0 :: ds, a :: as, _, m + 1, d, ⟨v, r, e, k1, k2⟩, e2 => by
    subst e
    simpa using NstL.at k2 (by simpa using e2)
  | [], _, _, _, _, _, e2 => by cases e2
  | _ :: _, [], _, _, _, h, _ => h.elim
/-- another item at m, the heap but for its list as before -/
theorem NstL.put (hA : ∀ a, A a → A' a) (h1 : ∀ a o, A a → H a = some o → NT o → H' a = some o) (h2 : ∀ a o, H a = some o → ¬ Wr o → NT o → H' a = some o) : ∀ {ds : List D} {as : List Addr} {xs : List V} {m : Nat} {d : D} {a : Addr} {v : V}, as.Nodup → as[m]? = some a → xs[m]? = some v → (∀ b o, b ∈ as → b ≠ a → H b = some o → NT o → H' b = some o) → NstI g A' H' q d a v → NstL g A H q ds as xs → NstL g A' H' q (ds.set m d) as xs
  | d0 :: ds, b :: as, _, 0, d, a, v, nd, e1, e2, h3, hi, ⟨u, r, e, k1, k2⟩ => by
    subst e
    cases e1
    cases e2
    refine ⟨_, _, rfl, hi, k2.mv (fun a z _ => hA a z) h1 h2 fun c o hc => h3 c o (List.mem_cons_of_mem _ hc) fun e => ?_⟩
    subst e
    exact (List.nodup_cons.mp nd).1 hc
  | d0 :: ds, b :: as, _, m + 1, d, a, v, nd, e1, e2, h3, hi, ⟨u, r, e, k1, k2⟩ => by
    subst e
    have e1 : as[m]? = some a := by simpa using e1
    refine ⟨_, _, rfl, k1.mv (fun a z _ => hA a z) h1 h2 fun o => h3 b o List.mem_cons_self fun e => ?_, NstL.put hA h1 h2 (List.nodup_cons.mp nd).2 e1 (by simpa using e2) (fun c o hc => h3 c o (List.mem_cons_of_mem _ hc)) hi k2⟩
    subst e
    exact (List.nodup_cons.mp nd).1 (List.mem_of_getElem? e1)
  | [], [], _, m, d, a, v, nd, e1, e2, h3, hi, h => by simp at e1
  | [], _ :: _, _, _, _, _, _, _, _, _, _, _, h => h.elim
  | _ :: _, [], _, _, _, _, _, _, _, _, _, _, h => h.elim
theorem NstL.snoc {d : D} {a : Addr} {v : V} (hi : NstI g A H q d a v) : ∀ {ds : List D} {as : List Addr} {xs : List V}, NstL g A H q ds as xs → NstL g A H q (ds ++ [d]) (as ++ [a]) (xs ++ [v])
  | [], [], _, h => by
    have h : _ = [] := h
    subst h
    exact ⟨v, [], rfl, hi, rfl⟩
  | d0 :: ds, b :: as, _, ⟨u, r, e, k1, k2⟩ => by
    subst e
    exact ⟨u, r ++ [v], rfl, k1, NstL.snoc hi k2⟩
  | [], _ :: _, _, h => h.elim
  | _ :: _, [], _, h => h.elim
end
section
variable {g : GZ} {U : Addr → Prop} {F B B' : Hp} {env env' : List Sl} {σ σ' : L2.St} {H H1 H2 H' : Hp}
/-- a slot's value stays -/
theorem SlOk.kept {i : Nat} {s : Sl} {U' : Addr → Prop} (hU : ∀ a, U a → H a ≠ none → U' a) (hx : ∀ a, H a ≠ none → Ex env' σ' a → Ex env σ a) (hσ : σ'[i]? = σ[i]?) (k1 : ∀ a o, U a → ¬ Ex env σ a → H a = some o → NT o → H' a = some o) (k2 : ∀ a o, H a = some o → ¬ Wr o → NT o → H' a = some o)
    (k3 : ∀ a o, (∃ v, σ[i]? = some v ∧ RgA s v a) → H a = some o → NT o → H' a = some o) (kb : ∀ a, (∃ v, σ[i]? = some v ∧ RgA s v a) → B a = none → B' a = none) (ks : ∀ a, ¬ U a → H a ≠ none → ¬ U' a) (ha : ∀ j k v, AlsAt env σ H j k v → AlsAt env' σ' H' j k v) (h : SlOk g U F B env σ H i s) : SlOk g U' F B' env' σ' H' i s := by
  have okm : ∀ {fr : Bool} (a : Addr), Ok1 U F env σ fr a → H a ≠ none → Ok1 U' F env' σ' fr a := fun a z n => ⟨⟨hU a z.1.1 n, fun e => z.1.2 (hx a n e)⟩, z.2⟩
  have mv : ∀ {fr : Bool} {es : List D} {ys : List V}, RepL g (Ok1 U F env σ fr) H es ys → RepL g (Ok1 U' F env' σ' fr) H' es ys := fun hl => (hl.there.mono fun a z => z).kept (H' := H') (fun a o z e n => k1 a o z.1.1.1 z.1.1.2 e n) k2 |>.mono fun a z => okm a z.1 z.2
  have mv1 : ∀ {fr : Bool} {d : D} {v : V}, Rep g (Ok1 U F env σ fr) H d v → Rep g (Ok1 U' F env' σ' fr) H' d v := fun hl => (hl.there.mono fun a z => z).kept (H' := H') (fun a o z e n => k1 a o z.1.1.1 z.1.1.2 e n) k2 |>.mono fun a z => okm a z.1 z.2
  cases s with
  | un => trivial
  | val d fr =>
    obtain ⟨v, h1, h2⟩ := h
    exact ⟨v, by rw [hσ]; exact h1, mv1 h2⟩
  | own ds fr =>
    obtain ⟨p, xs, h1, h2, ⟨h3, h4⟩, h5⟩ := h
    exact ⟨p, xs, by rw [hσ]; exact h1, k3 _ _ ⟨_, h1, rfl⟩ h2 trivial, ⟨kb _ ⟨_, h1, rfl⟩ h3, hU _ h4 (by rw [h2]; exact fun z => nomatch z)⟩, mv h5⟩
  | slf C ks' ds fr =>
    obtain ⟨h0, x, dx, fs, h1, h2, h3, ⟨h4, h5⟩, h6⟩ := h
    exact ⟨h0, x, dx, fs, by rw [hσ]; exact h1, k3 _ _ ⟨_, h1, rfl⟩ h2 trivial, h3, ⟨kb _ ⟨_, h1, rfl⟩ h4, ks _ h5 (by rw [h2]; exact fun z => nomatch z)⟩, mv h6⟩
  | dic ks' ds fr =>
    obtain ⟨p, kvs, h1, h2, h3, ⟨h4, h5⟩, h6⟩ := h
    exact ⟨p, kvs, by rw [hσ]; exact h1, k3 _ _ ⟨_, h1, rfl⟩ h2 trivial, h3, ⟨kb _ ⟨_, h1, rfl⟩ h4, hU _ h5 (by rw [h2]; exact fun z => nomatch z)⟩, mv h6⟩
  | nst q ds as fr =>
    obtain ⟨p, xs, h1, h2, ⟨h3, h4⟩, ⟨h5, h6, h7⟩, h8⟩ := h
    refine ⟨p, xs, by rw [hσ]; exact h1, k3 _ _ ⟨_, h1, .inl rfl⟩ h2 trivial, ⟨kb _ ⟨_, h1, .inl rfl⟩ h3, hU _ h4 (by rw [h2]; exact fun z => nomatch z)⟩, ⟨h5, h6, fun a z => ?_⟩, h8.mv okm (fun a o z e n => k1 a o z.1.1 z.1.2 e n) k2 fun a o z e n => k3 a o ⟨_, h1, .inr z⟩ e n⟩
    obtain ⟨ys, e⟩ := h8.there a z
    exact ⟨kb _ ⟨_, h1, .inr z⟩ (h7 a z).1, hU _ (h7 a z).2 (by rw [e]; exact fun z => nomatch z)⟩
  | als j k d =>
    obtain ⟨v, h1, h2, h3⟩ := h
    exact ⟨v, by rw [hσ]; exact h1, mv1 h2, ha _ _ _ h3⟩
  | fnv k =>
    obtain ⟨f, c, h1, h2, h3, h4⟩ := h
    exact ⟨f, c, by rw [hσ]; exact h1, k2 _ _ h2 (fun z => z) trivial, h3, k2 _ _ h4 (fun z => z) trivial⟩
  | pin p => exact hσ.trans h
theorem RelW.val (r : RelW g U F B env σ H) (i : Nat) (d : D) (fr : Bool) (h : env[i]? = some (.val d fr)) : ∃ v, σ[i]? = some (some v) ∧ Rep g (Ok1 U F env σ fr) H d v := r.slot i _ h
theorem RelW.own (r : RelW g U F B env σ H) (i : Nat) (ds : List D) (fr : Bool) (h : env[i]? = some (.own ds fr)) : ∃ p xs, σ[i]? = some (some (.ref p)) ∧ H p = some (.lst xs) ∧ (B p = none ∧ U p) ∧ RepL g (Ok1 U F env σ fr) H ds xs := r.slot i _ h
theorem RelW.slf (r : RelW g U F B env σ H) (i : Nat) (C : Str) (ks : List Str) (ds : List D) (fr : Bool) (h : env[i]? = some (.slf C ks ds fr)) : i = 0 ∧ ∃ x dx fs, σ[i]? = some (some (.ref x)) ∧ H x = some (.ins (g.ca C) dx fs) ∧ fs.map (·.1) = ks ∧ (B x = none ∧ ¬ U x) ∧ RepL g (Ok1 U F env σ fr) H ds (fs.map (·.2)) := r.slot i _ h
/-- what a slot owns stands in the heap, behind the base -/
theorem RelW.owT (r : RelW g U F B env σ H) {i : Nat} {a : Addr} (h : Ow env σ i a) : (∃ o, H a = some o ∧ Wr o ∧ NT o ∧ ∀ C dx fs, o ≠ .ins C dx fs) ∧ B a = none ∧ U a := by
  obtain ⟨s, v, e1, e2, e3⟩ := h
  have k := r.slot i s e1
  cases s <;> first | exact e3.elim | skip
  · obtain ⟨p, xs, a1, b, c, _⟩ := k
    have e3 : v = some (.ref a) := e3
    rw [e2, e3] at a1
    cases a1
    exact ⟨⟨_, b, trivial, trivial, fun _ _ _ z => nomatch z⟩, c⟩
  · obtain ⟨p, xs, a1, b, _, c, _⟩ := k
    have e3 : v = some (.ref a) := e3
    rw [e2, e3] at a1
    cases a1
    exact ⟨⟨_, b, trivial, trivial, fun _ _ _ z => nomatch z⟩, c⟩
  · obtain ⟨p, xs, a1, b, c, d, f⟩ := k
    rcases (e3 : v = some (.ref a) ∨ _) with e3 | e3
    · rw [e2, e3] at a1
      cases a1
      exact ⟨⟨_, b, trivial, trivial, fun _ _ _ z => nomatch z⟩, c⟩
    · obtain ⟨ys, e⟩ := f.there a e3
      exact ⟨⟨_, e, trivial, trivial, fun _ _ _ z => nomatch z⟩, d.2.2 a e3⟩
theorem RelW.exT (r : RelW g U F B env σ H) {a : Addr} (h : Ex env σ a) : (∃ o, H a = some o ∧ Wr o ∧ NT o ∧ ∀ C dx fs, o ≠ .ins C dx fs) ∧ B a = none ∧ U a := let ⟨_, z⟩ := h; r.owT z
theorem RelW.exN (r : RelW g U F B env σ H) {a : Addr} (h : Ex env σ a) {o : HO} (e : H a = some o) (w : ¬ Wr o) : False := by
  obtain ⟨⟨o', e', w', _⟩, _⟩ := r.exT h
  rw [e] at e'
  cases e'
  exact w w'
theorem RelW.sx (r : RelW g U F B env σ H) {a : Addr} (h : Sx env σ a) : ¬ U a ∧ B a = none ∧ ∃ C dx fs, H a = some (.ins C dx fs) := by
  obtain ⟨C, ks, ds, fr, e1, e2⟩ := h
  obtain ⟨_, x, dx, fs, e3, e4, _, e5, _⟩ := r.slf 0 C ks ds fr e1
  rw [e2] at e3
  cases e3
  exact ⟨e5.2, e5.1, _, _, _, e4⟩
/-- a slot's region -/
theorem RelW.rgT (r : RelW g U F B env σ H) {i : Nat} {s : Sl} {v : Option V} (e1 : env[i]? = some s) (e2 : σ[i]? = some v) {a : Addr} (h : RgA s v a) : (∃ o, H a = some o ∧ Wr o ∧ NT o) ∧ B a = none := by
  cases s with
  | slf C ks ds fr =>
    obtain ⟨_, x, dx, fs, e3, e4, _, e5, _⟩ := r.slf i C ks ds fr e1
    have h : v = some (.ref a) := h
    rw [e2, h] at e3
    cases e3
    exact ⟨⟨_, e4, trivial, trivial⟩, e5.1⟩
  | _ =>
    obtain ⟨⟨o, z1, z2, z3, _⟩, z4, _⟩ := r.owT ⟨_, v, e1, e2, h⟩
    exact ⟨⟨o, z1, z2, z3⟩, z4⟩
/-- two slots' regions are apart -/
theorem RelW.rgA (r : RelW g U F B env σ H) {i j : Nat} {s t : Sl} {v w : Option V} (e1 : env[i]? = some s) (e2 : σ[i]? = some v) (e3 : env[j]? = some t) (e4 : σ[j]? = some w) {a : Addr} (h1 : RgA s v a) (h2 : RgA t w a) : i = j := by
  have un : ∀ {i : Nat} {C : Str} {ks : List Str} {ds : List D} {fr : Bool} {v : Option V}, env[i]? = some (.slf C ks ds fr) → σ[i]? = some v → v = some (.ref a) → i = 0 ∧ ¬ U a := fun {i C ks ds fr v} e1 e2 h => by
    obtain ⟨z, x, dx, fs, k1, _, _, k2, _⟩ := r.slf i C ks ds fr e1
    rw [e2, h] at k1
    cases k1
    exact ⟨z, k2.2⟩
  have ow : ∀ {i : Nat} {s : Sl} {v : Option V}, env[i]? = some s → σ[i]? = some v → RgA s v a → (i = 0 ∧ ¬ U a) ∨ Ow env σ i a := fun {i s v} e1 e2 h => by
    cases s with
    | slf C ks ds fr => exact .inl (un e1 e2 h)
    | _ => exact .inr ⟨_, v, e1, e2, h⟩
  rcases ow e1 e2 h1 with ⟨z1, z2⟩ | z1
  · rcases ow e3 e4 h2 with ⟨z3, _⟩ | z3
    · rw [z1, z3]
    · exact absurd (r.owT z3).2.2 z2
  · rcases ow e3 e4 h2 with ⟨_, z3⟩ | z3
    · exact absurd (r.owT z1).2.2 z3
    · exact r.apart i j a z1 z3
theorem RelW.ext (r : RelW g U F B env σ H) (e : Same H H') : RelW g U F B env σ H' :=
  ⟨r.len, fun a h => r.uf a (e.free h), r.fb, r.bh.trans e, fun i s h => (r.slot i s h).kept (fun _ z _ => z) (fun _ _ z => z) rfl (fun a o _ _ q n => e.k a o q n) (fun a o q _ n => e.k a o q n) (fun a o _ q n => e.k a o q n) (fun _ _ z => z) (fun _ z _ => z) fun j k v z q ds as fr h => let ⟨p, xs, h1, h2, h3⟩ := z q ds as fr h; ⟨p, xs, h1, e _ _ h2, h3⟩, r.apart, r.tb.ext e⟩
/-- another base -/
theorem RelW.base (r : RelW g U F B env σ H) (fb : Same F B') (bh : Same B' H) (h : ∀ a, Ex env σ a → B' a = none) (h2 : ∀ a, Sx env σ a → B' a = none) : RelW g U F B' env σ H :=
  ⟨r.len, r.uf, fb, bh, fun i s e => (r.slot i s e).kept (fun _ z _ => z) (fun _ _ z => z) rfl (fun a o _ _ q n => q) (fun a o q _ n => q) (fun a o _ q n => q) (fun a ⟨v, e2, z⟩ _ => by
    cases s with
    | slf C ks ds fr =>
      obtain ⟨z0, _⟩ := r.slf i C ks ds fr e
      subst z0
      exact h2 a ⟨C, ks, ds, fr, e, by rw [e2]; exact congrArg some z⟩
    | _ => exact h a ⟨i, _, v, e, e2, z⟩) (fun _ z _ => z) fun j k v z => z, r.apart, r.tb⟩
theorem RelW.weak (r : RelW g U F B' env σ H) (fb : Same F B) (e : Same B B') : RelW g U F B env σ H :=
  r.base fb (e.trans r.bh) (fun a h => e.free (r.exT h).2.1) fun a h => e.free (r.sx h).2.1
theorem RelW.exF (r : RelW g U F B env σ H) {a : Addr} (h : Ex env σ a) : F a = none := r.fb.free (r.exT h).2.1
theorem RelW.new (r : RelW g U F B env σ H) {a : Addr} (h : H a = none) : U a ∧ ¬ Ex env σ a ∧ F a = none := by
  have f := r.fb.free (r.bh.free h)
  refine ⟨r.uf a h, fun z => ?_, f⟩
  obtain ⟨⟨xs, e, _⟩, _⟩ := r.exT z
  rw [h] at e
  cases e
theorem rch_new (r : RelW g U F B env σ H) {a : Addr} {al : List Nat} {fr : Bool} (h : H a = none) : Rch U F env σ al fr a :=
  ⟨(r.new h).1, fun z => absurd z (r.new h).2.1, fun _ => (r.new h).2.2⟩
theorem Rch.mono {al al' : List Nat} {fr fr' : Bool} (h : ∀ i, i ∈ al → i ∈ al') (hf : fr' = true → fr = true) {a : Addr} (x : Rch U F env σ al fr a) : Rch U F env σ al' fr' a :=
  ⟨x.1, fun z => let ⟨i, a, b⟩ := x.2.1 z; ⟨i, h i a, b⟩, fun z => x.2.2 (hf z)⟩
theorem RepI.low {d : D} {inf : Inf} {v : V} (r : RelW g U F B env σ H) (h : RepI g U F env σ H H' d inf v) : Rep g (Rch U F env σ inf.all inf.fr) H' d v := by
  unfold RepI at h
  by_cases ht : inf.top = true
  · rw [if_pos ht] at h
    obtain ⟨p, xs, ds, rfl, rfl, hp, hl, hm⟩ := h
    refine ⟨p, xs, rfl, ?_, hp, hl.mono fun a x => x.1.mono (fun i q => List.mem_append_right _ q) fun z => z⟩
    rcases hm with ⟨_, hn⟩ | ⟨i, em, ow⟩
    · exact rch_new r hn
    · have ex : Ex env σ p := ⟨i, ow⟩
      exact ⟨(r.exT ex).2.2, fun _ => ⟨i, List.mem_append_left _ (by rw [em]; exact List.mem_singleton.mpr rfl), ow⟩, fun _ => r.exF ex⟩
  · rw [if_neg ht] at h
    exact h.2.mono fun a x => x.mono (fun i q => List.mem_append_right _ q) fun z => z
/-- a list: its parts -/
theorem RepI.lst {ds : List D} {inf : Inf} {v : V} (h : RepI g U F env σ H H' (.lst ds) inf v) : ∃ p xs, v = .ref p ∧ H' p = some (.lst xs) ∧ RepL g (Rch U F env σ inf.al inf.fr) H' ds xs := by
  unfold RepI at h
  by_cases ht : inf.top = true
  · rw [if_pos ht] at h
    obtain ⟨p, xs, es, ed, rfl, hp, hl, hm⟩ := h
    cases ed
    exact ⟨p, xs, rfl, hp, hl.mono fun a x => x.1⟩
  · rw [if_neg ht] at h
    obtain ⟨_, p, xs, rfl, _, hs, hl⟩ := h
    exact ⟨p, xs, rfl, hs, hl⟩
theorem RepI.tup {ds : List D} {inf : Inf} {v : V} (h : RepI g U F env σ H H' (.tup ds) inf v) : ∃ p xs, v = .ref p ∧ H' p = some (.tup xs) ∧ RepL g (Rch U F env σ inf.al inf.fr) H' ds xs := by
  unfold RepI at h
  by_cases ht : inf.top = true
  · rw [if_pos ht] at h
    obtain ⟨p, xs, es, ed, rfl, hp, hl, hm⟩ := h
    cases ed
  · rw [if_neg ht] at h
    obtain ⟨_, p, xs, rfl, hs, hl⟩ := h
    exact ⟨p, xs, rfl, hs, hl⟩
/-- values that reach no list -/
theorem RepI.flat {d : D} {inf : Inf} {v : V} (hd : ∀ ds, d ≠ .lst ds) (h : RepI g U F env σ H H' d inf v) : Rep g (Rch U F env σ inf.al inf.fr) H' d v := by
  unfold RepI at h
  by_cases ht : inf.top = true
  · rw [if_pos ht] at h
    obtain ⟨p, xs, es, ed, _⟩ := h
    exact absurd ed (hd es)
  · rw [if_neg ht] at h
    exact h.2
theorem RepI.int {i : Int} {inf : Inf} {v : V} (h : RepI g U F env σ H H' (.int i) inf v) : v = .int i := h.flat (by intro _ z; cases z)
theorem RepI.bl {i : Bool} {inf : Inf} {v : V} (h : RepI g U F env σ H H' (.bl i) inf v) : v = .bl i := h.flat (by intro _ z; cases z)
theorem RepI.str {i : Str} {inf : Inf} {v : V} (h : RepI g U F env σ H H' (.str i) inf v) : v = .str i := h.flat (by intro _ z; cases z)
theorem RepI.scr {ns : List Int} {inf : Inf} {v : V} (h : RepI g U F env σ H H' (.scr ns) inf v) : ∃ a, v = .ref a ∧ SqL g.K H' a (ns.map V.int) := by
  obtain ⟨a, e, z⟩ := (h.flat (by intro _ z; cases z) : Rep g _ H' (.scr ns) v)
  exact ⟨a, e, z.sq⟩
theorem RepI.non {inf : Inf} {v : V} (h : RepI g U F env σ H H' .non inf v) : v = .non := h.flat (by intro _ z; cases z)
theorem RepI.ext {d : D} {inf : Inf} {v : V} (h : RepI g U F env σ H H1 d inf v) (e : Same H1 H2) : RepI g U F env σ H H2 d inf v := by
  unfold RepI at h ⊢
  by_cases ht : inf.top = true
  · rw [if_pos ht] at h ⊢
    obtain ⟨p, xs, es, ed, ev, hp, hl, hm⟩ := h
    exact ⟨p, xs, es, ed, ev, e _ _ hp, hl.ext e, hm⟩
  · rw [if_neg ht] at h ⊢
    exact ⟨h.1, h.2.ext e⟩
/-- seen from further ahead -/
theorem RepI.back {d : D} {inf : Inf} {v : V} (e : Same H H1) (h : RepI g U F env σ H1 H2 d inf v) : RepI g U F env σ H H2 d inf v := by
  unfold RepI at h ⊢
  by_cases ht : inf.top = true
  · rw [if_pos ht] at h ⊢
    obtain ⟨p, xs, es, ed, ev, hp, hl, hm⟩ := h
    exact ⟨p, xs, es, ed, ev, hp, hl, hm.imp_left fun z => ⟨z.1, e.free z.2⟩⟩
  · rw [if_neg ht] at h ⊢
    exact h
theorem repI_c {d : D} {v : V} {A : Addr → Prop} (hi : d.imm = true) (h : Rep g A H' d v) : RepI g U F env σ H H' d ci v := by
  unfold RepI
  exact ⟨rfl, Rep.imm hi h⟩
theorem repI_int (i : Int) : RepI g U F env σ H H' (.int i) ci (.int i) := repI_c (A := fun _ => True) rfl rfl
theorem repI_bl (i : Bool) : RepI g U F env σ H H' (.bl i) ci (.bl i) := repI_c (A := fun _ => True) rfl rfl
theorem repI_str (i : Str) : RepI g U F env σ H H' (.str i) ci (.str i) := repI_c (A := fun _ => True) rfl rfl
theorem repI_non : RepI g U F env σ H H' .non ci .non := repI_c (A := fun _ => True) rfl rfl
/-- a part of a value -/
theorem repI_n {d : D} {v : V} {inf : Inf} (h : Rep g (Rch U F env σ inf.al inf.fr) H' d v) : RepI g U F env σ H H' d (Inf.n d inf) v := by
  unfold Inf.n
  cases hi : d.imm with
  | true => exact repI_c hi h
  | false => exact ⟨rfl, h⟩
/-- what may hold it -/
theorem repI_h {d : D} {v : V} {al : List Nat} {fr : Bool} (h : Rep g (Rch U F env σ al fr) H' d v) : RepI g U F env σ H H' d ⟨al, [], fr, false⟩ v := ⟨rfl, h⟩
/-- a new list -/
theorem repI_new {al : List Nat} {fr : Bool} {p : Addr} {ds : List D} {xs : List V} (r : RelW g U F B env σ H) (s : Same H H1) (hp : H1 p = none) (h : RepL g (Rch U F env σ al fr) H1 ds xs) :
    RepI g U F env σ H (L2.upd H1 p (.lst xs)) (.lst ds) ⟨al, [], fr, true⟩ (.ref p) := by
  have e : Same H1 (L2.upd H1 p (.lst xs)) := same_new hp
  refine ⟨p, xs, ds, rfl, rfl, upd_same, ?_, .inl ⟨rfl, s.free hp⟩⟩
  exact (h.there.mono fun a x => ⟨x.1, fun z => x.2 (by rw [z]; exact hp)⟩).ext e
/-! ### slots set -/
theorem getD_of {i : Nat} {s : Sl} (h : env[i]? = some s) : env.getD i .un = s := by rw [List.getD_eq_getElem?_getD, h]; rfl
theorem of_getD {i : Nat} {s : Sl} (h : env.getD i .un = s) (hs : s ≠ .un) : env[i]? = some s := by
  rw [List.getD_eq_getElem?_getD] at h
  cases e : env[i]? with
  | none =>
    rw [e] at h
    exact absurd h.symm hs
  | some t =>
    rw [e] at h
    exact congrArg some h
theorem ow_set {i j : Nat} {s : Sl} {v : Option V} {a : Addr} (h : Ow (env.set i s) (σ.set i v) j a) : (j ≠ i ∧ Ow env σ j a) ∨ (j = i ∧ OwA s v a) := by
  obtain ⟨t, w, e1, e2, e3⟩ := h
  by_cases hj : i = j
  · subst hj
    rw [List.getElem?_set] at e1 e2
    simp only [if_true] at e1 e2
    split at e1
    · split at e2
      · cases e1
        cases e2
        exact .inr ⟨rfl, e3⟩
      · cases e2
    · cases e1
  · rw [List.getElem?_set_ne hj] at e1 e2
    exact .inl ⟨Ne.symm hj, t, w, e1, e2, e3⟩
theorem ex_set {i : Nat} {s : Sl} {v : Option V} {a : Addr} (h : Ex (env.set i s) (σ.set i v) a) : Ex env σ a ∨ OwA s v a := by
  obtain ⟨j, z⟩ := h
  rcases ow_set z with ⟨_, z⟩ | ⟨_, z⟩
  · exact .inl ⟨j, z⟩
  · exact .inr z
theorem ok1_mono {env' : List Sl} {σ' : L2.St} (hx : ∀ a, Ex env' σ' a → Ex env σ a) {fr : Bool} {a : Addr} (h : Ok1 U F env σ fr a) : Ok1 U F env' σ' fr a := ⟨⟨h.1.1, fun z => h.1.2 (hx a z)⟩, h.2⟩
/-- a slot's list of lists is forgotten or stays -/
theorem als_set {i : Nat} {s : Sl} {v : Option V} (hs : ∀ q ds as fr, s ≠ .nst q ds as fr) {j k : Nat} {u : V} (h : AlsAt env σ H j k u) : AlsAt (env.set i s) (σ.set i v) H j k u := fun q ds as fr e => by
  by_cases hj : i = j
  · subst hj
    rw [List.getElem?_set] at e
    simp only [if_true] at e
    split at e
    · exact absurd (Option.some.inj e) (hs _ _ _ _)
    · cases e
  · rw [List.getElem?_set_ne hj] at e ⊢
    exact h q ds as fr e
theorem no_als {i : Nat} (h : noAls i env = true) {m j k : Nat} {d : D} (e : env[m]? = some (.als j k d)) : j ≠ i := by
  have z := List.all_eq_true.mp h _ (List.mem_of_getElem? e)
  simpa using z
/-- .. with all that stood -/
theorem SlOk.kept' {i : Nat} {s : Sl} (h : SlOk g U F B env σ H i s) (hx : ∀ a, H a ≠ none → Ex env' σ' a → Ex env σ a) (hσ : σ'[i]? = σ[i]?) (e : Same H H') (na : ∀ j k d, s ≠ .als j k d) : SlOk g U F B env' σ' H' i s := by
  have okm : ∀ {fr : Bool} (a : Addr), Ok1 U F env σ fr a → H a ≠ none → Ok1 U F env' σ' fr a := fun a z n => ⟨⟨z.1.1, fun e => z.1.2 (hx a n e)⟩, z.2⟩
  have mv : ∀ {fr : Bool} {es : List D} {ys : List V}, RepL g (Ok1 U F env σ fr) H es ys → RepL g (Ok1 U F env' σ' fr) H' es ys := fun hl => (hl.there.ext e).mono fun a z => okm a z.1 z.2
  have mv1 : ∀ {fr : Bool} {d : D} {v : V}, Rep g (Ok1 U F env σ fr) H d v → Rep g (Ok1 U F env' σ' fr) H' d v := fun hl => (hl.there.ext e).mono fun a z => okm a z.1 z.2
  cases s with
  | un => trivial
  | val d fr =>
    obtain ⟨v, h1, h2⟩ := h
    exact ⟨v, by rw [hσ]; exact h1, mv1 h2⟩
  | own ds fr =>
    obtain ⟨p, xs, h1, h2, h3, h5⟩ := h
    exact ⟨p, xs, by rw [hσ]; exact h1, e _ _ h2, h3, mv h5⟩
  | slf C ks' ds fr =>
    obtain ⟨h0, x, dx, fs, h1, h2, h3, h4, h6⟩ := h
    exact ⟨h0, x, dx, fs, by rw [hσ]; exact h1, e _ _ h2, h3, h4, mv h6⟩
  | dic ks' ds fr =>
    obtain ⟨p, kvs, h1, h2, h3, h4, h6⟩ := h
    exact ⟨p, kvs, by rw [hσ]; exact h1, e _ _ h2, h3, h4, mv h6⟩
  | nst q ds as fr =>
    obtain ⟨p, xs, h1, h2, h3, h5, h8⟩ := h
    exact ⟨p, xs, by rw [hσ]; exact h1, e _ _ h2, h3, h5, h8.mv okm (fun a o _ q n => e.k a o q n) (fun a o q _ n => e.k a o q n) fun a o _ q n => e.k a o q n⟩
  | als j k d => exact absurd rfl (na _ _ _)
  | fnv k =>
    obtain ⟨f, c, h1, h2, h3, h4⟩ := h
    exact ⟨f, c, by rw [hσ]; exact h1, e _ _ h2, h3, e _ _ h4⟩
  | pin p => exact hσ.trans h
/-- a slot gets a new thing, or a thing that owns nothing -/
theorem RelW.setNew (r : RelW g U F B env σ H) (s : Same H H') {i : Nat} {t : Sl} {v : Option V} (hN : ∀ a, OwA t v a → H a = none) (hs : (∀ q ds as fr, t ≠ .nst q ds as fr) ∨ noAls i env = true) (ht : i < env.length → SlOk g U F B (env.set i t) (σ.set i v) H' i t) :
    RelW g U F B (env.set i t) (σ.set i v) H' := by
  have hx : ∀ a, H a ≠ none → Ex (env.set i t) (σ.set i v) a → Ex env σ a := fun a n z => by
    rcases ex_set z with z | z
    · exact z
    · exact absurd (hN a z) n
  refine ⟨by simp [r.len], fun a h => r.uf a (s.free h), r.fb, r.bh.trans s, fun j u q => ?_, fun j k a w1 w2 => ?_, r.tb.ext s⟩
  · by_cases hj : i = j
    · subst hj
      have q' := q
      rw [List.getElem?_set] at q
      simp only [if_true] at q
      split at q
      · rename_i hl
        cases q
        exact ht hl
      · cases q
    · rw [List.getElem?_set_ne hj] at q
      have b := r.slot j u q
      have hσ : (σ.set i v)[j]? = σ[j]? := List.getElem?_set_ne hj
      have base : (∀ j' k v', u = .als j' k v' → (∀ q ds as fr, t ≠ .nst q ds as fr) ∨ j' ≠ i) := fun j' k v' e => by
        subst e
        exact hs.imp_right fun h => no_als h q
      cases u with
      | als j' k d =>
        obtain ⟨w, h1, h2, h3⟩ := b
        refine ⟨w, by rw [hσ]; exact h1, ?_, ?_⟩
        · exact (h2.there.ext s).mono fun a z => ⟨⟨z.1.1.1, fun e => z.1.1.2 (hx a z.2 e)⟩, z.1.2⟩
        · intro q2 ds as fr e
          by_cases hi : i = j'
          · subst hi
            rcases base _ _ _ rfl with z | z
            · rw [List.getElem?_set] at e
              simp only [if_true] at e
              split at e
              · exact absurd (Option.some.inj e) (z _ _ _ _)
              · cases e
            · exact absurd rfl z
          · rw [List.getElem?_set_ne hi] at e ⊢
            obtain ⟨p, xs, k1, k2, k3⟩ := h3 q2 ds as fr e
            exact ⟨p, xs, k1, s _ _ k2, k3⟩
      | _ => exact b.kept' hx hσ s (fun _ _ _ e => nomatch e)
  · rcases ow_set w1 with ⟨n1, z1⟩ | ⟨n1, z1⟩
    · rcases ow_set w2 with ⟨n2, z2⟩ | ⟨n2, z2⟩
      · exact r.apart j k a z1 z2
      · obtain ⟨⟨o, e, _⟩, _⟩ := r.owT z1
        rw [hN a z2] at e
        cases e
    · rcases ow_set w2 with ⟨n2, z2⟩ | ⟨n2, z2⟩
      · obtain ⟨⟨o, e, _⟩, _⟩ := r.owT z2
        rw [hN a z1] at e
        cases e
      · rw [n1, n2]
/-- a slot gets a value -/
theorem RelW.setV (r : RelW g U F B env σ H) {i : Nat} {d : D} {fr : Bool} {v : V} (h : Rep g (Ok1 U F env σ fr) H d v) : RelW g U F B (env.set i (.val d fr)) (σ.set i (some v)) H :=
  r.setNew (Same.refl _) (fun _ z => z.elim) (.inl fun _ _ _ _ e => nomatch e) fun hl => ⟨v, by rw [List.getElem?_set]; simp [← r.len, hl], h.mono fun a z => ok1_mono (fun a (e : Ex (env.set i (.val d fr)) (σ.set i (some v)) a) => (ex_set e).elim id fun q => False.elim q) z⟩
/-- a slot is forgotten -/
theorem RelW.setU (r : RelW g U F B env σ H) {i : Nat} {v : Option V} : RelW g U F B (env.set i .un) (σ.set i v) H :=
  r.setNew (Same.refl _) (fun _ z => z.elim) (.inl fun _ _ _ _ e => nomatch e) fun _ => trivial
/-- what a slot owns is written -/
theorem RelW.write0 (r : RelW g U F B env σ H) {i : Nat} {s t : Sl} {v : Option V} (hi : env[i]? = some s) (hv : σ[i]? = some v) (hN : ∀ a, OwA t v a → OwA s v a ∨ H a = none) (k : ∀ a o, ¬ RgA s v a → H a = some o → NT o → H' a = some o) (kf : ∀ a, H' a = none → H a = none) (kg : ∀ {P : Addr}, TabG P H → TabG P H')
    (hs : ∀ j k v, j = i → AlsAt env σ H j k v → AlsAt (env.set i t) σ H' j k v) (ht : SlOk g U F B (env.set i t) σ H' i t) : RelW g U F B (env.set i t) σ H' := by
  have hil : i < env.length := (List.getElem?_eq_some_iff.mp hi).1
  have low : ∀ {j : Nat} {a : Addr}, Ow (env.set i t) σ j a → Ow env σ j a ∨ (j = i ∧ H a = none) := fun {j a} ⟨u, w, e1, e2, e3⟩ => by
    by_cases hj : i = j
    · subst hj
      rw [List.getElem?_set] at e1
      simp only [if_true, hil] at e1
      cases e1
      rw [hv] at e2
      cases e2
      exact (hN a e3).imp (fun z => ⟨s, v, hi, hv, z⟩) fun z => ⟨rfl, z⟩
    · rw [List.getElem?_set_ne hj] at e1
      exact .inl ⟨u, w, e1, e2, e3⟩
  have hx : ∀ a, H a ≠ none → Ex (env.set i t) σ a → Ex env σ a := fun a n ⟨j, z⟩ => by
    rcases low z with z | ⟨_, z⟩
    · exact ⟨j, z⟩
    · exact absurd z n
  have off : ∀ a o, H a = some o → ¬ Wr o → NT o → H' a = some o := fun a o e w n => k a o (fun z => by
    obtain ⟨⟨o', e', w', _⟩, _⟩ := r.rgT hi hv z
    rw [e] at e'
    cases e'
    exact w w') e n
  have offU : ∀ a o, U a → ¬ Ex env σ a → H a = some o → NT o → H' a = some o := fun a o u x e n => k a o (fun z => by
    cases s with
    | slf C ks ds fr =>
      obtain ⟨_, y, dx, fs, e3, _, _, e5, _⟩ := r.slf i C ks ds fr hi
      have z : v = some (.ref a) := z
      rw [hv, z] at e3
      cases e3
      exact e5.2 u
    | _ => exact x ⟨i, _, v, hi, hv, z⟩) e n
  have bh : Same B H' := ⟨fun a o e n => k a o (fun z => by
    have := (r.rgT hi hv z).2
    rw [e] at this
    cases this) (r.bh.k a o e n) n, fun a ps e z => r.bh.tt a ps e (kf a z), fun z => kg (r.bh.t z)⟩
  have hal : ∀ j k' w, AlsAt env σ H j k' w → AlsAt (env.set i t) σ H' j k' w := fun j k' w z => by
    by_cases hj : j = i
    · exact hs j k' w hj z
    · intro q ds as fr e
      rw [List.getElem?_set_ne (Ne.symm hj)] at e
      obtain ⟨p, xs, k1, k2, k3⟩ := z q ds as fr e
      exact ⟨p, xs, k1, k p _ (fun y => hj (r.rgA e k1 hi hv (.inl rfl) y)) k2 trivial, k3⟩
  refine ⟨by rw [List.length_set]; exact r.len, fun a h => r.uf a (kf a h), r.fb, bh, fun j u q => ?_, fun j k' a w1 w2 => ?_, fun p hp => kg (r.tb p hp)⟩
  · by_cases hj : i = j
    · subst hj
      rw [List.getElem?_set] at q
      simp only [if_true, hil] at q
      cases q
      exact ht
    · rw [List.getElem?_set_ne hj] at q
      exact (r.slot j u q).kept (fun _ z _ => z) hx rfl offU off (fun a o ⟨w, e, z⟩ e2 n => k a o (fun y => hj (r.rgA hi hv q e y z)) e2 n) (fun _ _ z => z) (fun _ z _ => z) hal
  · rcases low w1 with z1 | ⟨n1, z1⟩
    · rcases low w2 with z2 | ⟨n2, z2⟩
      · exact r.apart j k' a z1 z2
      · obtain ⟨⟨o, e, _⟩, _⟩ := r.owT z1
        rw [z2] at e
        cases e
    · rcases low w2 with z2 | ⟨n2, z2⟩
      · obtain ⟨⟨o, e, _⟩, _⟩ := r.owT z2
        rw [z1] at e
        cases e
      · rw [n1, n2]
/-- .. with what it was -/
theorem RelW.write (r : RelW g U F B env σ H) {i : Nat} {s t : Sl} {v : Option V} (hi : env[i]? = some s) (hv : σ[i]? = some v) (hN : ∀ a, OwA t v a → OwA s v a ∨ H a = none) (k : ∀ a o, ¬ RgA s v a → H a = some o → NT o → H' a = some o) (kf : ∀ a, H' a = none → H a = none) (kt : ∀ a ps, H a = some (.tbl ps) → ∃ ps', H' a = some (.tbl ps')) (kg : ∀ {P : Addr}, TabG P H → TabG P H')
    (hs : ∀ j k v, j = i → AlsAt env σ H j k v → AlsAt (env.set i t) σ H' j k v) (ht : SlOk g U F B (env.set i t) σ H' i t) : RelW g U F B (env.set i t) σ H' := r.write0 hi hv hN k kf kg hs ht
/-! ### slots given up -/
theorem set_self {α : Type} : ∀ {l : List α} {i : Nat} {x : α}, l[i]? = some x → l.set i x = l
  | [], _, _, h => by simp at h
  | y :: l, 0, x, h => by
    simp at h
    subst h
    rfl
  | y :: l, i + 1, x, h => by
    simp at h
    simp only [List.set_cons_succ]
    rw [set_self h]
theorem set_out {α : Type} : ∀ {l : List α} {i : Nat} {x : α}, l[i]? = none → l.set i x = l
  | [], _, _, _ => rfl
  | y :: l, 0, x, h => by simp at h
  | y :: l, i + 1, x, h => by
    simp only [List.getElem?_cons_succ] at h
    simp only [List.set_cons_succ]
    rw [set_out h]

theorem frz1_own {s : Sl} {v : Option V} {a : Addr} : ¬ OwA (frz1 s) v a := by
  cases s <;> exact fun z => z
theorem ow_frz1 {i : Nat} {a : Addr} {j : Nat} (h : Ow (env.set i (frz1 (env.getD i .un))) σ j a) : Ow env σ j a ∧ j ≠ i := by
  obtain ⟨s, v, e1, e2, e3⟩ := h
  by_cases hj : i = j
  · subst hj
    rw [List.getElem?_set] at e1
    simp only [if_true] at e1
    split at e1
    · cases e1
      exact absurd e3 frz1_own
    · cases e1
  · rw [List.getElem?_set_ne hj] at e1
    exact ⟨⟨s, v, e1, e2, e3⟩, Ne.symm hj⟩
theorem RelW.frz1 (r : RelW g U F B env σ H) (i : Nat) : RelW g U F B (env.set i (frz1 (env.getD i .un))) σ H := by
  have hx : ∀ a, Ex (env.set i (Rj.frz1 (env.getD i .un))) σ a → Ex env σ a := fun a ⟨j, z⟩ => ⟨j, (ow_frz1 z).1⟩
  have hal : ∀ j k w, AlsAt env σ H j k w → AlsAt (env.set i (Rj.frz1 (env.getD i .un))) σ H j k w := fun j k w z q ds as fr e => by
    by_cases hj : i = j
    · subst hj
      rw [List.getElem?_set] at e
      simp only [if_true] at e
      split at e
      · have e := Option.some.inj e
        cases h : env.getD i .un <;> rw [h] at e <;> cases e
      · cases e
    · rw [List.getElem?_set_ne hj] at e
      exact z q ds as fr e
  have kp : ∀ {j : Nat} {s : Sl}, SlOk g U F B env σ H j s → SlOk g U F B (env.set i (Rj.frz1 (env.getD i .un))) σ H j s := fun {j s} h => h.kept (fun _ z _ => z) (fun a _ z => hx a z) rfl (fun _ _ _ _ z _ => z) (fun _ _ z _ _ => z) (fun _ _ _ z _ => z) (fun _ _ z => z) (fun _ z _ => z) hal
  refine ⟨by simp [r.len], r.uf, r.fb, r.bh, fun j s q => ?_, fun j k a w1 w2 => r.apart j k a (ow_frz1 w1).1 (ow_frz1 w2).1, r.tb⟩
  by_cases hj : i = j
  · subst hj
    have q0 := q
    rw [List.getElem?_set] at q
    simp only [if_true] at q
    split at q
    · rename_i hl
      have q := Option.some.inj q
      have ei : env[i]? = some (env.getD i .un) := by
        rw [List.getD_eq_getElem?_getD, List.getElem?_eq_getElem hl]
        rfl
      have b := r.slot i _ ei
      have nx : ∀ a, Ow env σ i a → ¬ Ex (env.set i (Rj.frz1 (env.getD i .un))) σ a := fun a z ⟨m, w⟩ => by
        obtain ⟨w1, w2⟩ := ow_frz1 w
        exact w2 (r.apart m i a w1 z)
      obtain ⟨t, h⟩ : ∃ t, env.getD i .un = t := ⟨_, rfl⟩
      cases t with
      | own ds fr =>
        rw [h] at q b ei
        subst q
        obtain ⟨p, xs, a, b, c, l⟩ := b
        have b' : SlOk g U F B (env.set i (Rj.frz1 (env.getD i .un))) σ H i (.own ds fr) := kp ⟨p, xs, a, b, c, l⟩
        obtain ⟨p', xs', a', b', c', l'⟩ := b'
        rw [a] at a'
        cases a'
        exact ⟨.ref p, a, p, xs', rfl, ⟨⟨c.2, nx p ⟨_, _, ei, a, rfl⟩⟩, fun _ => r.fb.free c.1⟩, b', l'⟩
      | dic ks ds fr =>
        rw [h] at q b ei
        subst q
        obtain ⟨p, kvs, a, b, e, c, l⟩ := b
        have b' : SlOk g U F B (env.set i (Rj.frz1 (env.getD i .un))) σ H i (.dic ks ds fr) := kp ⟨p, kvs, a, b, e, c, l⟩
        obtain ⟨p', kvs', a', b', e', c', l'⟩ := b'
        rw [a] at a'
        cases a'
        exact ⟨.ref p, a, p, kvs', rfl, ⟨⟨c.2, nx p ⟨_, _, ei, a, rfl⟩⟩, fun _ => r.fb.free c.1⟩, b', e', l'⟩
      | nst qq ds as fr =>
        rw [h] at q b ei
        subst q
        obtain ⟨p, xs, a, b, c, d, l⟩ := b
        have b' : SlOk g U F B (env.set i (Rj.frz1 (env.getD i .un))) σ H i (.nst qq ds as fr) := kp ⟨p, xs, a, b, c, d, l⟩
        obtain ⟨p', xs', a', b', c', d', l'⟩ := b'
        rw [a] at a'
        cases a'
        exact ⟨.ref p, a, p, xs', rfl, ⟨⟨c.2, nx p ⟨_, _, ei, a, .inl rfl⟩⟩, fun _ => r.fb.free c.1⟩, b', l'.rep (fun _ z => z) fun m hm => ⟨⟨(d.2.2 m hm).2, nx m ⟨_, _, ei, a, .inr hm⟩⟩, fun _ => r.fb.free (d.2.2 m hm).1⟩⟩
      | un => rw [h] at q b; subst q; exact kp b
      | val d fr => rw [h] at q b; subst q; exact kp b
      | slf C ks ds fr => rw [h] at q b; subst q; exact kp b
      | als m k d => rw [h] at q b; subst q; exact kp b
      | fnv k => rw [h] at q b; subst q; exact kp b
      | pin k => rw [h] at q b; subst q; exact kp b
    · cases q
  · rw [List.getElem?_set_ne hj] at q
    exact kp (r.slot j s q)
theorem RelW.frz : ∀ (l : List Nat) {env : List Sl}, RelW g U F B env σ H → RelW g U F B (frz l env) σ H
  | [], _, r => r
  | i :: l, _, r => RelW.frz l (r.frz1 i)
theorem ow_frz {a : Addr} {j : Nat} : ∀ {l : List Nat} {env : List Sl}, Ow (frz l env) σ j a → Ow env σ j a ∧ j ∉ l
  | [], _, h => ⟨h, by simp⟩
  | i :: l, env, h => by
    obtain ⟨h1, h2⟩ := ow_frz (l := l) (env := env.set i (Rj.frz1 (env.getD i .un))) h
    obtain ⟨h3, h4⟩ := ow_frz1 h1
    exact ⟨h3, by simp [h4, h2]⟩
theorem frz_at {j : Nat} : ∀ {l : List Nat} {env : List Sl}, j ∉ l → (frz l env)[j]? = env[j]?
  | [], _, _ => rfl
  | i :: l, env, h => by
    have h1 : j ≠ i := fun z => h (by simp [z])
    have h2 : j ∉ l := fun z => h (by simp [z])
    show (Rj.frz l (env.set i (Rj.frz1 (env.getD i .un))))[j]? = env[j]?
    rw [frz_at h2, List.getElem?_set_ne (Ne.symm h1)]
theorem frz_len : ∀ {l : List Nat} {env : List Sl}, (frz l env).length = env.length
  | [], _ => rfl
  | i :: l, env => by
    show (Rj.frz l (env.set i (Rj.frz1 (env.getD i .un)))).length = env.length
    rw [frz_len, List.length_set]
/-- a list that is gone over: nothing else reaches it -/
theorem RelW.pinned (r : RelW g U F B env σ H) {i : Nat} {ds : List D} {fr : Bool} {p : Addr} (e1 : env[i]? = some (.own ds fr)) (e2 : σ[i]? = some (some (.ref p))) : RelW g (fun a => U a ∧ a ≠ p) F B (env.set i (.pin p)) σ H := by
  have ow : Ow env σ i p := ⟨_, _, e1, e2, rfl⟩
  have hil : i < env.length := (List.getElem?_eq_some_iff.mp e1).1
  have low : ∀ {j : Nat} {a : Addr}, Ow (env.set i (.pin p)) σ j a → j ≠ i ∧ Ow env σ j a := fun {j a} ⟨u, w, q1, q2, q3⟩ => by
    by_cases hj : i = j
    · subst hj
      rw [List.getElem?_set] at q1
      simp only [if_true, hil] at q1
      cases q1
      exact q3.elim
    · rw [List.getElem?_set_ne hj] at q1
      exact ⟨Ne.symm hj, u, w, q1, q2, q3⟩
  have hx : ∀ a, Ex (env.set i (.pin p)) σ a → Ex env σ a := fun a ⟨j, z⟩ => ⟨j, (low z).2⟩
  have ok : ∀ {fr : Bool} (a : Addr), Ok1 U F env σ fr a → Ok1 (fun a => U a ∧ a ≠ p) F (env.set i (.pin p)) σ fr a := fun a z => ⟨⟨⟨z.1.1, fun e => z.1.2 (by rw [e]; exact ⟨i, ow⟩)⟩, fun e => z.1.2 (hx a e)⟩, z.2⟩
  have ne : ∀ {j : Nat} {a : Addr}, j ≠ i → Ow env σ j a → a ≠ p := fun {j a} hj z e => hj (r.apart j i a z (by rw [e]; exact ow))
  refine ⟨by rw [List.length_set]; exact r.len, fun a h => ⟨r.uf a h, fun e => ?_⟩, r.fb, r.bh, fun j u q => ?_, fun j k a w1 w2 => r.apart j k a (low w1).2 (low w2).2, r.tb⟩
  · obtain ⟨⟨o, h1, _⟩, _⟩ := r.owT ow
    rw [e, h1] at h
    cases h
  · by_cases hj : i = j
    · subst hj
      rw [List.getElem?_set] at q
      simp only [if_true, hil] at q
      cases q
      exact e2
    · rw [List.getElem?_set_ne hj] at q
      have b := r.slot j u q
      have hj := Ne.symm hj
      cases u with
      | un => trivial
      | pin _ => exact b
      | fnv k => exact b
      | val d fr =>
        obtain ⟨v, h1, h2⟩ := b
        exact ⟨v, h1, h2.mono ok⟩
      | own ds fr =>
        obtain ⟨p2, xs, h1, h2, h3, h4⟩ := b
        exact ⟨p2, xs, h1, h2, ⟨h3.1, h3.2, ne hj ⟨_, _, q, h1, rfl⟩⟩, h4.mono ok⟩
      | slf C ks ds fr =>
        obtain ⟨h0, x, dx, fs, h1, h2, h3, h4, h5⟩ := b
        exact ⟨h0, x, dx, fs, h1, h2, h3, ⟨h4.1, fun z => h4.2 z.1⟩, h5.mono ok⟩
      | dic ks ds fr =>
        obtain ⟨p2, xs, h1, h2, h3, h4, h5⟩ := b
        exact ⟨p2, xs, h1, h2, h3, ⟨h4.1, h4.2, ne hj ⟨_, _, q, h1, rfl⟩⟩, h5.mono ok⟩
      | nst qq ds as fr =>
        obtain ⟨p2, xs, h1, h2, h3, h4, h5⟩ := b
        exact ⟨p2, xs, h1, h2, ⟨h3.1, h3.2, ne hj ⟨_, _, q, h1, .inl rfl⟩⟩, ⟨h4.1, h4.2.1, fun a ha => ⟨(h4.2.2 a ha).1, (h4.2.2 a ha).2, ne hj ⟨_, _, q, h1, .inr ha⟩⟩⟩, h5.mv (fun a z _ => ok a z) (fun _ _ _ z _ => z) (fun _ _ z _ _ => z) fun _ _ _ z _ => z⟩
      | als j' k d =>
        obtain ⟨v, h1, h2, h3⟩ := b
        refine ⟨v, h1, h2.mono ok, fun q2 ds as fr e => ?_⟩
        by_cases hi : i = j'
        · subst hi
          rw [List.getElem?_set] at e
          simp only [if_true, hil] at e
          cases e
        · rw [List.getElem?_set_ne hi] at e
          exact h3 q2 ds as fr e
/-- .. what lies in slots may be told with it -/
theorem RelW.upU {p : Addr} {xs : List V} (r : RelW g (fun a => U a ∧ a ≠ p) F B env σ H) (hp : H p = some (.lst xs)) : RelW g U F B env σ H := by
  have ok : ∀ {fr : Bool} (a : Addr), Ok1 (fun a => U a ∧ a ≠ p) F env σ fr a → Ok1 U F env σ fr a := fun a z => ⟨⟨z.1.1.1, z.1.2⟩, z.2⟩
  refine ⟨r.len, fun a h => (r.uf a h).1, r.fb, r.bh, fun j u q => ?_, r.apart, r.tb⟩
  have b := r.slot j u q
  cases u with
  | un => trivial
  | pin _ => exact b
  | fnv k => exact b
  | val d fr =>
    obtain ⟨v, h1, h2⟩ := b
    exact ⟨v, h1, h2.mono ok⟩
  | own ds fr =>
    obtain ⟨p2, xs, h1, h2, h3, h4⟩ := b
    exact ⟨p2, xs, h1, h2, ⟨h3.1, h3.2.1⟩, h4.mono ok⟩
  | slf C ks ds fr =>
    obtain ⟨h0, x, dx, fs, h1, h2, h3, h4, h5⟩ := b
    refine ⟨h0, x, dx, fs, h1, h2, h3, ⟨h4.1, fun z => h4.2 ⟨z, fun e => ?_⟩⟩, h5.mono ok⟩
    rw [e, hp] at h2
    cases h2
  | dic ks ds fr =>
    obtain ⟨p2, xs, h1, h2, h3, h4, h5⟩ := b
    exact ⟨p2, xs, h1, h2, h3, ⟨h4.1, h4.2.1⟩, h5.mono ok⟩
  | nst qq ds as fr =>
    obtain ⟨p2, xs, h1, h2, h3, h4, h5⟩ := b
    exact ⟨p2, xs, h1, h2, ⟨h3.1, h3.2.1⟩, ⟨h4.1, h4.2.1, fun a ha => ⟨(h4.2.2 a ha).1, (h4.2.2 a ha).2.1⟩⟩, h5.mv (fun a z _ => ok a z) (fun _ _ _ z _ => z) (fun _ _ z _ _ => z) fun _ _ _ z _ => z⟩
  | als j' k d =>
    obtain ⟨v, h1, h2, h3⟩ := b
    exact ⟨v, h1, h2.mono ok, h3⟩
/-- .. and is owned again -/
theorem RelW.unpin {p : Addr} {i : Nat} {ds : List D} {fr : Bool} {xs : List V} (r : RelW g (fun a => U a ∧ a ≠ p) F B env σ H) (e1 : env[i]? = some (.pin p)) (hp : H p = some (.lst xs)) (hb : B p = none) (hu : U p) (hl : RepL g (fun a => Ok1 U F env σ fr a ∧ a ≠ p) H ds xs) : RelW g U F B (env.set i (.own ds fr)) σ H := by
  have r1 := r.upU hp
  have hil : i < env.length := (List.getElem?_eq_some_iff.mp e1).1
  have e2 : σ[i]? = some (some (.ref p)) := r.slot i _ e1
  have low : ∀ {j : Nat} {a : Addr}, Ow (env.set i (.own ds fr)) σ j a → (j = i ∧ a = p) ∨ (j ≠ i ∧ Ow env σ j a) := fun {j a} ⟨u, w, q1, q2, q3⟩ => by
    by_cases hj : i = j
    · subst hj
      rw [List.getElem?_set] at q1
      simp only [if_true, hil] at q1
      cases q1
      have q3 : w = some (.ref a) := q3
      rw [e2, q3] at q2
      cases q2
      exact .inl ⟨rfl, rfl⟩
    · rw [List.getElem?_set_ne hj] at q1
      exact .inr ⟨Ne.symm hj, u, w, q1, q2, q3⟩
  have hx : ∀ a, a ≠ p → Ex (env.set i (.own ds fr)) σ a → Ex env σ a := fun a n ⟨j, z⟩ => by
    rcases low z with ⟨_, z⟩ | ⟨_, z⟩
    · exact absurd z n
    · exact ⟨j, z⟩
  have ok : ∀ {fr' : Bool} (a : Addr), Ok1 (fun a => U a ∧ a ≠ p) F env σ fr' a → Ok1 U F (env.set i (.own ds fr)) σ fr' a := fun a z => ⟨⟨z.1.1.1, fun e => z.1.2 (hx a z.1.1.2 e)⟩, z.2⟩
  have np : ∀ {j : Nat}, ¬ Ow env σ j p := fun {j} z => (r.owT z).2.2.2 rfl
  refine ⟨by rw [List.length_set]; exact r.len, fun a h => (r.uf a h).1, r.fb, r.bh, fun j u q => ?_, fun j k a w1 w2 => ?_, r.tb⟩
  · by_cases hj : i = j
    · subst hj
      rw [List.getElem?_set] at q
      simp only [if_true, hil] at q
      cases q
      exact ⟨p, xs, e2, hp, ⟨hb, hu⟩, hl.mono fun a z => ⟨⟨z.1.1.1, fun e => z.1.1.2 (hx a z.2 e)⟩, z.1.2⟩⟩
    · rw [List.getElem?_set_ne hj] at q
      have b := r.slot j u q
      have b1 := r1.slot j u q
      cases u with
      | un => trivial
      | pin _ => exact b
      | fnv k => exact b
      | val d fr =>
        obtain ⟨v, h1, h2⟩ := b
        exact ⟨v, h1, h2.mono ok⟩
      | own ds fr =>
        obtain ⟨p2, xs, h1, h2, h3, h4⟩ := b
        exact ⟨p2, xs, h1, h2, ⟨h3.1, h3.2.1⟩, h4.mono ok⟩
      | slf C ks ds fr =>
        obtain ⟨h0, x, dx, fs, h1, h2, h3, h4, h5⟩ := b
        obtain ⟨_, x', _, _, h1', _, _, h4', _⟩ := b1
        rw [h1] at h1'
        cases h1'
        exact ⟨h0, x, dx, fs, h1, h2, h3, h4', h5.mono ok⟩
      | dic ks ds fr =>
        obtain ⟨p2, xs, h1, h2, h3, h4, h5⟩ := b
        exact ⟨p2, xs, h1, h2, h3, ⟨h4.1, h4.2.1⟩, h5.mono ok⟩
      | nst qq ds as fr =>
        obtain ⟨p2, xs, h1, h2, h3, h4, h5⟩ := b
        exact ⟨p2, xs, h1, h2, ⟨h3.1, h3.2.1⟩, ⟨h4.1, h4.2.1, fun a ha => ⟨(h4.2.2 a ha).1, (h4.2.2 a ha).2.1⟩⟩, h5.mv (fun a z _ => ok a z) (fun _ _ _ z _ => z) (fun _ _ z _ _ => z) fun _ _ _ z _ => z⟩
      | als j' k d =>
        obtain ⟨v, h1, h2, h3⟩ := b
        refine ⟨v, h1, h2.mono ok, fun q2 ds2 as fr2 e => ?_⟩
        by_cases hi : i = j'
        · subst hi
          rw [List.getElem?_set] at e
          simp only [if_true, hil] at e
          cases e
        · rw [List.getElem?_set_ne hi] at e
          exact h3 q2 ds2 as fr2 e
  · rcases low w1 with ⟨n1, z1⟩ | ⟨n1, z1⟩
    · rcases low w2 with ⟨n2, z2⟩ | ⟨n2, z2⟩
      · rw [n1, n2]
      · rw [z1] at z2
        exact absurd z2 np
    · rcases low w2 with ⟨n2, z2⟩ | ⟨n2, z2⟩
      · rw [z2] at z1
        exact absurd z1 np
      · exact r.apart j k a z1 z2
/-- behind the giving up: an expression's value may be put into a slot -/
theorem Rch.ok (r : RelW g U F B env σ H) {al l : List Nat} {fr : Bool} (hs : ∀ i, i ∈ al → i ∈ l) {a : Addr} (h : Rch U F env σ al fr a) : Ok1 U F (frz l env) σ fr a := by
  refine ⟨⟨h.1, fun ⟨j, w⟩ => ?_⟩, h.2.2⟩
  obtain ⟨w1, hn⟩ := ow_frz w
  obtain ⟨i, hi, w2⟩ := h.2.1 ⟨j, w1⟩
  exact hn (by rw [r.apart j i a w1 w2]; exact hs i hi)
end
end Rj

namespace Rj
open PySem PySem.Spec PyProof.Rows L2
/-! ### the text is the program -/
/-- what the check of a def's text leans on -/
def visB (sc : Scope) (x : Str) : Bool := match sc.names.lookup x with
  | some .local => true
  | some .cell => true
  | some .free => true
  | _ => false
def locB (sc : Scope) (x : Str) : Bool := match sc.names.lookup x with
  | some .local => true
  | some .cell => true
  | _ => false
def glB (sc : Scope) (x : Str) : Bool := match sc.names.lookup x with
  | some .globalImplicit => true
  | _ => false
def opB : BOp → Operator → Bool
  | .add, .Add => true
  | .sub, .Sub => true
  | .mul, .Mult => true
  | .fdiv, .FloorDiv => true
  | .mod, .Mod => true
  | .pow, .Pow => true
  | .shl, .LShift => true
  | .shr, .RShift => true
  | .band, .BitAnd => true
  | .bor, .BitOr => true
  | .bxor, .BitXor => true
  | _, _ => false
def copB : COp → CmpOp → Bool
  | .eq, .Eq => true
  | .ne, .NotEq => true
  | .lt, .Lt => true
  | .le, .LtE => true
  | .gt, .Gt => true
  | .ge, .GtE => true
  | .isN, .Is => true
  | .notN, .IsNot => true
  | .isin, .In => true
  | .notin, .NotIn => true
  | _, _ => false
def Blt.nm : Blt → Str
  | .len => "len"
  | .list => "list"
  | .tuple => "tuple"
  | .int => "int"
  | .str => "str"
  | .sum => "sum"
  | .max => "max"
  | .min => "min"
  | .abs => "abs"
  | .sortedI => "sorted"
  | .sortedP => "sorted"
  | .bool => "bool"
  | .all => "all"
  | .any => "any"
  | .divmod => "divmod"
def BMt.nm : BMt → Str
  | .join => "join"
  | .split => "split"
  | .partition => "partition"
  | .startswith => "startswith"
  | .find => "find"
  | .index => "index"
/-- no super() -/
def noSup : Expr → Bool
  | .Call (.Name x _) [] [] _ => !(x == ("super" : Str))
  | _ => true
def Ty.nm : Ty → Str
  | .bool => "bool"
  | .int => "int"
  | .str => "str"
  | .list => "list"
  | .tuple => "tuple"
  | .dict => "dict"
def Ty.tn : Ty → String
  | .bool => "bool"
  | .int => "int"
  | .str => "str"
  | .list => "list"
  | .tuple => "tuple"
  | .dict => "dict"
def noDbg (x : Str) : Bool := !(x == ("__debug__" : Str)) && !(x == ("__classdict__" : Str)) && !(x == ("__name__" : Str))
def plainIx : Expr → Bool
  | .Slice _ _ _ _ => false
  | _ => true
def nameAt (N : List Str) (i : Nat) (x : Str) : Bool := decide (N[i]? = some x)
def mTs (N : List Str) (sc : Scope) : List Nat → List Expr → Bool
  | [], [] => true
  | i :: is, .Name x _ :: es => nameAt N i x && locB sc x && noDbg x && mTs N sc is es
  | _, _ => false
/-- a target: sc the scope as it is written -/
def mT (N : List Str) (sc : Scope) : Tg → Expr → Bool
  | .name i, .Name x _ => nameAt N i x && locB sc x && noDbg x
  | .tup is, .Tuple es _ _ => mTs N sc is es
  | _, _ => false
/-- in the body of a try -/
def MC.tr (m : MC) (b : Bool) : MC := { m with q := b, tp := false }
def MC.blk (m : MC) (scope : Scope) : MC := { m with sc := relS scope m.sc, nb := false }
def ownN (N : List Str) (is : List Nat) : List (Str × Nat) := is.map fun i => (N.getD i "", i)
/-- the pairs of zip and enumerate are unpacked at once -/
def tgB : It → Expr → Bool
  | .zip _ _, .Tuple _ _ _ => true
  | .zip _ _, _ => false
  | .enum _, .Tuple _ _ _ => true
  | .enum _, _ => false
  | _, _ => true
/-- its test is its value's truth -/
def plainB : Expr → Bool
  | .UnaryOp .Not _ _ => false
  | .BoolOp _ _ _ => false
  | .IfExp _ _ _ _ => false
  | .Compare _ _ _ _ => false
  | _ => true
/-- the nested def k is known; the slots js hold what it captures -/
def capB (m : MC) (k : Nat) (js : List Nat) : Bool := match m.fs.nds[k]? with
  | some p => decide (js.map (fun j => m.N[j]?) = p.2.map some) && NdefX.ndefB m.sc (C8.fnScope (m.nst k)) p.2
  | none => false
mutual
def mE (m : MC) : E → Expr → Bool
  | .var i, .Name x _ => nameAt m.N i x && visB m.sc x && noDbg x
  | .cint n, .Constant (.int k) _ _ => decide (n = k)
  | .cbl b, .Constant (.bool k) _ _ => b == k
  | .cstr x, .Constant (.str y) _ _ => decide (x = y)
  | .cnon, .Constant .none _ _ => true
  | .gint x n, .Name y _ => decide (x = y) && glB m.sc y && noDbg y && decide ((x, n) ∈ m.gi)
  | .gstr x z, .Name y _ => decide (x = y) && glB m.sc y && noDbg y && decide ((x, z) ∈ m.gs)
  | .bin op a b, .BinOp x o y _ => opB op o && mE m a x && mE m b y
  | .neg a, .UnaryOp .USub x _ => mE m a x
  | .not a, .UnaryOp .Not x _ => mE m a x
  | .cmp op a b, .Compare x [o] [y] _ => copB op o && !behindInMarks o y && mE m a x && mE m b y
  | .chain op op' a b c, .Compare x [o, o'] [y, z] _ => (copB op o && copB op' o' && !behindInMarks o' z) && mE m a x && mE m b y && mE m c z
  | .and a b, .BoolOp .And (x :: y :: r) pos => mE m a x && (match r with
    | [] => mE m b y
    | _ :: _ => mE m b (.BoolOp .And (y :: r) pos))
  | .or a b, .BoolOp .Or (x :: y :: r) pos => mE m a x && (match r with
    | [] => mE m b y
    | _ :: _ => mE m b (.BoolOp .Or (y :: r) pos))
  | .tup es, .Tuple xs _ _ => mEs m es xs
  | .lst es, .List xs _ => mEs m es xs
  | .ix a b, .Subscript x y _ => plainIx y && mE m a x && mE m b y
  | .sl a lo hi, .Subscript x (.Slice l h none _) _ => mE m a x && mO m lo l && mO m hi h
  | .call f fr es, .Call (.Name x _) (y :: ys) [] _ => (match m.fs.fns[f]? with
    | some fn => decide (fn.own = none) && decide (fn.name = x) && (fn.fr == fr) && decide (fn.np = (y :: ys).length)
    | none => false) && glB m.sc x && (noDbg x && (!m.q || m.fs.cm.contains x)) && mEs m es (y :: ys)
  | .blt b es, .Call (.Name x _) (y :: ys) [] _ => decide (b.nm = x) && glB m.sc x && noDbg x && decide (x ∈ m.bl) && mEs m es (y :: ys)
  | .isi a t, .Call (.Name x _) [y, .Name z _] [] _ => decide (x = "isinstance") && decide (t.nm = z) && glB m.sc x && glB m.sc z && decide (x ∈ m.bl) && decide (z ∈ m.bl) && mE m a y
  | .comp elt t it cd, .ListComp x [⟨tg, iter, ifs, 0⟩] scope _ => mI m it iter && tgB it tg && blkC m.N m.sc scope (ownN m.N t.ns) && mT m.N scope t tg && (match ifs with
    | [] => mYes cd
    | [q] => mB (m.blk scope) cd q
    | _ => false) && mE (m.blk scope) elt x
  | .fld a x, .Attribute e y _ => decide (x = y) && noSup e && mE m a e
  | .meth a x fr es, .Call (.Attribute e y ap) ys [] cp => (decide (x = y) && !m.q) && noSup e && (ap.endLine == cp.line) && decide (ys.length < 30) && m.fs.fns.all (fun f => !(decide (f.name = x)) || (f.fr == fr)) && mE m a e && mEs m es ys
  | .make x i es, .Call (.Name y _) ys [] _ => (decide (x = y) && !m.q) && glB m.sc y && noDbg y && decide ((x, i) ∈ m.mks) && mEs m es ys
  | .isc a x, .Call (.Name f _) [y, .Name z _] [] _ => decide (f = "isinstance") && decide (x = z) && glB m.sc f && glB m.sc z && noDbg z && decide (f ∈ m.bl) && decide (z ∈ m.ty) && mE m a y
  | .ife t a b, .IfExp v x y _ => mB m t v && mE m a x && mE m b y
  | .bm op a b, .Call (.Attribute o f ap) [v] [] cp => decide (op.nm = f) && (ap.endLine == cp.line) && noSup o && mE m a o && mE m b v
  | .lrev a, .Call (.Name f _) [.Call (.Name g _) [x] [] _] [] _ => decide (f = "list") && decide (g = "reversed") && glB m.sc f && glB m.sc g && decide (f ∈ m.bl) && decide (g ∈ m.bl) && mE m a x
  | .sset a, .Call (.Name f _) [.Call (.Name g _) [x] [] _] [] _ => decide (f = "sorted") && decide (g = "set") && glB m.sc f && glB m.sc g && decide (f ∈ m.bl) && decide (g ∈ m.bl) && mE m a x
  | .lrng a, .Call (.Name f _) [.Call (.Name g _) [x] [] _] [] _ => decide (f = "list") && decide (g = "range") && glB m.sc f && glB m.sc g && decide (f ∈ m.bl) && decide (g ∈ m.bl) && mE m a x
  | .lrr a, .Call (.Name f _) [.Call (.Name g _) [.Call (.Name k _) [x] [] _] [] _] [] _ => decide (f = "list") && decide (g = "reversed") && decide (k = "range") && glB m.sc f && glB m.sc g && glB m.sc k && decide (f ∈ m.bl) && decide (g ∈ m.bl) && decide (k ∈ m.bl) && mE m a x
  | .upper a, .Call (.Attribute o f ap) [] [] cp => decide (f = "upper") && (ap.endLine == cp.line) && noSup o && mE m a o
  | .dix a b, .Subscript x y _ => plainIx y && mE m a x && mE m b y
  | .alv i, .Name x _ => nameAt m.N i x && visB m.sc x && noDbg x
  | .callv i es, .Call (.Name x _) (y :: ys) [] _ => m.nb && nameAt m.N i x && visB m.sc x && noDbg x && mEs m es (y :: ys)
  | .calln i k js es, .Call (.Name x _) (y :: ys) [] _ => m.nb && nameAt m.N i x && visB m.sc x && noDbg x && capB m k js && mEs m es (y :: ys)
  | .callc f es i k js, .Call (.Name x _) (y :: ys) [] _ => (match m.fs.fns[f]? with
    | some fn => decide (fn.own = none) && decide (fn.name = x) && decide (fn.np = (y :: ys).length)
    | none => false) && glB m.sc x && noDbg x && (m.nb && m.tl) && !m.q && capB m k js && mEsL m i es (y :: ys)
  | .calld f fr es, .Call (.Name x _) (y :: ys) [] _ => (match m.fs.fns[f]? with
    | some fn => decide (fn.own = none) && decide (fn.name = x) && (fn.fr == fr) && decide (fn.dv = 1) && decide (fn.np = (y :: ys).length + 1)
    | none => false) && glB m.sc x && (noDbg x && (!m.q || m.fs.cm.contains x)) && mEs m es (y :: ys)
  | _, _ => false
/-- .. behind them the name of slot i -/
def mEsL (m : MC) (i : Nat) : Es → List Expr → Bool
  | .nil, [.Name z _] => nameAt m.N i z && visB m.sc z && noDbg z
  | .cons e es, x :: xs => mE m e x && mEsL m i es xs
  | _, _ => false
def mEs (m : MC) : Es → List Expr → Bool
  | .nil, [] => true
  | .cons e es, x :: xs => mE m e x && mEs m es xs
  | _, _ => false
def mO (m : MC) : Eo → Option Expr → Bool
  | .none, none => true
  | .some e, some x => mE m e x
  | _, _ => false
def mI (m : MC) : It → Expr → Bool
  | .e a, x => mE m a x
  | .rng1 a, .Call (.Name f _) [x] [] _ => decide (f = "range") && glB m.sc f && decide (f ∈ m.bl) && mE m a x
  | .rng2 a b, .Call (.Name f _) [x, y] [] _ => decide (f = "range") && glB m.sc f && decide (f ∈ m.bl) && mE m a x && mE m b y
  | .rng3 a b s, .Call (.Name f _) [x, y, z] [] _ => decide (f = "range") && glB m.sc f && decide (f ∈ m.bl) && mE m a x && mE m b y && mE m s z
  | .zip a b, .Call (.Name f _) [x, y] [] _ => decide (f = "zip") && glB m.sc f && decide (f ∈ m.bl) && mE m a x && mE m b y
  | .enum a, .Call (.Name f _) [x] [] _ => decide (f = "enumerate") && glB m.sc f && decide (f ∈ m.bl) && mE m a x
  | _, _ => false
def mYes : T → Bool
  | .tru => true
  | _ => false
def mB (m : MC) : T → Expr → Bool
  | .e a, x => plainB x && mE m a x
  | .not a, .UnaryOp .Not x _ => mB m a x
  | .and a b, .BoolOp .And (x :: y :: r) pos => mB m a x && (match r with
    | [] => mB m b y
    | _ :: _ => mB m b (.BoolOp .And (y :: r) pos))
  | .or a b, .BoolOp .Or (x :: y :: r) pos => mB m a x && (match r with
    | [] => mB m b y
    | _ :: _ => mB m b (.BoolOp .Or (y :: r) pos))
  | .cmp op a b, .Compare x [o] [y] _ => copB op o && !behindInMarks o y && mE m a x && mE m b y
  | .chain op op' a b c, .Compare x [o, o'] [y, z] _ => (copB op o && copB op' o' && !behindInMarks o' z) && mE m a x && mE m b y && mE m c z
  | .din neg a b, .Compare x [o] [y] _ => (bif neg then copB .notin o else copB .isin o) && !behindInMarks o y && mE m a x && mE m b y
  | _, _ => false
end
/-- a comprehension whose list goes straight into a local name -/
def swB (sc : Scope) (x : Str) (px : Pos) : Expr → Bool
  | .ListComp _ _ s p => decide (sc.kind = .function) && decide (sc.names.lookup x = some .local) && (px.line == p.line) && !(s.names.any fun (n, k) => n == x && (k == .local || k == .cell))
  | _ => false
def noComp : Expr → Bool
  | .ListComp _ _ _ _ => false
  | .SetComp _ _ _ _ => false
  | .DictComp _ _ _ _ _ => false
  | .Tuple _ _ _ => false
  | _ => true
def noC : Expr → Bool
  | .ListComp _ _ _ _ => false
  | .SetComp _ _ _ _ => false
  | .DictComp _ _ _ _ _ => false
  | _ => true
def augB : BOp → Bool
  | .add => true
  | .sub => true
  | _ => false
/-- the excepts' names are the text's -/
def mXs (m : MC) : List Str → List Expr → Bool
  | [], [] => true
  | x :: xs, .Name y _ :: es => decide (x = y) && glB m.sc y && noDbg y && decide (y ∈ m.ex) && mXs m xs es
  | _, _ => false
def mX (m : MC) (n : Str) : XE → Expr → Bool
  | .cbl b, .Constant (.bool k) _ _ => b == k
  | .is x, .Call (.Name f _) [.Name y _, .Name z _] [] _ => decide (f = "isinstance") && decide (y = n) && decide (x = z) && glB m.sc f && glB m.sc z && noDbg z && decide (f ∈ m.bl) && decide (z ∈ m.ex)
  | .isv, .Call (.Name f _) [.Name y _, .Name z _] [] _ => decide (f = "isinstance") && decide (y = n) && decide (z = "ValueError") && glB m.sc f && glB m.sc z && decide (f ∈ m.bl) && decide (z ∈ m.bl)
  | .isT xs, .Call (.Name f _) [.Name y _, .Tuple es _ _] [] _ => decide (f = "isinstance") && decide (y = n) && glB m.sc f && decide (f ∈ m.bl) && decide (xs.length < 100) && mXs m xs es
  | .not a, .UnaryOp .Not e _ => mX m n a e
  | .and a b, .BoolOp .And (x :: y :: r) pos => mX m n a x && (match r with
    | [] => mX m n b y
    | _ :: _ => mX m n b (.BoolOp .And (y :: r) pos))
  | _, _ => false
def mXL (m : MC) (n : Str) : List XE → List Expr → Bool
  | [], [] => true
  | x :: xs, e :: es => mX m n x e && mXL m n xs es
  | _, _ => false
def mHx (m : MC) (a : XE) (v : Expr) : Option Str → Bool
  | some n => visB m.sc n && noDbg n && noC v && mX m n a v
  | none => (match a, v with
      | .cbl b, .Constant (.bool k) _ _ => b == k
      | _, _ => false)
def mStrs : List Str → List Expr → Bool
  | [], [] => true
  | z :: zs, .Constant (.str y) _ _ :: es => decide (z = y) && mStrs zs es
  | _, _ => false
def mH1 (m : MC) (e : Option Nat) (n : Option Str) : Hd → List Stmt → Bool
  | .asg i a, [.Assign [.Name x _] v _] => nameAt m.N i x && locB m.sc x && noDbg x && decide (e ≠ some i) && mHx m a v n
  | .asgL i as, [.Assign [.Name x _] (.List vs _) _] => nameAt m.N i x && locB m.sc x && noDbg x && decide (as.length < 100) && decide (e ≠ some i) && (match n with
    | some n => visB m.sc n && noDbg n && mXL m n as vs
    | none => false)
  | .asgN i, [.Assign [.Name x _] (.Constant .none _ _) _] => nameAt m.N i x && locB m.sc x && noDbg x && decide (e ≠ some i)
  | .app i a, [.Expr (.Call (.Attribute (.Name x _) f ap) [.Call vf va vk vp] [] cp) _] => nameAt m.N i x && visB m.sc x && noDbg x && decide (f = "append") && (ap.endLine == cp.line) && decide (e ≠ some i) && (match n with
    | some n => visB m.sc n && noDbg n && mX m n a (.Call vf va vk vp)
    | none => false)
  | .raise x, [.Raise (some (.Call (.Name y _) [.Constant (.str _) _ _] [] _)) none _] => decide (x = y) && glB m.sc y && noDbg y && decide (y ∈ m.ex) && (m.tp && e.isNone)
  | .cat i as, [.Assign [.Name x _] (.BinOp (.Name y _) .Add (.List vs _) _) _] => decide (x = y) && nameAt m.N i x && locB m.sc x && visB m.sc x && noDbg x && decide (as.length < 100) && decide (e ≠ some i) && (match n with
    | some n => visB m.sc n && noDbg n && mXL m n as vs
    | none => false)
  | .sum2 i a b, [.Assign [.Name x _] (.BinOp (.Call (.Name f _) [va] [] _) .Add (.BinOp (.Constant (.int k) _ _) .Mult (.Call (.Name f2 _) [vb] [] _) _) _) _] => nameAt m.N i x && locB m.sc x && noDbg x && decide (e ≠ some i) && decide (k = 2) && decide (f = "int") && decide (f2 = "int") && glB m.sc "int" && decide (("int" : Str) ∈ m.bl) && (match n with
    | some n => visB m.sc n && noDbg n && mX m n a va && mX m n b vb
    | none => false)
  | .pick j ss i a, [.Assign [.Name x _] (.Subscript (.List es _) (.BinOp (.Name y _) .Mult (.Call (.Name f _) [va] [] _) _) _) _] => nameAt m.N j x && locB m.sc x && noDbg x && decide (e ≠ some j) && decide (e ≠ some i) && nameAt m.N i y && visB m.sc y && noDbg y && decide (f = "int") && glB m.sc "int" && decide (("int" : Str) ∈ m.bl) && decide (ss.length < 100) && mStrs ss es && (match n with
    | some n => visB m.sc n && noDbg n && mX m n a va
    | none => false)
  | _, _ => false
def mH (m : MC) (e : Option Nat) (n : Option Str) : Hd → List Stmt → Bool
  | .seq a b, s :: s2 :: r => mH1 m e n a [s] && (!a.isR && (!b.isR && mH m e n b (s2 :: r)))
  | h, ss => mH1 m e n h ss
def eAt (m : MC) : Option Nat → Option Str → Bool
  | none, none => true
  | some i, some n => nameAt m.N i n && decide (m.sc.names.lookup n = some .local) && noDbg n
  | _, _ => false
def q_asg (m : MC) (i : Nat) (e : E) : Stmt → Bool
  | .Assign [.Name x _] v _ => nameAt m.N i x && locB m.sc x && noDbg x && mE m e v
  | _ => false
def q_unp (m : MC) (is : List Nat) (e : E) : Stmt → Bool
  | .Assign [.Tuple ts k p] v _ => mTs m.N m.sc is ts && noComp v && mE m e v
  | _ => false
def q_aug (m : MC) (i : Nat) (op : BOp) (e : E) : Stmt → Bool
  | .AugAssign (.Name x _) o v _ => nameAt m.N i x && locB m.sc x && noDbg x && opB op o && augB op && mE m e v
  | _ => false
def q_app (m : MC) (i : Nat) (e : E) : Stmt → Bool
  | .Expr (.Call (.Attribute (.Name x _) f ap) [v] [] cp) _ => nameAt m.N i x && visB m.sc x && noDbg x && decide (f = "append") && (ap.endLine == cp.line) && mE m e v
  | _ => false
def q_ext (m : MC) (i : Nat) (e : E) : Stmt → Bool
  | .Expr (.Call (.Attribute (.Name x _) f ap) [v] [] cp) _ => nameAt m.N i x && visB m.sc x && noDbg x && decide (f = "extend") && (ap.endLine == cp.line) && mE m e v
  | _ => false
def q_setix (m : MC) (i : Nat) (k e : E) : Stmt → Bool
  | .Assign [.Subscript (.Name x _) y _] v _ => nameAt m.N i x && visB m.sc x && noDbg x && plainIx y && noC v && mE m k y && mE m e v
  | _ => false
def q_expr (m : MC) (e : E) : Stmt → Bool
  | .Expr v _ => noC v && mE m e v
  | _ => false
def q_ite (m : MC) (t : T) (f g : List Stmt → Bool) : Stmt → Bool
  | .If v x y _ => mB m t v && f x && g y
  | _ => false
def q_for (m : MC) (t : Tg) (it : It) (f : List Stmt → Bool) : Stmt → Bool
  | .For tg iter x [] _ => mI m it iter && tgB it tg && mT m.N m.sc t tg && f x
  | _ => false
def q_whl (m : MC) (t : T) (f : List Stmt → Bool) : Stmt → Bool
  | .While v x [] _ => mB m t v && f x
  | _ => false
def q_ret (m : MC) (e : E) : Stmt → Bool
  | .Return (some v) _ => mE m e v
  | _ => false
def q_retN (m : MC)  : Stmt → Bool
  | .Return none _ => true
  | _ => false
def q_brk (m : MC)  : Stmt → Bool
  | .Break _ => true
  | _ => false
def q_cnt (m : MC)  : Stmt → Bool
  | .Continue _ => true
  | _ => false
def q_pass (m : MC)  : Stmt → Bool
  | .Pass _ => true
  | _ => false
def q_setf (m : MC) (x : Str) (e : E) : Stmt → Bool
  | .Assign [.Attribute (.Name y _) z _] v _ => nameAt m.N 0 y && visB m.sc y && noDbg y && decide (x = z) && noC v && mE m e v
  | _ => false
def q_sup (m : MC) (x : Str) (i : Nat) (es : Es) : Stmt → Bool
  | .Expr (.Call (.Attribute (.Name y _) f ap) (.Name z _ :: ys) [] cp) _ => (decide (x = y) && !m.q) && (ap.endLine == cp.line) && decide (ys.length < 29) && decide (f = "__init__") && glB m.sc y && noDbg y && nameAt m.N 0 z && visB m.sc z && noDbg z && decide ((x, i) ∈ m.su) && mEs m es ys
  | _ => false
def q_pop (m : MC) (i j : Nat) : Stmt → Bool
  | .Assign [.Name x _] (.Call (.Attribute (.Name y _) f ap) [] [] cp) _ => nameAt m.N i x && locB m.sc x && noDbg x && nameAt m.N j y && visB m.sc y && noDbg y && decide (f = "pop") && (ap.endLine == cp.line) && decide (i ≠ j)
  | _ => false
def q_rev (m : MC) (i : Nat) : Stmt → Bool
  | .Expr (.Call (.Attribute (.Name x _) f ap) [] [] cp) _ => nameAt m.N i x && visB m.sc x && noDbg x && decide (f = "reverse") && (ap.endLine == cp.line)
  | _ => false
def q_clr (m : MC) (i : Nat) : Stmt → Bool
  | .Expr (.Call (.Attribute (.Name x _) f ap) [] [] cp) _ => nameAt m.N i x && visB m.sc x && noDbg x && decide (f = "clear") && (ap.endLine == cp.line)
  | _ => false
def q_ins (m : MC) (i : Nat) (k e : E) : Stmt → Bool
  | .Expr (.Call (.Attribute (.Name x _) f ap) [u, v] [] cp) _ => nameAt m.N i x && visB m.sc x && noDbg x && decide (f = "insert") && (ap.endLine == cp.line) && mE m k u && mE m e v
  | _ => false
def q_try (m : MC) (f : List Stmt → Bool) (x : Str) (e : Option Nat) (h : Hd) : Stmt → Bool
  | .Try b [.ExceptHandler (some (.Name y _)) n suite _] [] [] _ => (decide (x = y) && !m.q) && glB m.sc y && noDbg y && decide (y ∈ m.ex) && f b && eAt m e n && mH m e n h suite
  | _ => false
def q_dset (m : MC) (i : Nat) (k e : E) : Stmt → Bool
  | .Assign [.Subscript (.Name x _) y _] v _ => nameAt m.N i x && visB m.sc x && noDbg x && plainIx y && noC v && mE m k y && mE m e v
  | _ => false
def q_dnw (m : MC) (i : Nat) : Stmt → Bool
  | .Assign [.Name x _] (.Dict [] [] _) _ => nameAt m.N i x && locB m.sc x && noDbg x
  | _ => false
def q_nnw (m : MC) (i q : Nat) : Stmt → Bool
  | .Assign [.Name x _] (.List [] _) _ => nameAt m.N i x && locB m.sc x && noDbg x
  | _ => false
def q_nlc (m : MC) (i : Nat) (t : Tg) (it : It) : Stmt → Bool
  | .Assign [.Name x px] (.ListComp (.List [] _) [⟨tg, iter, [], 0⟩] scope sp) _ => nameAt m.N i x && locB m.sc x && noDbg x && mI m it iter && tgB it tg && blkC m.N m.sc scope (ownN m.N t.ns) && mT m.N scope t tg
  | _ => false
def q_napp1 (m : MC) (i : Nat) (a : E) : Stmt → Bool
  | .Expr (.Call (.Attribute (.Name x _) f ap) [.Tuple [u, .List [] _] _ _] [] cp) _ => nameAt m.N i x && visB m.sc x && noDbg x && decide (f = "append") && (ap.endLine == cp.line) && mE m a u
  | _ => false
def q_napp2 (m : MC) (i : Nat) (a b : E) : Stmt → Bool
  | .Expr (.Call (.Attribute (.Name x _) f ap) [.Tuple [u, v, .List [] _] _ _] [] cp) _ => nameAt m.N i x && visB m.sc x && noDbg x && decide (f = "append") && (ap.endLine == cp.line) && mE m a u && mE m b v
  | _ => false
def q_ninA (m : MC) (i : Nat) (k e : E) : Stmt → Bool
  | .Expr (.Call (.Attribute (.Subscript (.Name x _) y _) f ap) [v] [] cp) _ => nameAt m.N i x && visB m.sc x && noDbg x && plainIx y && decide (f = "append") && (ap.endLine == cp.line) && mE m k y && mE m e v
  | _ => false
def q_ninE (m : MC) (i : Nat) (k e : E) : Stmt → Bool
  | .Expr (.Call (.Attribute (.Subscript (.Name x _) y _) f ap) [v] [] cp) _ => nameAt m.N i x && visB m.sc x && noDbg x && plainIx y && decide (f = "extend") && (ap.endLine == cp.line) && mE m k y && mE m e v
  | _ => false
def q_ninQ (m : MC) (i q : Nat) (k e : E) : Stmt → Bool
  | .Expr (.Call (.Attribute (.Subscript (.Subscript (.Name x _) y _) (.Constant (.int z) _ _) _) f ap) [v] [] cp) _ => nameAt m.N i x && visB m.sc x && noDbg x && plainIx y && decide ((q : Int) = z) && decide (f = "append") && (ap.endLine == cp.line) && mE m k y && mE m e v
  | _ => false
def q_als (m : MC) (s i : Nat) (k : E) : Stmt → Bool
  | .Assign [.Name z _] (.Subscript (.Name x _) y _) _ => nameAt m.N s z && locB m.sc z && noDbg z && nameAt m.N i x && visB m.sc x && noDbg x && plainIx y && mE m k y
  | _ => false
def q_aapp (m : MC) (s q : Nat) (e : E) : Stmt → Bool
  | .Expr (.Call (.Attribute (.Subscript (.Name x _) (.Constant (.int z) _ _) _) f ap) [v] [] cp) _ => nameAt m.N s x && visB m.sc x && noDbg x && decide ((q : Int) = z) && decide (f = "append") && (ap.endLine == cp.line) && mE m e v
  | _ => false
def q_alsl (m : MC) (s i : Nat) (k : E) : Stmt → Bool
  | .Assign [.Name z _] (.Subscript (.Name x _) y _) _ => nameAt m.N s z && locB m.sc z && noDbg z && nameAt m.N i x && visB m.sc x && noDbg x && plainIx y && mE m k y
  | _ => false
def q_aapl (m : MC) (s : Nat) (e : E) : Stmt → Bool
  | .Expr (.Call (.Attribute (.Name x _) f ap) [v] [] cp) _ => nameAt m.N s x && visB m.sc x && noDbg x && decide (f = "append") && (ap.endLine == cp.line) && mE m e v
  | _ => false
def q_raise (m : MC) (x : Str) : Stmt → Bool
  | .Raise (some (.Call (.Name y _) [.Constant (.str _) _ _] [] _)) none _ => decide (x = y) && glB m.sc y && noDbg y && decide (y ∈ m.ex)
  | _ => false
def q_forO (m : MC) (t : Tg) (i : Nat) (f : List Stmt → Bool) : Stmt → Bool
  | .For tg iter x [] _ => mE m (.var i) iter && mT m.N m.sc t tg && f x
  | _ => false
mutual
def mS (m : MC) : S → Stmt → Bool
  | .asg i e => q_asg m i e
  | .unp is e => q_unp m is e
  | .aug i op e => q_aug m i op e
  | .app i e => q_app m i e
  | .ext i e => q_ext m i e
  | .setix i k e => q_setix m i k e
  | .expr e => q_expr m e
  | .ite t a b => q_ite m t (mSs m a) (mSs m b)
  | .for t it body => q_for m t it (mSs m body)
  | .whl t body => q_whl m t (mSs m body)
  | .ret e => q_ret m e
  | .retN => q_retN m
  | .brk => q_brk m
  | .cnt => q_cnt m
  | .pass => q_pass m
  | .setf x e => q_setf m x e
  | .sup x i es => q_sup m x i es
  | .pop i j => q_pop m i j
  | .rev i => q_rev m i
  | .clr i => q_clr m i
  | .ins i k e => q_ins m i k e
  | .try body x e h => q_try m (mSs (m.tr h.isR) body) x e h
  | .dset i k e => q_dset m i k e
  | .dnw i => q_dnw m i
  | .nnw i q => q_nnw m i q
  | .nlc i t it => q_nlc m i t it
  | .napp1 i a => q_napp1 m i a
  | .napp2 i a b => q_napp2 m i a b
  | .ninA i k e => q_ninA m i k e
  | .ninE i k e => q_ninE m i k e
  | .ninQ i q k e => q_ninQ m i q k e
  | .als s i k => q_als m s i k
  | .aapp s q e => q_aapp m s q e
  | .alsl s i k => q_alsl m s i k
  | .aapl s e => q_aapl m s e
  | .raise x => q_raise m x
  | .forO t i body => q_forO m t i (mSs m body)
  | .fz _ s => mS m s
  | .ndef _ _ => fun _ => false
def mSs (m : MC) : Ss → List Stmt → Bool
  | .nil, [] => true
  | .cons a b, x :: y => mS m a x && mSs m b y
  | _, _ => false
end
/-- a def's own row, defs within it -/
def mTop (m : MC) : Ss → List Stmt → Bool
  | .nil, [] => true
  | .cons (.ndef i k) b, _ :: y => (match m.fs.nds[k]? with
    | some p => decide (m.dn ∈ m.mkd) && nameAt m.N i p.1.name && locB m.sc p.1.name && decide (p.1.qual = m.ql ++ p.1.name) && NdefX.ndefB m.sc (C8.fnScope (m.nst k)) p.2
    | none => false) && mTop m b y
  | .cons a b, x :: y => mS m a x && mTop m b y
  | _, _ => false
/-- .. their words -/
def NdOk [Nm] (m : MC) (k : Nat) (st : Stmt) : Prop := st = m.nst k ∧ ∃ (name : Str) (pos : Pos), st = .FunctionDef name (C8.fnArgs st) (C8.fnBody st) [] none [] (C8.fnScope st) none name pos ∧ (∀ p, m.fs.nds[k]? = some p → p.1.name = name) ∧ Nm.nm pos.line pos.col = m.ql ++ name ∧ (C8.fnArgs st).defaults = [] ∧ (C8.fnArgs st).kw_defaults = [] ∧ ∀ env, annTrees (C8.fnArgs st) none env = []
def ndTop [Nm] (m : MC) : Ss → List Stmt → Prop
  | .nil, _ => True
  | .cons (.ndef _ k) b, x :: y => NdOk m k x ∧ ndTop m b y
  | .cons _ b, _ :: y => ndTop m b y
  | _, _ => True
end Rj

namespace Rj
open PySem PySem.Spec PyProof.Rows L2
theorem PE.imp {X : Cx} {e : Expr} {t t' : TE} (h : PE X e t) (i : ∀ σ H Q, t' σ H Q → t σ H Q) : PE X e t' := ⟨fun pins s σ H Q I q => h.run pins s σ H Q I (i σ H Q q)⟩
theorem PT.imp {X : Cx} {e : Expr} {t t' : TT} (h : PT X e t) (i : ∀ σ H Q, t' σ H Q → t σ H Q) : PT X e t' := ⟨fun pins s σ H Q I q => h.run pins s σ H Q I (i σ H Q q)⟩
theorem PA.imp {X : Cx} {e : List Expr} {t t' : TA} (h : PA X e t) (i : ∀ σ H Q, t' σ H Q → t σ H Q) : PA X e t' := ⟨fun pos pins s σ H Q I q => h.run pos pins s σ H Q I (i σ H Q q)⟩
theorem PO.imp {X : Cx} {e : Option Expr} {t t' : TO} (h : PO X e t) (i : ∀ σ H Q, t' σ H Q → t σ H Q) : PO X e t' := ⟨fun pins s σ H Q I q => h.run pins s σ H Q I (i σ H Q q)⟩
/-! ### readings by the reckoning -/
section
variable [Nm] (g : GZ) (U : Addr → Prop) (F B : Hp) (W : WX) (c : Cl)
def exW (σ : L2.St) (H : Hp) (R : Exn) : Prop := ∀ x H', R x → Same H H' → W (.ref (g.ca x)) none σ H'
def rdE (ir : E) : TE := fun σ H Q => ∃ (env : List Sl) (Qd : Post) (R : Exn), RelW g U F B env σ H ∧ wpE c ir env Qd R ∧ (∀ d inf v H', Qd d inf → Same H H' → RepI g U F env σ H H' d inf v → Q v H') ∧ exW g W σ H R
def rdT (ir : T) : TT := fun σ H Q => ∃ (env : List Sl) (Qd : Bool → Prop) (R : Exn), RelW g U F B env σ H ∧ wpT c ir env Qd R ∧ (∀ b H', Qd b → Same H H' → Q b H') ∧ exW g W σ H R
/-- arguments -/
def RepA (env : List Sl) (σ : L2.St) (H' : Hp) (ds : List D) (inf : Inf) (vs : List V) : Prop := inf.me = [] ∧ inf.top = false ∧ RepL g (Rch U F env σ inf.al inf.fr) H' ds vs
def rdA (es : Es) : TA := fun σ H Q => ∃ (env : List Sl) (Qd : List D → Inf → Prop) (R : Exn), RelW g U F B env σ H ∧ wpEs c es env Qd R ∧ (∀ ds inf vs H', Qd ds inf → Same H H' → RepA g U F env σ H' ds inf vs → Q vs H') ∧ exW g W σ H R
def rdA1 (es : Es) : TA := fun σ H Q => ∃ (env : List Sl) (Qd : List D → Inf → Prop) (R : Exn), RelW g U F B env σ H ∧ wpEs1 c es env Qd R ∧ (∀ ds inf vs H', Qd ds inf → Same H H' → ((∃ d v, ds = [d] ∧ vs = [v] ∧ RepI g U F env σ H H' d inf v) ∨ RepA g U F env σ H' ds inf vs) → Q vs H') ∧ exW g W σ H R
def rdO (ir : Eo) : TO := fun σ H Q => ∃ (env : List Sl) (Qd : Option Int → Prop) (R : Exn), RelW g U F B env σ H ∧ wpO c ir env Qd R ∧ (∀ o H', Qd o → Same H H' → Q o H') ∧ exW g W σ H R
end
abbrev gOf (X : Cx) (ca : Ca) (zc : List (Str × Addr)) : GZ := ⟨⟨X.K, ca⟩, zc⟩
section
variable [Nm] {X : Cx} {ca : Ca} {zc : List (Str × Addr)} {U : Addr → Prop} {F B : Hp} {W : WX} {c : Cl}
theorem exW.more {g : GZ} {σ : L2.St} {H H1 : Hp} {R : Exn} (h : exW g W σ H R) (s : Same H H1) : exW g W σ H1 R := fun x H' r s' => h x H' r (s.trans s')
/-- one part: its value is handed on -/
theorem rdE1 {ia : E} {σ : L2.St} {H : Hp} {env : List Sl} {Qa : Post} {R : Exn} {Q : VK} (r : RelW (gOf X ca zc) U F B env σ H) (w : wpE c ia env Qa R) (x : exW (gOf X ca zc) W σ H R)
    (k : ∀ d inf v H1, Qa d inf → Same H H1 → RepI (gOf X ca zc) U F env σ H H1 d inf v → RelW (gOf X ca zc) U F B env σ H1 → exW (gOf X ca zc) W σ H1 R → Q v H1) : rdE (gOf X ca zc) U F B W c ia σ H Q :=
  ⟨env, Qa, R, r, w, fun d inf v H1 q s z => k d inf v H1 q s z (r.ext s) (x.more s), x⟩

/-! ### constants, names -/
theorem s_const {e : Expr} {v : V} {d : D} {ir : E} (h : PE X e (tC v)) (hd : ∀ A H, Rep (gOf X ca zc) A H d v) (hi : d.imm = true) (hw : ∀ env Q R, wpE c ir env Q R = Q d ci) : PE X e (rdE (gOf X ca zc) U F B W c ir) :=
  PE.imp h fun σ H Q ⟨env, Qd, R, r, w, k, x⟩ => k d ci v H (by rw [← hw env Qd R]; exact w) (Same.refl _) (repI_c hi (hd (fun _ => True) H))
theorem s_var {i : Nat} {x : Str} {pos : Pos} (h : PE X (.Name x pos) (tVar i)) : PE X (.Name x pos) (rdE (gOf X ca zc) U F B W c (.var i)) :=
  PE.imp h fun σ H Q ⟨env, Qd, R, r, w, k, x⟩ => by
    have w : rdS (env.getD i .un) i Qd := w
    cases e : env.getD i .un with
    | un =>
      rw [e] at w
      exact w.elim
    | slf _ _ _ _ =>
      rw [e] at w
      exact w.elim
    | fnv _ =>
      rw [e] at w
      exact w.elim
    | pin _ =>
      rw [e] at w
      exact w.elim
    | als j m d =>
      rw [e] at w
      obtain ⟨v, hv, hr, _⟩ := r.slot i _ (of_getD e (by intro z; cases z))
      refine ⟨v, hv, k d _ v H w (Same.refl _) ?_⟩
      exact repI_h (hr.mono fun a q => ⟨q.1.1, fun z => absurd z q.1.2, fun z => nomatch z⟩)
    | dic ks ds fr =>
      rw [e] at w
      have ei := of_getD e (by intro z; cases z)
      obtain ⟨p, kvs, hv, hp, hk, hb, hl⟩ := r.slot i _ ei
      have ow : Ow env σ i p := ⟨_, _, ei, hv, rfl⟩
      refine ⟨.ref p, hv, k (.dic ks ds) _ _ H w (Same.refl _) ?_⟩
      refine repI_h ⟨p, kvs, rfl, ⟨hb.2, fun _ => ⟨i, List.mem_singleton.mpr rfl, ow⟩, fun _ => r.exF ⟨i, ow⟩⟩, hp, hk, hl.mono fun a q => ⟨q.1.1, fun z => absurd z q.1.2, q.2⟩⟩
    | nst q ds as fr =>
      rw [e] at w
      have ei := of_getD e (by intro z; cases z)
      obtain ⟨p, xs, hv, hp, hb, ⟨h1, h2, h3⟩, hl⟩ := r.slot i _ ei
      have ow : Ow env σ i p := ⟨_, _, ei, hv, .inl rfl⟩
      refine ⟨.ref p, hv, k (.lst ds) _ _ H w (Same.refl _) ?_⟩
      refine ⟨p, xs, ds, rfl, rfl, hp, hl.rep (fun a q => ⟨⟨q.1.1, fun z => absurd z q.1.2, q.2⟩, fun z => ?_⟩) fun a ha => ⟨⟨(h3 a ha).2, fun _ => ⟨i, List.mem_singleton.mpr rfl, _, _, ei, hv, .inr ha⟩, fun _ => r.fb.free (h3 a ha).1⟩, fun z => h2 (by rw [← z]; exact ha)⟩, .inr ⟨i, rfl, ow⟩⟩
      subst z
      exact q.1.2 ⟨i, ow⟩
    | val d fr =>
      rw [e] at w
      obtain ⟨v, hv, hr⟩ := r.val i d fr (of_getD e (by intro z; cases z))
      refine ⟨v, hv, k d _ v H w (Same.refl _) ?_⟩
      cases hi : d.imm with
      | true => exact repI_c hi hr
      | false => exact repI_h (hr.mono fun a q => ⟨q.1.1, fun z => absurd z q.1.2, q.2⟩)
    | own ds fr =>
      rw [e] at w
      have ei := of_getD e (by intro z; cases z)
      obtain ⟨p, xs, hv, hp, hb, hl⟩ := r.own i ds fr ei
      refine ⟨.ref p, hv, k (.lst ds) _ _ H w (Same.refl _) ?_⟩
      refine ⟨p, xs, ds, rfl, rfl, hp, hl.mono fun a q => ⟨⟨q.1.1, fun z => absurd z q.1.2, q.2⟩, fun z => ?_⟩, .inr ⟨i, rfl, _, _, ei, hv, rfl⟩⟩
      subst z
      exact q.1.2 ⟨i, _, _, ei, hv, rfl⟩
theorem s_alv {i : Nat} {x : Str} {pos : Pos} (h : PE X (.Name x pos) (tVar i)) : PE X (.Name x pos) (rdE (gOf X ca zc) U F B W c (.alv i)) :=
  PE.imp h fun σ H Q ⟨env, Qd, R, r, w, k, x⟩ => by
    have w : alsS (env.getD i .un) fun i m _ => nstS (env.getD i .un) fun q ds _ fr => ninS ds m fun es => q = none ∧ Qd (.lst es) ⟨[i], [], fr, false⟩ := w
    cases e : env.getD i .un <;> rw [e] at w <;> first | exact w.elim | skip
    rename_i j mm d
    obtain ⟨v, hv, _, ha⟩ := r.slot i _ (of_getD e (by intro z; cases z))
    have w : nstS (env.getD j .un) fun q ds _ fr => ninS ds mm fun es => q = none ∧ Qd (.lst es) ⟨[j], [], fr, false⟩ := w
    cases e2 : env.getD j .un <;> rw [e2] at w <;> first | exact w.elim | skip
    rename_i q ds as fr
    obtain ⟨es, h1, rfl, w⟩ := w
    have ej := of_getD e2 (by intro z; cases z)
    obtain ⟨p, xs, g1, g2, g3, ⟨g4, g5, g6⟩, g7⟩ := r.slot j _ ej
    obtain ⟨a, u, k1, k2, k3⟩ := g7.at h1
    obtain ⟨es', ys, e3, e4, e5, e6⟩ := k3
    cases e3
    obtain ⟨p', xs', q1, q2, q3⟩ := ha _ _ _ _ ej
    rw [g1] at q1
    cases q1
    rw [g2] at q2
    cases q2
    rw [k2, e4] at q3
    cases q3
    have hm := List.mem_of_getElem? k1
    refine ⟨.ref a, hv, k (.lst es) _ _ H w (Same.refl _) (repI_h ⟨a, ys, rfl, ⟨(g6 a hm).2, fun _ => ⟨j, List.mem_singleton.mpr rfl, _, _, ej, g1, .inr hm⟩, fun _ => r.fb.free (g6 a hm).1⟩, e5, e6.mono fun b q => ⟨q.1.1, fun z => absurd z q.1.2, q.2⟩⟩)⟩
/-! ### operators -/
/-- two parts, an operation -/
theorem s_two {e : Expr} {ir ia ib : E} {ea eb : Expr} {r : R2} (ha : PE X ea (rdE (gOf X ca zc) U F B W c ia)) (hb : PE X eb (rdE (gOf X ca zc) U F B W c ib))
    (ho : ∀ ta tb, PE X ea ta → PE X eb tb → PE X e (tOp r ta tb)) {K : D → Inf → D → Inf → Post → Prop} (hw : ∀ env Q R, wpE c ir env Q R = wpE c ia env (fun x i => wpE c ib env (fun y j => K x i y j Q) R) R)
    (hk : ∀ {env : List Sl} {σ : L2.St} {H H2 : Hp} {Qd : Post} {Q : VK} {dx dy : D} {ix iy : Inf} {x y : V}, RelW (gOf X ca zc) U F B env σ H → Same H H2 → RepI (gOf X ca zc) U F env σ H H2 dx ix x → RepI (gOf X ca zc) U F env σ H H2 dy iy y → K dx ix dy iy Qd →
      (∀ d inf v H', Qd d inf → Same H2 H' → RepI (gOf X ca zc) U F env σ H H' d inf v → Q v H') → r x y H2 Q) : PE X e (rdE (gOf X ca zc) U F B W c ir) := by
  refine PE.imp (ho _ _ ha hb) fun σ H Q ⟨env, Qd, R, rl, w, k, x⟩ => ?_
  rw [hw] at w
  refine rdE1 rl w x fun dx ix vx H1 w1 s1 z1 r1 x1 => ?_
  refine rdE1 r1 w1 x1 fun dy iy vy H2 w2 s2 z2 r2 x2 => ?_
  exact hk rl (s1.trans s2) (z1.ext s2) (z2.back s1) w2 fun d inf v H' q s z => k d inf v H' q ((s1.trans s2).trans s) z
end
end Rj

namespace Rj
open PySem PySem.Spec PyProof.Rows L2
section
variable [Nm] {X : Cx} {ca : Ca} {zc : List (Str × Addr)} {U : Addr → Prop} {F B : Hp} {W : WX} {c : Cl}
/-- what an operator's rule must give -/
def BinK [Nm] (X : Cx) (ca : Ca) (zc : List (Str × Addr)) (U : Addr → Prop) (F B : Hp) (op : BOp) (r : R2) : Prop :=
  ∀ {env : List Sl} {σ : L2.St} {H H2 : Hp} {Qd : Post} {Q : VK} {dx dy : D} {ix iy : Inf} {x y : V}, RelW (gOf X ca zc) U F B env σ H → Same H H2 → RepI (gOf X ca zc) U F env σ H H2 dx ix x → RepI (gOf X ca zc) U F env σ H H2 dy iy y → binD op dx ix dy iy Qd →
      (∀ d inf v H', Qd d inf → Same H2 H' → RepI (gOf X ca zc) U F env σ H H' d inf v → Q v H') → r x y H2 Q
theorem bin_sub : BinK X ca zc U F B .sub (rI0 fun i j => .int (i - j)) := fun {env σ H H2 Qd Q dx dy ix iy x y} r s zx zy w k => by
  cases dx <;> first | exact w.elim | skip
  cases dy <;> first | exact w.elim | skip
  exact ⟨_, _, zx.int, zy.int, k _ _ _ _ w (Same.refl _) (repI_int _)⟩
theorem mulOk {i j : Int} (h : MulOk i j) : IntMulOk i j := by
  rcases h with h | h | h
  · exact IntMulOk.of_right (PyProof.Rows.intBits_le h)
  · exact IntMulOk.of_left (PyProof.Rows.intBits_le h)
  · exact CMulX.ok (by unfold CMulX; omega)
theorem op_mulM : OpR X (binaryOp .Mult) (rI MulOk fun i j => .int (i * j)) := opI fun _ _ _ _ _ _ _ hc q => mul_int q (mulOk hc)
theorem repS_eq (z : Str) (n : Nat) : (⟨(List.replicate n z.cps).foldl (· ++ ·) #[]⟩ : Str) = repS z n := by
  unfold repS
  congr 1
  apply Array.ext'
  have f0 : ∀ (m : Nat) (acc : Array Nat), ((List.replicate m z.cps).foldl (· ++ ·) acc).toList = acc.toList ++ (List.replicate m z.cps.toList).flatten := by
    intro m
    induction m with
    | zero => intro acc; simp
    | succ m ih =>
      intro acc
      rw [List.replicate_succ, List.foldl_cons, ih, List.replicate_succ, List.flatten_cons, Array.toList_append, List.append_assoc]
  rw [f0]
  simp
theorem repS_len (z : Str) (n : Nat) : (repS z n).length = z.length * n := by
  show ((List.replicate n z.cps.toList).flatten.toArray).size = z.cps.size * n
  rw [List.size_toArray]
  induction n with
  | zero => simp
  | succ n ih =>
    rw [List.replicate_succ, List.flatten_cons, List.length_append, ih, Array.length_toList, Nat.mul_succ, Nat.add_comm]
theorem op_mul_str : OpR X (binaryOp .Mult) (fun x y H Q => ∃ z j, x = .str z ∧ y = .int j ∧ (-(2 ^ 62) < j ∧ j < 2 ^ 62 ∧ z.length * j.toNat ≤ sizeLine) ∧ Q (.str (repS z j.toNat)) H) := by
  intro pins s σ H x y v u Q I rx ry h
  obtain ⟨z, j, rfl, rfl, ⟨h1, h2, hz⟩, q⟩ := h
  obtain ⟨t, rfl⟩ := rx
  obtain ⟨t', rfl⟩ := ry
  have hzz : z.length * j.toNat ≤ 16777216 := hz
  refine P.mul_str ?_ (fun n1 n2 => ?_) (fun n1 n2 => ?_) ?_
  · have a : ¬ j < -(2 ^ 63 : Int) := by omega
    have b : ¬ j ≥ 2 ^ 63 := by omega
    rw [decide_eq_false a, decide_eq_false b]
    rfl
  · have hj : 0 < j := by omega
    have e : (z.length : Int) * j ≤ 16777216 := by
      have e1 : ((z.length * j.toNat : Nat) : Int) = (z.length : Int) * j := by
        rw [Int.natCast_mul, Int.toNat_of_nonneg (by omega)]
      rw [← e1]
      omega
    have : (z.length : Int) ≤ (2 ^ 63 - 1) / j := by
      rw [Int.le_ediv_iff_mul_le hj]
      omega
    omega
  · exact decide_eq_false (Nat.not_lt.mpr hz)
  · by_cases c1 : j < 1
    · rw [if_pos c1]
      have e : repS z j.toNat = Str.empty := by
        have : j.toNat = 0 := by omega
        rw [this]
        rfl
      rw [e] at q
      exact ⟨by decide, .str Str.empty, H, I.tok _, ⟨_, rfl⟩, q⟩
    · rw [if_neg c1]
      by_cases c2 : (j == 1 || z.length == 0) = true
      · rw [if_pos c2]
        have e : repS z j.toNat = z := by
          have hl := repS_len z j.toNat
          rcases Bool.or_eq_true_iff.mp c2 with c | c
          · obtain rfl := eq_of_beq c
            unfold repS
            have : (1 : Int).toNat = 1 := rfl
            rw [this]
            simp
          · have c : z.length = 0 := eq_of_beq c
            have e1 : (repS z j.toNat).cps.size = 0 := by
              show (repS z j.toNat).length = 0
              rw [hl, c, Nat.zero_mul]
            have e2 : z.cps.size = 0 := c
            have e3 := Array.eq_empty_of_size_eq_zero e1
            have e4 := Array.eq_empty_of_size_eq_zero e2
            rcases hz2 : repS z j.toNat with ⟨a⟩
            rcases z with ⟨b⟩
            rw [hz2] at e3
            simp only at e3 e4
            rw [e3, e4]
        rw [e] at q
        exact ⟨.str z, H, I, ⟨t, rfl⟩, q⟩
      · rw [if_neg c2, repS_eq]
        exact ⟨by rw [repS_len]; exact hz, .str _, H, I.tok _, ⟨_, rfl⟩, q⟩
abbrev rMulAll : R2 := fun x y H Q => rI MulOk (fun i j => .int (i * j)) x y H Q ∨ (L2.rRep x y H Q ∨ ∃ z j, x = .str z ∧ y = .int j ∧ (-(2 ^ 62) < j ∧ j < 2 ^ 62 ∧ z.length * j.toNat ≤ sizeLine) ∧ Q (.str (repS z j.toNat)) H)
theorem bin_mul : BinK X ca zc U F B .mul rMulAll := fun {env σ H H2 Qd Q dx dy ix iy x y} r s zx zy w k => by
  cases dx <;> first | exact w.elim | skip
  · cases dy <;> first | exact w.elim | skip
    exact .inl ⟨_, _, zx.int, zy.int, w.1, k _ _ _ _ w.2 (Same.refl _) (repI_int _)⟩
  · cases dy <;> first | exact w.elim | skip
    exact .inr (.inr ⟨_, _, zx.str, zy.int, w.1, k _ _ _ _ w.2 (Same.refl _) (repI_str _)⟩)
  · cases dy <;> first | exact w.elim | skip
    obtain ⟨p, xs, rfl, hp, hl⟩ := zx.lst
    refine .inr (.inl ⟨p, _, xs, rfl, zy.int, hp, by have := w.1.1; omega, by have := w.1.2.1; omega, by rw [hl.len]; exact w.1.2.2, fun t ht => ?_⟩)
    refine k _ _ _ _ w.2 (same_new ht) (repI_new r s ht ?_)
    unfold repL
    generalize Int.toNat _ = m
    induction m with
    | zero => exact (rfl : _ = _)
    | succ m ih =>
      rw [List.replicate_succ, List.replicate_succ, List.flatten_cons, List.flatten_cons]
      exact RepL.app hl ih
theorem divOk {i j : Int} (h : DivOk j) : CDivW i j := wide_div h.1 h.2 (by decide) (by decide)
theorem bin_div : BinK X ca zc U F B .fdiv (rI CDivW fun i j => .int (i / j)) := fun {env σ H H2 Qd Q dx dy ix iy x y} r s zx zy w k => by
  cases dx <;> first | exact w.elim | skip
  cases dy <;> first | exact w.elim | skip
  exact ⟨_, _, zx.int, zy.int, divOk w.1, k _ _ _ _ w.2 (Same.refl _) (repI_int _)⟩
theorem bin_mod : BinK X ca zc U F B .mod (rI (fun _ j => 0 < j) fun i j => .int (i % j)) := fun {env σ H H2 Qd Q dx dy ix iy x y} r s zx zy w k => by
  cases dx <;> first | exact w.elim | skip
  cases dy <;> first | exact w.elim | skip
  exact ⟨_, _, zx.int, zy.int, w.1, k _ _ _ _ w.2 (Same.refl _) (repI_int _)⟩
theorem bin_pow : BinK X ca zc U F B .pow (rI CPow fun i j => .int (i ^ j.toNat)) := fun {env σ H H2 Qd Q dx dy ix iy x y} r s zx zy w k => by
  cases dx <;> first | exact w.elim | skip
  cases dy <;> first | exact w.elim | skip
  exact ⟨_, _, zx.int, zy.int, w.1, k _ _ _ _ w.2 (Same.refl _) (repI_int _)⟩
theorem bin_shl : BinK X ca zc U F B .shl (rI CPow fun i j => .int (i * 2 ^ j.toNat)) := fun {env σ H H2 Qd Q dx dy ix iy x y} r s zx zy w k => by
  cases dx <;> first | exact w.elim | skip
  cases dy <;> first | exact w.elim | skip
  exact ⟨_, _, zx.int, zy.int, w.1, k _ _ _ _ w.2 (Same.refl _) (repI_int _)⟩
theorem bin_shr : BinK X ca zc U F B .shr (rI (fun _ j => 0 ≤ j) fun i j => .int (i / 2 ^ j.toNat)) := fun {env σ H H2 Qd Q dx dy ix iy x y} r s zx zy w k => by
  cases dx <;> first | exact w.elim | skip
  cases dy <;> first | exact w.elim | skip
  exact ⟨_, _, zx.int, zy.int, w.1, k _ _ _ _ w.2 (Same.refl _) (repI_int _)⟩
theorem bin_and : BinK X ca zc U F B .band (rI0 fun i j => .int (Builtin.bitAnd i j)) := fun {env σ H H2 Qd Q dx dy ix iy x y} r s zx zy w k => by
  cases dx <;> first | exact w.elim | skip
  cases dy <;> first | exact w.elim | skip
  exact ⟨_, _, zx.int, zy.int, k _ _ _ _ w (Same.refl _) (repI_int _)⟩
theorem bin_or : BinK X ca zc U F B .bor (rI0 fun i j => .int (Builtin.bitOr i j)) := fun {env σ H H2 Qd Q dx dy ix iy x y} r s zx zy w k => by
  cases dx <;> first | exact w.elim | skip
  cases dy <;> first | exact w.elim | skip
  exact ⟨_, _, zx.int, zy.int, k _ _ _ _ w (Same.refl _) (repI_int _)⟩
theorem bin_xor : BinK X ca zc U F B .bxor (rI0 fun i j => .int (Builtin.bitXor i j)) := fun {env σ H H2 Qd Q dx dy ix iy x y} r s zx zy w k => by
  cases dx <;> first | exact w.elim | skip
  cases dy <;> first | exact w.elim | skip
  exact ⟨_, _, zx.int, zy.int, k _ _ _ _ w (Same.refl _) (repI_int _)⟩
abbrev rStrs : R2 := fun x y H Q => ∃ i j, x = .str i ∧ y = .str j ∧ i.length + j.length ≤ sizeLine ∧ Q (.str (i ++ j)) H
/-- a list and a list: the script may be one of them -/
def rCatL (K : PySem.W.Frag) : R2 := fun x y H Q => ∃ l b xs zs, x = .ref l ∧ y = .ref b ∧ SqL K H l xs ∧ SqL K H b zs ∧ xs.length + zs.length ≤ sizeLine ∧ ∀ p, H p = none → Q (.ref p) (upd H p (.lst (xs ++ zs)))
theorem op_catL : OpR X (binaryOp .Add) (rCatL X.K) := by
  intro pins s σ H x y v u Q I rx ry h
  obtain ⟨l, b, xs, zs, rfl, rfl, hH, hB, hz, q⟩ := h
  cases rx
  cases ry
  obtain ⟨its, r, ⟨⟨cls, dd, data, sl⟩, n, ho, hc, hdd, hd⟩, hl⟩ := I.list hH
  obtain ⟨its2, r2, ⟨⟨cls2, dd2, data2, sl2⟩, n2, ho2, hc2, hdd2, hd2⟩, hl2⟩ := I.list hB
  simp only at hc hd hc2 hd2
  subst hc hd hc2 hd2
  have e1 : its.length = xs.length := r.length.symm
  have e2 : its2.length = zs.length := r2.length.symm
  have ea : its.toArray ++ its2.toArray = (its ++ its2).toArray := by simp
  refine concat_meets ⟨_, ho, rfl⟩ ⟨_, ho2, rfl⟩ noFill_list_add seq_list_add PySem.F.slot_list_add PySem.F.entry_list_add (PySem.F.args_list_add_2 _ _) (list_addW l b its.toArray its2.toArray n n2 dd dd2 sl sl2 (by rw [List.size_toArray, List.size_toArray]; omega)) ⟨ho, ho2, ?_⟩
  rw [ea]
  exact ⟨.ref _, _, I.lnew (t' := s.toks) (r.append r2) (by rw [List.length_append]; omega), rfl, q _ I.fresh⟩
abbrev rAddAll (K : PySem.W.Frag) : R2 := fun x y H Q => rI0 (fun i j => .int (i + j)) x y H Q ∨ (rStrs x y H Q ∨ (rCatL K x y H Q ∨ rCatA K x y H Q))
theorem op_addAll : OpR X (binaryOp .Add) (rAddAll X.K) := op_add.or (op_add_str.or (op_catL.or op_catA))
theorem bin_add : BinK X ca zc U F B .add (rAddAll X.K) := fun {env σ H H2 Qd Q dx dy ix iy x y} r s zx zy w k => by
  cases dx <;> first | exact w.elim | skip
  · cases dy <;> first | exact w.elim | skip
    exact .inl ⟨_, _, zx.int, zy.int, k _ _ _ _ w (Same.refl _) (repI_int _)⟩
  · cases dy <;> first | exact w.elim | skip
    exact .inr (.inl ⟨_, _, zx.str, zy.str, w.1, k _ _ _ _ w.2 (Same.refl _) (repI_str _)⟩)
  · cases dy <;> first | exact w.elim | skip
    · obtain ⟨p, xs, rfl, hp, hl⟩ := zx.lst
      obtain ⟨q, ys, rfl, hq, hm⟩ := zy.lst
      refine .inr (.inr (.inl ⟨p, q, xs, ys, rfl, rfl, .of hp, .of hq, by rw [hl.len, hm.len]; exact w.1, fun t ht => ?_⟩))
      refine k _ _ _ _ w.2 (same_new ht) (repI_new r s ht (RepL.app (hl.mono fun a z => z.mono (fun i q => List.mem_append_left _ q) ?_) (hm.mono fun a z => z.mono (fun i q => List.mem_append_right _ q) ?_)))
      · intro z
        exact (Bool.and_eq_true_iff.mp z).1
      · intro z
        exact (Bool.and_eq_true_iff.mp z).2
    · obtain ⟨p, xs, rfl, hp, hl⟩ := zx.lst
      obtain ⟨q, rfl, hq⟩ := zy.scr
      refine .inr (.inr (.inl ⟨p, q, xs, _, rfl, rfl, .of hp, hq, by rw [hl.len, List.length_map]; exact w.1, fun t ht => ?_⟩))
      exact k _ _ _ _ w.2 (same_new ht) (repI_new r s ht (RepL.app hl RepL.ints))
  · cases dy <;> first | exact w.elim | skip
    rename_i ds es
    obtain ⟨p, xs, rfl, hp, hl⟩ := zx.tup
    obtain ⟨q, ys, rfl, hq, hm⟩ := zy.tup
    have l1 := hl.len
    have l2 := hm.len
    have hl := hl.mono fun a z => z.mono (al' := ix.al ++ iy.al) (fr' := ix.fr && iy.fr) (fun i q => List.mem_append_left _ q) fun z => (Bool.and_eq_true_iff.mp z).1
    have hm := hm.mono fun a z => z.mono (al' := ix.al ++ iy.al) (fr' := ix.fr && iy.fr) (fun i q => List.mem_append_right _ q) fun z => (Bool.and_eq_true_iff.mp z).2
    refine .inr (.inr (.inr ⟨p, q, xs, ys, rfl, rfl, .of hp, .of hq, by rw [l1, l2]; exact w.1, fun e => ?_, fun _ e => ?_, fun _ _ t ht => ?_⟩))
    · subst e
      have e : ds = [] := List.eq_nil_of_length_eq_zero l1.symm
      subst e
      exact k _ _ _ _ w.2 (Same.refl _) (repI_h ⟨q, ys, rfl, hq, hm⟩)
    · have e2 : ys = [] := by assumption
      subst e2
      have e : es = [] := List.eq_nil_of_length_eq_zero l2.symm
      subst e
      have w2 : Qd (.tup (ds ++ [])) _ := w.2
      rw [List.append_nil] at w2
      exact k _ _ _ _ w2 (Same.refl _) (repI_h ⟨p, xs, rfl, hp, hl⟩)
    · exact k _ _ _ _ w.2 (same_new ht) (repI_h ⟨t, _, rfl, upd_same, (RepL.app hl hm).ext (same_new ht)⟩)
  · cases dy <;> first | exact w.elim | skip
    obtain ⟨p, rfl, hp⟩ := zx.scr
    obtain ⟨q, ys, rfl, hq, hm⟩ := zy.lst
    refine .inr (.inr (.inl ⟨p, q, _, ys, rfl, rfl, hp, .of hq, by rw [hm.len, List.length_map]; exact w.1, fun t ht => ?_⟩))
    exact k _ _ _ _ w.2 (same_new ht) (repI_new r s ht (RepL.app RepL.ints hm))
theorem bin_rule (op : BOp) (o : Operator) (h : opB op o = true) : ∃ r : R2, OpR X (binaryOp o) r ∧ BinK X ca zc U F B op r := by
  cases op <;> cases o <;> first | (exfalso; exact Bool.false_ne_true h) | skip
  · exact ⟨_, op_addAll, bin_add⟩
  · exact ⟨_, op_sub, bin_sub⟩
  · exact ⟨_, op_mulM.or (L2.op_rep.or op_mul_str), bin_mul⟩
  · exact ⟨_, op_fdivW, bin_div⟩
  · exact ⟨_, op_mod, bin_mod⟩
  · exact ⟨_, op_pow, bin_pow⟩
  · exact ⟨_, op_shl, bin_shl⟩
  · exact ⟨_, op_shr, bin_shr⟩
  · exact ⟨_, op_and, bin_and⟩
  · exact ⟨_, op_or, bin_or⟩
  · exact ⟨_, op_xor, bin_xor⟩
theorem s_bin {op : BOp} {o : Operator} {a b : Expr} {ia ib : E} {pos : Pos} (h : opB op o = true) (ha : PE X a (rdE (gOf X ca zc) U F B W c ia)) (hb : PE X b (rdE (gOf X ca zc) U F B W c ib)) :
    PE X (.BinOp a o b pos) (rdE (gOf X ca zc) U F B W c (.bin op ia ib)) := by
  obtain ⟨r, ho, hk⟩ := bin_rule (X := X) (ca := ca) (U := U) (F := F) (B := B) op o h
  exact s_two (ir := .bin op ia ib) (K := fun x i y j Q => binD op x i y j Q) ha hb (fun ta tb h1 h2 => pe_op ho h1 h2) (fun _ _ _ => rfl) hk
/-! ### comparisons -/
def CmpK [Nm] (X : Cx) (ca : Ca) (zc : List (Str × Addr)) (U : Addr → Prop) (F B : Hp) (op : COp) (r : R2) : Prop :=
  ∀ {env : List Sl} {σ : L2.St} {H H2 : Hp} {Qd : Bool → Prop} {Q : VK} {dx dy : D} {ix iy : Inf} {x y : V}, RelW (gOf X ca zc) U F B env σ H → Same H H2 → RepI (gOf X ca zc) U F env σ H H2 dx ix x → RepI (gOf X ca zc) U F env σ H H2 dy iy y → cmpD op dx dy Qd →
      (∀ b, Qd b → Q (.bl b) H2) → r x y H2 Q
abbrev rEqAll (K : PySem.W.Frag) : R2 := fun x y H Q => rEq x y H Q ∨ rEqD K x y H Q
abbrev rNeAll (K : PySem.W.Frag) : R2 := fun x y H Q => rNe x y H Q ∨ rNeD K x y H Q
theorem op_eqAll (hu : X.A.units + 64 < cLine) : OpR X (compareOp .Eq) (rEqAll X.K) := op_eq.or (op_eqD hu)
theorem op_neAll (hu : X.A.units + 64 < cLine) : OpR X (compareOp .NotEq) (rNeAll X.K) := op_ne.or (op_neD hu)
theorem repI_dp {env : List Sl} {σ : L2.St} {H H2 : Hp} {d : D} {i : Inf} {v : V} (r : RelW (gOf X ca zc) U F B env σ H) (z : RepI (gOf X ca zc) U F env σ H H2 d i v) (h : SeqAt.shaped d.py = true) : Dp X.K H2 v d.py :=
  Rep.dp (g := gOf X ca zc) (z.low r) (SeqAt.canLay_of_shaped h)
/-- what eqD says: two flat values that are told apart as data, or data of any depth -/
theorem eq_parts {env : List Sl} {σ : L2.St} {H H2 : Hp} {Qd : Bool → Prop} {dx dy : D} {ix iy : Inf} {x y : V} (r : RelW (gOf X ca zc) U F B env σ H) (zx : RepI (gOf X ca zc) U F env σ H H2 dx ix x) (zy : RepI (gOf X ca zc) U F env σ H H2 dy iy y) (w : eqD dx dy Qd) :
    (scal x y = true ∧ Qd (decide (x = y))) ∨ ∃ d e, Dp X.K H2 x d ∧ Dp X.K H2 y e ∧ SeqAt.shaped d = true ∧ SeqAt.shaped e = true ∧ Qd (PyData.eqv d e) := by
  have deep : (SeqAt.shaped dx.py = true ∧ SeqAt.shaped dy.py = true) ∧ Qd (PyData.eqv dx.py dy.py) → (scal x y = true ∧ Qd (decide (x = y))) ∨ ∃ d e, Dp X.K H2 x d ∧ Dp X.K H2 y e ∧ SeqAt.shaped d = true ∧ SeqAt.shaped e = true ∧ Qd (PyData.eqv d e) := fun h =>
    .inr ⟨_, _, repI_dp r zx h.1.1, repI_dp r zy h.1.2, h.1.1, h.1.2, h.2⟩
  cases dx <;> cases dy <;> first | exact deep w | skip
  all_goals first
    | (obtain rfl := zx.int; obtain rfl := zy.int; exact .inl ⟨rfl, by have e : ∀ i j : Int, decide (V.int i = V.int j) = decide (i = j) := (fun i j => by simp); rw [e]; exact w⟩)
    | (obtain rfl := zx.str; obtain rfl := zy.str; exact .inl ⟨rfl, by have e : ∀ i j : Str, decide (V.str i = V.str j) = decide (i = j) := (fun i j => by simp); rw [e]; exact w⟩)
    | (obtain rfl := zx.bl; obtain rfl := zy.bl; exact .inl ⟨rfl, by have e : ∀ i j : Bool, decide (V.bl i = V.bl j) = decide (i = j) := (fun i j => by simp); rw [e]; exact w⟩)
    | (obtain rfl := zx.non; obtain rfl := zy.non; exact .inl ⟨rfl, by rw [decide_eq_true rfl]; exact w⟩)
    | (obtain rfl := zx.non; obtain rfl := zy.int; exact .inl ⟨rfl, by rw [decide_eq_false (by intro z; cases z)]; exact w⟩)
    | (obtain rfl := zx.non; obtain rfl := zy.str; exact .inl ⟨rfl, by rw [decide_eq_false (by intro z; cases z)]; exact w⟩)
    | (obtain rfl := zx.non; obtain rfl := zy.bl; exact .inl ⟨rfl, by rw [decide_eq_false (by intro z; cases z)]; exact w⟩)
    | (obtain rfl := zx.int; obtain rfl := zy.non; exact .inl ⟨rfl, by rw [decide_eq_false (by intro z; cases z)]; exact w⟩)
    | (obtain rfl := zx.str; obtain rfl := zy.non; exact .inl ⟨rfl, by rw [decide_eq_false (by intro z; cases z)]; exact w⟩)
    | (obtain rfl := zx.bl; obtain rfl := zy.non; exact .inl ⟨rfl, by rw [decide_eq_false (by intro z; cases z)]; exact w⟩)
    | (obtain rfl := zx.int; obtain rfl := zy.str; exact .inl ⟨rfl, by rw [decide_eq_false (by intro z; cases z)]; exact w⟩)
    | (obtain rfl := zx.str; obtain rfl := zy.int; exact .inl ⟨rfl, by rw [decide_eq_false (by intro z; cases z)]; exact w⟩)
    | (obtain rfl := zx.bl; obtain rfl := zy.str; exact .inl ⟨rfl, by rw [decide_eq_false (by intro z; cases z)]; exact w⟩)
    | (obtain rfl := zx.str; obtain rfl := zy.bl; exact .inl ⟨rfl, by rw [decide_eq_false (by intro z; cases z)]; exact w⟩)
theorem cmp_eq : CmpK X ca zc U F B .eq (rEqAll X.K) := fun {env σ H H2 Qd Q dx dy ix iy x y} r s zx zy w k => by
  rcases eq_parts r zx zy w with ⟨h, q⟩ | ⟨d, e, h1, h2, h3, h4, q⟩
  · exact .inl ⟨h, k _ q⟩
  · exact .inr ⟨d, e, h1, h2, h3, h4, k _ q⟩
theorem cmp_ne : CmpK X ca zc U F B .ne (rNeAll X.K) := fun {env σ H H2 Qd Q dx dy ix iy x y} r s zx zy w k => by
  have w : eqD dx dy (fun b => Qd (!b)) := w
  rcases eq_parts r zx zy w with ⟨h, q⟩ | ⟨d, e, h1, h2, h3, h4, q⟩
  · exact .inl ⟨h, k _ q⟩
  · exact .inr ⟨d, e, h1, h2, h3, h4, k _ q⟩
theorem RepL.intsOf {g : GZ} {A : Addr → Prop} {H : Hp} : ∀ {ds : List D} {ns : List Int} {vs : List V}, intsOf ds = some ns → RepL g A H ds vs → vs = ns.map V.int
  | [], ns, vs, e, h => by
    have e1 : ns = [] := (Option.some.inj e).symm
    have h1 : vs = [] := h
    rw [e1, h1]
    rfl
  | d :: ds, ns, vs, e, h => by
    obtain ⟨v, r, rfl, h1, h2⟩ := h
    cases d <;> first | cases e | skip
    rename_i i
    have e : (Rj.intsOf ds).map (i :: ·) = some ns := e
    cases q : Rj.intsOf ds with
    | none => rw [q] at e; cases e
    | some ms =>
      rw [q] at e
      obtain rfl : i :: ms = ns := Option.some.inj e
      cases h1
      rw [RepL.intsOf q h2]
      rfl
theorem ints_at : ∀ {vs : List Value} {ns : List Int}, IntsAre vs ns → ∀ (j : Nat) (v : Value), vs[j]? = some v → ∃ t, v = .int (ns.getD j 0) t
  | _, _, .nil, j, v, h => by cases h
  | _, _, .cons a t r, 0, v, h => by
    cases h
    exact ⟨t, rfl⟩
  | _, _, .cons a t r, j + 1, v, h => ints_at r j v h
def rLtL (K : PySem.W.Frag) : R2 := fun x y H Q => ∃ a b ns ms, x = .ref a ∧ y = .ref b ∧ SqL K H a (ns.map V.int) ∧ SqL K H b (ms.map V.int) ∧ Q (.bl (lexD ns ms)) H
theorem op_ltL (hu : X.A.units < cLine) : OpR X (compareOp .Lt) (rLtL X.K) := by
  intro pins s σ H x y v u Q I rx ry h
  obtain ⟨a, b, ns, ms, rfl, rfl, ha, hb, q⟩ := h
  cases rx
  cases ry
  obtain ⟨its, r1, p1, _⟩ := I.list ha
  obtain ⟨its2, r2, p2, _⟩ := I.list hb
  have i1 : IntsAre its ns := intsAre_of r1
  have i2 : IntsAre its2 ms := intsAre_of r2
  have s1 : its.toArray.size = ns.length := by simpa using i1.length
  have s2 : its2.toArray.size = ms.length := by simpa using i2.length
  have hj : ∀ j (h1 : j < its.toArray.size) (h2 : j < its2.toArray.size), ∃ t t2, its.toArray[j] = .int (ns.getD j 0) t ∧ its2.toArray[j] = .int (ms.getD j 0) t2 := fun j h1 h2 => by
    obtain ⟨t, e⟩ := ints_at i1 j its.toArray[j] (by simp)
    obtain ⟨t2, e2⟩ := ints_at i2 j its2.toArray[j] (by simp)
    exact ⟨t, t2, e, e2⟩
  have key := SeqAt.RcLt.lists (A := X.A) p1.isList p2.isList hu (e := fun j => decide (ns.getD j 0 = ms.getD j 0)) (r := fun j => decide (ns.getD j 0 < ms.getD j 0)) (fun j h1 h2 => by
    obtain ⟨t, t2, e1, e2⟩ := hj j h1 h2
    rw [e1, e2]
    obtain ⟨e, he, hi⟩ := HT.eqAt_int X.A.in1 s (ns.getD j 0) t (ms.getD j 0) t2
    have : e = decide (ns.getD j 0 = ms.getD j 0) := by
      cases e with
      | true => exact (decide_eq_true (hi.mp rfl)).symm
      | false => exact (decide_eq_false fun z => Bool.false_ne_true (hi.mpr z)).symm
    rw [← this]
    exact he) (fun j h1 h2 _ => by
    obtain ⟨t, t2, e1, e2⟩ := hj j h1 h2
    rw [e1, e2]
    intro prog w E Q h
    exact HT.rcLt_int _ _ _ _ _ _ prog w E Q h)
  rw [s1, s2] at key
  exact key _ _ _ _ ⟨.bl (lexD ns ms), H, I, rfl, q⟩
/-- a < b of alike tuples -/
def rLtT (K : PySem.W.Frag) (f : Bool → Bool) : R2 := fun x y H Q => ∃ d e, Dp K H x d ∧ Dp K H y e ∧ SeqAt.shaped d = true ∧ PySem.W.alike d e = true ∧ d ≠ .none ∧ Q (.bl (f (PySem.W.dataLt d e))) H
theorem op_ltT (hu : X.A.units + 64 < cLine) : OpR X (compareOp .Lt) (rLtT X.K id) := by
  intro pins s σ H x y v u Q I rx ry h
  obtain ⟨d, e, hd, he, sd, al, nn, q⟩ := h
  obtain ⟨as, r1⟩ := Dp.reads I d x v hd rx
  obtain ⟨bs, r2⟩ := Dp.reads I e y u he ry
  exact PySem.W.lt_data r1 r2 al nn (SeqAt.room_of_shaped sd hu) ⟨.bl _, H, I, rfl, q⟩
theorem op_geT (hu : X.A.units + 64 < cLine) : OpR X (compareOp .GtE) (rLtT X.K (!·)) := by
  intro pins s σ H x y v u Q I rx ry h
  obtain ⟨d, e, hd, he, sd, al, nn, q⟩ := h
  obtain ⟨as, r1⟩ := Dp.reads I d x v hd rx
  obtain ⟨bs, r2⟩ := Dp.reads I e y u he ry
  exact PySem.W.ge_data r1 r2 al nn (SeqAt.room_of_shaped sd hu) ⟨.bl _, H, I, rfl, q⟩
theorem cmp_lt : CmpK X ca zc U F B .lt (fun x y H Q => ((rI0 (fun i j => .bl (decide (i < j))) x y H Q ∨ ∃ i j, x = .str i ∧ y = .str j ∧ Q (.bl (decide (i.cps.toList < j.cps.toList))) H) ∨ rLtL X.K x y H Q) ∨ rLtT X.K id x y H Q) := fun {env σ H H2 Qd Q dx dy ix iy x y} r s zx zy w k => by
  cases dx <;> first | exact w.elim | skip
  · cases dy <;> first | exact w.elim | skip
    exact .inl (.inl (.inl ⟨_, _, zx.int, zy.int, k _ w⟩))
  · cases dy <;> first | exact w.elim | skip
    exact .inl (.inl (.inr ⟨_, _, zx.str, zy.str, k _ w⟩))
  · cases dy <;> first | exact w.elim | skip
    obtain ⟨ns, ms, ⟨e1, e2⟩, w⟩ := w
    obtain ⟨p, xs, rfl, hp, hx⟩ := zx.lst
    obtain ⟨p2, ys, rfl, hp2, hy⟩ := zy.lst
    obtain rfl := hx.intsOf e1
    obtain rfl := hy.intsOf e2
    exact .inl (.inr ⟨p, p2, ns, ms, rfl, rfl, .of hp, .of hp2, k _ w⟩)
  · cases dy <;> first | exact w.elim | skip
    obtain ⟨⟨w1, w2, w3⟩, w⟩ := w
    exact .inr ⟨_, _, repI_dp r zx w1, repI_dp r zy w2, w1, w3, (fun z => nomatch z), k _ w⟩
theorem cmp_le : CmpK X ca zc U F B .le (rI0 fun i j => .bl (decide (i ≤ j))) := fun {env σ H H2 Qd Q dx dy ix iy x y} r s zx zy w k => by
  cases dx <;> first | exact w.elim | skip
  cases dy <;> first | exact w.elim | skip
  exact ⟨_, _, zx.int, zy.int, k _ w⟩
theorem cmp_gt : CmpK X ca zc U F B .gt (rI0 fun i j => .bl (decide (j < i))) := fun {env σ H H2 Qd Q dx dy ix iy x y} r s zx zy w k => by
  cases dx <;> first | exact w.elim | skip
  cases dy <;> first | exact w.elim | skip
  exact ⟨_, _, zx.int, zy.int, k _ w⟩
theorem cmp_ge : CmpK X ca zc U F B .ge (fun x y H Q => rI0 (fun i j => .bl (decide (j ≤ i))) x y H Q ∨ rLtT X.K (!·) x y H Q) := fun {env σ H H2 Qd Q dx dy ix iy x y} r s zx zy w k => by
  cases dx <;> first | exact w.elim | skip
  · cases dy <;> first | exact w.elim | skip
    exact .inl ⟨_, _, zx.int, zy.int, k _ w⟩
  · cases dy <;> first | exact w.elim | skip
    obtain ⟨⟨w1, w2, w3⟩, w⟩ := w
    exact .inr ⟨_, _, repI_dp r zx w1, repI_dp r zy w2, w1, w3, (fun z => nomatch z), k _ w⟩
theorem isNon {env : List Sl} {σ : L2.St} {H H2 : Hp} {d : D} {i : Inf} {v : V} (r : RelW (gOf X ca zc) U F B env σ H) (z : RepI (gOf X ca zc) U F env σ H H2 d i v) (na : d ≠ .any) : decide (v = .non) = (match d with
    | .non => true
    | _ => false) := by
  have h := z.low r
  cases d with
  | non => cases h; rfl
  | bl b => cases h; rfl
  | int b => cases h; rfl
  | str b => cases h; rfl
  | lst ds => obtain ⟨a, xs, rfl, _⟩ := h; rfl
  | tup ds => obtain ⟨a, xs, rfl, _⟩ := h; rfl
  | ins c ks ds => obtain ⟨a, dx, fs, rfl, _⟩ := h; rfl
  | dic ks ds => obtain ⟨a, kvs, rfl, _⟩ := h; rfl
  | scr ns => obtain ⟨a, rfl, _⟩ := h; rfl
  | any => exact absurd rfl na
  | fn k cs => obtain ⟨f, cl, c, ws, rfl, _⟩ := h; rfl
theorem op_isB : OpR X (compareOp .Is) (fun x y H Q => ∃ a b, x = .bl a ∧ y = .bl b ∧ Q (.bl (decide (a = b))) H) := by
  intro pins s σ H x y v u Q I rx ry h
  obtain ⟨m, n, rfl, rfl, q⟩ := h
  cases (show v = Value.bool m from rx)
  cases (show u = Value.bool n from ry)
  by_cases e : m = n
  · subst e
    exact wpAny_is_self rfl ⟨.bl true, H, I, rfl, by simpa using q⟩
  · exact wpAny_is_other rfl (fun z => e (Value.bool.inj z)) ⟨.bl false, H, I, rfl, by simpa [e] using q⟩
theorem op_notB : OpR X (compareOp .IsNot) (fun x y H Q => ∃ a b, x = .bl a ∧ y = .bl b ∧ Q (.bl (!decide (a = b))) H) := by
  intro pins s σ H x y v u Q I rx ry h
  obtain ⟨m, n, rfl, rfl, q⟩ := h
  cases (show v = Value.bool m from rx)
  cases (show u = Value.bool n from ry)
  by_cases e : m = n
  · subst e
    exact wpAny_isNot_self rfl ⟨.bl false, H, I, rfl, by simpa using q⟩
  · exact wpAny_isNot_other rfl (fun z => e (Value.bool.inj z)) ⟨.bl true, H, I, rfl, by simpa [e] using q⟩
theorem cmp_isN : CmpK X ca zc U F B .isN (fun x y H Q => (y = .non ∧ Q (.bl (decide (x = .non))) H) ∨ ∃ a b, x = .bl a ∧ y = .bl b ∧ Q (.bl (decide (a = b))) H) := fun {env σ H H2 Qd Q dx dy ix iy x y} r s zx zy w k => by
  cases dy <;> first | (exfalso; revert w; cases dx <;> exact id) | skip
  · refine .inl ?_
    have e := isNon r zx (by
      intro e
      subst e
      exact w.elim)
    refine ⟨zy.non, ?_⟩
    rw [e]
    cases dx <;> first | exact k _ w | exact w.elim
  · cases dx <;> first | exact w.elim | skip
    exact .inr ⟨_, _, zx.bl, zy.bl, k _ w⟩
theorem cmp_notN : CmpK X ca zc U F B .notN (fun x y H Q => (y = .non ∧ Q (.bl (!decide (x = .non))) H) ∨ ∃ a b, x = .bl a ∧ y = .bl b ∧ Q (.bl (!decide (a = b))) H) := fun {env σ H H2 Qd Q dx dy ix iy x y} r s zx zy w k => by
  cases dy <;> first | (exfalso; revert w; cases dx <;> exact id) | skip
  · refine .inl ?_
    have e := isNon r zx (by
      intro e
      subst e
      exact w.elim)
    refine ⟨zy.non, ?_⟩
    rw [e]
    cases dx <;> first | exact k _ w | exact w.elim
  · cases dx <;> first | exact w.elim | skip
    exact .inr ⟨_, _, zx.bl, zy.bl, k _ w⟩
abbrev rInStr : R2 := fun x y H Q => ∃ i j, x = .str i ∧ y = .str j ∧ Q (.bl (!(Builtin.Str.occurrences j i 0 j.length 1).isEmpty)) H
abbrev rNotInStr : R2 := fun x y H Q => ∃ i j, x = .str i ∧ y = .str j ∧ Q (.bl (!(!(Builtin.Str.occurrences j i 0 j.length 1).isEmpty))) H
end
end Rj

namespace Rj
open PySem PySem.Spec PyProof.Rows L2
section
variable [Nm] {X : Cx} {ca : Ca} {zc : List (Str × Addr)} {U : Addr → Prop} {F B : Hp} {W : WX} {c : Cl}
/-- the same behind in, a tuple -/
def rInT (K : PySem.W.Frag) : R2 := fun x y H Q => ∃ d ds, Dp K H x d ∧ Dp K H y (.tuple ds) ∧ SeqAt.shaped d = true ∧ SeqAt.shaped (.tuple ds) = true ∧ Q (.bl (ds.any fun z => PyData.eqv z d)) H
def rNotInT (K : PySem.W.Frag) : R2 := fun x y H Q => ∃ d ds, Dp K H x d ∧ Dp K H y (.tuple ds) ∧ SeqAt.shaped d = true ∧ SeqAt.shaped (.tuple ds) = true ∧ Q (.bl (!ds.any fun z => PyData.eqv z d)) H
theorem op_inT (hu : X.A.units + 65 < cLine) : OpR X (compareOp .In) (rInT X.K) := by
  intro pins s σ H x y v u Q I rx ry h
  obtain ⟨d, ds, hd, he, sd, se, q⟩ := h
  obtain ⟨as, r1⟩ := Dp.reads I d x v hd rx
  obtain ⟨bs, r2⟩ := Dp.reads I (.tuple ds) y u he ry
  exact SeqAt.in_tuple_reads r2 r1 (SeqAt.canLay_of_shaped se) (SeqAt.canLay_of_shaped sd) (room_in_shaped sd hu) ⟨.bl _, H, I, rfl, q⟩
theorem op_notInT (hu : X.A.units + 65 < cLine) : OpR X (compareOp .NotIn) (rNotInT X.K) := by
  intro pins s σ H x y v u Q I rx ry h
  obtain ⟨d, ds, hd, he, sd, se, q⟩ := h
  obtain ⟨as, r1⟩ := Dp.reads I d x v hd rx
  obtain ⟨bs, r2⟩ := Dp.reads I (.tuple ds) y u he ry
  exact SeqAt.notIn_tuple_reads r2 r1 (SeqAt.canLay_of_shaped se) (SeqAt.canLay_of_shaped sd) (room_in_shaped sd hu) ⟨.bl _, H, I, rfl, q⟩
theorem cmp_in (hu : X.A.units + 65 < cLine) : CmpK X ca zc U F B .isin (fun x y H Q => (rInStr x y H Q ∨ rInD X.K x y H Q) ∨ rInT X.K x y H Q) := fun {env σ H H2 Qd Q dx dy ix iy x y} r s zx zy w k => by
  cases dy <;> first | (exfalso; revert w; cases dx <;> exact id) | skip
  · cases dx <;> first | exact w.elim | skip
    exact .inl (.inl ⟨_, _, zx.str, zy.str, k _ w⟩)
  · have w : (SeqAt.shaped dx.py = true ∧ SeqAt.shaped (.list (pyL _)) = true) ∧ _ := (show (SeqAt.shaped dx.py = true ∧ SeqAt.shaped (.list (pyL _)) = true) ∧ Qd ((pyL _).any fun z => PyData.eqv z dx.py) by cases dx <;> exact w)
    exact .inl (.inr ⟨_, _, repI_dp r zx w.1.1, repI_dp r zy w.1.2, w.1.1, w.1.2, k _ w.2⟩)
  · have w : (SeqAt.shaped dx.py = true ∧ SeqAt.shaped (.tuple (pyL _)) = true) ∧ _ := (show (SeqAt.shaped dx.py = true ∧ SeqAt.shaped (.tuple (pyL _)) = true) ∧ Qd ((pyL _).any fun z => PyData.eqv z dx.py) by cases dx <;> exact w)
    exact .inr ⟨_, _, repI_dp r zx w.1.1, repI_dp r zy w.1.2, w.1.1, w.1.2, k _ w.2⟩
theorem cmp_notin (hu : X.A.units + 65 < cLine) : CmpK X ca zc U F B .notin (fun x y H Q => (rNotInStr x y H Q ∨ rNotInD X.K x y H Q) ∨ rNotInT X.K x y H Q) := fun {env σ H H2 Qd Q dx dy ix iy x y} r s zx zy w k => by
  cases dy <;> first | (exfalso; revert w; cases dx <;> exact id) | skip
  · cases dx <;> first | exact w.elim | skip
    exact .inl (.inl ⟨_, _, zx.str, zy.str, k _ w⟩)
  · have w : (SeqAt.shaped dx.py = true ∧ SeqAt.shaped (.list (pyL _)) = true) ∧ _ := (show (SeqAt.shaped dx.py = true ∧ SeqAt.shaped (.list (pyL _)) = true) ∧ Qd (!(pyL _).any fun z => PyData.eqv z dx.py) by cases dx <;> exact w)
    exact .inl (.inr ⟨_, _, repI_dp r zx w.1.1, repI_dp r zy w.1.2, w.1.1, w.1.2, k _ w.2⟩)
  · have w : (SeqAt.shaped dx.py = true ∧ SeqAt.shaped (.tuple (pyL _)) = true) ∧ _ := (show (SeqAt.shaped dx.py = true ∧ SeqAt.shaped (.tuple (pyL _)) = true) ∧ Qd (!(pyL _).any fun z => PyData.eqv z dx.py) by cases dx <;> exact w)
    exact .inr ⟨_, _, repI_dp r zx w.1.1, repI_dp r zy w.1.2, w.1.1, w.1.2, k _ w.2⟩
theorem cmp_rule (hu : X.A.units + 65 < cLine) (op : COp) (o : CmpOp) (h : copB op o = true) : ∃ r : R2, OpR X (compareOp o) r ∧ CmpK X ca zc U F B op r := by
  cases op <;> cases o <;> first | (exfalso; exact Bool.false_ne_true h) | skip
  · exact ⟨_, op_eqAll (by omega), cmp_eq⟩
  · exact ⟨_, op_neAll (by omega), cmp_ne⟩
  · exact ⟨_, ((op_lt.or op_lt_str).or (op_ltL (by omega))).or (op_ltT (by omega)), cmp_lt⟩
  · exact ⟨_, op_le, cmp_le⟩
  · exact ⟨_, op_gt, cmp_gt⟩
  · exact ⟨_, op_ge.or (op_geT (by omega)), cmp_ge⟩
  · exact ⟨_, op_isN.or op_isB, cmp_isN⟩
  · exact ⟨_, op_notN.or op_notB, cmp_notN⟩
  · exact ⟨_, (op_in_str.or (op_inD hu)).or (op_inT hu), cmp_in hu⟩
  · exact ⟨_, (op_notin_str.or (op_notInD hu)).or (op_notInT hu), cmp_notin hu⟩
theorem s_cmp {op : COp} {o : CmpOp} {a b : Expr} {ia ib : E} {pos : Pos} (hu : X.A.units + 65 < cLine) (h : copB op o = true) (hm : behindInMarks o b = false) (ha : PE X a (rdE (gOf X ca zc) U F B W c ia)) (hb : PE X b (rdE (gOf X ca zc) U F B W c ib)) :
    PE X (.Compare a [o] [b] pos) (rdE (gOf X ca zc) U F B W c (.cmp op ia ib)) := by
  obtain ⟨r, ho, hk⟩ := cmp_rule (X := X) (ca := ca) (U := U) (F := F) (B := B) hu op o h
  refine s_two (ir := .cmp op ia ib) (K := fun x i y j Q => cmpD op x y fun k => Q (.bl k) ci) ha hb (fun ta tb h1 h2 => pe_cmpR ho h1 h2 hm) (fun _ _ _ => rfl) ?_
  intro env σ H H2 Qd Q dx dy ix iy x y r1 s zx zy w k
  exact hk r1 s zx zy w fun b q => k _ _ _ _ q (Same.refl _) (repI_bl b)
theorem t_cmp {op : COp} {o : CmpOp} {a b : Expr} {ia ib : E} {pos : Pos} (hu : X.A.units + 65 < cLine) (h : copB op o = true) (hm : behindInMarks o b = false) (ha : PE X a (rdE (gOf X ca zc) U F B W c ia)) (hb : PE X b (rdE (gOf X ca zc) U F B W c ib)) :
    PT X (.Compare a [o] [b] pos) (rdT (gOf X ca zc) U F B W c (.cmp op ia ib)) := by
  obtain ⟨r, ho, hk⟩ := cmp_rule (X := X) (ca := ca) (U := U) (F := F) (B := B) hu op o h
  refine PT.imp (pt_cmpR ho ha hb hm) fun σ H Q ⟨env, Qd, R, rl, w, k, x⟩ => ?_
  refine rdE1 rl w x fun dx ix vx H1 w1 s1 z1 r1 x1 => ?_
  refine rdE1 r1 w1 x1 fun dy iy vy H2 w2 s2 z2 r2 x2 => ?_
  exact hk rl (s1.trans s2) (z1.ext s2) (z2.back s1) w2 fun b q => ⟨b, rfl, k b H2 q (s1.trans s2)⟩
theorem chain_core {op op' : COp} {o o' : CmpOp} {r r' : R2} (hk : CmpK X ca zc U F B op r) (hk' : CmpK X ca zc U F B op' r') {ia ib ic : E} {σ : L2.St} {H : Hp} {Q : Bool → Hp → Prop} {env : List Sl} {Qd : Bool → Prop} {R : Exn}
    (rl : RelW (gOf X ca zc) U F B env σ H) (w : wpE c ia env (fun x _ => wpE c ib env (fun y _ => cmpD op x y fun k => if k = true then wpE c ic env (fun z _ => cmpD op' y z Qd) R else Qd false) R) R)
    (k : ∀ b H', Qd b → Same H H' → Q b H') (x : exW (gOf X ca zc) W σ H R) :
    rdE (gOf X ca zc) U F B W c ia σ H fun x H1 => rdE (gOf X ca zc) U F B W c ib σ H1 fun y H2 => r x y H2 fun z H3 => ∃ k, z = .bl k ∧ (if k = true then rdE (gOf X ca zc) U F B W c ic σ H3 fun w' H4 => r' y w' H4 (fun v H5 => ∃ b, v = .bl b ∧ Q b H5) else Q false H3) := by
  refine rdE1 rl w x fun dx ix vx H1 w1 s1 z1 r1 x1 => ?_
  refine rdE1 r1 w1 x1 fun dy iy vy H2 w2 s2 z2 r2 x2 => ?_
  refine hk rl (s1.trans s2) (z1.ext s2) (z2.back s1) w2 fun b q => ⟨b, rfl, ?_⟩
  cases b with
  | false => exact k false H2 q (s1.trans s2)
  | true =>
    rw [if_pos rfl] at q ⊢
    refine rdE1 r2 q x2 fun dz iz vz H4 w4 s4 z4 r4 x4 => ?_
    exact hk' r1 (s2.trans s4) (z2.ext s4) (z4.back s2) w4 fun b q => ⟨b, rfl, k b H4 q ((s1.trans s2).trans s4)⟩
theorem s_chain {op op' : COp} {o o' : CmpOp} {a b e : Expr} {ia ib ie : E} {pos : Pos} (hu : X.A.units + 65 < cLine) (h : copB op o = true) (h' : copB op' o' = true) (hm : behindInMarks o' e = false) (ha : PE X a (rdE (gOf X ca zc) U F B W c ia)) (hb : PE X b (rdE (gOf X ca zc) U F B W c ib)) (he : PE X e (rdE (gOf X ca zc) U F B W c ie)) :
    PE X (.Compare a [o, o'] [b, e] pos) (rdE (gOf X ca zc) U F B W c (.chain op op' ia ib ie)) := by
  obtain ⟨r, ho, hk⟩ := cmp_rule (X := X) (ca := ca) (U := U) (F := F) (B := B) hu op o h
  obtain ⟨r', ho', hk'⟩ := cmp_rule (X := X) (ca := ca) (U := U) (F := F) (B := B) hu op' o' h'
  refine PE.imp (pe_chain ho ho' ha hb he (by unfold lastMarks; exact hm)) fun σ H Q ⟨env, Qd, R, rl, w, k, x⟩ => ?_
  refine rdE1 rl w x fun dx ix vx H1 w1 s1 z1 r1 x1 => ?_
  refine rdE1 r1 w1 x1 fun dy iy vy H2 w2 s2 z2 r2 x2 => ?_
  refine hk rl (s1.trans s2) (z1.ext s2) (z2.back s1) w2 fun b q => ⟨b, rfl, ?_⟩
  cases b with
  | false => exact k _ _ _ _ q (s1.trans s2) (repI_bl false)
  | true =>
    rw [if_pos rfl] at q ⊢
    refine rdE1 r2 q x2 fun dz iz vz H4 w4 s4 z4 r4 x4 => ?_
    exact hk' r1 (s2.trans s4) (z2.ext s4) (z4.back s2) w4 fun b q => k _ _ _ _ q ((s1.trans s2).trans s4) (repI_bl b)
theorem t_chain {op op' : COp} {o o' : CmpOp} {a b e : Expr} {ia ib ie : E} {pos : Pos} (hu : X.A.units + 65 < cLine) (h : copB op o = true) (h' : copB op' o' = true) (hm : behindInMarks o' e = false) (ha : PE X a (rdE (gOf X ca zc) U F B W c ia)) (hb : PE X b (rdE (gOf X ca zc) U F B W c ib)) (he : PE X e (rdE (gOf X ca zc) U F B W c ie)) :
    PT X (.Compare a [o, o'] [b, e] pos) (rdT (gOf X ca zc) U F B W c (.chain op op' ia ib ie)) := by
  obtain ⟨r, ho, hk⟩ := cmp_rule (X := X) (ca := ca) (U := U) (F := F) (B := B) hu op o h
  obtain ⟨r', ho', hk'⟩ := cmp_rule (X := X) (ca := ca) (U := U) (F := F) (B := B) hu op' o' h'
  refine PT.imp (pt_chain ho ho' ha hb he (by unfold lastMarks; exact hm)) fun σ H Q ⟨env, Qd, R, rl, w, k, x⟩ => ?_
  refine rdE1 rl w x fun dx ix vx H1 w1 s1 z1 r1 x1 => ?_
  refine rdE1 r1 w1 x1 fun dy iy vy H2 w2 s2 z2 r2 x2 => ?_
  refine hk rl (s1.trans s2) (z1.ext s2) (z2.back s1) w2 fun b q => ⟨b, rfl, ?_⟩
  cases b with
  | false => exact ⟨false, rfl, k _ _ q (s1.trans s2)⟩
  | true =>
    rw [if_pos rfl] at q ⊢
    refine rdE1 r2 q x2 fun dz iz vz H4 w4 s4 z4 r4 x4 => ?_
    exact hk' r1 (s2.trans s4) (z2.ext s4) (z4.back s2) w4 fun b q => ⟨b, rfl, k _ _ q ((s1.trans s2).trans s4)⟩
/-! ### truth, not, and, or -/
theorem tru_of {env : List Sl} {σ : L2.St} {H H2 : Hp} {d : D} {i : Inf} {v : V} {Qd : Bool → Prop} (r : RelW (gOf X ca zc) U F B env σ H) (z : RepI (gOf X ca zc) U F env σ H H2 d i v) (w : truD d Qd) : ∃ k, TruV X.K v H2 k ∧ Qd k := by
  cases d with
  | non => obtain rfl := z.non; exact ⟨false, rfl, w⟩
  | bl b => obtain rfl := z.bl; exact ⟨b, rfl, w⟩
  | int n => obtain rfl := z.int; exact ⟨_, rfl, w⟩
  | str n => obtain rfl := z.str; exact ⟨_, ⟨w.1, rfl⟩, w.2⟩
  | lst ds =>
    obtain ⟨p, xs, rfl, hp, hl⟩ := z.lst
    refine ⟨_, .inl ⟨xs, .of hp, rfl⟩, ?_⟩
    have e : xs.isEmpty = ds.isEmpty := by
      have := hl.len
      cases xs <;> cases ds <;> simp_all
    rw [e]
    exact w
  | tup ds =>
    obtain ⟨p, xs, rfl, hp, hl⟩ := z.tup
    refine ⟨_, .inr (.inl ⟨xs, .of hp, rfl⟩), ?_⟩
    have e : xs.isEmpty = ds.isEmpty := by
      have := hl.len
      cases xs <;> cases ds <;> simp_all
    rw [e]
    exact w
  | scr ns =>
    obtain ⟨p, rfl, hs⟩ := z.scr
    refine ⟨_, .inl ⟨_, hs, rfl⟩, ?_⟩
    have e : (ns.map V.int).isEmpty = ns.isEmpty := by cases ns <;> rfl
    rw [e]
    exact w
  | ins _ _ _ => exact w.elim
  | dic _ _ => exact w.elim
  | any => exact w.elim
  | fn _ _ => exact w.elim
theorem s_not {a : Expr} {ia : E} {pos : Pos} (ha : PE X a (rdE (gOf X ca zc) U F B W c ia)) : PE X (.UnaryOp .Not a pos) (rdE (gOf X ca zc) U F B W c (.not ia)) :=
  PE.imp (pe_notT ha) fun σ H Q ⟨env, Qd, R, rl, w, k, x⟩ => rdE1 rl w x fun d i v H1 w1 s1 z1 r1 x1 => by
    obtain ⟨b, h1, h2⟩ := tru_of rl z1 w1
    exact ⟨b, h1, k _ _ _ _ h2 s1 (repI_bl _)⟩
theorem s_neg {a : Expr} {ia : E} {pos : Pos} (ha : PE X a (rdE (gOf X ca zc) U F B W c ia)) : PE X (.UnaryOp .USub a pos) (rdE (gOf X ca zc) U F B W c (.neg ia)) :=
  PE.imp (pe_un un_neg ha) fun σ H Q ⟨env, Qd, R, rl, w, k, x⟩ => rdE1 rl w x fun d i v H1 w1 s1 z1 r1 x1 => by
    cases d <;> first | exact w1.elim | skip
    exact ⟨_, z1.int, k _ _ _ _ w1 s1 (repI_int _)⟩
theorem and_core {ia ib : E} {σ : L2.St} {H : Hp} {Q : VK} (h : rdE (gOf X ca zc) U F B W c (.and ia ib) σ H Q) : rdE (gOf X ca zc) U F B W c ia σ H fun x H1 => ∃ b, x = .bl b ∧ if b = true then rdE (gOf X ca zc) U F B W c ib σ H1 Q else Q (.bl false) H1 := by
  obtain ⟨env, Qd, R, rl, w, k, x⟩ := h
  refine rdE1 rl w x fun d i v H1 w1 s1 z1 r1 x1 => ?_
  cases d <;> first | exact w1.elim | skip
  rename_i b
  refine ⟨b, z1.bl, ?_⟩
  cases b with
  | false => exact k _ _ _ _ w1 s1 (repI_bl _)
  | true =>
    rw [if_pos rfl]
    have w1 : wpE c ib env Qd R := w1
    exact ⟨env, Qd, R, r1, w1, fun d inf v H' q s z => k d inf v H' q (s1.trans s) (z.back s1), x1⟩
theorem or_core {ia ib : E} {σ : L2.St} {H : Hp} {Q : VK} (h : rdE (gOf X ca zc) U F B W c (.or ia ib) σ H Q) : rdE (gOf X ca zc) U F B W c ia σ H fun x H1 => ∃ b, x = .bl b ∧ if b = true then Q (.bl true) H1 else rdE (gOf X ca zc) U F B W c ib σ H1 Q := by
  obtain ⟨env, Qd, R, rl, w, k, x⟩ := h
  refine rdE1 rl w x fun d i v H1 w1 s1 z1 r1 x1 => ?_
  cases d <;> first | exact w1.elim | skip
  rename_i b
  refine ⟨b, z1.bl, ?_⟩
  cases b with
  | true => exact k _ _ _ _ w1 s1 (repI_bl _)
  | false =>
    have w1 : wpE c ib env Qd R := w1
    exact ⟨env, Qd, R, r1, w1, fun d inf v H' q s z => k d inf v H' q (s1.trans s) (z.back s1), x1⟩
theorem s_and {a b : Expr} {r : List Expr} {ia ib : E} {pos : Pos} (ha : PE X a (rdE (gOf X ca zc) U F B W c ia)) (hb : PE X (.BoolOp .And (b :: r) pos) (rdE (gOf X ca zc) U F B W c ib)) : PE X (.BoolOp .And (a :: b :: r) pos) (rdE (gOf X ca zc) U F B W c (.and ia ib)) :=
  PE.imp (pe_and ha hb) fun _ _ _ h => and_core h
theorem s_or {a b : Expr} {r : List Expr} {ia ib : E} {pos : Pos} (ha : PE X a (rdE (gOf X ca zc) U F B W c ia)) (hb : PE X (.BoolOp .Or (b :: r) pos) (rdE (gOf X ca zc) U F B W c ib)) : PE X (.BoolOp .Or (a :: b :: r) pos) (rdE (gOf X ca zc) U F B W c (.or ia ib)) :=
  PE.imp (pe_or ha hb) fun _ _ _ h => or_core h
/-! ### tests -/
theorem rdT1 {ia : T} {σ : L2.St} {H : Hp} {env : List Sl} {Qa : Bool → Prop} {R : Exn} {Q : Bool → Hp → Prop} (r : RelW (gOf X ca zc) U F B env σ H) (w : wpT c ia env Qa R) (x : exW (gOf X ca zc) W σ H R)
    (k : ∀ b H1, Qa b → Same H H1 → RelW (gOf X ca zc) U F B env σ H1 → exW (gOf X ca zc) W σ H1 R → Q b H1) : rdT (gOf X ca zc) U F B W c ia σ H Q :=
  ⟨env, Qa, R, r, w, fun b H1 q s => k b H1 q s (r.ext s) (x.more s), x⟩
theorem t_e {a : Expr} {ia : E} (hp : plainB a = true) (ha : PE X a (rdE (gOf X ca zc) U F B W c ia)) : PT X a (rdT (gOf X ca zc) U F B W c (.e ia)) := by
  have he : ∀ whole, isTrue a X.env whole = (do let v ← whole; standAt a.pos; holding [v] (truthy v)) := by
    intro whole
    cases a <;> first | rfl | skip
    · exact absurd hp Bool.false_ne_true
    · rename_i op x pos
      cases op <;> first | rfl | exact absurd hp Bool.false_ne_true
    · exact absurd hp Bool.false_ne_true
    · exact absurd hp Bool.false_ne_true
  refine PT.imp (pt_truth ha he) fun σ H Q ⟨env, Qd, R, rl, w, k, x⟩ => rdE1 rl w x fun d i v H1 w1 s1 z1 r1 x1 => ?_
  obtain ⟨b, h1, h2⟩ := tru_of rl z1 w1
  exact ⟨b, h1, k _ _ h2 s1⟩
theorem t_not {a : Expr} {ia : T} {pos : Pos} (ha : PT X a (rdT (gOf X ca zc) U F B W c ia)) : PT X (.UnaryOp .Not a pos) (rdT (gOf X ca zc) U F B W c (.not ia)) :=
  PT.imp (pt_not ha) fun σ H Q ⟨env, Qd, R, rl, w, k, x⟩ => rdT1 rl w x fun b H1 w1 s1 r1 x1 => k _ _ w1 s1
theorem tand_core {ia ib : T} {σ : L2.St} {H : Hp} {Q : Bool → Hp → Prop} (h : rdT (gOf X ca zc) U F B W c (.and ia ib) σ H Q) : rdT (gOf X ca zc) U F B W c ia σ H fun b H1 => if b = true then rdT (gOf X ca zc) U F B W c ib σ H1 Q else Q false H1 := by
  obtain ⟨env, Qd, R, rl, w, k, x⟩ := h
  refine rdT1 rl w x fun b H1 w1 s1 r1 x1 => ?_
  cases b with
  | false => exact k _ _ w1 s1
  | true =>
    rw [if_pos rfl]
    have w1 : wpT c ib env Qd R := w1
    exact ⟨env, Qd, R, r1, w1, fun b H' q s => k b H' q (s1.trans s), x1⟩
/-- a test, also as the rest of an and, an or -/
def TOk (X : Cx) (e : Expr) (t : TT) : Prop := PT X e t ∧ ∀ op vs pos, e = .BoolOp op vs pos → PW X e t
theorem tor_core {ia ib : T} {σ : L2.St} {H : Hp} {Q : Bool → Hp → Prop} (h : rdT (gOf X ca zc) U F B W c (.or ia ib) σ H Q) : rdT (gOf X ca zc) U F B W c ia σ H fun b H1 => if b = true then Q true H1 else rdT (gOf X ca zc) U F B W c ib σ H1 Q := by
  obtain ⟨env, Qd, R, rl, w, k, x⟩ := h
  refine rdT1 rl w x fun b H1 w1 s1 r1 x1 => ?_
  cases b with
  | true => exact k _ _ w1 s1
  | false =>
    have w1 : wpT c ib env Qd R := w1
    exact ⟨env, Qd, R, r1, w1, fun b H' q s => k b H' q (s1.trans s), x1⟩
theorem t_and {a b : Expr} {r : List Expr} {ia ib : T} {pos : Pos} (ha : PT X a (rdT (gOf X ca zc) U F B W c ia)) (hb : PW X (.BoolOp .And (b :: r) pos) (rdT (gOf X ca zc) U F B W c ib)) : PW X (.BoolOp .And (a :: b :: r) pos) (rdT (gOf X ca zc) U F B W c (.and ia ib)) :=
  ⟨fun wh pins s σ H Q I h => (pw_and ha hb).run wh pins s σ H Q I (tand_core h)⟩
theorem t_or {a b : Expr} {r : List Expr} {ia ib : T} {pos : Pos} (ha : PT X a (rdT (gOf X ca zc) U F B W c ia)) (hb : PW X (.BoolOp .Or (b :: r) pos) (rdT (gOf X ca zc) U F B W c ib)) : PW X (.BoolOp .Or (a :: b :: r) pos) (rdT (gOf X ca zc) U F B W c (.or ia ib)) :=
  ⟨fun wh pins s σ H Q I h => (pw_or ha hb).run wh pins s σ H Q I (tor_core h)⟩
end
end Rj

namespace Rj
open PySem PySem.Spec PyProof.Rows L2
section
variable [Nm] {X : Cx} {ca : Ca} {zc : List (Str × Addr)} {U : Addr → Prop} {F B : Hp} {W : WX} {c : Cl}
/-! ### arguments, displays -/
theorem RepA.ext {g : GZ} {env : List Sl} {σ : L2.St} {H1 H2 : Hp} {ds : List D} {inf : Inf} {vs : List V} (h : RepA g U F env σ H1 ds inf vs) (s : Same H1 H2) : RepA g U F env σ H2 ds inf vs := ⟨h.1, h.2.1, h.2.2.ext s⟩
theorem repA_cons {g : GZ} {env : List Sl} {σ : L2.St} {H H2 : Hp} {d : D} {i : Inf} {v : V} {ds : List D} {j : Inf} {vs : List V} (r : RelW g U F B env σ H) (z : RepI g U F env σ H H2 d i v) (h : RepA g U F env σ H2 ds j vs) : RepA g U F env σ H2 (d :: ds) (i.j j) (v :: vs) :=
  ⟨rfl, rfl, v, vs, rfl, (z.low r).mono fun a q => q.mono (fun m w => List.mem_append_left _ w) fun w => (Bool.and_eq_true_iff.mp w).1,
    h.2.2.mono fun a q => q.mono (fun m w => List.mem_append_right _ (List.mem_append_right _ w)) fun w => (Bool.and_eq_true_iff.mp w).2⟩
theorem repA_nil {g : GZ} {env : List Sl} {σ : L2.St} {H2 : Hp} : RepA g U F env σ H2 [] ci [] := ⟨rfl, rfl, rfl⟩
theorem a_nil : PA X [] (rdA (gOf X ca zc) U F B W c .nil) := PA.imp pa_nil fun σ H Q ⟨env, Qd, R, rl, w, k, x⟩ => k [] ci [] H w (Same.refl _) repA_nil
theorem a_cons {e : Expr} {es : List Expr} {ie : E} {ies : Es} (he : PE X e (rdE (gOf X ca zc) U F B W c ie)) (hes : PA X es (rdA (gOf X ca zc) U F B W c ies)) (hs : starEach (e :: es) X.env = (false, eval e X.env) :: starEach es X.env) : PA X (e :: es) (rdA (gOf X ca zc) U F B W c (.cons ie ies)) := by
  refine PA.imp (pa_cons he hes hs) fun σ H Q ⟨env, Qd, R, rl, w, k, x⟩ => ?_
  refine rdE1 rl w x fun d i v H1 w1 s1 z1 r1 x1 => ?_
  exact ⟨env, _, R, r1, w1, fun ds j vs H2 q s2 z2 => k _ _ _ _ q (s1.trans s2) (repA_cons rl (z1.ext s2) z2), x1⟩
theorem a1_one {e : Expr} {ie : E} (he : PE X e (rdE (gOf X ca zc) U F B W c ie)) (hs : starEach [e] X.env = [(false, eval e X.env)]) : PA X [e] (rdA1 (gOf X ca zc) U F B W c (.cons ie .nil)) := by
  refine PA.imp (pa_cons he pa_nil hs) fun σ H Q ⟨env, Qd, R, rl, w, k, x⟩ => ?_
  refine rdE1 rl w x fun d i v H1 w1 s1 z1 r1 x1 => ?_
  exact k _ _ _ _ w1 s1 (.inl ⟨d, v, rfl, rfl, z1⟩)
theorem a1_two {e e2 : Expr} {es : List Expr} {ie ie2 : E} {ies : Es} (he : PE X e (rdE (gOf X ca zc) U F B W c ie)) (he2 : PE X e2 (rdE (gOf X ca zc) U F B W c ie2)) (hes : PA X es (rdA (gOf X ca zc) U F B W c ies)) (hs : starEach (e :: e2 :: es) X.env = (false, eval e X.env) :: starEach (e2 :: es) X.env)
    (hs2 : starEach (e2 :: es) X.env = (false, eval e2 X.env) :: starEach es X.env) : PA X (e :: e2 :: es) (rdA1 (gOf X ca zc) U F B W c (.cons ie (.cons ie2 ies))) := by
  refine PA.imp (pa_cons he (pa_cons he2 hes hs2) hs) fun σ H Q ⟨env, Qd, R, rl, w, k, x⟩ => ?_
  refine rdE1 rl w x fun d i v H1 w1 s1 z1 r1 x1 => ?_
  refine rdE1 r1 w1 x1 fun d2 i2 v2 H2 w2 s2 z2 r2 x2 => ?_
  refine ⟨env, _, R, r2, w2, fun ds j vs H3 q s3 z3 => k _ _ _ _ q ((s1.trans s2).trans s3) (.inr ?_), x2⟩
  refine ⟨rfl, rfl, v, v2 :: vs, rfl, ((z1.ext (s2.trans s3)).low rl).mono fun a y => y.mono (fun m z => List.mem_append_left _ (List.mem_append_left _ z)) fun z => (Bool.and_eq_true_iff.mp (Bool.and_eq_true_iff.mp z).1).1, v2, vs, rfl, ((z2.ext s3).low r1).mono fun a y => y.mono (fun m z => List.mem_append_left _ (List.mem_append_right _ z)) fun z => (Bool.and_eq_true_iff.mp (Bool.and_eq_true_iff.mp z).1).2,
    z3.2.2.mono fun a y => y.mono (fun m z => List.mem_append_right _ (List.mem_append_right _ z)) fun z => (Bool.and_eq_true_iff.mp z).2⟩
theorem s_tup {es : List Expr} {ies : Es} {n : Nat} {pos : Pos} (h : PA X es (rdA (gOf X ca zc) U F B W c ies)) : PE X (.Tuple es n pos) (rdE (gOf X ca zc) U F B W c (.tup ies)) :=
  PE.imp (pe_tup h) fun σ H Q ⟨env, Qd, R, rl, w, k, x⟩ => ⟨env, _, R, rl, w, fun ds inf vs H1 q s z => ⟨by rw [z.2.2.len]; exact q.1, fun p hp => k _ _ _ _ q.2 (s.trans (same_new hp))
    (repI_h ⟨p, vs, rfl, upd_same, (z.2.2.mono fun a y => y.mono (fun m w => List.mem_append_right _ w) fun w => w).ext (same_new hp)⟩)⟩, x⟩
theorem s_lst {es : List Expr} {ies : Es} {pos : Pos} (h : PA X es (rdA (gOf X ca zc) U F B W c ies)) : PE X (.List es pos) (rdE (gOf X ca zc) U F B W c (.lst ies)) :=
  PE.imp (pe_lst h) fun σ H Q ⟨env, Qd, R, rl, w, k, x⟩ => ⟨env, _, R, rl, w, fun ds inf vs H1 q s z => ⟨by rw [z.2.2.len]; exact q.1, fun p hp => k _ _ _ _ q.2 (s.trans (same_new hp))
    (repI_new rl s hp (z.2.2.mono fun a y => y.mono (fun m w => List.mem_append_right _ w) fun w => w))⟩, x⟩
/-! ### items, slices -/
theorem ixN_map {α β : Type} (f : α → β) (xs : List α) (i : Int) : atI (xs.map f) i = (atI xs i).map f := by
  unfold atI
  rw [List.length_map]
  cases ixN xs.length i with
  | none => rfl
  | some j => simp
theorem RepL.at {g : GZ} {A : Addr → Prop} {H : Hp} {ds : List D} {vs : List V} (h : RepL g A H ds vs) {i : Int} {d : D} (e : atI ds i = some d) : ∃ v, atI vs i = some v ∧ Rep g A H d v := by
  unfold atI at e ⊢
  rw [h.len]
  cases q : ixN ds.length i with
  | none => rw [q] at e; cases e
  | some j => rw [q] at e; exact h.get e
theorem s_ix {a b : Expr} {ia ib : E} {pos : Pos} (hp : plainIx b = true) (ha : PE X a (rdE (gOf X ca zc) U F B W c ia)) (hb : PE X b (rdE (gOf X ca zc) U F B W c ib)) : PE X (.Subscript a b pos) (rdE (gOf X ca zc) U F B W c (.ix ia ib)) := by
  have hs : PlainIx b := by
    intro o i
    cases b <;> first | rfl | exact absurd hp Bool.false_ne_true
  refine s_two (ir := .ix ia ib) (K := fun x i y _ Q => ixD x y fun d => Q d (Inf.n d i)) ha hb (fun ta tb h1 h2 => pe_ix ix_seq h1 h2 hs) (fun _ _ _ => rfl) ?_
  intro env σ H H2 Qd Q dx dy ix iy x y r1 s zx zy w k
  cases dy <;> first | (exfalso; revert w; cases dx <;> exact id) | skip
  obtain rfl := zy.int
  cases dx <;> first | exact w.elim | skip
  · obtain rfl := zx.str
    obtain ⟨h1, ch, h2, h3⟩ := w
    exact .inr (.inr ⟨_, _, ch, rfl, rfl, h1, h2, k _ _ _ _ h3 (Same.refl _) (repI_n (rfl : _ = _))⟩)
  · obtain ⟨d, h1, h2⟩ := w
    obtain ⟨p, xs, rfl, hp, hl⟩ := zx.lst
    obtain ⟨v, h3, h4⟩ := hl.at h1
    exact .inl ⟨p, xs, _, v, rfl, rfl, .of hp, h3, k _ _ _ _ h2 (Same.refl _) (repI_n h4)⟩
  · obtain ⟨d, h1, h2⟩ := w
    obtain ⟨p, xs, rfl, hp, hl⟩ := zx.tup
    obtain ⟨v, h3, h4⟩ := hl.at h1
    exact .inr (.inl ⟨p, xs, _, v, rfl, rfl, .of hp, h3, k _ _ _ _ h2 (Same.refl _) (repI_n h4)⟩)
  · obtain ⟨n, h1, h2⟩ := w
    obtain ⟨p, rfl, hp⟩ := zx.scr
    exact .inl ⟨p, _, _, .int n, rfl, rfl, hp, by rw [ixN_map, h1]; rfl, k _ _ _ _ h2 (Same.refl _) (repI_n (rfl : _ = _))⟩
theorem o_none : PO X none (rdO (gOf X ca zc) U F B W c .none) := PO.imp po_none fun σ H Q ⟨env, Qd, R, rl, w, k, x⟩ => k none H w (Same.refl _)
theorem o_some {e : Expr} {ie : E} (h : PE X e (rdE (gOf X ca zc) U F B W c ie)) : PO X (some e) (rdO (gOf X ca zc) U F B W c (.some ie)) :=
  PO.imp (po_some h) fun σ H Q ⟨env, Qd, R, rl, w, k, x⟩ => rdE1 rl w x fun d i v H1 w1 s1 z1 r1 x1 => by
    cases d <;> first | exact w1.elim | skip
    exact ⟨_, z1.int, k _ _ w1 s1⟩
theorem cut_map {α β : Type} (f : α → β) (xs : List α) (lo hi : Option Int) : ((xs.map f).drop (HT.sIx (xs.map f).length 0 lo)).take (HT.sIx (xs.map f).length (xs.map f).length hi - HT.sIx (xs.map f).length 0 lo) = ((xs.drop (HT.sIx xs.length 0 lo)).take (HT.sIx xs.length xs.length hi - HT.sIx xs.length 0 lo)).map f := by
  rw [List.length_map, List.map_take, List.map_drop]
theorem cutD_full {ds : List D} {lo hi : Option Int} (h1 : HT.sIx ds.length 0 lo = 0) (h2 : HT.sIx ds.length ds.length hi = ds.length) : cutD ds lo hi = ds := by
  unfold cutD
  rw [h1, h2, Nat.sub_zero, List.drop_zero]
  exact List.take_length
theorem RepL.cut {g : GZ} {A : Addr → Prop} {H : Hp} {ds : List D} {vs : List V} (h : RepL g A H ds vs) (lo hi : Option Int) : RepL g A H (cutD ds lo hi) (cutV vs lo hi) := by
  unfold cutD cutV
  rw [h.len]
  exact RepL.take _ (RepL.drop _ h)
theorem s_sl {a : Expr} {l u : Option Expr} {ia : E} {il iu : Eo} {p2 pos : Pos} (ha : PE X a (rdE (gOf X ca zc) U F B W c ia)) (hl : PO X l (rdO (gOf X ca zc) U F B W c il)) (hu : PO X u (rdO (gOf X ca zc) U F B W c iu)) :
    PE X (.Subscript a (.Slice l u none p2) pos) (rdE (gOf X ca zc) U F B W c (.sl ia il iu)) := by
  refine PE.imp (pe_slice ((sl_list.or sl_tupA).or sl_str) ha hl hu) fun σ H Q ⟨env, Qd, R, rl, w, k, x⟩ => ?_
  refine rdE1 rl w x fun d i v H1 w1 s1 z1 r1 x1 => ?_
  refine ⟨env, _, R, r1, w1, fun lo H2 w2 s2 => ⟨env, _, R, r1.ext s2, w2, fun hi H3 w3 s3 => ?_, x1.more s2⟩, x1⟩
  have s := (s1.trans s2).trans s3
  have z := z1.ext (s2.trans s3)
  cases d <;> first | exact w3.elim | skip
  · obtain rfl := z.str
    exact .inr ⟨_, rfl, w3.1, k _ _ _ _ w3.2 s (repI_str _)⟩
  · obtain ⟨p, xs, rfl, hp, hl⟩ := z.lst
    refine .inl ?_
    exact .inl ⟨p, xs, rfl, .of hp, fun q hq => k _ _ _ _ w3 (s.trans (same_new hq)) (repI_new rl s hq (hl.cut lo hi))⟩
  · obtain ⟨p, xs, rfl, hp, hl⟩ := z.tup
    have e1 := hl.len
    refine .inl (.inr ⟨p, xs, rfl, .of hp, fun ⟨h1, h2⟩ => ?_, fun _ q hq => ?_⟩)
    · refine k _ _ _ _ w3 s (repI_h ⟨p, xs, rfl, hp, ?_⟩)
      rw [e1] at h1 h2
      rw [cutD_full h1 h2]
      exact hl
    · exact k _ _ _ _ w3 (s.trans (same_new hq)) (repI_h ⟨q, _, rfl, upd_same, (hl.cut lo hi).ext (same_new hq)⟩)
  · rename_i ns
    obtain ⟨p, rfl, hp⟩ := z.scr
    refine .inl (.inl ⟨p, _, rfl, hp, fun q hq => k _ _ _ _ w3 (s.trans (same_new hq)) (repI_new rl s hq ?_)⟩)
    have e : cutV (ns.map V.int) lo hi = (cutI ns lo hi).map V.int := cut_map V.int ns lo hi
    rw [e]
    exact RepL.ints
end
end Rj

/-! calls: a method of the receiver's class, whichever it is; a new instance; a class's __init__ called by its name -/
namespace Rj
open PySem PySem.Spec PyProof.Rows L2
section
variable {X : Cx} {pins : List (Addr × Obj)} {σ : L2.St} {H : Hp} {s : Shared} {E : XK} {Q : VK} {k : Nat} {f C : Addr} {fd : FuncData} {ps : List Str} {sp : Sp} {us : List Value} {vs : List V}
abbrev FnH (X : Cx) (k : Nat) (f : Addr) (fd : FuncData) (ps : List Str) (sp : Sp) : Prop :=
  FnOk X.prog X.w X.K X.mg X.base (L2.CX X.prog X.w) k f fd ps sp
abbrev FnHN (X : Cx) (k : Nat) (f : Addr) (fd : FuncData) (ps : List Str) (sp : Sp) : Prop :=
  FnOk X.prog X.w X.K X.mg X.base (L2N.CX X.prog X.w) k f fd ps sp
/-- the def at f runs -/
theorem go_fn (F : FnH X k f fd ps sp) (room : Room k X.A)
    (bd : L2.Binds X.K fd ps []) (out : PassesAt (L2.CX X.prog X.w) X σ E)
    (I : Inv X pins σ H s) (r : Vals vs us) (h : sp vs H Q E) :
    wpAny (model X.prog X.w) X.A (call (.ref f) us) (EP X pins σ Q) X.xe s :=
  run_fnS (E := fun _ => E) F room bd out I r h
/-- an instance is made: __init__ runs at the new one -/
theorem go_make (M : Mk X.K C f) (F : FnH X k f fd ps sp) (room : Room (k + 1) X.A)
    (bd : L2.Binds X.K fd ps []) (out : PassesAt (L2.CX X.prog X.w) X σ E)
    (I : Inv X pins σ H s) (r : Vals vs us)
    (h : ∀ x dx, H x = none → H dx = none → dx ≠ x →
      sp (.ref x :: vs) (L2.upd (L2.upd H dx (.own x)) x (.ins C dx [])) (fun v H2 => v = .non ∧ Q (.ref x) H2) E) :
    wpAny (model X.prog X.w) X.A (call (.ref C) us) (EP X pins σ Q) X.xe s := by
  -- the new instance's place, its dict's ahead of it
  generalize hx : s.heap.objs.size + 1 = x at *
  have h1 := h x s.heap.objs.size (by rw [← hx]; exact I.hok.fresh (Nat.le_succ _)) (I.hok.fresh (Nat.le_refl _))
    (by rw [← hx]; exact Nat.ne_of_lt (Nat.lt_succ_self _))
  have J := Inv.made (C := C) I
  rw [hx] at J
  have rv : Vals (V.ref x :: vs) (Value.ref x :: us) := .cons rfl r
  have len : (Value.ref x :: us).length = ps.length := by
    rw [← rv.length]
    exact F.len _ _ _ _ h1
  have b := bd _ (Value.ref x :: us) J.kIn (by rw [List.append_nil]; exact len)
  rw [List.append_nil] at b
  refine wpAny_call (make_map (f := f) I.kIn M.makes M.init (beq_iff_eq.mp M.fn) ?_)
  rw [hx]
  refine codeAny_mono (F.run _ X.stack _ _ ⟨Value.ref x :: us, []⟩ (Value.ref x :: us) _ _ E
    (room.make C us []) (J.env0.make C us []) b rv h1) fun res s2 q => ?_
  match res, q with
  | .error e, q => exact out pins _ _ e s2 J q
  | .ok (.ret u), q =>
    obtain ⟨v, H2, J2, ru, e, q2⟩ := J.after q
    subst e
    exact ⟨ru, .ref x, H2, J2, rfl, q2⟩
  | .ok .next, q => exact q.elim
  | .ok .brk, q => exact q.elim
  | .ok .cont, q => exact q.elim
end
section
variable {X : Cx} {o e : Expr} {es : List Expr} {x m : Str} {p pos apos : Pos} {ta : TE} {t : TA} {E : L2.St → XK} {C g : Addr} {k : Nat} {fd : FuncData} {ps : List Str} {sp : Sp}
/-- what a receiver of some class asks -/
def rMeth (X : Cx) (m : Str) (t : TA) (E : XK) (σ : L2.St) (Q : VK) (v : V) (H : Hp) : Prop :=
  ∃ a C dx fs f k fd ps sp, v = .ref a ∧ H a = some (.ins C dx fs) ∧ Cls X.K C ∧ Meth X.K C m f ∧ fs.lookup m = none ∧
    FnH X k f fd ps sp ∧ Room k X.A ∧ L2.Binds X.K fd ps [] ∧ t σ H fun vs H2 => sp (.ref a :: vs) H2 Q E
def tMethD (X : Cx) (m : Str) (ta : TE) (t : TA) (E : L2.St → XK) : TE := fun σ H Q => ta σ H (rMeth X m t (E σ) σ Q)
theorem pe_methD {pl : Sem Bool} (ho : PE X o ta) (ha : PA X (e :: es) t) (out : ∀ σ, PassesAt (L2.CX X.prog X.w) X σ (E σ))
    (st : starEach (e :: es) X.env = (false, eval e X.env) :: starEach es X.env)
    (no : (backTo pos (starEach es X.env)).any (·.1) = false)
    (ev : eval (.Call (.Attribute o m apos) (e :: es) [] pos) X.env = (do
      let r ← eval o X.env
      standAt apos.atName
      let (f, own) ← holding [r] (getMethod r m pl)
      callWith pos f own (backTo pos (starEach (e :: es) X.env)) (backToKw pos (keywordEach [] X.env))) := by rfl) :
    PE X (.Call (.Attribute o m apos) (e :: es) [] pos) (tMethD X m ta t E) :=
  ⟨fun pins s σ H Q I h => PySem.W.methodCall_KW (pl := pl) (thn (ho.run pins s σ H _ I h) fun u s1 ⟨v, H1, I1, rv, q⟩ => by
    obtain ⟨a, C, dx, fs, f, k, fd, ps, sp, rfl, ea, c, hm, l, F, room, bd, q⟩ := q
    cases (show u = Value.ref a from rv)
    refine getmeth_ok I1 ea c hm l (PySem.W.callWith_K (first := [.ref a]) (h₀ := X.base) I.ok.mod.kin hm.kp ?_ st no)
    exact thn (ha.run pos pins s1 σ H1 _ I1 q) fun us s2 ⟨vs, H2, I2, r, q2⟩ => ⟨I2.kIn, go_fn F room bd (out σ) I2 (.cons (show L2.RelV (.ref a) (.ref a) from rfl) r) q2⟩) ev⟩
theorem pe_methD0 {pl : Sem Bool} (ho : PE X o ta) (out : ∀ σ, PassesAt (L2.CX X.prog X.w) X σ (E σ))
    (ev : eval (.Call (.Attribute o m apos) [] [] pos) X.env = (do
      let r ← eval o X.env
      standAt apos.atName
      let (f, own) ← holding [r] (getMethod r m pl)
      callWith pos f own (backTo pos (starEach [] X.env)) (backToKw pos (keywordEach [] X.env))) := by rfl) :
    PE X (.Call (.Attribute o m apos) [] [] pos) (tMethD X m ta tNil E) :=
  ⟨fun pins s σ H Q I h => PySem.W.methodCall_KW (pl := pl) (thn (ho.run pins s σ H _ I h) fun u s1 ⟨v, H1, I1, rv, q⟩ => by
    obtain ⟨a, C, dx, fs, f, k, fd, ps, sp, rfl, ea, c, hm, l, F, room, bd, q⟩ := q
    cases (show u = Value.ref a from rv)
    refine getmeth_ok I1 ea c hm l ?_
    exact PySem.W.callWith_K0 (first := [.ref a]) I1.kIn hm.kp (go_fn (us := [.ref a]) F room bd (out σ) I1 (.cons (show L2.RelV (.ref a) (.ref a) from rfl) .nil) q)) ev⟩
/-- what a new instance asks -/
def rMake (X : Cx) (C : Addr) (E : XK) (Q : VK) (vs : List V) (H : Hp) : Prop :=
  ∃ f k fd ps sp, Mk X.K C f ∧ FnH X k f fd ps sp ∧ Room (k + 1) X.A ∧ L2.Binds X.K fd ps [] ∧
    ∀ x dx, H x = none → H dx = none → dx ≠ x →
      sp (.ref x :: vs) (L2.upd (L2.upd H dx (.own x)) x (.ins C dx [])) (fun v H2 => v = .non ∧ Q (.ref x) H2) E
def tMakeD (X : Cx) (C : Addr) (t : TA) (E : L2.St → XK) : TE := fun σ H Q => t σ H (rMake X C (E σ) Q)
theorem pe_makeD (kp : PySem.W.keepIn X.K (.ref C) = true) (hg : Gl X x) (hm : X.mg x = some (.ref C)) (ha : PA X (e :: es) t)
    (out : ∀ σ, PassesAt (L2.CX X.prog X.w) X σ (E σ)) (hd : (x == ("__debug__" : Str)) = false)
    (st : starEach (e :: es) X.env = (false, eval e X.env) :: starEach es X.env)
    (no : (backTo pos (starEach es X.env)).any (·.1) = false) : PE X (.Call (.Name x p) (e :: es) [] pos) (tMakeD X C t E) :=
  ⟨fun pins s σ H Q I h => wpAny_Call_Name_kw (ld_glob I hg hm (PySem.W.callWith_K (h₀ := X.base) I.ok.mod.kin kp
    (thn (ha.run pos pins s σ H _ I h) fun us s1 ⟨vs, H1, I1, r, f, k, fd, ps, sp, M, F, room, bd, q⟩ =>
      ⟨I1.kIn, go_make M F room bd (out σ) I1 r q⟩) st no) hd)⟩
theorem pe_makeD0 (kp : PySem.W.keepIn X.K (.ref C) = true) (hg : Gl X x) (hm : X.mg x = some (.ref C))
    (out : ∀ σ, PassesAt (L2.CX X.prog X.w) X σ (E σ)) (hd : (x == ("__debug__" : Str)) = false) :
    PE X (.Call (.Name x p) [] [] pos) (tMakeD X C tNil E) :=
  ⟨fun pins s σ H Q I h => wpAny_Call_Name_kw (ld_glob I hg hm (PySem.W.callWith_K0 I.kIn kp (by
    obtain ⟨f, k, fd, ps, sp, M, F, room, bd, q⟩ := h
    exact go_make (us := []) M F room bd (out σ) I .nil q)) hd)⟩
/-- C.m(e, ..), m a def of the class, read off it -/
theorem pe_supD {pl : Sem Bool} {mc : Value} (hg : Gl X x) (hm : X.mg x = some (.ref C)) (r : ClX.CRead X.K C mc) (cv : ClX.CVal X.K C mc m (.ref g) (.ref g))
    (kp : PySem.W.keepIn X.K (.ref g) = true) (F : FnH X k g fd ps sp) (room : Room k X.A) (bd : L2.Binds X.K fd ps []) (ha : PA X (e :: es) t)
    (out : ∀ σ, PassesAt (L2.CX X.prog X.w) X σ (E σ)) (hd : (x == ("__debug__" : Str)) = false)
    (st : starEach (e :: es) X.env = (false, eval e X.env) :: starEach es X.env)
    (no : (backTo pos (starEach es X.env)).any (·.1) = false)
    (ev : eval (.Call (.Attribute (.Name x p) m apos) (e :: es) [] pos) X.env = (do
      let r ← eval (.Name x p) X.env
      standAt apos.atName
      let (f, own) ← holding [r] (getMethod r m pl)
      callWith pos f own (backTo pos (starEach (e :: es) X.env)) (backToKw pos (keywordEach [] X.env))) := by rfl) :
    PE X (.Call (.Attribute (.Name x p) m apos) (e :: es) [] pos) (tCallS sp E t) :=
  ⟨fun pins s σ H Q I h => PySem.W.methodCall_KW (pl := pl) (ld_glob I hg hm (PySem.W.method_cls I.kIn r.ga (ClX.getcval_ok I r cv fun s1 I1 =>
    PySem.W.callWith_K (first := []) (h₀ := X.base) I.ok.mod.kin kp (thn (ha.run pos pins s1 σ H _ I1 h) fun us s2 ⟨vs, H2, I2, r2, q2⟩ =>
      ⟨I2.kIn, go_fn F room bd (out σ) I2 r2 q2⟩) st no)) hd) ev⟩
end
end Rj

namespace Rj
open PySem PySem.Spec PyProof.Rows L2
section
open RT
/-! ### list(reversed(list)) -/
section
variable {prog : Program} {w : World} {A : Around} {E : Value → Shared → Prop} {s : Shared}
theorem extend_rev {it l S : Addr} {items : Array Value} {res : Value} {c₀ : Nat} {R : Result → Shared → Prop} (hh : A.handled = none) (hit : s.heap.IsRevIter it l ((items.size : Int) - 1)) (hl : s.heap.IsList l items) (hne : l ≠ it) (hn : items.size ≤ sizeLine) (hSi : S ≠ it) (hSl : S ≠ l)
    (hS : s.heap.get? S = some { cls := .type "list", data := .seq #[] c₀ })
    (hR : ∀ (h' : Heap) (tk : Nat) (acc : Array Value) (c' : Nat), (∀ b o, b ≠ S → b ≠ it → s.heap.get? b = some o → h'.get? b = some o) → h'.get? S = some { cls := .type "list", dict := none, data := .seq acc c', slots := #[] } → ItemsOf (fun i v => items[items.size - 1 - i]? = some v) acc items.size → R (.ok (.ret res)) { s with heap := h', toks := tk }) :
    wpAny (model prog w) A.in1 (Builtin.List.listExtendWith (.ref S) (.ref it) res)
      (fun fin s' => match fin with | .done f => R (.ok f) s' | .again c' => c'.quiet = true ∧ codeAny (model prog w) A c' R s') (fun e s' => R (.error e) s') s := by
  have W := (Walks.listRev (prog := prog) (w := w) (A := A.in1) hh it l hne items).toS
  have hSf : S ∉ [it, l] := by simp only [List.mem_cons, List.not_mem_nil, or_false, not_or]; exact ⟨hSi, hSl⟩
  have hT : s.TypeIs (.ref it) "list_reverseiterator" := hit.typeIs
  have h1 : Builtin.List.listSameRef (.ref S) (.ref it) = false := by simp [Builtin.List.listSameRef, hSi]
  unfold Builtin.List.listExtendWith
  refine wpAny_bind (wpAny_typeOf hT ?_)
  rw [if_neg (by rw [h1]; decide)]
  refine wpAny_bind (wpAny_pyIter_revIter hit ?_)
  refine wpAny_bind (wpAny_holding ?_)
  unfold Builtin.List.listLengthHint
  refine wpAny_bind (wpAny_specialOf hT nolen_lri ?_)
  show wpAny _ A.in1 (specialOf (Value.ref it) (Str.ofString "__length_hint__") >>= _) _ _ _
  refine wpAny_bind (wpAny_specialOf hT hint_lri ?_)
  generalize hid : ("list_reverseiterator.__length_hint__" : String) = id0
  wp_delta
  rw [show splitId id0 = some ("list_reverseiterator", "__length_hint__") from by subst hid; decide +kernel]
  subst hid
  refine wpAny_bind (wpAny_isInstance (b := true) hT (by rw [isSubtype_type]; kernel_rfl) ?_)
  refine wpAny_pure ?_
  rw [if_neg (by decide)]
  have e0 : ((items.size : Nat) : Int) - 1 - ((0 : Nat) : Int) = (items.size : Int) - 1 := by omega
  refine wpAny_pure ⟨plainId_quiet F.plain_extend_loop _, codeAny_extend_loopS W hn _ hSf _ items.size 0 _ _ _ rfl (Nat.zero_le _) ⟨Nat.zero_le _, by rw [e0]; exact hit, hl⟩ hS (ItemsOf.nil _) fun s' acc' c' hm hS' hacc => ?_⟩
  rw [Moved.eq_with hm]
  refine hR s'.heap s'.toks acc' c' (fun b o hb hb2 e => hm.heap b o (fun hmem => ?_) e) hS' hacc
  rcases List.mem_cons.mp hmem with e' | hmem
  · exact hb e'
  · exact hb2 (List.mem_singleton.mp hmem)
theorem call_list_rev {it l : Addr} {items : Array Value} {Q : Value → Shared → Prop} (hh : A.handled = none) (hit : s.heap.IsRevIter it l ((items.size : Int) - 1)) (hl : s.heap.IsList l items) (hne : l ≠ it) (hn : items.size ≤ sizeLine)
    (hQ : ∀ (h' : Heap) (tk : Nat) (acc : Array Value) (c' : Nat), (∀ b o, b ≠ it → s.heap.get? b = some o → h'.get? b = some o) → h'.get? s.heap.objs.size = some { cls := .type "list", dict := none, data := .seq acc c', slots := #[] } → ItemsOf (fun i v => items[items.size - 1 - i]? = some v) acc items.size →
      Q (.ref s.heap.objs.size) { s with heap := h', toks := tk }) :
    wpAny (model prog w) A (call (.type "list") [.ref it]) Q E s := by
  obtain ⟨oi, hoi, _⟩ := id hit
  obtain ⟨ol, hol, _⟩ := id hl
  have hSi : s.heap.objs.size ≠ it := Nat.ne_of_gt (Heap.lt_size hoi)
  have hSl : s.heap.objs.size ≠ l := Nat.ne_of_gt (Heap.lt_size hol)
  refine callType_codes (Q₁ := fun obj s₁ => obj = .ref s.heap.objs.size ∧ s₁ = { s with heap := s.heap.push { cls := .type "list", data := .seq #[] } }) F.called_list (F.typeCall_list_1 _) F.entry_list_init
    (code_list_new _ ⟨rfl, rfl⟩) fun obj s₁ h₁ => ?_
  obtain ⟨rfl, rfl⟩ := h₁
  have hS : (s.heap.push { cls := .type "list", data := .seq #[] }).get? s.heap.objs.size = some { cls := .type "list", data := .seq #[] } := Heap.get?_push_size _ rfl
  refine ⟨⟨_, hS, rfl⟩, F.args_list_init_2 _ _, ?_⟩
  generalize hS0 : s.heap.objs.size = S at *
  show wpAny _ _ (do let old ← Builtin.List.listItems (.ref S); Builtin.List.listUpdate (.ref S) (fun _ => #[]); letGo old.toList.reverse; Builtin.List.listExtendWith (.ref S) (.ref it) .none) _ _ _
  refine wpAny_bind ?_
  unfold Builtin.List.listItems
  refine wpAny_bind (wpAny_seqItems hS rfl (wpAny_pure ?_))
  show wpAny _ _ (updateSeq S (fun _ => #[]) >>= fun _ => letGo (#[] : Array Value).toList.reverse >>= fun _ => Builtin.List.listExtendWith (.ref S) (.ref it) .none) _ _ _
  refine wpAny_bind (wpAny_updateSeq hS rfl ?_)
  have hS₂ := Heap.get?_update_self (Obj.mapSeq (fun _ => (#[] : Array Value))) hS rfl
  have oth : ∀ b o, b ≠ S → s.heap.get? b = some o → ((s.heap.push { cls := .type "list", data := .seq #[] }).update S (Obj.mapSeq (fun _ => (#[] : Array Value)))).get? b = some o :=
    fun b o hb e => (Heap.get?_update_other _ _ (Ne.symm hb)).trans (Heap.get?_push_of_some _ e)
  refine wpAny_bind (wpAny_letGo ?_)
  refine extend_rev (A := A.in1) hh (hit.at fun o e => oth _ o (Ne.symm hSi) e) ⟨ol, oth _ _ (Ne.symm hSl) hol, by assumption⟩ hne hn hSi hSl hS₂ fun h' tk acc' c' hk hS' hacc => ?_
  exact ⟨rfl, hQ h' tk acc' c' (fun b o hb e => hk b o (fun z => by have := Heap.lt_size e; rw [hS0, z] at this; exact Nat.lt_irrefl _ this) hb (oth b o (fun z => by have := Heap.lt_size e; rw [hS0, z] at this; exact Nat.lt_irrefl _ this) e)) hS' hacc⟩
end
section
variable {X : Cx}
/-- list(reversed(x)), x a list: a new list -/
def tLstRev (K : PySem.W.Frag) (te : TE) : TE := fun σ H Q => te σ H fun v H1 => ∃ (a : Addr) (xs : List V), v = .ref a ∧ SqL K H1 a xs ∧ ∀ q, H1 q = none → Q (.ref q) (L2.upd H1 q (.lst xs.reverse))
theorem pe_lstRev {e : Expr} {te : TE} {p p2 pos pos2 : Pos} (hc : X.calm = true) (hg : Gl X "list") (hm : X.mg "list" = none) (hg2 : Gl X "reversed") (hm2 : X.mg "reversed" = none) (he : PE X e te)
    (hs : starEach [e] X.env = (false, eval e X.env) :: starEach [] X.env := by rfl)
    (hs2 : starEach [.Call (.Name "reversed" p2) [e] [] pos2] X.env = (false, eval (.Call (.Name "reversed" p2) [e] [] pos2) X.env) :: starEach [] X.env := by rfl) :
    PE X (.Call (.Name "list" p) [.Call (.Name "reversed" p2) [e] [] pos2] [] pos) (tLstRev X.K te) := by
  refine ⟨fun pins s σ H Q I h => ?_⟩
  refine Call_ (ld_blt I hg hm boot_list (PyProof.Rows.callWith_type1 (args_cons (Call_ (ld_blt I hg2 hm2 PyProof.Rows.boot_reversed (PyProof.Rows.callWith_type1 (args_cons (thn (he.run pins s σ H _ I h) fun u s1 ⟨v, H1, I1, r1, q1⟩ => args_nil ?_) hs) hs rfl))) hs2) hs2 rfl))
  obtain ⟨a, xs, ev, hq, q⟩ := q1
  subst ev
  obtain rfl : u = Value.ref a := r1
  obtain ⟨its, rv, p', hz⟩ := I1.list hq
  refine call_reversed_list p'.isList (args_nil ?_)
  have k0 : ∀ b o, s1.heap.get? b = some o → (s1.heap.push (revObj a ((its.toArray.size : Int) - 1))).get? b = some o := fun b o e => Heap.get?_push_of_some _ e
  have I2 : Inv X pins σ H1 { s1 with heap := s1.heap.push (revObj a ((its.toArray.size : Int) - 1)) } := I1.kept (t' := s1.toks) k0
  obtain ⟨f0, f1, f2, f3, f4, f5⟩ := I1.fpOk (H' := H1) (b := s1.heap.objs.size) (Nat.le_refl _) (I1.hok.fresh (Nat.le_refl _))
  have hl := p'.isList
  obtain ⟨ol, hol, _⟩ := id hl
  have hne : a ≠ s1.heap.objs.size := Nat.ne_of_lt (Heap.lt_size hol)
  have hn : its.toArray.size ≤ sizeLine := by rw [List.size_toArray, ← rv.length]; exact hz
  have hsz : (s1.heap.push (revObj a ((its.toArray.size : Int) - 1))).objs.size = s1.heap.objs.size + 1 := Heap.size_push ..
  refine call_list_rev (s := { s1 with heap := s1.heap.push (revObj a ((its.toArray.size : Int) - 1)) }) (I1.ok.hd hc) ⟨_, Heap.get?_push_size _ rfl, rfl, rfl⟩ (hl.push _) hne hn fun h' tk acc c' hk hS' hi => ?_
  have hS' : h'.get? (s1.heap.objs.size + 1) = some { cls := .type "list", dict := none, data := .seq acc c', slots := #[] } := by rw [← hsz]; exact hS'
  show EP X pins σ Q (.ref (s1.heap.push (revObj a ((its.toArray.size : Int) - 1))).objs.size) _
  rw [hsz]
  refine ⟨.ref (s1.heap.objs.size + 1), L2.upd H1 (s1.heap.objs.size + 1) (.lst xs.reverse), ?_, rfl, q _ (I1.hok.fresh (Nat.le_succ _))⟩
  exact I1.laid (t' := tk) (fun c o e => hk c o (Nat.ne_of_lt (Heap.lt_size e)) (k0 c o e)) (Nat.le_succ _) (show ObjOk X.prog X.w _ h' _ (.lst xs.reverse) from ⟨by rw [List.length_reverse]; exact hz, acc.toList, c', vals_rev rv hi, by rw [Array.toArray_toList]; exact hS'⟩)
end
end
/-! ### list(range(n)) -/
section
variable {X : Cx}
def tLstRng (te : TE) : TE := fun σ H Q => te σ H fun v H1 => ∃ i : Int, v = .int i ∧ -(2 ^ 62) ≤ i ∧ i < 2 ^ 62 ∧ i ≤ 16777216 ∧ ∀ q, H1 q = none → Q (.ref q) (L2.upd H1 q (.lst ((List.range i.toNat).map fun k : Nat => V.int (k : Int))))
theorem vals_rng {acc : Array Value} {m : Nat} (h : ItemsOf (fun i v => ∃ t, v = Value.int (0 + (i : Nat) * 1) t) acc m) : Vals ((List.range m).map fun k : Nat => V.int (k : Int)) acc.toList := by
  obtain ⟨hs, hi⟩ := h
  subst hs
  obtain ⟨l⟩ := acc
  have key : ∀ (l : List Value) (b : Nat), (∀ (i : Nat) (v : Value), l[i]? = some v → ∃ t, v = Value.int (((b + i : Nat)) : Int) t) → Vals ((List.range' b l.length).map fun k : Nat => V.int (k : Int)) l := by
    intro l
    induction l with
    | nil => intro b _; exact .nil
    | cons v r ih =>
      intro b hv
      rw [List.length_cons, List.range'_succ, List.map_cons]
      refine .cons ?_ (ih (b + 1) fun i u hu => ?_)
      · obtain ⟨t, e⟩ := hv 0 v rfl
        exact ⟨t, e⟩
      · obtain ⟨t, e⟩ := hv (i + 1) u (by simpa using hu)
        exact ⟨t, by rw [e]; congr 2; omega⟩
  have := key l 0 fun i v hv => by
    have hlt : i < l.length := (List.getElem?_eq_some_iff.mp hv).1
    obtain ⟨t, e⟩ := hi i v (by simpa using hv)
    exact ⟨t, by rw [e]; congr 1; omega⟩
  rw [List.range_eq_range']
  exact this
theorem pe_lstRng {e : Expr} {te : TE} {p p2 pos pos2 : Pos} (hc : X.calm = true) (hg : Gl X "list") (hm : X.mg "list" = none) (hg2 : Gl X "range") (hm2 : X.mg "range" = none) (he : PE X e te)
    (ha1 : starEach [e] X.env = (false, eval e X.env) :: starEach [] X.env := by rfl)
    (ha2 : starEach [.Call (.Name "range" p2) [e] [] pos2] X.env = (false, eval (.Call (.Name "range" p2) [e] [] pos2) X.env) :: starEach [] X.env := by rfl) :
    PE X (.Call (.Name "list" p) [.Call (.Name "range" p2) [e] [] pos2] [] pos) (tLstRng te) := by
  refine ⟨fun pins s σ H Q I h => ?_⟩
  refine Call_ (ld_blt I hg hm boot_list (PyProof.Rows.callWith_type1 (args_cons (Call_ (ld_blt I hg2 hm2 boot_range (PyProof.Rows.callWith_type1 (args_cons (thn (he.run pins s σ H _ I h) fun u s1 ⟨v, H1, I1, r1, q1⟩ => args_nil ?_) ha1) ha1 rfl))) ha2) ha2 rfl))
  obtain ⟨i, ev, b1, b2, b3, q⟩ := q1
  subst ev
  obtain ⟨t, rfl⟩ := r1
  refine call_range_1 (args_nil ?_)
  obtain ⟨ho, eo⟩ : ∃ ho : Obj, ho = { cls := .type "range", data := .fields #[.int 0 s1.toks, .int i t, .int 1 (s1.toks + 1)] } := ⟨_, rfl⟩
  have k0 : ∀ b o, s1.heap.get? b = some o → (s1.heap.push ho).get? b = some o := fun b o z => Heap.get?_push_of_some _ z
  have I2 : Inv X pins σ H1 { s1 with heap := s1.heap.push ho, toks := s1.toks + 1 + 1 } := I1.kept k0
  have hz : (s1.heap.push ho).objs.size = s1.heap.objs.size + 1 := Heap.size_push ..
  have sz : Builtin.Range.rangeSize 0 i 1 = (i.toNat : Int) := by rw [rangeSize_one]; split <;> omega
  rw [← eo]
  refine call_list_range (s := { s1 with heap := s1.heap.push ho, toks := s1.toks + 1 + 1 }) (I1.ok.hd hc) (by rw [eo]; exact IsRange.new ..) (small_one (by decide) (by decide) b1 b2) sz (by omega) fun h' tk acc c' hk hS hi => ?_
  have hS : h'.get? (s1.heap.objs.size + 1) = some { cls := .type "list", dict := none, data := .seq acc c', slots := #[] } := by rw [← hz]; exact hS
  show EP X pins σ Q (.ref (s1.heap.push ho).objs.size) _
  rw [hz]
  refine ⟨.ref (s1.heap.objs.size + 1), L2.upd H1 (s1.heap.objs.size + 1) (.lst ((List.range i.toNat).map fun k : Nat => V.int (k : Int))), ?_, rfl, q _ (I1.hok.fresh (Nat.le_succ _))⟩
  exact I1.laid (t' := tk) (fun c o z => hk c o (k0 c o z)) (Nat.le_succ _) (show ObjOk X.prog X.w _ h' _ (.lst _) from ⟨by rw [List.length_map, List.length_range]; show _ ≤ (16777216 : Nat); omega, acc.toList, c', vals_rng hi, by rw [Array.toArray_toList]; exact hS⟩)
end
/-! ### sorted(set(xs)), xs a list of ints -/
/-- the set as it is made, empty -/
abbrev set0 (w : World) : Obj := { cls := .type "set", dict := none, data := .set #[] 0 (.fresh 0 0 (!w.params.followText "set-order")) }
section
variable {P : Program} {w : World} {A : Around} {E : Value → Shared → Prop} {s : Shared}
/-- its __init__ puts the list's ints in -/
theorem set_fill {l S : Addr} {items : Array Value} {ns : List Int} {R : Result → Shared → Prop} (hh : A.handled = none) (hS : s.heap.get? S = some (set0 w)) (hl : s.heap.IsList l items) (hSl : S ≠ l) (hit : IntsAre items.toList ns) (hb : ns.length + 1 < scanBound)
    (h : ∀ (h' : Heap) (tk c : Nat), SetR w h' S (fun j => decide (j ∈ ns)) c → c ≤ ns.length → (∀ b o, b ≠ S → s.heap.get? b = some o → h'.get? b = some o) → R (.ok (.ret .none)) { s with heap := h', toks := tk }) :
    wpAny (model P w) A.in1 (pyIter (.ref l)) (fun it s₂ => codeAny (model P w) A.in1 (.builtin "set.update.loop" ⟨[.ref S, it], []⟩) R s₂) (fun _ _ => False) s := by
  have hz : items.size = ns.length := by
    have q := hit.length
    rwa [Array.length_toList] at q
  obtain ⟨ol, hol, _⟩ := id hl
  have lS := Heap.lt_size hS
  have ll := Heap.lt_size hol
  refine wpAny_pyIter_list hl ?_
  have hval : ∀ (i : Nat) (v : Value), items[i]? = some v → ∃ k t, ns[i]? = some k ∧ v = .int k t := fun i v hv => by
    have hi : i < ns.length := by rw [← hz]; exact (Array.getElem?_eq_some_iff.mp hv).1
    obtain ⟨t, e⟩ := hit.int_at i v (by rw [Array.getElem?_toList]; exact hv)
    refine ⟨ns[i], t, List.getElem?_eq_getElem hi, ?_⟩
    rw [e, List.getD_eq_getElem?_getD, List.getElem?_eq_getElem hi]
    rfl
  have hh2 : A.in1.handled = none := hh
  have W := (Walks.list (prog := P) (w := w) (A := A.in1.in1) hh2 s.heap.objs.size l (Nat.ne_of_lt ll) items).toS
  refine set_update_ints (A := A.in1) W S ?_ ns hz hb hval items.size 0 _ (by omega) (Nat.zero_le _) ⟨⟨_, Heap.get?_push_size _ rfl, rfl, rfl⟩, hl.push _⟩ ⟨0, Nat.le_refl _, setR_new_at (Heap.get?_push_of_some _ hS)⟩ fun s' c hm hc hR => ?_
  · simp only [List.mem_cons, List.not_mem_nil, or_false, not_or]
    exact ⟨Nat.ne_of_lt lS, hSl⟩
  · rw [Moved.eq_with hm]
    refine h s'.heap s'.toks c hR (by omega) fun b o hbS e => hm.heap b o (fun z => ?_) (Heap.get?_push_of_some _ e)
    have lb := Heap.lt_size e
    simp only [List.mem_cons, List.not_mem_nil, or_false] at z
    rcases z with z | z
    · exact hbS z
    · rw [z] at lb
      exact Nat.lt_irrefl _ lb
/-- set(xs) -/
theorem call_set_ints {l : Addr} {items : Array Value} {ns : List Int} {Q : Value → Shared → Prop} (hh : A.handled = none) (hl : s.heap.IsList l items) (hit : IntsAre items.toList ns) (hb : ns.length + 1 < scanBound)
    (h : ∀ (h' : Heap) (tk c : Nat), SetR w h' s.heap.objs.size (fun j => decide (j ∈ ns)) c → c ≤ ns.length → (∀ b o, s.heap.get? b = some o → h'.get? b = some o) → Q (.ref s.heap.objs.size) { s with heap := h', toks := tk }) :
    wpAny (model P w) A (call (.type "set") [.ref l]) Q E s := by
  obtain ⟨ol, hol, hcl, nl, hdl⟩ := id hl
  have hlS : l < s.heap.objs.size := Heap.lt_size hol
  have hne : s.heap.objs.size ≠ l := Nat.ne_of_gt hlS
  have hS : (s.heap.push (set0 w)).get? s.heap.objs.size = some (set0 w) := Heap.get?_push_size _ rfl
  have hT : ({ s with heap := s.heap.push (set0 w) } : Shared).TypeIs (.ref s.heap.objs.size) "set" := ⟨_, hS, rfl⟩
  have hl1 : (s.heap.push (set0 w)).IsList l items := hl.push _
  have hTl : ({ s with heap := s.heap.push (set0 w) } : Shared).TypeIs (.ref l) "list" := by
    obtain ⟨o, ho, hc, _⟩ := id hl1
    exact ⟨o, ho, hc⟩
  obtain ⟨c0, tl, hmro⟩ := F.called_set.mro
  have hmade := F.called_set.made
  have hsub := F.called_set.sub
  have h1 := F.called_set.notType
  have h2 := F.called_set.canCreate
  have hct := F.typeCall_set_1 (.ref l)
  have hli := F.called_set.init.lookup
  have hbi := F.called_set.init.bind (.ref s.heap.objs.size)
  refine wpAny_call (codeAny_of_tree ?_)
  show wpAny _ _ (callAny (.type "set") _) _ _ _
  refine wpAny_pure ⟨Code.quiet_builtin _ (by decide +kernel), codeAny_builtin F.entry_type_call ?_⟩
  rw [Around.under_plain (weight_type_call_type "set" [.ref l] []) rfl]
  repeat (any_goals (first | assumption | wp_step))
  refine codeAny_mono (code_set_led1 (.ref l) (E := E) (Q₁ := fun v z => v = .ref s.heap.objs.size ∧ z = { s with heap := s.heap.push (set0 w) }) ⟨rfl, rfl⟩) fun r s₁ hr => ?_
  cases r with
  | error e => exact hr
  | ok fl =>
    cases fl with
    | ret obj =>
      obtain ⟨rfl, rfl⟩ := hr
      repeat (any_goals (first | assumption | wp_step))
      refine codeAny_mono (codeAny_call_builtin (R := wants (fun v z => v = .none ∧ Q (.ref s.heap.objs.size) z) E) F.called_set.init.plain F.entry_set_init (check_set_init_1 hT ?_)) fun r₂ s₂ hr₂ => ?_
      · have hsls := F.sub_list_set
        have hslf := F.sub_list_frozenset
        have hnd : (Value.type "list" == Value.type "dict") = false := by decide
        have hol1 := Heap.get?_push_of_some (set0 w) hol
        obtain ⟨ocls, odict, odata, oslots⟩ := ol
        simp only at hcl hdl
        subst hcl
        subst hdl
        unfold Builtin.«set.__init__» noKeywords Builtin.Frozenset.updateFrom
        generalize hPI : pyIter = PI
        wp_walk
        subst hPI
        refine wpAny_mono (set_fill (A := A.in1) (R := fun r z => match r with | .ok (.ret _) => Q (.ref s.heap.objs.size) z | .ok _ => False | .error _ => False) (by simpa using hh) hS hl1 hne hit hb ?hfin) (fun it s₂ hc => ?hrun) (fun _ _ z => False.elim z)
        case hrun =>
          refine wpAny_bind (wpAny_runValue (codeAny_mono hc fun r z hz => ?_))
          cases r with
          | error e => exact hz.elim
          | ok fl =>
            cases fl with
            | ret v => exact wpAny_pure (wpAny_pure ⟨rfl, hz⟩)
            | next => exact hz.elim
            | brk => exact hz.elim
            | cont => exact hz.elim
        case hfin =>
          intro h' tk c R1 hc k
          exact h h' tk c R1 hc fun b o e => k b o (Nat.ne_of_lt (Heap.lt_size e)) (Heap.get?_push_of_some _ e)
      · cases r₂ with
        | error e => exact hr₂
        | ok fl₂ =>
          cases fl₂ with
          | ret r =>
            obtain ⟨rfl, hq⟩ := hr₂
            repeat (any_goals (first | assumption | wp_step))
          | _ => exact hr₂.elim
    | _ => exact hr.elim
end
section
variable {X : Cx}
/-- sorted(set(xs)), fewer than 64 members -/
def tSortSet (K : PySem.W.Frag) (ta : TE) : TE := fun σ H Q => ta σ H fun x H1 => ∃ (l : Addr) (ns B : List Int), x = .ref l ∧ SqL K H1 l (ns.map V.int) ∧ ns.length ≤ 4000 ∧ B.length < 64 ∧ (∀ k ∈ ns, k ∈ B) ∧
  ∀ (ms : List Int) (p : Addr), ms.Pairwise (· < ·) → (∀ k, k ∈ ms ↔ k ∈ ns) → H1 p = none → Q (.ref p) (L2.upd H1 p (.lst (ms.map V.int)))
theorem nodup_len : ∀ {as B : List Int}, as.Nodup → (∀ k ∈ as, k ∈ B) → as.length ≤ B.length
  | [], _, _, _ => Nat.zero_le _
  | a :: r, B, h1, h2 => by
    obtain ⟨h3, h4⟩ := List.nodup_cons.mp h1
    have hm := h2 a List.mem_cons_self
    have ih := nodup_len (B := B.erase a) h4 fun k hk => (List.mem_erase_of_ne (fun e => h3 (by rw [← e]; exact hk))).mpr (h2 k (List.mem_cons_of_mem _ hk))
    have e := List.length_erase_of_mem hm
    have := List.length_pos_of_mem hm
    rw [List.length_cons]
    omega
theorem pe_sortSet {a : Expr} {ta : TE} {p p2 q pos : Pos} (hc : X.calm = true) (hg : Gl X "sorted") (hm : X.mg "sorted" = none) (hg2 : Gl X "set") (hm2 : X.mg "set" = none) (ha : PE X a ta)
    (na : starEach [a] X.env = (false, eval a X.env) :: starEach [] X.env := by rfl) : PE X (.Call (.Name "sorted" p) [.Call (.Name "set" p2) [a] [] q] [] pos) (tSortSet X.K ta) := by
  refine ⟨fun pins s σ H Q I h => ?_⟩
  refine Call_ (ld_blt I hg hm (by decide +kernel : bootBuiltins "sorted" = some (.builtin "sorted")) ?_)
  refine PyProof.Rows.callWith_builtin1 (PyProof.Rows.args_cons ?_ rfl) rfl rfl
  refine Call_ (ld_blt I hg2 hm2 boot_set ?_)
  refine PyProof.Rows.callWith_type1 (PyProof.Rows.args_cons (thn (ha.run pins s σ H _ I h) fun v s1 ⟨x, H1, I1, r1, q1⟩ => PyProof.Rows.args_nil ?_) na) na rfl
  obtain ⟨l, ns, B, rfl, hq, hl, hB, hBm, q1⟩ := q1
  cases r1
  obtain ⟨its, r, pl, hz⟩ := I1.list hq
  refine call_set_ints (I1.ok.hd hc) pl.isList (ns := ns) (by simpa using RZ.intsAre_vals r) (by unfold scanBound; omega) fun h' tk c R hcn hk => ?_
  refine PyProof.Rows.args_nil ?_
  have I2 : Inv X pins σ H1 { s1 with heap := h', toks := tk } := I1.kept hk
  have h64 : c < 64 := by
    obtain ⟨o, es, ep, t, _, _, _, _, nd, mem, _, _, hn, _⟩ := R
    have h1 := nodup_len (B := B) nd fun k hk => hBm k (by simpa using (mem k).mpr hk)
    rw [List.length_map, Array.length_toList, hn] at h1
    omega
  generalize hs2 : ({ s1 with heap := h', toks := tk } : Shared) = s2 at I2 ⊢
  have R : SetR X.w s2.heap s1.heap.objs.size (fun j => decide (j ∈ ns)) c := by rw [← hs2]; exact R
  refine sorted_set R (I2.ok.hd hc) h64 fun s' p out c' ms k g o hp hg hi hs hmm hl => ?_
  have hlen : (ms.map V.int).length ≤ sizeLine := by rw [List.length_map, hl, sizeLine_eq]; omega
  have hn : H1 p = none := I2.hok.fresh hp
  have J : Inv X pins σ (L2.upd H1 p (.lst (ms.map V.int))) { s2 with heap := s'.heap, gens := s'.gens, drawn := s'.drawn, toks := s'.toks } :=
    I2.call (ch := []) (Un.laid k hp hn) (I2.hok.laid k hp ⟨hlen, out.toList, c', vals_of_ints hi, hg⟩) (by rw [g]; exact I2.bare) (fun _ z => nomatch z)
  have e : s' = { s2 with heap := s'.heap, gens := s'.gens, drawn := s'.drawn, toks := s'.toks } := by
    cases s'
    cases s2
    cases o
    rfl
  rw [e]
  exact ⟨.ref p, _, J, rfl, q1 ms p hs (fun k => by rw [hmm]; simp) hn⟩
end
end Rj

namespace Rj
open PySem PySem.Spec PyProof.Rows L2
/-! ### zip of a list and a tuple -/
/-- two sequences' iterators, of any kinds: how they turn -/
structure Tn (it l : Addr) (St : Heap → Nat → Prop) (Sq : Heap → Prop) (xs : Array Value) : Prop where
  st : ∀ (g g' : Heap) (k : Nat), St g k → (∀ o, g.get? it = some o → g'.get? it = some o) → St g' k
  sq : ∀ (g g' : Heap), Sq g → (∀ o, g.get? l = some o → g'.get? l = some o) → Sq g'
  lt : ∀ (g : Heap) (k : Nat), St g k → it < g.objs.size
  one : ∀ {prog : Program} {w : World} {A : Around} {s : Shared} {k : Nat} {x : Value} {Q E : Value → Shared → Prop}, St s.heap k → Sq s.heap → xs[k]? = some x → (∀ g', St g' (k + 1) → Heap.SameBut it s.heap g' → Q x { s with heap := g' }) → wpAny (model prog w) A (Builtin.SmallTypes.nextOf (.ref it)) Q E s
  stop : ∀ {prog : Program} {w : World} {A : Around} {s : Shared} {k : Nat} {Q E : Value → Shared → Prop}, A.handled = none → St s.heap k → Sq s.heap → xs[k]? = none → (∀ g' e, Heap.ExtBut it s.heap g' → (∃ o, g'.get? e = some o ∧ o.cls = .type "StopIteration") → E (.ref e) { s with heap := g' }) → wpAny (model prog w) A (Builtin.SmallTypes.nextOf (.ref it)) Q E s
theorem tn_list (it l : Addr) (xs : Array Value) : Tn it l (fun g k => g.IsListIter it l k) (fun g => g.IsList l xs) xs where
  st := fun g g' k h q => h.at q
  sq := fun g g' h q => by obtain ⟨o, a, r⟩ := h; exact ⟨o, q _ a, r⟩
  lt := fun g k h => by obtain ⟨_, e, _⟩ := h; exact Heap.lt_size e
  one := fun a b c q => wpAny_nextOf_list_item a b c q
  stop := fun a b c d q => wpAny_nextOf_list_end a b c d q
theorem tn_tuple (it l : Addr) (xs : Array Value) : Tn it l (fun g k => g.IsTupleIter it l k) (fun g => g.IsTuple l xs) xs where
  st := fun g g' k h q => h.at q
  sq := fun g g' h q => by obtain ⟨o, a, r⟩ := h; exact ⟨o, q _ a, r⟩
  lt := fun g k h => by obtain ⟨_, e, _⟩ := h; exact Heap.lt_size e
  one := fun a b c q => RZ.nextOf_tuple_item a b c q
  stop := fun a b c d q => RZ.nextOf_tuple_end a b c d q
section
variable {prog : Program} {w : World} {A : Around} {E : Value → Shared → Prop} {s : Shared} {z TI TO i1 i2 l1 l2 : Addr} {S1 S2 : Heap → Nat → Prop} {L1 L2 : Heap → Prop} {xs ys : Array Value}
theorem zg_item (Z : ZipApart z TI TO i1 i2 l1 l2) (t1 : Tn i1 l1 S1 L1 xs) (t2 : Tn i2 l2 S2 L2 ys) {k1 k2 : Nat} {x y a b : Value} {Q : Value → Shared → Prop}
    (fz : IsZip s.heap z TI TO .none) (fI : IsPair s.heap TI (.ref i1) (.ref i2)) (fO : IsPair s.heap TO a b) (u1 : S1 s.heap k1) (u2 : S2 s.heap k2) (v1 : L1 s.heap) (v2 : L2 s.heap) (gx : xs[k1]? = some x) (gy : ys[k2]? = some y)
    (fin : ∀ g', IsZip g' z TI TO (rawInt s.heap.objs.size) → IsPair g' TO x y → S1 g' (k1 + 1) → S2 g' (k2 + 1) → IsPair g' s.heap.objs.size x y → g'.objs.size = s.heap.objs.size + 1 → (∀ c o, c ≠ z → c ≠ TO → c ≠ i1 → c ≠ i2 → s.heap.get? c = some o → g'.get? c = some o) → Q (.ref s.heap.objs.size) { s with heap := g' }) :
    wpAny (model prog w) A (Builtin.«zip.__next__» ⟨[.ref z], []⟩) (fun r s' => ∃ v, r = .done (.ret v) ∧ Q v s') E s := by
  show wpAny _ _ (field (.ref z) 2 >>= _) _ _ s
  refine wpAny_bind (wpAny_field fz rfl (x := .bool false) rfl ?_); show wpAny _ _ (field (.ref z) 3 >>= _) _ _ s
  refine wpAny_bind (wpAny_field fz rfl (x := .ref TI) rfl (wpAny_bind (wpAny_seqItems fI rfl ?_)))
  show wpAny _ _ (Builtin.SmallTypes.ownedTupleIsFree (.ref z) >>= _) _ _ s; refine wpAny_bind ?_; unfold Builtin.SmallTypes.ownedTupleIsFree
  refine wpAny_bind (wpAny_field fz rfl (x := .none) rfl (wpAny_pure ?_)); simp only [if_true]
  refine wpAny_bind (wpAny_rule (wpAny_bind (wpAny_field fz rfl (x := .ref TO) rfl (wpAny_bind (wpAny_setField_rec fz (by simp) fun g1 fz1 q1 => ?_)))))
  replace fz1 : IsZip g1 z TI TO .ellipsis := fz1
  have e1 := q1.extBut
  refine wpAny_bind ?_; simp only [List.zipIdx_cons, List.zipIdx_nil, List.forIn_cons, List.forIn_nil]
  refine wpAny_bind (wpAny_bind (wpAny_onRaise ?_)); show wpAny _ _ (Builtin.SmallTypes.nextOf (.ref i1) >>= _) _ _ { s with heap := g1 }
  refine wpAny_bind (t1.one (s := { s with heap := g1 }) (t1.st _ _ _ u1 fun o => e1 _ _ Z.i1z) (t1.sq _ _ v1 fun o => e1 _ _ Z.l1z) gx fun g2 u1' q2 => wpAny_pure ?_)
  have e2 := q2.extBut
  have fO2 : IsPair g2 TO a b := e2 _ _ Z.TOi1 (e1 _ _ Z.TOz fO)
  refine wpAny_bind (wpAny_seqItems fO2 rfl (wpAny_bind (wpAny_updateSeq_pair fO2 fun g3 fO3 q3 => ?_)))
  replace fO3 : IsPair g3 TO x b := fO3
  have e3 := q3.extBut
  refine wpAny_bind (wpAny_letGo (wpAny_pure (wpAny_bind (wpAny_bind (wpAny_onRaise ?_))))); show wpAny _ _ (Builtin.SmallTypes.nextOf (.ref i2) >>= _) _ _ { s with heap := g3 }
  refine wpAny_bind (t2.one (s := { s with heap := g3 }) (t2.st _ _ _ u2 fun o q => e3 _ _ Z.TOi2.symm (e2 _ _ Z.i12.symm (e1 _ _ Z.i2z q))) (t2.sq _ _ v2 fun o q => e3 _ _ Z.l2TO (e2 _ _ Z.l2i1 (e1 _ _ Z.l2z q))) gy fun g4 u2' q4 => wpAny_pure ?_)
  have e4 := q4.extBut
  have fO4 : IsPair g4 TO x b := e4 _ _ Z.TOi2 fO3
  refine wpAny_bind (wpAny_seqItems fO4 rfl (wpAny_bind (wpAny_updateSeq_pair fO4 fun g5 fO5 q5 => ?_)))
  replace fO5 : IsPair g5 TO x y := fO5
  have e5 := q5.extBut
  refine wpAny_bind (wpAny_letGo (wpAny_pure (wpAny_pure (wpAny_bind (wpAny_seqItems fO5 rfl (wpAny_bind (wpAny_newTuple ?_)))))))
  have sz : g5.objs.size = s.heap.objs.size := by rw [q5.1, q4.1, q3.1, q2.1, q1.1]
  have fz5 : IsZip g5 z TI TO .ellipsis := e5 _ _ Z.TOz.symm (e4 _ _ Z.i2z.symm (e3 _ _ Z.TOz.symm (e2 _ _ Z.i1z.symm fz1)))
  have all5 : ∀ c o, c ≠ z → c ≠ TO → c ≠ i1 → c ≠ i2 → s.heap.get? c = some o → g5.get? c = some o := fun c o n1 n2 n3 n4 q => e5 _ _ n2 (e4 _ _ n4 (e3 _ _ n2 (e2 _ _ n3 (e1 _ _ n1 q))))
  have u15 : S1 g5 (k1 + 1) := t1.st _ _ _ u1' fun o q => e5 _ _ Z.TOi1.symm (e4 _ _ Z.i12 (e3 _ _ Z.TOi1.symm q))
  have u25 : S2 g5 (k2 + 1) := t2.st _ _ _ u2' fun o q => e5 _ _ Z.TOi2.symm q
  have zlt : z < g5.objs.size := Heap.lt_size fz5
  show wpAny _ _ (Builtin.SmallTypes.ownedTupleHandOut (.ref z) (.ref g5.objs.size) >>= _) _ _ _; refine wpAny_bind ?_; unfold Builtin.SmallTypes.ownedTupleHandOut
  have fz6 : IsZip (g5.push { cls := .type "tuple", data := .seq #[x, y] }) z TI TO .ellipsis := Heap.get?_push_of_some _ fz5
  refine wpAny_bind (wpAny_setField_rec fz6 (by simp) fun g7 fz7 q7 => ?_)
  replace fz7 : IsZip g7 z TI TO (rawInt g5.objs.size) := fz7
  refine wpAny_setField_rec fz7 (by simp) fun g8 fz8 q8 => ?_
  replace fz8 : IsZip g8 z TI TO (rawInt g5.objs.size) := fz8
  have up : ∀ c o, c ≠ z → g5.get? c = some o → g8.get? c = some o := fun c o n1 q => q8.extBut _ _ n1 (q7.extBut _ _ n1 (Heap.get?_push_of_some _ q))
  have nw : IsPair g8 g5.objs.size x y := q8.extBut _ _ (Nat.ne_of_gt zlt) (q7.extBut _ _ (Nat.ne_of_gt zlt) (Heap.get?_push_size _ rfl))
  have sz8 : g8.objs.size = g5.objs.size + 1 := by rw [q8.1, q7.1, Heap.size_push]
  rw [sz] at fz8 nw sz8
  refine wpAny_pure ⟨_, rfl, ?_⟩; show Q (.ref g5.objs.size) _; rw [sz]
  exact fin g8 fz8 (up _ _ Z.TOz fO5) (t1.st _ _ _ u15 fun o => up _ o Z.i1z) (t2.st _ _ _ u25 fun o => up _ o Z.i2z) nw sz8 fun c o n1 n2 n3 n4 q => up c o n1 (all5 c o n1 n2 n3 n4 q)
theorem zg_stop (Z : ZipApart z TI TO i1 i2 l1 l2) (t1 : Tn i1 l1 S1 L1 xs) (t2 : Tn i2 l2 S2 L2 ys) {k1 k2 : Nat} {a b : Value} {Q : Fin → Shared → Prop} (hh : A.handled = none)
    (fz : IsZip s.heap z TI TO .none) (fI : IsPair s.heap TI (.ref i1) (.ref i2)) (fO : IsPair s.heap TO a b) (u1 : S1 s.heap k1) (u2 : S2 s.heap k2) (v1 : L1 s.heap) (v2 : L2 s.heap) (gn : xs[k1]? = none ∨ ys[k2]? = none)
    (fin : ∀ g' e, (∀ c o, c ≠ z → c ≠ TO → c ≠ i1 → c ≠ i2 → s.heap.get? c = some o → g'.get? c = some o) → (∃ o, g'.get? e = some o ∧ o.cls = .type "StopIteration") → E (.ref e) { s with heap := g' }) :
    wpAny (model prog w) A (Builtin.«zip.__next__» ⟨[.ref z], []⟩) Q E s := by
  show wpAny _ _ (field (.ref z) 2 >>= _) _ _ s
  refine wpAny_bind (wpAny_field fz rfl (x := .bool false) rfl ?_); show wpAny _ _ (field (.ref z) 3 >>= _) _ _ s
  refine wpAny_bind (wpAny_field fz rfl (x := .ref TI) rfl (wpAny_bind (wpAny_seqItems fI rfl ?_)))
  show wpAny _ _ (Builtin.SmallTypes.ownedTupleIsFree (.ref z) >>= _) _ _ s; refine wpAny_bind ?_; unfold Builtin.SmallTypes.ownedTupleIsFree
  refine wpAny_bind (wpAny_field fz rfl (x := .none) rfl (wpAny_pure ?_)); simp only [if_true]
  refine wpAny_bind (wpAny_rule (wpAny_bind (wpAny_field fz rfl (x := .ref TO) rfl (wpAny_bind (wpAny_setField_rec fz (by simp) fun g1 fz1 q1 => ?_)))))
  replace fz1 : IsZip g1 z TI TO .ellipsis := fz1
  have e1 := q1.extBut
  refine wpAny_bind ?_; simp only [List.zipIdx_cons, List.zipIdx_nil, List.forIn_cons, List.forIn_nil]
  refine wpAny_bind (wpAny_bind (wpAny_onRaise ?_)); show wpAny _ _ (Builtin.SmallTypes.nextOf (.ref i1) >>= _) _ _ { s with heap := g1 }
  cases gx : xs[k1]? with
  | none =>
    refine wpAny_bind (t1.stop (s := { s with heap := g1 }) hh (t1.st _ _ _ u1 fun o => e1 _ _ Z.i1z) (t1.sq _ _ v1 fun o => e1 _ _ Z.l1z) gx fun g2 e q2 ⟨oe, he, ce⟩ => ?_)
    have fz2 : IsZip g2 z TI TO .ellipsis := q2 _ _ Z.i1z.symm fz1
    have ne : e ≠ z := fun q => by subst q; rw [fz2] at he; cases he; simp at ce
    exact wpAny_setField_rec fz2 (by simp) fun g3 _ q3 => fin g3 e (fun c o n1 _ n3 _ q => q3.extBut _ _ n1 (q2 _ _ n3 (e1 _ _ n1 q))) ⟨oe, q3.extBut _ _ ne he, ce⟩
  | some x =>
    have gy : ys[k2]? = none := gn.elim (fun q => by rw [gx] at q; cases q) id
    refine wpAny_bind (t1.one (s := { s with heap := g1 }) (t1.st _ _ _ u1 fun o => e1 _ _ Z.i1z) (t1.sq _ _ v1 fun o => e1 _ _ Z.l1z) gx fun g2 u1' q2 => wpAny_pure ?_)
    have e2 := q2.extBut
    have fO2 : IsPair g2 TO a b := e2 _ _ Z.TOi1 (e1 _ _ Z.TOz fO)
    refine wpAny_bind (wpAny_seqItems fO2 rfl (wpAny_bind (wpAny_updateSeq_pair fO2 fun g3 fO3 q3 => ?_)))
    have e3 := q3.extBut
    refine wpAny_bind (wpAny_letGo (wpAny_pure (wpAny_bind (wpAny_bind (wpAny_onRaise ?_))))); show wpAny _ _ (Builtin.SmallTypes.nextOf (.ref i2) >>= _) _ _ { s with heap := g3 }
    refine wpAny_bind (t2.stop (s := { s with heap := g3 }) hh (t2.st _ _ _ u2 fun o q => e3 _ _ Z.TOi2.symm (e2 _ _ Z.i12.symm (e1 _ _ Z.i2z q))) (t2.sq _ _ v2 fun o q => e3 _ _ Z.l2TO (e2 _ _ Z.l2i1 (e1 _ _ Z.l2z q))) gy fun g4 e q4 ⟨oe, he, ce⟩ => ?_)
    have fz4 : IsZip g4 z TI TO .ellipsis := q4 _ _ Z.i2z.symm (e3 _ _ Z.TOz.symm (e2 _ _ Z.i1z.symm fz1))
    have ne : e ≠ z := fun q => by subst q; rw [fz4] at he; cases he; simp at ce
    exact wpAny_setField_rec fz4 (by simp) fun g5 _ q5 => fin g5 e (fun c o n1 n2 n3 n4 q => q5.extBut _ _ n1 (q4 _ _ n4 (e3 _ _ n2 (e2 _ _ n3 (e1 _ _ n1 q))))) ⟨oe, q5.extBut _ _ ne he, ce⟩
theorem zg_next (Z : ZipApart z TI TO i1 i2 l1 l2) (t1 : Tn i1 l1 S1 L1 xs) (t2 : Tn i2 l2 S2 L2 ys) {k1 k2 : Nat} {x y a b : Value} {Q : Option Value → Shared → Prop}
    (fz : IsZip s.heap z TI TO .none) (fI : IsPair s.heap TI (.ref i1) (.ref i2)) (fO : IsPair s.heap TO a b) (u1 : S1 s.heap k1) (u2 : S2 s.heap k2) (v1 : L1 s.heap) (v2 : L2 s.heap) (gx : xs[k1]? = some x) (gy : ys[k2]? = some y)
    (fin : ∀ g', IsZip g' z TI TO (rawInt s.heap.objs.size) → IsPair g' TO x y → S1 g' (k1 + 1) → S2 g' (k2 + 1) → IsPair g' s.heap.objs.size x y → g'.objs.size = s.heap.objs.size + 1 → (∀ c o, c ≠ z → c ≠ TO → c ≠ i1 → c ≠ i2 → s.heap.get? c = some o → g'.get? c = some o) → Q (some (.ref s.heap.objs.size)) { s with heap := g' }) :
    wpAny (model prog w) A (pyNext (.ref z)) Q E s := by
  have ty : s.TypeIs (.ref z) "zip" := ⟨_, fz, rfl⟩
  unfold pyNext
  exact wpAny_bind (wpAny_attempt (wpAny_callSpecial?_slot (name := Str.ofString "__next__") ty F.slot_zip_next (wpAny_call_entry F.slot_zip_next ty F.entry_zip_next
    (zg_item Z t1 t2 fz fI fO u1 u2 v1 v2 gx gy fun g' a1 a2 a3 a4 a5 a6 a7 => wpAny_pure (fin g' a1 a2 a3 a4 a5 a6 a7)) (F.args_zip_next_1 _))))
theorem zg_done (Z : ZipApart z TI TO i1 i2 l1 l2) (t1 : Tn i1 l1 S1 L1 xs) (t2 : Tn i2 l2 S2 L2 ys) {k1 k2 : Nat} {a b : Value} {Q : Option Value → Shared → Prop} (hh : A.handled = none)
    (fz : IsZip s.heap z TI TO .none) (fI : IsPair s.heap TI (.ref i1) (.ref i2)) (fO : IsPair s.heap TO a b) (u1 : S1 s.heap k1) (u2 : S2 s.heap k2) (v1 : L1 s.heap) (v2 : L2 s.heap) (gn : xs[k1]? = none ∨ ys[k2]? = none)
    (fin : ∀ g', (∀ c o, c ≠ z → c ≠ TO → c ≠ i1 → c ≠ i2 → s.heap.get? c = some o → g'.get? c = some o) → Q none { s with heap := g' }) : wpAny (model prog w) A (pyNext (.ref z)) Q E s := by
  have ty : s.TypeIs (.ref z) "zip" := ⟨_, fz, rfl⟩
  unfold pyNext
  refine wpAny_bind (wpAny_attempt (wpAny_callSpecial?_slot (name := Str.ofString "__next__") ty F.slot_zip_next (wpAny_call_entry F.slot_zip_next ty F.entry_zip_next (zg_stop Z t1 t2 hh fz fI fO u1 u2 v1 v2 gn fun g' e k ⟨o, ho, hc⟩ => ?_) (F.args_zip_next_1 _))))
  exact wpAny_bind (wpAny_isInstance (T := "StopIteration") (b := true) ⟨o, ho, hc⟩ isSubtype_stop (wpAny_pure (fin _ k)))
end
abbrev mz1 (h : Heap) (l1 : Addr) : Heap := h.push { cls := .type "list_iterator", data := .fields #[.ref l1, .int 0 0] }
abbrev mz2 (h : Heap) (l1 l2 : Addr) : Heap := (mz1 h l1).push { cls := .type "tuple_iterator", data := .fields #[.ref l2, .int 0 0] }
abbrev mz3 (h : Heap) (l1 l2 : Addr) : Heap := (mz2 h l1 l2).push { cls := .type "tuple", data := .seq #[.ref h.objs.size, .ref (mz1 h l1).objs.size] }
abbrev mz4 (h : Heap) (l1 l2 : Addr) : Heap := (mz3 h l1 l2).push { cls := .type "tuple", data := .seq #[.none, .none] }
abbrev mz5 (h : Heap) (l1 l2 : Addr) : Heap := (mz4 h l1 l2).push { cls := .type "zip", data := .fields #[.none, .bool false, .bool false, .ref (mz2 h l1 l2).objs.size, .ref (mz3 h l1 l2).objs.size] }
theorem mz_new (l1 l2 : Addr) (xs ys : Array Value) : Meets (Builtin.«zip.__new__» ⟨[.type "zip", .ref l1, .ref l2], []⟩) (fun _ R s => s.heap.IsList l1 xs ∧ s.heap.IsTuple l2 ys ∧ R (.ok (.ret (.ref (mz4 s.heap l1 l2).objs.size))) { s with heap := mz5 s.heap l1 l2 }) :=
  .of_wp fun prog w A R s h => by
    obtain ⟨hp, g, d, tk, os⟩ := s
    obtain ⟨v1, v2, h⟩ := h
    have hsub := sub_zip
    have w1 : Heap.IsList (Shared.heap ⟨hp, g, d, tk, os⟩) l1 xs := v1
    have w2 : Heap.IsTuple (Shared.heap ⟨hp.push { cls := .type "list_iterator", data := .fields #[.ref l1, .int 0 0] }, g, d, tk, os⟩) l2 ys := Heap.IsTuple.push v2 _
    wp_walk using wpAny_pyIter_list w1, wpAny_pyIter_tuple w2
    exact ⟨_, rfl, h⟩
section
variable {prog : Program} {w : World} {A : Around} {E : Value → Shared → Prop} {s : Shared}
theorem mz_call {l1 l2 : Addr} {xs ys : Array Value} {Q : Value → Shared → Prop} (v1 : s.heap.IsList l1 xs) (v2 : s.heap.IsTuple l2 ys)
    (fin : ∀ g', IsZip g' (s.heap.objs.size + 4) (s.heap.objs.size + 2) (s.heap.objs.size + 3) .none → IsPair g' (s.heap.objs.size + 2) (.ref s.heap.objs.size) (.ref (s.heap.objs.size + 1)) → IsPair g' (s.heap.objs.size + 3) .none .none →
      g'.IsListIter s.heap.objs.size l1 0 → g'.IsTupleIter (s.heap.objs.size + 1) l2 0 → (∀ c o, s.heap.get? c = some o → g'.get? c = some o) → Q (.ref (s.heap.objs.size + 4)) { s with heap := g' }) : wpAny (model prog w) A (call (.type "zip") [.ref l1, .ref l2]) Q E s := by
  refine callType_new F.called_zip (by decide) (F.typeCall_zip_2 _ _) (F.newCall_zip_2 _ _) (fun obj => F.args_object_init_3 obj _ _) F.entry_zip_new (mz_new l1 l2 xs ys) ⟨v1, v2, ?_⟩
  have p1 : (mz1 s.heap l1).objs.size = s.heap.objs.size + 1 := Heap.size_push ..
  have p2 : (mz2 s.heap l1 l2).objs.size = s.heap.objs.size + 2 := by rw [Heap.size_push, p1]
  have p3 : (mz3 s.heap l1 l2).objs.size = s.heap.objs.size + 3 := by rw [Heap.size_push, p2]
  have p4 : (mz4 s.heap l1 l2).objs.size = s.heap.objs.size + 4 := by rw [Heap.size_push, p3]
  have n5 : (mz5 s.heap l1 l2).get? (mz4 s.heap l1 l2).objs.size = some _ := Heap.get?_push_size _ rfl
  have n4 : (mz5 s.heap l1 l2).get? (mz3 s.heap l1 l2).objs.size = some _ := Heap.get?_push_of_some _ (Heap.get?_push_size _ rfl)
  have n3 : (mz5 s.heap l1 l2).get? (mz2 s.heap l1 l2).objs.size = some _ := Heap.get?_push_of_some _ (Heap.get?_push_of_some _ (Heap.get?_push_size _ rfl))
  have n2 : (mz5 s.heap l1 l2).get? (mz1 s.heap l1).objs.size = some _ := Heap.get?_push_of_some _ (Heap.get?_push_of_some _ (Heap.get?_push_of_some _ (Heap.get?_push_size _ rfl)))
  have n1 : (mz5 s.heap l1 l2).get? s.heap.objs.size = some _ := Heap.get?_push_of_some _ (Heap.get?_push_of_some _ (Heap.get?_push_of_some _ (Heap.get?_push_of_some _ (Heap.get?_push_size _ rfl))))
  show _ ∧ _
  rw [p2, p3, p4] at n5
  rw [p1, p2] at n3
  rw [p3] at n4
  rw [p1] at n2
  rw [p4]
  exact ⟨⟨_, n5, rfl⟩, fin _ n5 n3 n4 ⟨_, n1, rfl, rfl⟩ ⟨_, n2, rfl, rfl⟩ fun c o q => Heap.get?_push_of_some _ (Heap.get?_push_of_some _ (Heap.get?_push_of_some _ (Heap.get?_push_of_some _ (Heap.get?_push_of_some _ q))))⟩
end
/-- the list at a and the tuple at b, the items in new pairs -/
def ItzM (K : PySem.W.Frag) (a b : Addr) : L2.It :=
  ⟨fun i H => ∃ (xs ys : List V) (x y : V), SqL K H a xs ∧ SqT K H b ys ∧ xs[i]? = some x ∧ ys[i]? = some y,
    fun i H v H' => ∃ T x y, v = .ref T ∧ H T = none ∧ H' = L2.upd H T (.tup [x, y]) ∧ (∀ xs, SqL K H a xs → xs[i]? = some x) ∧ ∀ ys, SqT K H b ys → ys[i]? = some y,
    fun i H => ∃ xs ys : List V, SqL K H a xs ∧ SqT K H b ys ∧ (xs.length ≤ i ∨ ys.length ≤ i)⟩
theorem turn_mz {P : Program} {w : World} {K : PySem.W.Frag} {elts : List Expr} {kk : Nat} {tpos : Pos} {a b z TI TO i1 i2 : Addr} (Z : ZipApart z TI TO i1 i2 a b) :
    Turn P w K (.Tuple elts kk tpos) (ItzM K a b) [z, TI, TO, i1, i2] z (fun i h => IsZip h z TI TO .none ∧ IsPair h TI (.ref i1) (.ref i2) ∧ (∃ x y, IsPair h TO x y) ∧ h.IsListIter i1 a i ∧ h.IsTupleIter i2 b i) where
  mem := by simp
  obj := fun i h st c hc => by
    obtain ⟨f1, f2, ⟨x, y, f3⟩, ⟨o1, a1, _, d1⟩, ⟨o2, a2, _, d2⟩⟩ := st
    simp only [List.mem_cons, List.not_mem_nil, or_false] at hc
    rcases hc with rfl | rfl | rfl | rfl | rfl
    · exact ⟨_, f1, fun v q => nomatch q⟩
    · exact ⟨_, f2, fun v q => nomatch q⟩
    · exact ⟨_, f3, fun v q => nomatch q⟩
    · exact ⟨o1, a1, fun v q => by rw [d1] at q; cases q⟩
    · exact ⟨o2, a2, fun v q => by rw [d2] at q; cases q⟩
  keep := fun i h h' st k => by
    obtain ⟨f1, f2, ⟨x, y, f3⟩, f4, f5⟩ := st
    exact ⟨k z (by simp) _ f1, k TI (by simp) _ f2, ⟨x, y, k TO (by simp) _ f3⟩, f4.at fun o => k i1 (by simp) o, f5.at fun o => k i2 (by simp) o⟩
  item := by
    intro X hP hw hK hc i pins s σ H E I hf st hg
    subst hP hw hK
    obtain ⟨f1, f2, ⟨x0, y0, f3⟩, f4, f5⟩ := st
    obtain ⟨xs, ys, x, y, m1, m2, gx, gy⟩ := hg
    obtain ⟨its, rv, p, _⟩ := I.list m1
    obtain ⟨its2, rv2, p2, _⟩ := I.tuple m2
    obtain ⟨u, hu, ru⟩ := rv.get gx
    obtain ⟨u2, hu2, ru2⟩ := rv2.get gy
    have zl : z < s.heap.objs.size := Heap.lt_size f1
    refine zg_next Z (tn_list i1 a its.toArray) (tn_tuple i2 b its2.toArray) f1 f2 f3 f4 f5 p.isList p2 (x := u) (y := u2) (by simpa using hu) (by simpa using hu2) fun g' z' TO' u1 u2' nw sz kk => ⟨_, rfl, wpAny_letOwnedTupleGo_zip (s := { s with heap := g' }) z' fun g2 z2 sb => ?_⟩
    have nw2 : g2.get? s.heap.objs.size = some { cls := .type "tuple", data := .seq #[u, u2] } := (sb.2 _ (Nat.ne_of_gt zl)).trans nw
    have ok : ObjOk X.prog X.w (L2.upd H s.heap.objs.size (.tup [x, y])) g2 s.heap.objs.size (.tup [x, y]) := ⟨by show 2 ≤ sizeLine; decide, [u, u2], .cons ru (.cons ru2 .nil), ⟨_, nw2, rfl, _, rfl⟩⟩
    have I1 : Inv X pins σ (L2.upd H s.heap.objs.size (.tup [x, y])) { s with heap := g2 } := I.turnedNew (t' := s.toks) (ch := [z, TI, TO, i1, i2]) (fun c o hb q => by
      simp only [List.mem_cons, List.not_mem_nil, or_false, not_or] at hb
      exact (sb.2 c hb.1).trans (kk c o hb.1 hb.2.2.1 hb.2.2.2.1 hb.2.2.2.2 q)) hf (Nat.le_refl _) ok
    refine ⟨.ref s.heap.objs.size, _, I1, rfl, ⟨_, x, y, rfl, I.hok.fresh (Nat.le_refl _), rfl, fun l hl => by rw [I.list_inj hl m1]; exact gx, fun l hl => by rw [I.tuple_inj hl m2]; exact gy⟩, ⟨z2, ?_, ⟨u, u2, ?_⟩, ?_, ?_⟩, fun c hcm => ?_⟩
    · exact (sb.2 _ Z.TIz).trans (kk _ _ Z.TIz Z.TITO Z.TIi1 Z.TIi2 f2)
    · exact (sb.2 _ Z.TOz).trans TO'
    · exact u1.at fun o q => (sb.2 _ Z.i1z).trans q
    · exact u2'.at fun o q => (sb.2 _ Z.i2z).trans q
    · have : c < s.heap.objs.size := by
        simp only [List.mem_cons, List.not_mem_nil, or_false] at hcm
        rcases hcm with rfl | rfl | rfl | rfl | rfl
        · exact zl
        · exact Heap.lt_size f2
        · exact Heap.lt_size f3
        · obtain ⟨_, q, _⟩ := f4; exact Heap.lt_size q
        · obtain ⟨_, q, _⟩ := f5; exact Heap.lt_size q
      rw [upd_ne (Nat.ne_of_lt this)]
      exact (hf c hcm).1
  done := by
    intro X hP hw hK hc i pins s σ H E I hf st hg
    subst hP hw hK
    obtain ⟨f1, f2, ⟨x0, y0, f3⟩, f4, f5⟩ := st
    obtain ⟨xs, ys, m1, m2, en⟩ := hg
    obtain ⟨its, rv, p, _⟩ := I.list m1
    obtain ⟨its2, rv2, p2, _⟩ := I.tuple m2
    have g1 := rv.length
    have g2 := rv2.length
    refine zg_done Z (tn_list i1 a its.toArray) (tn_tuple i2 b its2.toArray) (I.ok.hd hc) f1 f2 f3 f4 f5 p.isList p2 (en.imp (fun q => by simp; omega) fun q => by simp; omega) fun g' kk => ⟨rfl, I.turnedL (t' := s.toks) (ch := [z, TI, TO, i1, i2]) (fun c o hb q => ?_) hf⟩
    simp only [List.mem_cons, List.not_mem_nil, or_false, not_or] at hb
    exact kk c o hb.1 hb.2.2.1 hb.2.2.2.1 hb.2.2.2.2 q
  self := fun A i s Q E st h => wpAny_pyIter_zip st.1 h
def iZipM (K : PySem.W.Frag) (ta : TA) : TI := fun σ H R => ta σ H fun vs H1 => ∃ a b xs ys, vs = [.ref a, .ref b] ∧ ((SqL K H1 a xs ∧ SqL K H1 b ys ∧ R (Itz K a b) H1) ∨ (SqL K H1 a xs ∧ SqT K H1 b ys ∧ R (ItzM K a b) H1))
theorem pi_zipM {X : Cx} {e e2 : Expr} {ta : TA} {p pos tpos : Pos} {elts : List Expr} {kk : Nat} (hg : Gl X "zip") (hm : X.mg "zip" = none) (ha : PA X [e, e2] ta)
    (g1 : starEach [e, e2] X.env = (false, eval e X.env) :: starEach [e2] X.env := by rfl) (g2 : (backTo pos (starEach [e2] X.env)).any (·.1) = false := by rfl) :
    PI X (.Tuple elts kk tpos) (.Call (.Name "zip" p) [e, e2] [] pos) (iZipM X.K ta) := by
  refine ⟨fun pins s σ H R I h => ?_⟩
  refine Call_ (ld_blt I hg hm PyProof.Rows.boot_zip (PyProof.Rows.callWith_type1 ?_ g1 g2))
  refine thn (ha.run pos pins s σ H _ I h) fun us s1 ⟨vs, H1, I1, r1, q1⟩ => ?_
  obtain ⟨a, b, xs, ys, rfl, q1⟩ := q1
  cases r1 with
  | cons r rr =>
  cases rr with
  | cons r' rr =>
    cases rr
    cases r
    cases r'
    have fresh : ∀ c, c ∈ [s1.heap.objs.size + 4, s1.heap.objs.size + 2, s1.heap.objs.size + 3, s1.heap.objs.size, s1.heap.objs.size + 1] → FpOk X pins H1 c := fun c hc => by
      have : s1.heap.objs.size ≤ c := by
        simp only [List.mem_cons, List.not_mem_nil, or_false] at hc
        omega
      exact I1.fpOk this (I1.hok.fresh this)
    rcases q1 with ⟨m1, m2, q⟩ | ⟨m1, m2, q⟩
    · obtain ⟨its, rv, p1, _⟩ := I1.list m1
      obtain ⟨its2, rv2, p2, _⟩ := I1.list m2
      exact call_zip_2 p1.isList p2.isList fun g' a1 a2 a3 a4 a5 a6 a7 => wpAny_pyIter_zip a1 ⟨s1.heap.objs.size + 4, _, _, _, H1, rfl, I1.kept (t' := s1.toks) a7, turn_zip (PySem.W.ktu_apart s1.heap.objs.size a b p1.lt p2.lt), ⟨a1, a2, ⟨_, _, a3⟩, a4, a5⟩, fresh, q⟩
    · obtain ⟨its, rv, p1, _⟩ := I1.list m1
      obtain ⟨its2, rv2, p2, _⟩ := I1.tuple m2
      obtain ⟨o2, ho2, _⟩ := id p2
      exact mz_call p1.isList p2 fun g' a1 a2 a3 a4 a5 a7 => wpAny_pyIter_zip a1 ⟨s1.heap.objs.size + 4, _, _, _, H1, rfl, I1.kept (t' := s1.toks) a7, turn_mz (PySem.W.ktu_apart s1.heap.objs.size a b p1.lt (Heap.lt_size ho2)), ⟨a1, a2, ⟨_, _, a3⟩, a4, a5⟩, fresh, q⟩
end Rj

namespace Rj
open PySem PySem.Spec PyProof.Rows L2
section
open RT
/-! ### list(reversed(range(n))) -/
section
variable {prog : Program} {w : World} {A : Around} {E : Value → Shared → Prop} {s : Shared}
theorem hint_meets (it : Addr) (x left step : Int) :
    Meets (Builtin.«range_iterator.__length_hint__» ⟨[.ref it], []⟩) (fun _ R s => s.heap.get? it = some { cls := .type "range_iterator", dict := none, data := .fields #[rawInt x, rawInt left, rawInt step], slots := #[] } ∧ R (.ok (.ret (Value.int left s.toks))) { s with toks := s.toks + 1 }) :=
  .of_wp fun prog w A R s h => by obtain ⟨hp, g, d, tk, os⟩ := s; obtain ⟨hl, h⟩ := h; wp_walk; exact ⟨_, rfl, h⟩
theorem extend_rit {it S : Addr} {a c : Int} {n : Nat} {res : Value} {c₀ : Nat} {R : Result → Shared → Prop} (hh : A.handled = none) (hit : IsRangeIter s.heap it a (n : Int) c) (hn : n ≤ sizeLine) (hSi : S ≠ it)
    (hS : s.heap.get? S = some { cls := .type "list", data := .seq #[] c₀ })
    (hR : ∀ (h' : Heap) (tk : Nat) (acc : Array Value) (c' : Nat), (∀ b o, b ≠ S → b ≠ it → s.heap.get? b = some o → h'.get? b = some o) → h'.get? S = some { cls := .type "list", dict := none, data := .seq acc c', slots := #[] } → ItemsOf (fun i v => ∃ t, v = Value.int (a + (i : Nat) * c) t) acc n → R (.ok (.ret res)) { s with heap := h', toks := tk }) :
    wpAny (model prog w) A.in1 (Builtin.List.listExtendWith (.ref S) (.ref it) res)
      (fun fin s' => match fin with | .done f => R (.ok f) s' | .again c' => c'.quiet = true ∧ codeAny (model prog w) A c' R s') (fun e s' => R (.error e) s') s := by
  have W := (Walks.range (prog := prog) (w := w) (A := A.in1) hh it a c n).toS
  have hSf : S ∉ [it] := by simp only [List.mem_cons, List.not_mem_nil, or_false]; exact hSi
  have hT : s.TypeIs (.ref it) "range_iterator" := ⟨_, hit, rfl⟩
  have h1 : Builtin.List.listSameRef (.ref S) (.ref it) = false := by simp [Builtin.List.listSameRef, hSi]
  unfold Builtin.List.listExtendWith
  refine wpAny_bind (wpAny_typeOf hT ?_)
  rw [if_neg (by rw [h1]; decide)]
  refine wpAny_bind (wpAny_pyIter_rangeiter hit ?_)
  refine wpAny_bind (wpAny_holding ?_)
  unfold Builtin.List.listLengthHint
  refine wpAny_bind (wpAny_specialOf hT F.nolen_ra ?_)
  show wpAny _ A.in1 (specialOf (Value.ref it) (Str.ofString "__length_hint__") >>= _) _ _ _
  refine wpAny_bind (wpAny_specialOf hT F.hint_ra ?_)
  generalize hid : ("range_iterator.__length_hint__" : String) = id0
  wp_delta
  rw [show splitId id0 = some ("range_iterator", "__length_hint__") from by subst hid; decide +kernel]
  subst hid
  refine wpAny_bind (wpAny_isInstance (b := true) hT (by rw [isSubtype_type]; kernel_rfl) ?_)
  show wpAny _ A.in1 (call (.builtin "range_iterator.__length_hint__") [.ref it] >>= _) _ _ _
  refine wpAny_bind (call_meets F.slot_range_iterator_length_hint hT F.entry_range_iterator_length_hint (F.args_range_iterator_length_hint_1 _) (hint_meets it a n c) ⟨hit, ?_⟩)
  refine wpAny_bind (m := asInt? (.int n s.toks)) (wpAny_pure ?_)
  dsimp only
  rw [if_neg (by
    unfold Builtin.List.listTooLong
    rw [Int.toNat_natCast]
    have : n ≤ 16777216 := hn
    simp
    omega)]
  refine wpAny_pure ?_
  rw [if_neg (by decide)]
  refine wpAny_pure ⟨plainId_quiet F.plain_extend_loop _, codeAny_extend_loopS W hn _ hSf _ n 0 _ _ _ rfl (Nat.zero_le _) (by
    have e0 : a + ((0 : Nat) : Int) * c = a := by simp
    have e1 : (n : Int) - ((0 : Nat) : Int) = n := by simp
    rw [e0, e1]; exact hit) hS (ItemsOf.nil _) fun s' acc' c' hm hS' hacc => ?_⟩
  rw [Moved.eq_with hm]
  refine hR s'.heap s'.toks acc' c' (fun b o hb hb2 e => hm.heap b o (fun hmem => ?_) e) hS' hacc
  rcases List.mem_cons.mp hmem with e' | hmem
  · exact hb e'
  · exact hb2 (List.mem_singleton.mp hmem)
theorem call_list_rit {it : Addr} {a c : Int} {n : Nat} {Q : Value → Shared → Prop} (hh : A.handled = none) (hit : IsRangeIter s.heap it a (n : Int) c) (hn : n ≤ sizeLine)
    (hQ : ∀ (h' : Heap) (tk : Nat) (acc : Array Value) (c' : Nat), (∀ b o, b ≠ it → s.heap.get? b = some o → h'.get? b = some o) → h'.get? s.heap.objs.size = some { cls := .type "list", dict := none, data := .seq acc c', slots := #[] } → ItemsOf (fun i v => ∃ t, v = Value.int (a + (i : Nat) * c) t) acc n →
      Q (.ref s.heap.objs.size) { s with heap := h', toks := tk }) :
    wpAny (model prog w) A (call (.type "list") [.ref it]) Q E s := by
  have hoi := hit
  have hSi : s.heap.objs.size ≠ it := Nat.ne_of_gt (Heap.lt_size hoi)
  refine callType_codes (Q₁ := fun obj s₁ => obj = .ref s.heap.objs.size ∧ s₁ = { s with heap := s.heap.push { cls := .type "list", data := .seq #[] } }) F.called_list (F.typeCall_list_1 _) F.entry_list_init
    (code_list_new _ ⟨rfl, rfl⟩) fun obj s₁ h₁ => ?_
  obtain ⟨rfl, rfl⟩ := h₁
  have hS : (s.heap.push { cls := .type "list", data := .seq #[] }).get? s.heap.objs.size = some { cls := .type "list", data := .seq #[] } := Heap.get?_push_size _ rfl
  refine ⟨⟨_, hS, rfl⟩, F.args_list_init_2 _ _, ?_⟩
  generalize hS0 : s.heap.objs.size = S at *
  show wpAny _ _ (do let old ← Builtin.List.listItems (.ref S); Builtin.List.listUpdate (.ref S) (fun _ => #[]); letGo old.toList.reverse; Builtin.List.listExtendWith (.ref S) (.ref it) .none) _ _ _
  refine wpAny_bind ?_
  unfold Builtin.List.listItems
  refine wpAny_bind (wpAny_seqItems hS rfl (wpAny_pure ?_))
  show wpAny _ _ (updateSeq S (fun _ => #[]) >>= fun _ => letGo (#[] : Array Value).toList.reverse >>= fun _ => Builtin.List.listExtendWith (.ref S) (.ref it) .none) _ _ _
  refine wpAny_bind (wpAny_updateSeq hS rfl ?_)
  have hS₂ := Heap.get?_update_self (Obj.mapSeq (fun _ => (#[] : Array Value))) hS rfl
  have oth : ∀ b o, b ≠ S → s.heap.get? b = some o → ((s.heap.push { cls := .type "list", data := .seq #[] }).update S (Obj.mapSeq (fun _ => (#[] : Array Value)))).get? b = some o :=
    fun b o hb e => (Heap.get?_update_other _ _ (Ne.symm hb)).trans (Heap.get?_push_of_some _ e)
  refine wpAny_bind (wpAny_letGo ?_)
  refine extend_rit (A := A.in1) hh (by
    unfold IsRangeIter at hit ⊢
    exact oth _ _ (Ne.symm hSi) hit) hn hSi hS₂ fun h' tk acc' c' hk hS' hacc => ?_
  exact ⟨rfl, hQ h' tk acc' c' (fun b o hb e => hk b o (fun z => by have := Heap.lt_size e; rw [hS0, z] at this; exact Nat.lt_irrefl _ this) hb (oth b o (fun z => by have := Heap.lt_size e; rw [hS0, z] at this; exact Nat.lt_irrefl _ this) e)) hS' hacc⟩
end
section
variable {X : Cx}
def tLstRR (te : TE) : TE := fun σ H Q => te σ H fun v H1 => ∃ i : Int, v = .int i ∧ -(2 ^ 62) ≤ i ∧ i < 2 ^ 62 ∧ i ≤ 16777216 ∧ ∀ q, H1 q = none → Q (.ref q) (L2.upd H1 q (.lst ((List.range i.toNat).map fun k : Nat => V.int ((i.toNat : Int) - 1 - (k : Int)))))
theorem vals_rit {acc : Array Value} {m : Nat} {a c : Int} (h : ItemsOf (fun i v => ∃ t, v = Value.int (a + (i : Nat) * c) t) acc m) : Vals ((List.range m).map fun k : Nat => V.int (a + (k : Int) * c)) acc.toList := by
  obtain ⟨hs, hi⟩ := h
  subst hs
  obtain ⟨l⟩ := acc
  have key : ∀ (l : List Value) (b : Nat), (∀ (i : Nat) (v : Value), l[i]? = some v → ∃ t, v = Value.int (a + ((b + i : Nat) : Int) * c) t) → Vals ((List.range' b l.length).map fun k : Nat => V.int (a + (k : Int) * c)) l := by
    intro l
    induction l with
    | nil => intro b _; exact .nil
    | cons v r ih =>
      intro b hv
      rw [List.length_cons, List.range'_succ, List.map_cons]
      refine .cons ?_ (ih (b + 1) fun i u hu => ?_)
      · obtain ⟨t, e⟩ := hv 0 v rfl
        exact ⟨t, e⟩
      · obtain ⟨t, e⟩ := hv (i + 1) u (by simpa using hu)
        exact ⟨t, by rw [e]; congr 4; omega⟩
  have := key l 0 fun i v hv => by
    obtain ⟨t, e⟩ := hi i v (by simpa using hv)
    exact ⟨t, by rw [e, Nat.zero_add]⟩
  rw [List.range_eq_range']
  exact this
theorem pe_lstRR {e : Expr} {te : TE} {p p2 p3 pos pos2 pos3 : Pos} (hc : X.calm = true) (hg : Gl X "list") (hm : X.mg "list" = none) (hg2 : Gl X "reversed") (hm2 : X.mg "reversed" = none) (hg3 : Gl X "range") (hm3 : X.mg "range" = none) (he : PE X e te)
    (ha1 : starEach [e] X.env = (false, eval e X.env) :: starEach [] X.env := by rfl)
    (ha2 : starEach [.Call (.Name "range" p3) [e] [] pos3] X.env = (false, eval (.Call (.Name "range" p3) [e] [] pos3) X.env) :: starEach [] X.env := by rfl)
    (ha3 : starEach [.Call (.Name "reversed" p2) [.Call (.Name "range" p3) [e] [] pos3] [] pos2] X.env = (false, eval (.Call (.Name "reversed" p2) [.Call (.Name "range" p3) [e] [] pos3] [] pos2) X.env) :: starEach [] X.env := by rfl) :
    PE X (.Call (.Name "list" p) [.Call (.Name "reversed" p2) [.Call (.Name "range" p3) [e] [] pos3] [] pos2] [] pos) (tLstRR te) := by
  refine ⟨fun pins s σ H Q I h => ?_⟩
  refine Call_ (ld_blt I hg hm boot_list (PyProof.Rows.callWith_type1 (args_cons (Call_ (ld_blt I hg2 hm2 PyProof.Rows.boot_reversed (PyProof.Rows.callWith_type1 (args_cons (Call_ (ld_blt I hg3 hm3 boot_range (PyProof.Rows.callWith_type1 (args_cons (thn (he.run pins s σ H _ I h) fun u s1 ⟨v, H1, I1, r1, q1⟩ => args_nil ?_) ha1) ha1 rfl))) ha2) ha2 rfl))) ha3) ha3 rfl))
  obtain ⟨i, ev, b1, b2, b3, q⟩ := q1
  subst ev
  obtain ⟨t, rfl⟩ := r1
  refine call_range_1 (args_nil ?_)
  obtain ⟨ho, eo⟩ : ∃ ho : Obj, ho = { cls := .type "range", data := .fields #[.int 0 s1.toks, .int i t, .int 1 (s1.toks + 1)] } := ⟨_, rfl⟩
  have k0 : ∀ b o, s1.heap.get? b = some o → (s1.heap.push ho).get? b = some o := fun b o z => Heap.get?_push_of_some _ z
  have hz : (s1.heap.push ho).objs.size = s1.heap.objs.size + 1 := Heap.size_push ..
  have sz : Builtin.Range.rangeSize 0 i 1 = (i.toNat : Int) := by rw [rangeSize_one]; split <;> omega
  rw [← eo]
  refine call_reversed_range (s := { s1 with heap := s1.heap.push ho, toks := s1.toks + 1 + 1 }) (by rw [eo]; exact IsRange.new ..) (smallRev_one (by decide) (by decide) b1 b2) (args_nil ?_)
  obtain ⟨hr, er⟩ : ∃ hr : Obj, hr = rngRevObj 0 i 1 := ⟨_, rfl⟩
  rw [← er]
  have hz2 : ((s1.heap.push ho).push hr).objs.size = s1.heap.objs.size + 2 := by rw [Heap.size_push, hz]
  have k1 : ∀ b o, s1.heap.get? b = some o → ((s1.heap.push ho).push hr).get? b = some o := fun b o z => Heap.get?_push_of_some _ (k0 b o z)
  have hit : IsRangeIter ((s1.heap.push ho).push hr) (s1.heap.push ho).objs.size ((i.toNat : Int) - 1) (i.toNat : Int) (-1) := by
    have e1 : (i.toNat : Int) - 1 = 0 + (Builtin.Range.rangeSize 0 i 1 - 1) * 1 := by rw [sz]; omega
    rw [e1, er, ← sz]
    exact Heap.get?_push_size _ rfl
  refine call_list_rit (s := { s1 with heap := (s1.heap.push ho).push hr, toks := s1.toks + 1 + 1 }) (I1.ok.hd hc) hit (by show _ ≤ (16777216 : Nat); omega) fun h' tk acc c' hk hS hi => ?_
  have hS : h'.get? (s1.heap.objs.size + 2) = some { cls := .type "list", dict := none, data := .seq acc c', slots := #[] } := by rw [← hz2]; exact hS
  show EP X pins σ Q (.ref ((s1.heap.push ho).push hr).objs.size) _
  rw [hz2]
  refine ⟨.ref (s1.heap.objs.size + 2), L2.upd H1 (s1.heap.objs.size + 2) (.lst ((List.range i.toNat).map fun k : Nat => V.int ((i.toNat : Int) - 1 - (k : Int)))), ?_, rfl, q _ (I1.hok.fresh (by omega))⟩
  have hv := vals_rit hi
  have ev : ((List.range i.toNat).map fun k : Nat => V.int ((i.toNat : Int) - 1 + (k : Int) * (-1))) = (List.range i.toNat).map fun k : Nat => V.int ((i.toNat : Int) - 1 - (k : Int)) := by
    refine List.map_congr_left fun k _ => ?_
    show V.int _ = V.int _
    congr 1
    omega
  rw [ev] at hv
  exact I1.laid (t' := tk) (fun c o z => hk c o (by rw [hz]; have := Heap.lt_size z; exact Nat.ne_of_lt (Nat.lt_succ_of_lt this)) (k1 c o z)) (Nat.le_add_right _ 2) (show ObjOk X.prog X.w _ h' _ (.lst _) from ⟨by rw [List.length_map, List.length_range]; show _ ≤ (16777216 : Nat); omega, acc.toList, c', hv, by rw [Array.toArray_toList]; exact hS⟩)
end
end
end Rj

namespace Rj
open PySem PySem.Spec PyProof.Rows L2
/-! ### min of five ints -/
section
variable {prog : Program} {w : World} {A : Around} {E : Value → Shared → Prop} {s : Shared}
theorem args_min5 (a b c d e : Value) : argsOk "min" ⟨[a, b, c, d, e], []⟩ := by unfold argsOk; kernel_rfl
theorem call_min5 {a b c d e : Value} {Q : Value → Shared → Prop}
    (h : wpAny (model prog w) A.in1 (pyIter (.ref s.heap.objs.size)) (fun it s₂ => ∃ I fp wr n P St bt, it = .ref I ∧ Walks prog w A.in1 I fp wr n P St ∧ St 0 s₂.heap ∧ (∀ b ∈ fp, b < s₂.heap.objs.size) ∧ 0 < n ∧ CmpOf prog w A.in1 .Lt P bt ∧
      ∀ v h' tk, P (argBest bt (n - 1)) v → (∀ b o, b ∉ wr → s₂.heap.get? b = some o → h'.get? b = some o) → Q v { s₂ with heap := h', toks := tk }) E
      { s with heap := s.heap.push { cls := .type "tuple", data := .seq #[a, b, c, d, e] } }) :
    wpAny (model prog w) A (call (.builtin "min") [a, b, c, d, e]) Q E s := by
  have hname : (toString "min" ++ toString ".loop" : String) = "min.loop" := by decide
  refine call_function_tree PySem.F.kind_min PySem.F.plain_min PySem.F.entry_min (args_min5 _ _ _ _ _) ?_
  show wpAny _ A.in1 (Builtin.Builtins.bindParams "min" ["key", "default"] 0 ⟨[], []⟩ >>= _) _ _ s
  refine wpAny_bind (wpAny_of_eq (show Builtin.Builtins.bindParams "min" ["key", "default"] 0 ⟨[], []⟩ = pure [none, none] from rfl) ?_)
  show wpAny _ A.in1 (newTuple [a, b, c, d, e] >>= _) _ _ s
  refine wpAny_bind (wpAny_newObj_type ?_)
  refine wpAny_bind (wpAny_mono h (fun it s₂ h₂ => ?_) fun _ _ e => e)
  obtain ⟨I, fp, wr, n, P, St, bt, rfl, W, hst, hfp, hn, hcmp, hQ⟩ := h₂
  refine wpAny_bind (wpAny_newObj_type ?_)
  have hSf : s₂.heap.objs.size ∉ fp := fun hm => Nat.lt_irrefl _ (hfp _ hm)
  rw [hname]
  refine wpAny_pure ⟨plainId_quiet PySem.F.plain_min_loop _, codeAny_min_loop_first W bt hcmp s₂.heap.objs.size hSf hn (W.frame _ _ _ hst fun b _ o e => Heap.get?_push_of_some _ e) (Heap.get?_push_size _ rfl) fun v h' tk hP hk => ?_⟩
  exact hQ v h' tk hP fun b o hbw e => hk b o hbw (Nat.ne_of_lt (Heap.lt_size e)) (Heap.get?_push_of_some _ e)
theorem min5_ints {its : Array (Int × Tok)} {a b c d e : Int × Tok} {Q : Value → Shared → Prop} (hh : A.handled = none) (hi : its = #[a, b, c, d, e])
    (h : ∀ h' tk m t, (∀ d o, s.heap.get? d = some o → h'.get? d = some o) → m ∈ [a.1, b.1, c.1, d.1, e.1] → (∀ y, y ∈ [a.1, b.1, c.1, d.1, e.1] → m ≤ y) → Q (.int m t) { s with heap := h', toks := tk }) :
    wpAny (model prog w) A (call (.builtin "min") [.int a.1 a.2, .int b.1 b.2, .int c.1 c.2, .int d.1 d.2, .int e.1 e.2]) Q E s := by
  have hii : intItems its = #[.int a.1 a.2, .int b.1 b.2, .int c.1 c.2, .int d.1 d.2, .int e.1 e.2] := by rw [hi]; simp [intItems]
  have hz : its.size = 5 := by rw [hi]; rfl
  have hT : (s.heap.push { cls := .type "tuple", data := .seq #[.int a.1 a.2, .int b.1 b.2, .int c.1 c.2, .int d.1 d.2, .int e.1 e.2] }).IsTuple s.heap.objs.size (intItems its) := ⟨_, Heap.get?_push_size _ rfl, rfl, 0, by rw [hii]⟩
  refine call_min5 (wpAny_pyIter_tuple hT ?_)
  have hsz : (s.heap.push { cls := .type "tuple", data := .seq #[.int a.1 a.2, .int b.1 b.2, .int c.1 c.2, .int d.1 d.2, .int e.1 e.2] }).objs.size = s.heap.objs.size + 1 := Heap.size_push ..
  refine ⟨_, [_, s.heap.objs.size], [_], _, _, _, _, rfl, Walks.tuple (A := A.in1) hh _ s.heap.objs.size (by rw [hsz]; exact Nat.ne_of_lt (Nat.lt_succ_self _)) (intItems its),
    ⟨⟨_, Heap.get?_push_size _ rfl, rfl, rfl⟩, hT.push _⟩, fun d hd => ?_, by rw [hii]; exact Nat.zero_lt_succ 4, CmpOf.ints_lt (numAt its) (fun _ _ => intItems_at), fun v h' tk hP hk => ?_⟩
  · show d < ((s.heap.push _).push _).objs.size
    rw [Heap.size_push, hsz]
    rcases List.mem_cons.mp hd with rfl | hd
    · rw [hsz]; exact Nat.lt_succ_self _
    · rcases List.mem_cons.mp hd with rfl | hd
      · exact Nat.lt_succ_of_lt (Nat.lt_succ_self _)
      · cases hd
  · have hold : ∀ d o, s.heap.get? d = some o → h'.get? d = some o := fun d o e => by
      refine hk d o (fun hm => ?_) (Heap.get?_push_of_some _ (Heap.get?_push_of_some _ e))
      rcases List.mem_cons.mp hm with e1 | hm
      · have := Heap.lt_size e; rw [e1, hsz] at this; exact Nat.lt_irrefl _ (Nat.lt_of_succ_lt this)
      · cases hm
    obtain ⟨t, rfl⟩ := intItems_at hP
    have hs4 : (intItems its).size - 1 = 4 := by rw [hii]; rfl
    obtain ⟨h1, h2⟩ := argBest_lt (numAt its) ((intItems its).size - 1)
    have hnum : ∀ j, numAt its j = ([a.1, b.1, c.1, d.1, e.1] : List Int).getD j 0 := fun j => by
      rw [numAt_eq, hi]
      rfl
    refine h h' tk _ t hold ?_ fun y hy => ?_
    · rw [hnum]
      exact PySem.getD_mem (by rw [hs4] at h1 ⊢; show _ < 5; omega)
    · obtain ⟨j, hj, rfl⟩ := mem_getD hy
      rw [← hnum]
      exact h2 j (by rw [hs4]; have : j < 5 := hj; omega)
end
section
variable {X : Cx}
/-- min of five ints -/
def rMin5 : List V → Hp → VK → Prop := fun xs H Q => ∃ a b c d e, xs = [.int a, .int b, .int c, .int d, .int e] ∧ ∀ m, m ∈ [a, b, c, d, e] → (∀ y, y ∈ [a, b, c, d, e] → m ≤ y) → Q (.int m) H
theorem cr_min5 (hc : X.calm = true) : CallR X (.builtin "min") rMin5 := by
  intro pins s σ H xs us Q I r h
  obtain ⟨a, b, c, d, e, rfl, q⟩ := h
  cases r with
  | cons r1 r =>
    cases r with
    | cons r2 r =>
      cases r with
      | cons r3 r =>
        cases r with
        | cons r4 r =>
          cases r with
          | cons r5 r =>
            cases r
            obtain ⟨t1, rfl⟩ := r1
            obtain ⟨t2, rfl⟩ := r2
            obtain ⟨t3, rfl⟩ := r3
            obtain ⟨t4, rfl⟩ := r4
            obtain ⟨t5, rfl⟩ := r5
            exact min5_ints (a := (a, t1)) (b := (b, t2)) (c := (c, t3)) (d := (d, t4)) (e := (e, t5)) (I.ok.hd hc) rfl fun h' tk m t k h1 h2 => ⟨.int m, H, I.kept k, ⟨_, rfl⟩, q m h1 h2⟩
end
/-! ### no stars -/
theorem mE_star {m : MC} {ir : E} {v : Expr} {p : Pos} : mE m ir (.Starred v p) = false := by
  cases ir <;> rfl
theorem star_cons {m : MC} {ir : E} {e : Expr} (h : mE m ir e = true) (es : List Expr) (env : Env) : starEach (e :: es) env = (false, eval e env) :: starEach es env := by
  cases e <;> first | rfl | (rw [mE_star] at h; cases h)
theorem star_no {m : MC} {pos : Pos} {env : Env} : ∀ {irs : Es} {es : List Expr}, mEs m irs es = true → (backTo pos (starEach es env)).any (·.1) = false
  | .nil, [], _ => rfl
  | .cons ir irs, e :: es, h => by
    have h2 : mE m ir e = true ∧ mEs m irs es = true := Bool.and_eq_true_iff.mp h
    rw [star_cons h2.1]
    show ((false, _) :: backTo pos (starEach es env)).any (·.1) = false
    rw [List.any_cons, star_no h2.2]
    rfl
  | .nil, _ :: _, h => by cases h
  | .cons _ _, [], h => by cases h
/-! ### what a def promises -/
/-- what comes of a call: it reaches what was handed in, or new things; where the def tells new things: new ones alone -/
def ResOk (g : G) (A : Addr → Prop) (fr : Bool) (H H' : Hp) (d : D) (v : V) : Prop :=
  Rep g (fun a => A a ∨ H a = none) H' d v ∧ (fr = true → Rep g (fun a => H a = none) H' d v ∧ ∀ ds, d = .lst ds → ∃ p xs, v = .ref p ∧ H' p = some (.lst xs) ∧ H p = none ∧ RepL g (fun a => H a = none ∧ a ≠ p) H' ds xs)
def spF [Nm] (g : G) (c : Cl) (i : Nat) (f : Fn) : Sp := fun vs H Q E => ∃ (A : Addr → Prop) (ds : List D) (Qd : D → Prop) (R : Exn), ds.length = f.np ∧ RepL g A H ds vs ∧ TbOk g.ca H ∧ c.call i ds Qd R ∧
  (∀ d v H', Qd d → Same H H' → ResOk g A f.fr H H' d v → Q v H') ∧ (∀ x H', R x → Same H H' → E (.ref (g.ca x)) none H')
/-- what stands stays, but at x -/
structure SameX [Nm] (x : Addr) (H H' : Hp) : Prop where
  k : ∀ a o, a ≠ x → H a = some o → NT o → H' a = some o
  tt : ∀ b ps, H b = some (.tbl ps) → H' b ≠ none
  t : ∀ {P : Addr}, TabG P H → TabG P H'
theorem SameX.ap [Nm] {x : Addr} {H H' : Hp} (s : SameX x H H') (b : Addr) (o : HO) (ne : b ≠ x) (h : H b = some o) (nt : NT o := by exact trivial) : H' b = some o := s.k b o ne h nt
instance [Nm] (x : Addr) (H H' : Hp) : CoeFun (SameX x H H') fun _ => ∀ (b : Addr) (o : HO) (ne : b ≠ x) (h : H b = some o) (nt : NT o := by exact trivial), H' b = some o := ⟨@SameX.ap _ x H H'⟩
theorem SameX.free [Nm] {x : Addr} {H H' : Hp} (s : SameX x H H') {b : Addr} (ne : b ≠ x) (h : H' b = none) : H b = none := by
  cases q : H b with
  | none => rfl
  | some o =>
    cases o with
    | tbl ps => exact absurd h (s.tt b ps q)
    | _ =>
      have h' := s.k b _ ne q trivial
      rw [h] at h'
      cases h'
/-- what an __init__ promises: the instance at x, that had no field, has those that are told -/
def spI [Nm] (g : G) (c : Cl) (i : Nat) (f : Fn) : Sp := fun vs H Q E => ∃ (A : Addr → Prop) (x dx : Addr) (C : Str) (us : List V) (ds : List D) (Qd : List Str → List D → Prop) (R : Exn),
  vs = .ref x :: us ∧ ds.length + 1 = f.np ∧ H x = some (.ins (g.ca C) dx []) ∧ ¬ A x ∧ RepL g A H ds us ∧ TbOk g.ca H ∧ c.init i C ds Qd R ∧
  (∀ ks es H' dx' fs, Qd ks es → SameX x H H' → H' x = some (.ins (g.ca C) dx' fs) → fs.map (·.1) = ks → RepL g (fun a => (A a ∨ H a = none) ∧ a ≠ x) H' es (fs.map (·.2)) → (f.fr = true → RepL g (fun a => H a = none) H' es (fs.map (·.2))) → Q .non H') ∧
  (∀ y H', R y → SameX x H H' → E (.ref (g.ca y)) none H')
def spS [Nm] (g : G) (c : Cl) (i : Nat) (f : Fn) : Sp := if f.ini = true then spI g c i f else spF g c i f
/-- what a nested def promises; ws: what it captured -/
def spN [Nm] (g : G) (c : Cl) (k : Nat) (f : Fn) (ws : List (Option V)) : Sp := fun vs H Q _ => ∃ (A : Addr → Prop) (ds cs : List D) (us : List V) (Qd : D → Prop), ws = us.map some ∧ ds.length = f.np ∧ RepL g A H ds vs ∧ RepL g A H cs us ∧ TbOk g.ca H ∧ c.fnc k ds cs Qd ∧
  ∀ d v H', Qd d → Same H H' → (d.imm = true → Rep g A H' d v) → Q v H'
/-- where a def stands -/
def adr (K : PySem.W.Frag) (f : Fn) : Addr := He.fAd K f.at
/-- what a class must say so that its instances are asked by isinstance -/
structure TyC (K : PySem.W.Frag) (C : Addr) : Prop where
  cl : Cls K C
  ha : PySem.W.findIn K (.ref C) "__class__" = some (some (.builtin "object.__class__"))
  hn : PySem.W.specialIn K (.builtin "object.__class__") "__get__" = some (some (.builtin "getset_descriptor.__get__"))
  ht : PySem.W.takesIn K (.builtin "object.__class__") = some true
  hm : PySem.W.mroIn K C (.type "object") = some true
/-- what the text's classes say -/
structure Cf (K : PySem.W.Frag) (mg : Str → Option Value) (ca : Ca) (m : MC) : Prop where
  me : ∀ C x i, m.fs.mi C x = some i → ∃ f, m.fs.fns[i]? = some f ∧ f.ini = false ∧ f.name = x ∧ Cls K (ca C) ∧ Meth K (ca C) x (adr K f)
  mks : ∀ C i, (C, i) ∈ m.mks → ∃ f, m.fs.fns[i]? = some f ∧ f.ini = true ∧ Mk K (ca C) (adr K f) ∧ mg C = some (.ref (ca C))
  su : ∀ C i, (C, i) ∈ m.su → ∃ f, m.fs.fns[i]? = some f ∧ f.ini = true ∧ mg C = some (.ref (ca C)) ∧ ClX.CRead K (ca C) (.type "type") ∧ ClX.CVal K (ca C) (.type "type") "__init__" (.ref (adr K f)) (.ref (adr K f))
  at_ : ∀ C x, m.fs.ok C x = true → Cls K (ca C) ∧ NoAttr K (ca C) x
  sb : ∀ C T b, m.fs.sub C T = some b → TyC K (ca C) ∧ PySem.W.kitOne K (.ref (ca C)) (.ref (ca T)) = some b
  ty : ∀ T, T ∈ m.ty → mg T = some (.ref (ca T)) ∧ ∀ s, s ∈ plainTys → PySem.W.kitOne K (.type s) (.ref (ca T)) = some false
  xs : ∀ x T b, m.fs.xs x T = some b → PySem.W.exmOne K (.ref (ca x)) (.ref (ca T)) = some b ∧ PySem.W.kitOne K (.ref (ca x)) (.ref (ca T)) = some b ∧ x ∈ m.ex
  xv : ∀ x, x ∈ m.ex → PySem.W.kitOne K (.ref (ca x)) (.type "ValueError") = some true ∧ ExcC K (ca x)
/-- what is known where a text is walked -/
structure SX [Nm] (X : Cx) (ca : Ca) (zc : List (Str × Addr)) (m : MC) (c : Cl) (n : Nat) (W : WX) : Prop where
  N : X.N = m.N
  sc : X.env.scope = m.sc
  nd : X.N.Nodup
  calm : X.calm = true
  room : Room n X.A
  tk : m.q = false → Takes X W
  tkN : m.q = true → L2N.Takes X W
  prg : c.prg = m.fs
  fn : ∀ (i : Nat) (f : Fn), m.fs.fns[i]? = some f → ∃ (fd : FuncData), (f.own = none → X.mg f.name = some (.ref (adr X.K f))) ∧ PySem.W.keepIn X.K (.ref (adr X.K f)) = true ∧ L2.Binds X.K fd (f.N.take f.np) [] ∧
    FnH X n (adr X.K f) fd (f.N.take f.np) (spS ⟨X.K, ca⟩ c i f) ∧ (m.fs.cm.contains f.name = true → FnHN X n (adr X.K f) fd (f.N.take f.np) (spS ⟨X.K, ca⟩ c i f))
  mkr : ∀ (i : Nat) (f : Fn) (C : Str) (ds : List D) (Q : List Str → List D → Prop) (R : Exn), m.fs.fns[i]? = some f → f.ini = true → c.mkr i C ds Q R →
    ∃ (k : Nat) (fd : FuncData) (c' : Cl), c'.init i C ds Q R ∧ Room (k + 1) X.A ∧ L2.Binds X.K fd (f.N.take f.np) [] ∧ FnH X k (adr X.K f) fd (f.N.take f.np) (spI ⟨X.K, ca⟩ c' i f) ∧ ds.length + 1 = f.np
  cf : Cf X.K X.mg ca m
  po : PassesOwn (model X.prog X.w) X.A X.env X.xe
  ex : ∀ x, x ∈ m.ex → X.mg x = some (.ref (ca x)) ∧ PySem.W.excIn X.K (ca x) He.veBase "ValueError.__new__" = true ∧ PySem.W.keepIn X.K (.ref (ca x)) = true ∧ PySem.W.subIn X.K (.ref (ca x)) (.type "BaseException") = some true ∧ PySem.W.typeIn X.K (.ref (ca x)) = some (.type "type")
  cl : ∀ (i : Nat) (f : Fn) (ds : List D) (Q : D → Prop) (R : Exn), m.fs.fns[i]? = some f → c.call i ds Q R → ds.length = f.np
  ini : ∀ (i : Nat) (f : Fn) (C : Str) (ds : List D) (Q : List Str → List D → Prop) (R : Exn), m.fs.fns[i]? = some f → c.init i C ds Q R → ds.length + 1 = f.np
  bl : ∀ x, x ∈ m.bl → X.mg x = none
  gi : ∀ p, p ∈ m.gi → ∃ t, X.mg p.1 = some (.int p.2 t)
  gs : ∀ p, p ∈ m.gs → ∃ t, X.mg p.1 = some (.str p.2 t)
  fnd : ∀ (i : Nat) (f : Fn), m.fs.fns[i]? = some f → f.dv = 1 → ∃ (fd : FuncData), (f.own = none → X.mg f.name = some (.ref (adr X.K f))) ∧ PySem.W.keepIn X.K (.ref (adr X.K f)) = true ∧ L2.Binds X.K fd (f.N.take f.np) [.none] ∧
    FnH X n (adr X.K f) fd (f.N.take f.np) (spS ⟨X.K, ca⟩ c i f) ∧ (m.fs.cm.contains f.name = true → FnHN X n (adr X.K f) fd (f.N.take f.np) (spS ⟨X.K, ca⟩ c i f))
  nst : ∀ (k : Nat) (f : Fn) (fv : List Str), m.fs.nds[k]? = some (f, fv) → ∀ cl cc a, NdefX.NOk X.prog X.w X.K X.mg X.base (L2.CX X.prog X.w) n a (ca.nf k cl cc) (f.N.take f.np) fv (spN ⟨X.K, ca⟩ c k f)
  nfo : ∀ (k : Nat) (f : Fn) (fv : List Str), m.fs.nds[k]? = some (f, fv) → ca.fv k = fv ∧ ∀ cl cc, ca.nf k cl cc = NdefX.NF.of (m.nst k) f.name f.qual (cloFrom cl (C8.fnScope (m.nst k)).names []) cc
  ncl : ∀ (k : Nat) (ds cs : List D) (Q : D → Prop), c.fnc k ds cs Q → ∃ f fv, m.fs.nds[k]? = some (f, fv) ∧ ds.length = f.np ∧ cs.length = fv.length
  zq : m.nb = true → zc = X.env.cells
  ft0 : m.nb = true → m.tl = true → ∀ x, X.fn x = true
section
variable [Nm] {X : Cx} {ca : Ca} {zc : List (Str × Addr)} {U : Addr → Prop} {F B : Hp} {W : WX} {c : Cl} {m : MC} {n : Nat}
theorem SX.hu (s : SX X ca zc m c n W) : X.A.units + 65 < cLine := by have := s.room.un; omega
theorem vis_of {sc : Scope} {x : Str} (h : visB sc x = true) : Vis sc x := by
  unfold visB at h
  unfold Vis
  cases e : sc.names.lookup x with
  | none => rw [e] at h; cases h
  | some k => cases k <;> first | exact .inl rfl | exact .inr (.inl rfl) | exact .inr (.inr rfl) | (rw [e] at h; cases h)
theorem loc_of {sc : Scope} {x : Str} (h : locB sc x = true) : L2.Loc sc x := by
  unfold locB at h
  unfold L2.Loc
  cases e : sc.names.lookup x with
  | none => rw [e] at h; cases h
  | some k => cases k <;> first | exact .inl rfl | exact .inr rfl | (rw [e] at h; cases h)
theorem gl_of {sc : Scope} {x : Str} (h : glB sc x = true) : sc.names.lookup x = some .globalImplicit := by
  unfold glB at h
  cases e : sc.names.lookup x with
  | none => rw [e] at h; cases h
  | some k => cases k <;> first | rfl | (rw [e] at h; cases h)
theorem SX.gl (s : SX X ca zc m c n W) {x : Str} (h : glB m.sc x = true) : Gl X x := by
  show X.env.scope.names.lookup x = some .globalImplicit
  rw [s.sc]
  exact gl_of h
theorem noDbg_of {x : Str} (h : noDbg x = true) : (x == ("__debug__" : Str)) = false ∧ (x == ("__classdict__" : Str)) = false ∧ x ≠ "__name__" := by
  unfold noDbg at h
  obtain ⟨h1, h3⟩ := Bool.and_eq_true_iff.mp h
  obtain ⟨h1, h2⟩ := Bool.and_eq_true_iff.mp h1
  refine ⟨by simpa using h1, by simpa using h2, fun z => ?_⟩
  subst z
  simp at h3
/-! ### calls -/
/-- what a call tells, as an expression's value -/
theorem call_res {env : List Sl} {σ : L2.St} {H H1 H' : Hp} {d : D} {v : V} {inf : Inf} {fr : Bool} (rl : RelW (gOf X ca zc) U F B env σ H) (s1 : Same H H1) (ok : ResOk (gOf X ca zc) (Rch U F env σ inf.al inf.fr) fr H1 H' d v) :
    RepI (gOf X ca zc) U F env σ H H' d (bif fr then ⟨[], [], true, isL d⟩ else bif d.imm then ci else inf.h) v := by
  have low : Rep (gOf X ca zc) (Rch U F env σ inf.al inf.fr) H' d v := ok.1.mono fun a h => h.elim (fun z => z) fun z => rch_new (rl.ext s1) z
  cases fr with
  | true =>
    obtain ⟨o1, o2⟩ := ok.2 rfl
    cases hd2 : isL d with
    | true =>
      cases d <;> first | (exfalso; exact Bool.false_ne_true hd2) | skip
      rename_i ds'
      obtain ⟨p, xs, rfl, h1, h2, h3⟩ := o2 ds' rfl
      exact ⟨p, xs, ds', rfl, rfl, h1, h3.mono fun a h => ⟨rch_new rl (s1.free h.1), h.2⟩, .inl ⟨rfl, s1.free h2⟩⟩
    | false => exact ⟨rfl, o1.mono fun a h => rch_new rl (s1.free h)⟩
  | false =>
    show RepI _ _ _ _ _ _ _ _ (bif d.imm then ci else inf.h) _
    cases hi : d.imm with
    | true => exact repI_c hi low
    | false => exact ⟨rfl, low.mono fun a h => h.mono (fun i w => List.mem_append_right _ w) fun w => w⟩
theorem s_call {f : Nat} {fr : Bool} {fn : Fn} {x : Str} {p pos : Pos} {y : Expr} {ys : List Expr} {ies : Es} (s : SX X ca zc m c n W) (hf : m.fs.fns[f]? = some fn) (ho : fn.own = none) (hx : fn.name = x) (hfr : fn.fr = fr) (hg : glB m.sc x = true) (hd0 : (noDbg x && (!m.q || m.fs.cm.contains x)) = true)
    (hm : mEs m ies (y :: ys) = true) (ha : PA X (y :: ys) (rdA (gOf X ca zc) U F B W c ies)) : PE X (.Call (.Name x p) (y :: ys) [] pos) (rdE (gOf X ca zc) U F B W c (.call f fr ies)) := by
  obtain ⟨hd, hq0⟩ := Bool.and_eq_true_iff.mp hd0
  obtain ⟨fd, hmg, hkp, hb, hok, hokN⟩ := s.fn f fn hf
  have hmg := hmg ho
  have hi : ¬ fn.ini = true := by unfold Fn.ini; rw [ho]; exact Bool.false_ne_true
  have es : spS ⟨X.K, ca⟩ c f fn = spF ⟨X.K, ca⟩ c f fn := if_neg hi
  rw [es] at hok hokN
  have h2 : ∃ i j, ies = .cons i j ∧ mE m i y = true ∧ mEs m j ys = true := by
    cases ies with
    | nil => cases hm
    | cons i j => exact ⟨i, j, rfl, Bool.and_eq_true_iff.mp hm⟩
  obtain ⟨i, j, rfl, m1, m2⟩ := h2
  subst hx
  have pe : PE X (.Call (.Name fn.name p) (y :: ys) [] pos) (tCallS (spF ⟨X.K, ca⟩ c f fn) (fun σ => WE W σ) (rdA (gOf X ca zc) U F B W c (.cons i j))) := by
    cases hq : m.q with
    | false => exact pe_callS hok s.room (s.gl hg) hmg hkp hb (fun σ => passAt (s.tk hq) σ) ha (noDbg_of hd).1 (star_cons m1 _ _) (star_no m2)
    | true =>
      rw [hq] at hq0
      exact pe_callS (hokN (by simpa using hq0)) s.room (s.gl hg) hmg hkp hb (fun σ => L2N.passAt (s.tkN hq) σ) ha (noDbg_of hd).1 (star_cons m1 _ _) (star_no m2)
  refine PE.imp pe fun σ H Q ⟨env, Qd, R, rl, w, k, x⟩ => ?_
  refine ⟨env, _, R, rl, w, fun ds inf vs H1 q s1 z => ?_, x⟩
  have hl : ds.length = fn.np := s.cl f fn _ _ _ hf q
  refine ⟨Rch U F env σ inf.al inf.fr, ds, _, R, hl, z.2.2, (rl.ext s1).tb, q, fun d v H' qd s2 ok => k d _ v H' qd (s1.trans s2) ?_, fun e H' hr s2 => x e H' hr (s1.trans s2)⟩
  subst hfr
  exact call_res rl s1 ok
/-! ### built-ins -/
/-- what a built-in's rule must give -/
def BltK [Nm] (X : Cx) (ca : Ca) (zc : List (Str × Addr)) (U : Addr → Prop) (F B : Hp) (b : Blt) (r : List V → Hp → VK → Prop) : Prop :=
  ∀ {env : List Sl} {σ : L2.St} {H H2 : Hp} {Qd : Post} {Q : VK} {ds : List D} {inf : Inf} {vs : List V}, RelW (gOf X ca zc) U F B env σ H → Same H H2 →
    ((∃ d v, ds = [d] ∧ vs = [v] ∧ RepI (gOf X ca zc) U F env σ H H2 d inf v) ∨ RepA (gOf X ca zc) U F env σ H2 ds inf vs) → bltD b ds inf Qd →
      (∀ d inf v H', Qd d inf → Same H2 H' → RepI (gOf X ca zc) U F env σ H H' d inf v → Q v H') → r vs H2 Q
/-- one argument, however it came -/
theorem arg1 {env : List Sl} {σ : L2.St} {H H2 : Hp} {d : D} {inf : Inf} {vs : List V} (h : (∃ d' v, [d] = [d'] ∧ vs = [v] ∧ RepI (gOf X ca zc) U F env σ H H2 d' inf v) ∨ RepA (gOf X ca zc) U F env σ H2 [d] inf vs) : ∃ v, vs = [v] ∧ RepI (gOf X ca zc) U F env σ H H2 d inf v := by
  rcases h with ⟨d', v, e, rfl, z⟩ | ⟨h1, h2, v, r, rfl, z, e⟩
  · cases e
    exact ⟨v, rfl, z⟩
  · have e : r = [] := e
    subst e
    refine ⟨v, rfl, ?_⟩
    unfold RepI
    rw [h2]
    exact ⟨h1, z⟩
theorem arg2 {env : List Sl} {σ : L2.St} {H H2 : Hp} {d e : D} {inf : Inf} {vs : List V} (h : (∃ d' v, [d, e] = [d'] ∧ vs = [v] ∧ RepI (gOf X ca zc) U F env σ H H2 d' inf v) ∨ RepA (gOf X ca zc) U F env σ H2 [d, e] inf vs) : ∃ v u, vs = [v, u] ∧ Rep (gOf X ca zc) (Rch U F env σ inf.al inf.fr) H2 d v ∧ Rep (gOf X ca zc) (Rch U F env σ inf.al inf.fr) H2 e u := by
  rcases h with ⟨d', v, e', _⟩ | ⟨h1, h2, v, r, rfl, z, u, r2, rfl, z2, e'⟩
  · cases e'
  · have e' : r2 = [] := e'
    subst e'
    exact ⟨v, u, rfl, z, z2⟩
theorem arg5 {env : List Sl} {σ : L2.St} {H H2 : Hp} {a b c d e : Int} {inf : Inf} {vs : List V} (h : (∃ d' v, [D.int a, .int b, .int c, .int d, .int e] = [d'] ∧ vs = [v] ∧ RepI (gOf X ca zc) U F env σ H H2 d' inf v) ∨ RepA (gOf X ca zc) U F env σ H2 [.int a, .int b, .int c, .int d, .int e] inf vs) : vs = [.int a, .int b, .int c, .int d, .int e] := by
  rcases h with ⟨d', v, e', _⟩ | ⟨h1, h2, v1, r1, rfl, z1, v2, r2, rfl, z2, v3, r3, rfl, z3, v4, r4, rfl, z4, v5, r5, rfl, z5, e'⟩
  · cases e'
  · have e' : r5 = [] := e'
    subst e'
    have z1 : v1 = .int a := z1
    subst z1
    have z2 : v2 = .int b := z2
    subst z2
    have z3 : v3 = .int c := z3
    subst z3
    have z4 : v4 = .int d := z4
    subst z4
    have z5 : v5 = .int e := z5
    subst z5
    rfl
theorem min5_eq {a b c d e m : Int} (h1 : m ∈ [a, b, c, d, e]) (h2 : ∀ y, y ∈ [a, b, c, d, e] → m ≤ y) : m = min (min (min (min a b) c) d) e := by
  have k1 := h2 a (by simp)
  have k2 := h2 b (by simp)
  have k3 := h2 c (by simp)
  have k4 := h2 d (by simp)
  have k5 := h2 e (by simp)
  simp only [List.mem_cons, List.not_mem_nil, or_false] at h1
  omega
theorem RepL.boolsOf {g : GZ} {A : Addr → Prop} {H : Hp} : ∀ {ds : List D} {ns : List Bool} {vs : List V}, Rj.boolsOf ds = some ns → RepL g A H ds vs → vs = ns.map V.bl
  | [], ns, vs, e, h => by
    have e1 : ns = [] := (Option.some.inj e).symm
    have h1 : vs = [] := h
    rw [e1, h1]
    rfl
  | d :: ds, ns, vs, e, h => by
    obtain ⟨v, r, rfl, h1, h2⟩ := h
    cases d <;> first | cases e | skip
    rename_i i
    have e : (Rj.boolsOf ds).map (i :: ·) = some ns := e
    cases q : Rj.boolsOf ds with
    | none => rw [q] at e; cases e
    | some ms =>
      rw [q] at e
      obtain rfl : i :: ms = ns := Option.some.inj e
      cases h1
      rw [RepL.boolsOf q h2]
      rfl
theorem RepL.strsOf {g : GZ} {A : Addr → Prop} {H : Hp} : ∀ {ds : List D} {ns : List Str} {vs : List V}, Rj.strsOf ds = some ns → RepL g A H ds vs → vs = ns.map V.str
  | [], ns, vs, e, h => by
    have e1 : ns = [] := (Option.some.inj e).symm
    have h1 : vs = [] := h
    rw [e1, h1]
    rfl
  | d :: ds, ns, vs, e, h => by
    obtain ⟨v, r, rfl, h1, h2⟩ := h
    cases d <;> first | cases e | skip
    rename_i i
    have e : (Rj.strsOf ds).map (i :: ·) = some ns := e
    cases q : Rj.strsOf ds with
    | none => rw [q] at e; cases e
    | some ms =>
      rw [q] at e
      obtain rfl : i :: ms = ns := Option.some.inj e
      cases h1
      rw [RepL.strsOf q h2]
      rfl
theorem RepL.strs {g : GZ} {A : Addr → Prop} {H : Hp} : ∀ {ns : List Str}, RepL g A H (ns.map D.str) (ns.map V.str)
  | [] => rfl
  | n :: ns => ⟨.str n, _, rfl, rfl, RepL.strs⟩
theorem blt_tuple : BltK X ca zc U F B .tuple (fun xs H Q => ∃ p ys, xs = [.ref p] ∧ ((SqL X.K H p ys ∧ ∀ l, H l = none → Q (.ref l) (L2.upd H l (.tup ys))) ∨ (SqT X.K H p ys ∧ Q (.ref p) H))) := fun {env σ H H2 Qd Q ds inf vs} r s h w k => by
  cases ds with
  | nil => exact w.elim
  | cons d ds =>
    cases ds with
    | cons e es => (exfalso; revert w; cases d <;> exact id)
    | nil =>
      obtain ⟨v, rfl, z⟩ := arg1 h
      cases d <;> first | exact w.elim | skip
      · obtain ⟨p, xs, rfl, hp, hl⟩ := z.lst
        exact ⟨p, xs, rfl, .inl ⟨.of hp, fun l hq => k _ _ _ _ w (same_new hq) (repI_h ⟨l, _, rfl, upd_same, hl.ext (same_new hq)⟩)⟩⟩
      · obtain ⟨p, xs, rfl, hp, hl⟩ := z.tup
        exact ⟨p, xs, rfl, .inr ⟨.of hp, k _ _ _ _ w (Same.refl _) (repI_h ⟨p, xs, rfl, hp, hl⟩)⟩⟩
theorem blt_all : BltK X ca zc U F B .all (rAll X.K) := fun {env σ H H2 Qd Q ds inf vs} r s h w k => by
  cases ds with
  | nil => exact w.elim
  | cons d ds =>
    cases ds with
    | cons e es => (exfalso; revert w; cases d <;> exact id)
    | nil =>
      obtain ⟨v, rfl, z⟩ := arg1 h
      cases d <;> first | exact w.elim | skip
      obtain ⟨ns, e, w⟩ := w
      obtain ⟨p, xs, rfl, hp, hl⟩ := z.lst
      obtain rfl := hl.boolsOf e
      exact ⟨p, ns, rfl, .of hp, k _ _ _ _ w (Same.refl _) (repI_bl _)⟩
theorem blt_any : BltK X ca zc U F B .any (rAny X.K) := fun {env σ H H2 Qd Q ds inf vs} r s h w k => by
  cases ds with
  | nil => exact w.elim
  | cons d ds =>
    cases ds with
    | cons e es => (exfalso; revert w; cases d <;> exact id)
    | nil =>
      obtain ⟨v, rfl, z⟩ := arg1 h
      cases d <;> first | exact w.elim | skip
      obtain ⟨ns, e, w⟩ := w
      obtain ⟨p, xs, rfl, hp, hl⟩ := z.lst
      obtain rfl := hl.boolsOf e
      exact ⟨p, ns, rfl, .of hp, k _ _ _ _ w (Same.refl _) (repI_bl _)⟩
theorem blt_divmod : BltK X ca zc U F B .divmod (fun xs H Q => ∃ i j, xs = [.int i, .int j] ∧ CDivP i j ∧ ∀ p, H p = none → Q (.ref p) (L2.upd H p (.tup [.int (i / j), .int (i % j)]))) := fun {env σ H H2 Qd Q ds inf vs} r s h w k => by
  cases ds with
  | nil => exact w.elim
  | cons d ds =>
    cases ds with
    | nil => (exfalso; revert w; cases d <;> exact id)
    | cons e es =>
      cases es with
      | cons a b => (exfalso; revert w; cases d <;> cases e <;> exact id)
      | nil =>
        obtain ⟨v, u, rfl, z1, z2⟩ := arg2 h
        cases d <;> first | exact w.elim | skip
        cases e <;> first | exact w.elim | skip
        cases z1
        cases z2
        exact ⟨_, _, rfl, w.1, fun p hp => k _ _ _ _ w.2 (same_new hp) (repI_c (A := fun _ => True) (by simp [D.imm, immL]) ⟨p, _, rfl, upd_same, _, _, rfl, rfl, _, _, rfl, rfl, rfl⟩)⟩
theorem blt_len : BltK X ca zc U F B .len (fun xs H Q => ∃ x n, xs = [x] ∧ LenV X.K x H n ∧ Q (.int n) H) := fun {env σ H H2 Qd Q ds inf vs} r s h w k => by
  cases ds with
  | nil => exact w.elim
  | cons d ds =>
    cases ds with
    | cons e es => (exfalso; revert w; cases d <;> exact id)
    | nil =>
      obtain ⟨v, rfl, z⟩ := arg1 h
      cases d <;> first | exact w.elim | skip
      · obtain rfl := z.str
        exact ⟨_, _, rfl, ⟨w.1, rfl⟩, k _ _ _ _ w.2 (Same.refl _) (repI_int _)⟩
      · obtain ⟨p, xs, rfl, hp, hl⟩ := z.lst
        exact ⟨_, xs.length, rfl, .inl ⟨xs, .of hp, rfl⟩, by rw [hl.len]; exact k _ _ _ _ w (Same.refl _) (repI_int _)⟩
      · obtain ⟨p, xs, rfl, hp, hl⟩ := z.tup
        exact ⟨_, xs.length, rfl, .inr ⟨xs, .of hp, rfl⟩, by rw [hl.len]; exact k _ _ _ _ w (Same.refl _) (repI_int _)⟩
      · obtain ⟨p, rfl, hp⟩ := z.scr
        exact ⟨_, _, rfl, .inl ⟨_, hp, rfl⟩, by rw [List.length_map]; exact k _ _ _ _ w (Same.refl _) (repI_int _)⟩
theorem blt_list : BltK X ca zc U F B .list (fun xs H Q => ∃ p ys, xs = [.ref p] ∧ (SqL X.K H p ys ∨ SqT X.K H p ys) ∧ ∀ l, H l = none → Q (.ref l) (L2.upd H l (.lst ys))) := fun {env σ H H2 Qd Q ds inf vs} r s h w k => by
  cases ds with
  | nil => exact w.elim
  | cons d ds =>
    cases ds with
    | cons e es => (exfalso; revert w; cases d <;> exact id)
    | nil =>
      obtain ⟨v, rfl, z⟩ := arg1 h
      cases d <;> first | exact w.elim | skip
      · obtain ⟨p, xs, rfl, hp, hl⟩ := z.lst
        refine ⟨p, xs, rfl, .inl (.of hp), fun l hq => k _ _ _ _ w (same_new hq) (repI_new r s hq ?_)⟩
        rename_i ds
        cases hi : immL ds with
        | true => exact RepL.imm hi hl
        | false => rw [Bool.or_false]; exact hl
      · obtain ⟨p, xs, rfl, hp, hl⟩ := z.tup
        exact ⟨p, xs, rfl, .inr (.of hp), fun l hq => k _ _ _ _ w (same_new hq) (repI_new r s hq hl)⟩
      · obtain ⟨p, rfl, hp⟩ := z.scr
        exact ⟨p, _, rfl, .inl hp, fun l hq => k _ _ _ _ w (same_new hq) (repI_new r s hq RepL.ints)⟩
theorem blt_max : BltK X ca zc U F B .max (fun xs H Q => (∃ i j, xs = [.int i, .int j] ∧ Q (.int (if j > i then j else i)) H) ∨ rMax X.K xs H Q) := fun {env σ H H2 Qd Q ds inf vs} r s h w k => by
  cases ds with
  | nil => exact w.elim
  | cons d ds =>
    cases ds with
    | nil =>
      obtain ⟨v, rfl, z⟩ := arg1 h
      cases d <;> first | exact w.elim | skip
      obtain ⟨ns, e, w0, w⟩ := w
      obtain ⟨p, xs, rfl, hp, hl⟩ := z.lst
      obtain rfl := hl.intsOf e
      exact .inr ⟨p, ns, rfl, .of hp, w0, fun m h1 h2 => k _ _ _ _ (w m h1 h2) (Same.refl _) (repI_int _)⟩
    | cons e es =>
      cases es with
      | cons a b => (exfalso; revert w; cases d <;> cases e <;> exact id)
      | nil =>
        obtain ⟨v, u, rfl, z1, z2⟩ := arg2 h
        cases d <;> first | exact w.elim | skip
        cases e <;> first | exact w.elim | skip
        cases z1
        cases z2
        exact .inl ⟨_, _, rfl, k _ _ _ _ w (Same.refl _) (repI_int _)⟩
theorem blt_min : BltK X ca zc U F B .min (fun xs H Q => ((∃ i j, xs = [.int i, .int j] ∧ Q (.int (if j < i then j else i)) H) ∨ rMin X.K xs H Q) ∨ rMin5 xs H Q) := fun {env σ H H2 Qd Q ds inf vs} r s h w k => by
  cases ds with
  | nil => exact w.elim
  | cons d ds =>
    cases ds with
    | nil =>
      obtain ⟨v, rfl, z⟩ := arg1 h
      cases d <;> first | exact w.elim | skip
      obtain ⟨ns, e, w0, w⟩ := w
      obtain ⟨p, xs, rfl, hp, hl⟩ := z.lst
      obtain rfl := hl.intsOf e
      exact .inl (.inr ⟨p, ns, rfl, .of hp, w0, fun m h1 h2 => k _ _ _ _ (w m h1 h2) (Same.refl _) (repI_int _)⟩)
    | cons e es =>
      cases es with
      | cons a b =>
        cases b with
        | nil => (exfalso; revert w; cases d <;> cases e <;> first | exact id | (cases a <;> exact id))
        | cons a2 b =>
          cases b with
          | nil => (exfalso; revert w; cases d <;> cases e <;> first | exact id | (cases a <;> first | exact id | (cases a2 <;> exact id)))
          | cons a3 b =>
            cases b with
            | cons a4 b => (exfalso; revert w; cases d <;> first | exact id | (cases e <;> first | exact id | (cases a <;> first | exact id | (cases a2 <;> first | exact id | (cases a3 <;> exact id)))))
            | nil =>
              cases d <;> first | (exfalso; revert w; exact id) | skip
              cases e <;> first | (exfalso; revert w; exact id) | skip
              cases a <;> first | (exfalso; revert w; exact id) | skip
              cases a2 <;> first | (exfalso; revert w; exact id) | skip
              cases a3 <;> first | (exfalso; revert w; exact id) | skip
              exact .inr ⟨_, _, _, _, _, arg5 h, fun m q1 q2 => k _ _ _ _ (by rw [min5_eq q1 q2]; exact w) (Same.refl _) (repI_int _)⟩
      | nil =>
        obtain ⟨v, u, rfl, z1, z2⟩ := arg2 h
        cases d <;> first | exact w.elim | skip
        cases e <;> first | exact w.elim | skip
        cases z1
        cases z2
        exact .inl (.inl ⟨_, _, rfl, k _ _ _ _ w (Same.refl _) (repI_int _)⟩)
theorem blt_abs : BltK X ca zc U F B .abs (fun xs H Q => ∃ i, xs = [.int i] ∧ Q (.int (if i < 0 then -i else i)) H) := fun {env σ H H2 Qd Q ds inf vs} r s h w k => by
  cases ds with
  | nil => exact w.elim
  | cons d ds =>
    cases ds with
    | cons e es => (exfalso; revert w; cases d <;> exact id)
    | nil =>
      obtain ⟨v, rfl, z⟩ := arg1 h
      cases d <;> first | exact w.elim | skip
      obtain rfl := z.int
      exact ⟨_, rfl, k _ _ _ _ w (Same.refl _) (repI_int _)⟩
theorem blt_int : BltK X ca zc U F B .int (fun xs H Q => ((∃ i, xs = [.int i] ∧ Q (.int i) H) ∨ ∃ k, xs = [.bl k] ∧ Q (.int (if k then 1 else 0)) H) ∨ ∃ a n, xs = [.str a] ∧ PySem.intText? a = some n ∧ a.length ≤ 640 ∧ Q (.int n) H) := fun {env σ H H2 Qd Q ds inf vs} r s h w k => by
  cases ds with
  | nil => exact w.elim
  | cons d ds =>
    cases ds with
    | cons e es => (exfalso; revert w; cases d <;> exact id)
    | nil =>
      obtain ⟨v, rfl, z⟩ := arg1 h
      cases d <;> first | exact w.elim | skip
      · obtain rfl := z.bl
        exact .inl (.inr ⟨_, rfl, k _ _ _ _ w (Same.refl _) (repI_int _)⟩)
      · obtain rfl := z.int
        exact .inl (.inl ⟨_, rfl, k _ _ _ _ w (Same.refl _) (repI_int _)⟩)
      · obtain rfl := z.str
        obtain ⟨n, e, hl, w⟩ := w
        exact .inr ⟨_, n, rfl, e, hl, k _ _ _ _ w (Same.refl _) (repI_int _)⟩
theorem blt_str : BltK X ca zc U F B .str (fun xs H Q => (∃ i, xs = [.int i] ∧ i.natAbs.log2 < 1920 ∧ Q (.str (toString i)) H) ∨ ∃ a, xs = [.str a] ∧ Q (.str a) H) := fun {env σ H H2 Qd Q ds inf vs} r s h w k => by
  cases ds with
  | nil => exact w.elim
  | cons d ds =>
    cases ds with
    | cons e es => (exfalso; revert w; cases d <;> exact id)
    | nil =>
      obtain ⟨v, rfl, z⟩ := arg1 h
      cases d <;> first | exact w.elim | skip
      · obtain rfl := z.int
        exact .inl ⟨_, rfl, w.1, k _ _ _ _ w.2 (Same.refl _) (repI_str _)⟩
      · obtain rfl := z.str
        exact .inr ⟨_, rfl, k _ _ _ _ w (Same.refl _) (repI_str _)⟩
theorem blt_sum : BltK X ca zc U F B .sum (rSum X.K) := fun {env σ H H2 Qd Q ds inf vs} r s h w k => by
  cases ds with
  | nil => exact w.elim
  | cons d ds =>
    cases ds with
    | cons e es => (exfalso; revert w; cases d <;> exact id)
    | nil =>
      obtain ⟨v, rfl, z⟩ := arg1 h
      cases d <;> first | exact w.elim | skip
      · obtain ⟨ns, e, w⟩ := w
        obtain ⟨p, xs, rfl, hp, hl⟩ := z.lst
        obtain rfl := hl.intsOf e
        exact ⟨p, ns, rfl, .of hp, k _ _ _ _ w (Same.refl _) (repI_int _)⟩
      · obtain ⟨p, rfl, hp⟩ := z.scr
        exact ⟨p, _, rfl, hp, k _ _ _ _ w (Same.refl _) (repI_int _)⟩
theorem blt_sortI : BltK X ca zc U F B .sortedI (rSortedI X.K) := fun {env σ H H2 Qd Q ds inf vs} r s h w k => by
  cases ds with
  | nil => exact w.elim
  | cons d ds =>
    cases ds with
    | cons e es => (exfalso; revert w; cases d <;> exact id)
    | nil =>
      obtain ⟨v, rfl, z⟩ := arg1 h
      cases d <;> first | exact w.elim | skip
      obtain ⟨ns, e, w⟩ := w
      obtain ⟨p, xs, rfl, hp, hl⟩ := z.lst
      obtain rfl := hl.intsOf e
      exact ⟨p, ns, rfl, .of hp, fun ns' q pm pw hq => k _ _ _ _ (w ns' pm pw) (same_new hq) (repI_new r s hq RepL.ints)⟩
end
end Rj

namespace Rj
open PySem PySem.Spec PyProof.Rows L2
section
variable [Nm] {X : Cx} {ca : Ca} {zc : List (Str × Addr)} {U : Addr → Prop} {F B : Hp} {W : WX} {c : Cl} {m : MC} {n : Nat}
/-! ### sorted pairs -/
/-- the two ints of the tuple at a value -/
def twoAt (H : Hp) : V → Int × Int
  | .ref t => (match H t with
    | some (.tup [.int i, .int j]) => (i, j)
    | _ => (0, 0))
  | _ => (0, 0)
theorem pairs_cons {d : D} {ds : List D} {ps : List (Int × Int)} (e : pairsOf' (d :: ds) = some ps) : ∃ i j ms, d = .tup [.int i, .int j] ∧ pairsOf' ds = some ms ∧ ps = (i, j) :: ms := by
  unfold pairsOf' at e
  split at e
  · rename_i h
    cases h
  · rename_i i j r h
    obtain ⟨h1, h2⟩ := List.cons.inj h
    subst h1 h2
    cases q : pairsOf' ds with
    | none => rw [q] at e; cases e
    | some ms =>
      rw [q] at e
      exact ⟨i, j, ms, rfl, rfl, (Option.some.inj e).symm⟩
  · cases e
theorem RepL.pairs {g : GZ} {A : Addr → Prop} {H : Hp} : ∀ {ds : List D} {ps : List (Int × Int)} {vs : List V}, pairsOf' ds = some ps → RepL g A H ds vs →
    vs.map (twoAt H) = ps ∧ ∀ v, v ∈ vs → ∃ t, v = .ref t ∧ H t = some (.tup [.int (twoAt H v).1, .int (twoAt H v).2])
  | [], ps, vs, e, h => by
    have e1 : ps = [] := (Option.some.inj e).symm
    have h1 : vs = [] := h
    rw [e1, h1]
    exact ⟨rfl, fun v hv => by cases hv⟩
  | d :: ds, ps, vs, e, h => by
    obtain ⟨v, r, rfl, h1, h2⟩ := h
    obtain ⟨i, j, ms, rfl, q, rfl⟩ := pairs_cons e
    obtain ⟨t, xs, rfl, ht, a, r1, rfl, h3, b, r2, rfl, h4, h5⟩ := h1
    have h3 : a = V.int i := h3
    have h4 : b = V.int j := h4
    have h5 : r2 = [] := h5
    subst h3 h4 h5
    obtain ⟨k1, k2⟩ := RepL.pairs q h2
    have e0 : twoAt H (.ref t) = (i, j) := by
      show (match H t with
        | some (.tup [.int i, .int j]) => (i, j)
        | _ => (0, 0)) = (i, j)
      rw [ht]
    refine ⟨by rw [List.map_cons, e0, k1], fun v hv => ?_⟩
    rcases List.mem_cons.mp hv with rfl | hv
    · exact ⟨t, rfl, by rw [e0]; exact ht⟩
    · exact k2 v hv
theorem repL_pairs {g : GZ} {A : Addr → Prop} {H : Hp} : ∀ {vs : List V}, (∀ v, v ∈ vs → ∃ t, v = .ref t ∧ H t = some (.tup [.int (twoAt H v).1, .int (twoAt H v).2])) → RepL g A H ((vs.map (twoAt H)).map pairD) vs
  | [], _ => rfl
  | v :: vs, h => by
    obtain ⟨t, e, ht⟩ := h v List.mem_cons_self
    refine ⟨v, vs, rfl, ⟨t, _, e, ht, _, _, rfl, rfl, _, _, rfl, rfl, rfl⟩, repL_pairs fun u hu => h u (List.mem_cons_of_mem _ hu)⟩
theorem lexLe_of {p q : Int × Int} (h : SrtO.lexB q p = false) : lexLe p q := by
  have := SrtO.lexB_no.mp h
  unfold lexLe
  omega
theorem blt_sortP : BltK X ca zc U F B .sortedP (rSortedPO X.K) := fun {env σ H H2 Qd Q ds inf vs} r s h w k => by
  cases ds with
  | nil => exact w.elim
  | cons d ds =>
    cases ds with
    | cons e es => (exfalso; revert w; cases d <;> exact id)
    | nil =>
      obtain ⟨v, rfl, z⟩ := arg1 h
      cases d <;> first | exact w.elim | skip
      obtain ⟨ps, e, w⟩ := w
      obtain ⟨p, xs, rfl, hp, hl⟩ := z.lst
      obtain ⟨h1, h2⟩ := hl.pairs e
      subst h1
      refine ⟨p, xs, twoAt H2, rfl, .of hp, h2, fun ys q hs hb hq => ?_⟩
      refine k _ _ _ _ (w (ys.map (twoAt H2)) (hb.perm.map _) ?_) (same_new hq) (repI_new r s hq ?_)
      · refine List.pairwise_map.mpr (hs.imp ?_)
        intro a b h
        exact lexLe_of h
      · exact repL_pairs fun v hv => h2 v (hb.perm.mem_iff.mp hv)
theorem blt_rule (s : SX X ca zc m c n W) (b : Blt) (hm : X.mg b.nm = none) : (∃ (id : String) (r : List V → Hp → VK → Prop), CallR X (.builtin id) r ∧ bootBuiltins b.nm = some (.builtin id) ∧ BltK X ca zc U F B b r) ∨
    (∃ (T : String) (r : List V → Hp → VK → Prop), CallR X (.type T) r ∧ bootBuiltins b.nm = some (.type T) ∧ BltK X ca zc U F B b r) := by
  have no : ∀ {b : Blt}, (∀ ds inf Q, ¬ bltD b ds inf Q) → BltK X ca zc U F B b (fun _ _ _ => False) := by
    intro b hn env σ H H2 Qd Q ds inf vs r s h w k
    exact hn _ _ _ w
  cases b with
  | len => exact .inl ⟨_, _, call_len, boot_len, blt_len⟩
  | list => exact .inr ⟨_, _, call_list_of, boot_list, blt_list⟩
  | tuple => exact .inr ⟨_, _, call_tuple_of, by decide +kernel, blt_tuple⟩
  | int => exact .inr ⟨_, _, call_int1.or call_int_str, boot_int, blt_int⟩
  | str => exact .inr ⟨_, _, call_str_int.or SkE.call_str_str, boot_str, blt_str⟩
  | sum => exact .inl ⟨"sum", _, cr_sum s.calm, by decide +kernel, blt_sum⟩
  | max => exact .inl ⟨_, _, (call_max2 s.calm).or (cr_max s.calm), by decide +kernel, blt_max⟩
  | min => exact .inl ⟨_, _, ((call_min2 s.calm).or (cr_min s.calm)).or (cr_min5 s.calm), by decide +kernel, blt_min⟩
  | abs => exact .inl ⟨_, _, call_abs, by decide +kernel, blt_abs⟩
  | sortedI => exact .inl ⟨_, _, cr_sortedI, by decide +kernel, blt_sortI⟩
  | sortedP => exact .inl ⟨_, _, cr_sortedPO, by decide +kernel, blt_sortP⟩
  | bool => exact .inr ⟨"bool", _, fun _ _ _ _ _ _ _ _ _ h => h.elim, by decide +kernel, no fun ds inf Q => by intro w; cases ds <;> exact w⟩
  | all => exact .inl ⟨"all", _, cr_all s.calm, by decide +kernel, blt_all⟩
  | any => exact .inl ⟨"any", _, cr_any s.calm, by decide +kernel, blt_any⟩
  | divmod => exact .inl ⟨_, _, call_divmodW, by decide +kernel, blt_divmod⟩
theorem s_blt {b : Blt} {x : Str} {p pos : Pos} {y : Expr} {ys : List Expr} {ies : Es} (s : SX X ca zc m c n W) (hx : b.nm = x) (hg : glB m.sc x = true) (hd : noDbg x = true) (hb : x ∈ m.bl) (hm : mEs m ies (y :: ys) = true) (ha : PA X (y :: ys) (rdA1 (gOf X ca zc) U F B W c ies)) :
    PE X (.Call (.Name x p) (y :: ys) [] pos) (rdE (gOf X ca zc) U F B W c (.blt b ies)) := by
  have h2 : ∃ i j, ies = .cons i j ∧ mE m i y = true ∧ mEs m j ys = true := by
    cases ies with
    | nil => cases hm
    | cons i j => exact ⟨i, j, rfl, Bool.and_eq_true_iff.mp hm⟩
  obtain ⟨i, j, rfl, m1, m2⟩ := h2
  subst hx
  rcases blt_rule (U := U) (F := F) (B := B) s b (s.bl _ hb) with ⟨id, r, h1, h2, h3⟩ | ⟨T, r, h1, h2, h3⟩
  · refine PE.imp (pe_callB h1 (s.gl hg) (s.bl _ hb) h2 ha (noDbg_of hd).2.2 (noDbg_of hd).1 (star_cons m1 _ _) (star_no m2)) fun σ H Q ⟨env, Qd, R, rl, w, k, x⟩ => ?_
    exact ⟨env, _, R, rl, w, fun ds inf vs H1 q s1 z => h3 rl s1 z q fun d i v H' qd s2 z2 => k d i v H' qd (s1.trans s2) z2, x⟩
  · refine PE.imp (pe_callTy h1 (s.gl hg) (s.bl _ hb) h2 ha (noDbg_of hd).2.2 (noDbg_of hd).1 (star_cons m1 _ _) (star_no m2)) fun σ H Q ⟨env, Qd, R, rl, w, k, x⟩ => ?_
    exact ⟨env, _, R, rl, w, fun ds inf vs H1 q s1 z => h3 rl s1 z q fun d i v H' qd s2 z2 => k d i v H' qd (s1.trans s2) z2, x⟩
/-! ### isinstance -/
theorem boot_isi : bootBuiltins "isinstance" = some (.builtin "isinstance") := by decide +kernel
theorem boot_ty (t : Ty) : bootBuiltins t.nm = some (.type t.tn) := by cases t <;> decide +kernel
theorem isi_at {A : Addr → Prop} {H : Hp} {d : D} {t : Ty} {k : Bool → Prop} {v : V} (h : isiD d t k) (r : Rep (gOf X ca zc) A H d v) : ∃ (s : String) (b : Bool), TyX X.K H v (.type s) ∧ kitB s t.tn = some b ∧ k b := by
  cases d with
  | non =>
    obtain rfl : v = .non := r
    refine ⟨_, false, .base .non, ?_, ?_⟩
    · cases t <;> decide +kernel
    · cases t <;> exact h
  | bl b =>
    obtain rfl : v = .bl b := r
    cases t with
    | bool => exact ⟨_, true, .base (.bl b), by decide +kernel, h⟩
    | int => exact ⟨_, true, .base (.bl b), by decide +kernel, h⟩
    | _ => exact ⟨_, false, .base (.bl b), by decide +kernel, h⟩
  | int b =>
    obtain rfl : v = .int b := r
    cases t with
    | int => exact ⟨_, true, .base (.int b), by decide +kernel, h⟩
    | _ => exact ⟨_, false, .base (.int b), by decide +kernel, h⟩
  | str b =>
    obtain rfl : v = .str b := r
    cases t with
    | str => exact ⟨_, true, .base (.str b), by decide +kernel, h⟩
    | _ => exact ⟨_, false, .base (.str b), by decide +kernel, h⟩
  | lst b =>
    obtain ⟨p, xs, rfl, _, hp, hl⟩ := r
    cases t with
    | list => exact ⟨_, true, .base (.lst hp), by decide +kernel, h⟩
    | _ => exact ⟨_, false, .base (.lst hp), by decide +kernel, h⟩
  | tup b =>
    obtain ⟨p, xs, rfl, hp, hl⟩ := r
    cases t with
    | tuple => exact ⟨_, true, .base (.tup hp), by decide +kernel, h⟩
    | _ => exact ⟨_, false, .base (.tup hp), by decide +kernel, h⟩
  | scr b =>
    obtain ⟨p, rfl, hp⟩ := r
    have ty : TyX X.K H (.ref p) (.type "list") := by
      rcases hp with ⟨o, e⟩ | ⟨o, its, n, e, c, _⟩
      · exact .base (.frz e)
      · exact .kList e c
    cases t with
    | list => exact ⟨_, true, ty, by decide +kernel, h⟩
    | _ => exact ⟨_, false, ty, by decide +kernel, h⟩
  | dic ks b =>
    obtain ⟨a, kvs, rfl, _, hp, _⟩ := r
    cases t with
    | dict => exact ⟨_, true, .base (.dK hp), by decide +kernel, h⟩
    | _ => exact ⟨_, false, .base (.dK hp), by decide +kernel, h⟩
  | ins c ks b => cases t <;> exact h.elim
  | any => cases t <;> exact h.elim
  | fn c b => cases t <;> exact h.elim
theorem s_isi {a : E} {t : Ty} {e : Expr} {p p2 pos : Pos} (s : SX X ca zc m c n W) (hx : glB m.sc "isinstance" = true) (ht : glB m.sc t.nm = true) (hbx : ("isinstance" : Str) ∈ m.bl) (hbt : t.nm ∈ m.bl) (he : mE m a e = true) (ha : PE X e (rdE (gOf X ca zc) U F B W c a)) :
    PE X (.Call (.Name "isinstance" p) [e, .Name t.nm p2] [] pos) (rdE (gOf X ca zc) U F B W c (.isi a t)) := by
  have hT : PE X (.Name t.nm p2) (tC (.ty t.tn)) := pe_bltn (s.gl ht) (s.bl _ hbt) (boot_ty t) rfl (by cases t <;> decide) (by cases t <;> decide)
  refine PE.imp (pe_callB call_isi (s.gl hx) (s.bl _ hbx) boot_isi (pa_cons ha (pa_cons hT pa_nil) (star_cons he _ _)) (he := star_cons he _ _)) fun σ H Q ⟨env, Qd, R, rl, w, k, x⟩ => ?_
  refine ⟨env, _, R, rl, w, fun d inf v H1 q s1 r => ?_, x⟩
  obtain ⟨sn, b, ty, kt, q⟩ := isi_at q (RepI.low rl r)
  exact ⟨_, _, _, _, b, rfl, .ty _, ty, kit_ty kt, k _ _ _ _ q s1 (repI_c (A := fun _ => True) rfl rfl)⟩
end
end Rj

namespace Rj
open PySem PySem.Spec PyProof.Rows L2
section
variable [Nm] {X : Cx} {ca : Ca} {zc : List (Str × Addr)} {U : Addr → Prop} {F B : Hp} {W : WX} {c : Cl} {m : MC} {n : Nat}
/-! ### fields, methods, instances -/
theorem base_of {e : Expr} {x : Str} {env : Env} (h : noSup e = true) (whole : Sem Value) : attributeBase e x env whole = whole := by
  unfold attributeBase
  split
  · rename_i id p pos
    have h : (!(id == ("super" : Str))) = true := h
    have h1 : (id != ("super" : Str)) = true := h
    rw [h1]
    rfl
  · rfl
theorem ev_meth {e : Expr} {x : Str} {ys : List Expr} {p pos : Pos} {env : Env} (hb : attributeBase e x env (eval e env) = eval e env)
    (hs : (backTo pos (starEach ys env)).any (·.1) = false) (hn : ys.length < 30) (hl : (p.endLine == pos.line) = true) :
    eval (.Call (.Attribute e x p) ys [] pos) env = (do
      let r ← eval e env
      standAt p.atName
      let (f, own) ← holding [r] (getMethod r x (do return (← importBound e env).getD true))
      callWith pos f own (backTo pos (starEach ys env)) (backToKw pos (keywordEach [] env))) := by
  have few : methodCallForm (ys.length + ([] : List Keyword).length) (backTo pos (starEach ys env)) (backToKw pos (keywordEach [] env)) = true := by
    have h1 : (backTo pos (starEach ys env)).all (fun x => !x.1) = true := by
      rw [List.all_eq_true]
      intro z hz
      have h2 := List.any_eq_false.mp hs z hz
      simpa using h2
    unfold methodCallForm
    rw [h1]
    simpa [backToKw, keywordEach] using hn
  show (do
    let ov ← attributeBase e x env (eval e env)
    standAt p.atName
    methodCall e x p pos env ov (ys.length + ([] : List Keyword).length) (backTo pos (starEach ys env)) (backToKw pos (keywordEach [] env))) = _
  rw [hb]
  unfold methodCall calleeOf methodCallPos
  simp only [few, hl, if_true, Bool.not_true, Bool.false_or]
  rfl
theorem RepI.ins {env : List Sl} {σ : L2.St} {H H' : Hp} {C : Str} {ks : List Str} {ds : List D} {inf : Inf} {v : V} (h : RepI (gOf X ca zc) U F env σ H H' (.ins C ks ds) inf v) :
    ∃ a dx fs, v = .ref a ∧ Rch U F env σ inf.al inf.fr a ∧ H' a = some (.ins (ca C) dx fs) ∧ fs.map (·.1) = ks ∧ RepL (gOf X ca zc) (Rch U F env σ inf.al inf.fr) H' ds (fs.map (·.2)) :=
  h.flat (by intro _ z; cases z)
theorem fld_of {g : GZ} {A : Addr → Prop} {H : Hp} {x : Str} {Q : D → Prop} : ∀ {fs : List (Str × V)} {ks : List Str} {ds : List D}, fs.map (·.1) = ks → RepL g A H ds (fs.map (·.2)) → fldD x ks ds Q → ∃ d v, fs.lookup x = some v ∧ Rep g A H d v ∧ Q d
  | [], ks, ds, e, r, h => by
    subst e
    cases ds <;> exact h.elim
  | (k, v) :: fs, ks, ds, e, r, h => by
    subst e
    cases ds with
    | nil => exact h.elim
    | cons d ds =>
      obtain ⟨u, r', e1, r1, r2⟩ := r
      have e1 : v :: fs.map (·.2) = u :: r' := e1
      cases e1
      have h : if k = x then Q d else fldD x (fs.map (·.1)) ds Q := h
      by_cases hk : k = x
      · rw [if_pos hk] at h
        refine ⟨d, v, ?_, r1, h⟩
        rw [List.lookup, hk, beq_self_eq_true]
      · rw [if_neg hk] at h
        obtain ⟨d', v', h1, h2, h3⟩ := fld_of rfl r2 h
        refine ⟨d', v', ?_, h2, h3⟩
        have hb : (x == k) = false := by
          rw [Bool.eq_false_iff]
          intro z
          exact hk (eq_of_beq z).symm
        rw [List.lookup, hb]
        exact h1
theorem lookup_none {x : Str} : ∀ {fs : List (Str × V)} {ks : List Str}, fs.map (·.1) = ks → ks.contains x = false → fs.lookup x = none
  | [], _, _, _ => rfl
  | (k, v) :: fs, ks, e, h => by
    subst e
    have h : (k :: fs.map (·.1)).contains x = false := h
    rw [List.contains_cons, Bool.or_eq_false_iff] at h
    rw [List.lookup, h.1]
    exact lookup_none rfl h.2
theorem s_fld {a : E} {x : Str} {e : Expr} {pos : Pos} (s : SX X ca zc m c n W) (h : noSup e = true) (he : PE X e (rdE (gOf X ca zc) U F B W c a)) : PE X (.Attribute e x pos) (rdE (gOf X ca zc) U F B W c (.fld a x)) :=
  PE.imp (pe_fld he (base_of h _)) fun σ H Q ⟨env, Qd, R, rl, w, k, xx⟩ => rdE1 rl w xx fun d i v H1 w1 s1 z1 r1 x1 => by
    cases d <;> first | exact w1.elim | skip
    obtain ⟨w1, w2⟩ := w1
    rw [s.prg] at w1
    obtain ⟨cl, na⟩ := s.cf.at_ _ _ w1
    obtain ⟨p, dx, fs, rfl, _, hp, hk, hl⟩ := z1.ins
    obtain ⟨d, v, h1, h2, q⟩ := fld_of hk hl w2
    exact ⟨p, _, dx, fs, v, rfl, hp, cl, na, h1, k _ _ _ _ q s1 (repI_n h2)⟩
/-- a method runs -/
theorem meth_run {x : Str} {fr : Bool} {ies : Es} {t : TA} {σ : L2.St} {H H1 : Hp} {Q : VK} {env : List Sl} {Qd : Post} {R : Exn} {d : D} {i : Inf} {v : V} (s : SX X ca zc m c n W) (hfr : m.fs.fns.all (fun f => !(decide (f.name = x)) || (f.fr == fr)) = true)
    (w : (match d with
      | .ins C ks vs => (match c.prg.mi C x with
        | some f => ks.contains x = false ∧ wpEs c ies env (fun ds j => c.call f (.ins C ks vs :: ds) (fun d => Qd d (bif fr then ⟨[], [], true, isL d⟩ else bif d.imm then ci else (i.j j).h)) R) R
        | none => False)
      | _ => False)) (rl : RelW (gOf X ca zc) U F B env σ H) (s1 : Same H H1) (z1 : RepI (gOf X ca zc) U F env σ H H1 d i v) (r1 : RelW (gOf X ca zc) U F B env σ H1)
    (k : ∀ d inf v H', Qd d inf → Same H H' → RepI (gOf X ca zc) U F env σ H H' d inf v → Q v H') (x1 : exW (gOf X ca zc) W σ H1 R)
    (ta : ∀ {K : List D → Inf → Prop} {P : List V → Hp → Prop}, wpEs c ies env K R → (∀ ds inf vs H2, K ds inf → Same H1 H2 → RepA (gOf X ca zc) U F env σ H2 ds inf vs → P vs H2) → t σ H1 P) :
    rMeth X x t (WE W σ) σ Q v H1 := by
  cases d <;> first | exact w.elim | skip
  rename_i C ks es
  cases hm : c.prg.mi C x with
  | none =>
    simp only [hm] at w
  | some f =>
    simp only [hm] at w
    obtain ⟨w1, w2⟩ := w
    rw [s.prg] at hm
    obtain ⟨fn, hf, hi, hn, cl, me⟩ := s.cf.me _ _ _ hm
    obtain ⟨fd, _, kp, bd, hok, _⟩ := s.fn f fn hf
    have hi' : ¬ fn.ini = true := by rw [hi]; exact Bool.false_ne_true
    have hok : FnH X n (adr X.K fn) fd (fn.N.take fn.np) (spF ⟨X.K, ca⟩ c f fn) := by
      have e : spS ⟨X.K, ca⟩ c f fn = spF ⟨X.K, ca⟩ c f fn := if_neg hi'
      rw [← e]
      exact hok
    have hfr2 : fn.fr = fr := by
      have := List.all_eq_true.mp hfr fn (List.mem_of_getElem? hf)
      rw [hn, decide_eq_true rfl] at this
      exact eq_of_beq (by simpa using this)
    obtain ⟨p, dx, fs, rfl, ra, hp, hk, hl⟩ := z1.ins
    refine ⟨p, _, dx, fs, _, n, fd, _, _, rfl, hp, cl, me, lookup_none hk w1, hok, s.room, bd, ta w2 fun ds inf vs H2 q s2 za => ?_⟩
    have hlen : (D.ins C ks es :: ds).length = fn.np := s.cl f fn _ _ _ hf q
    refine ⟨Rch U F env σ (i.j inf).al (i.j inf).fr, _, _, R, hlen, ⟨.ref p, vs, rfl, ⟨p, dx, fs, rfl, ?_, s2 _ _ hp, hk, (hl.ext s2).mono ?_⟩, za.2.2.mono ?_⟩, (r1.ext s2).tb, q, fun d v H' qd s3 ok => ?_, fun y H' hr s3 => x1 y H' hr (s2.trans s3)⟩
    · exact ra.mono (fun _ z => List.mem_append_left _ (List.mem_append_right _ z)) fun z => (Bool.and_eq_true_iff.mp z).1
    · exact fun a z => z.mono (fun _ z => List.mem_append_left _ (List.mem_append_right _ z)) fun z => (Bool.and_eq_true_iff.mp z).1
    · exact fun a z => z.mono (fun _ z => List.mem_append_right _ (List.mem_append_right _ z)) fun z => (Bool.and_eq_true_iff.mp z).2
    · rw [hfr2] at ok
      exact k d _ v H' qd ((s1.trans s2).trans s3) (call_res (inf := i.j inf) rl (s1.trans s2) ok)
theorem s_meth {a : E} {x : Str} {fr : Bool} {ies : Es} {e : Expr} {ys : List Expr} {p pos : Pos} (s : SX X ca zc m c n W) (hq : m.q = false) (hfr : m.fs.fns.all (fun f => !(decide (f.name = x)) || (f.fr == fr)) = true) (hsu : noSup e = true) (hl : (p.endLine == pos.line) = true) (hn : ys.length < 30) (he : PE X e (rdE (gOf X ca zc) U F B W c a))
    (hm : mEs m ies ys = true) (ha : PA X ys (rdA (gOf X ca zc) U F B W c ies)) : PE X (.Call (.Attribute e x p) ys [] pos) (rdE (gOf X ca zc) U F B W c (.meth a x fr ies)) := by
  cases ys with
  | nil =>
    have h0 : ies = .nil := by
      cases ies with
      | nil => rfl
      | cons i j => cases hm
    subst h0
    refine PE.imp (pe_methD0 he (fun σ => passAt (s.tk hq) σ) (ev_meth (base_of hsu _) rfl hn hl)) fun σ H Q ⟨env, Qd, R, rl, w, k, xx⟩ => rdE1 rl w xx fun d i v H1 w1 s1 z1 r1 x1 => ?_
    exact meth_run s hfr w1 rl s1 z1 r1 k x1 fun {K P} hw hk => hk [] ci [] H1 hw (Same.refl _) repA_nil
  | cons y ys =>
    have h2 : ∃ i j, ies = .cons i j ∧ mE m i y = true ∧ mEs m j ys = true := by
      cases ies with
      | nil => cases hm
      | cons i j => exact ⟨i, j, rfl, Bool.and_eq_true_iff.mp hm⟩
    obtain ⟨i, j, rfl, m1, m2⟩ := h2
    refine PE.imp (pe_methD he ha (fun σ => passAt (s.tk hq) σ) (star_cons m1 _ _) (star_no m2) (ev_meth (base_of hsu _) (star_no (irs := .cons i j) hm) hn hl)) fun σ H Q ⟨env, Qd, R, rl, w, k, xx⟩ => rdE1 rl w xx fun d i v H1 w1 s1 z1 r1 x1 => ?_
    exact meth_run s hfr w1 rl s1 z1 r1 k x1 fun {K P} hw hk => ⟨env, K, R, r1, hw, hk, x1⟩
/-- __init__ at the new instance -/
theorem make_run {x : Str} {f : Nat} {σ : L2.St} {H H1 : Hp} {Q : VK} {env : List Sl} {Qd : Post} {R : Exn} {ds : List D} {inf : Inf} {vs : List V} (s : SX X ca zc m c n W) (hm : (x, f) ∈ m.mks) (rl : RelW (gOf X ca zc) U F B env σ H) (s1 : Same H H1)
    (z : RepL (gOf X ca zc) (Rch U F env σ inf.al inf.fr) H1 ds vs) (q : c.mkr f x ds (fun ks es => Qd (.ins x ks es) (mkI (nwB c.prg f) inf)) R)
    (k : ∀ d inf v H', Qd d inf → Same H H' → RepI (gOf X ca zc) U F env σ H H' d inf v → Q v H') (x1 : exW (gOf X ca zc) W σ H1 R) : rMake X (ca x) (WE W σ) Q vs H1 := by
  obtain ⟨fn, hf, hi, mk, _⟩ := s.cf.mks x f hm
  obtain ⟨k', fd, c', q, room, bd, hok, hlen⟩ := s.mkr f fn x _ _ _ hf hi q
  refine ⟨_, k', fd, _, _, mk, hok, room, bd, fun o dx ho hdx hne => ?_⟩
  have sN : Same H1 (L2.upd (L2.upd H1 dx (.own o)) o (.ins (ca x) dx [])) := .of (fun b u e => by
    rw [upd_ne (ne_of_none e ho), upd_ne (ne_of_none e hdx)]
    exact e) fun b ps e => by
      by_cases h1 : b = o
      · subst h1
        rw [upd_same] at e
        cases e
      · rw [upd_ne h1] at e
        by_cases h2 : b = dx
        · subst h2
          rw [upd_same] at e
          cases e
        · rw [upd_ne h2] at e
          exact e
  have sx : ∀ {H' : Hp}, SameX o (L2.upd (L2.upd H1 dx (.own o)) o (.ins (ca x) dx [])) H' → Same H1 H' := fun h => ⟨fun b u e n => h b u (ne_of_none e ho) (sN.k b u e n) n, fun b ps e z => sN.tt b ps e (h.free (ne_of_none e ho) z), fun z => h.t (sN.t z)⟩
  refine ⟨fun a => Rch U F env σ inf.al inf.fr a ∧ a ≠ o, o, dx, x, vs, ds, _, R, rfl, hlen, upd_same, fun w => w.2 rfl, ?_, (rl.ext s1).tb.ext sN, q, fun ks es H' dx' fs hq sm hx hk hl hnw => ⟨rfl, ?_⟩, fun y H' hr sm => x1 y H' hr (sx sm)⟩
  · exact (z.there.mono fun a w => ⟨w.1, fun e => w.2 (by rw [e]; exact ho)⟩).ext sN
  · have r1 := rl.ext s1
    have back : ∀ a, L2.upd (L2.upd H1 dx (.own o)) o (.ins (ca x) dx []) a = none → H1 a = none := fun a w1 => by
      exact sN.free w1
    have enw : nwB c.prg f = fn.fr := by
      unfold nwB
      rw [s.prg, hf]
    rw [enw] at hq
    cases hfr : fn.fr with
    | false =>
      rw [hfr] at hq
      have hq : Qd (.ins x ks es) inf.h := hq
      refine k _ _ _ _ hq (s1.trans (sx sm)) (repI_h ⟨o, dx', fs, rfl, ?_, hx, hk, hl.mono fun a w => ?_⟩)
      · exact rch_new r1 ho
      · rcases w.1 with w1 | w1
        · exact w1.1.mono (fun i z => List.mem_append_right _ z) fun z => z
        · exact rch_new r1 (back a w1)
    | true =>
      rw [hfr] at hq
      have hq : Qd (.ins x ks es) ⟨[], [], true, false⟩ := hq
      refine k _ _ _ _ hq (s1.trans (sx sm)) (repI_h ⟨o, dx', fs, rfl, ?_, hx, hk, (hnw hfr).mono fun a w => ?_⟩)
      · exact rch_new r1 ho
      · exact rch_new r1 (back a w)
theorem s_make {x : Str} {f : Nat} {ies : Es} {ys : List Expr} {p pos : Pos} (s : SX X ca zc m c n W) (hq : m.q = false) (hg : glB m.sc x = true) (hd : noDbg x = true) (hmk : (x, f) ∈ m.mks) (hm : mEs m ies ys = true) (ha : PA X ys (rdA (gOf X ca zc) U F B W c ies)) :
    PE X (.Call (.Name x p) ys [] pos) (rdE (gOf X ca zc) U F B W c (.make x f ies)) := by
  obtain ⟨fn, hf, hi, mk, hmg⟩ := s.cf.mks x f hmk
  cases ys with
  | nil =>
    have h0 : ies = .nil := by
      cases ies with
      | nil => rfl
      | cons i j => cases hm
    subst h0
    refine PE.imp (pe_makeD0 mk.kp (s.gl hg) hmg (fun σ => passAt (s.tk hq) σ) (noDbg_of hd).1) fun σ H Q ⟨env, Qd, R, rl, w, k, xx⟩ => ?_
    exact make_run (inf := ci) s hmk rl (Same.refl _) (ds := []) (vs := []) rfl w k xx
  | cons y ys =>
    have h2 : ∃ i j, ies = .cons i j ∧ mE m i y = true ∧ mEs m j ys = true := by
      cases ies with
      | nil => cases hm
      | cons i j => exact ⟨i, j, rfl, Bool.and_eq_true_iff.mp hm⟩
    obtain ⟨i, j, rfl, m1, m2⟩ := h2
    refine PE.imp (pe_makeD mk.kp (s.gl hg) hmg ha (fun σ => passAt (s.tk hq) σ) (noDbg_of hd).1 (star_cons m1 _ _) (star_no m2)) fun σ H Q ⟨env, Qd, R, rl, w, k, xx⟩ => ?_
    exact ⟨env, _, R, rl, w, fun ds inf vs H1 q s1 z => make_run s hmk rl s1 z.2.2 q k (xx.more s1), xx⟩
/-! ### isinstance with a class of the text -/
theorem isc_at {A : Addr → Prop} {H : Hp} {d : D} {T : Str} {k : Bool → Prop} {v : V} (s : SX X ca zc m c n W) (hT : T ∈ m.ty) (h : iscD c.prg T d k) (r : Rep (gOf X ca zc) A H d v) : ∃ (t : Value) (b : Bool), TyX X.K H v t ∧ PySem.W.kitOne X.K t (.ref (ca T)) = some b ∧ k b := by
  have no : ∀ z, z ∈ plainTys → PySem.W.kitOne X.K (.type z) (.ref (ca T)) = some false := (s.cf.ty T hT).2
  cases d with
  | non =>
    obtain rfl : v = .non := r
    exact ⟨_, false, .base .non, no _ (by decide), h⟩
  | bl b =>
    obtain rfl : v = .bl b := r
    exact ⟨_, false, .base (.bl b), no _ (by decide), h⟩
  | int b =>
    obtain rfl : v = .int b := r
    exact ⟨_, false, .base (.int b), no _ (by decide), h⟩
  | str b =>
    obtain rfl : v = .str b := r
    exact ⟨_, false, .base (.str b), no _ (by decide), h⟩
  | lst b =>
    obtain ⟨p, xs, rfl, _, hp, hl⟩ := r
    exact ⟨_, false, .base (.lst hp), no _ (by decide), h⟩
  | tup b =>
    obtain ⟨p, xs, rfl, hp, hl⟩ := r
    exact ⟨_, false, .base (.tup hp), no _ (by decide), h⟩
  | scr b =>
    obtain ⟨p, rfl, hp⟩ := r
    have ty : TyX X.K H (.ref p) (.type "list") := by
      rcases hp with ⟨o, e⟩ | ⟨o, its, n, e, c, _⟩
      · exact .base (.frz e)
      · exact .kList e c
    exact ⟨_, false, ty, no _ (by decide), h⟩
  | dic ks b =>
    obtain ⟨a, kvs, rfl, _, hp, _⟩ := r
    exact ⟨_, false, .base (.dK hp), no _ (by decide), h⟩
  | ins C ks b =>
    obtain ⟨a, dx, fs, rfl, _, hp, _⟩ := r
    obtain ⟨b, e, q⟩ := h
    rw [s.prg] at e
    obtain ⟨tc, kt⟩ := s.cf.sb _ _ _ e
    exact ⟨_, b, .base (.ins hp tc.cl tc.ha tc.hn tc.ht tc.hm), kt, q⟩
  | any => exact h.elim
  | fn _ _ => exact h.elim
theorem s_isc {a : E} {T : Str} {e : Expr} {p p2 pos : Pos} (s : SX X ca zc m c n W) (hx : glB m.sc "isinstance" = true) (ht : glB m.sc T = true) (hd : noDbg T = true) (hbx : ("isinstance" : Str) ∈ m.bl) (hT : T ∈ m.ty) (he : mE m a e = true) (ha : PE X e (rdE (gOf X ca zc) U F B W c a)) :
    PE X (.Call (.Name "isinstance" p) [e, .Name T p2] [] pos) (rdE (gOf X ca zc) U F B W c (.isc a T)) := by
  have hTn : PE X (.Name T p2) (tC (.ref (ca T))) := pe_glob (v := .ref (ca T)) (s.gl ht) (s.cf.ty T hT).1 rfl (noDbg_of hd).1
  refine PE.imp (pe_callB call_isi (s.gl hx) (s.bl _ hbx) boot_isi (pa_cons ha (pa_cons hTn pa_nil) (star_cons he _ _)) (he := star_cons he _ _)) fun σ H Q ⟨env, Qd, R, rl, w, k, x⟩ => ?_
  refine ⟨env, _, R, rl, w, fun d inf v H1 q s1 r => ?_, x⟩
  obtain ⟨t, b, ty, kt, q⟩ := isc_at s hT q (RepI.low rl r)
  exact ⟨_, _, _, _, b, rfl, .own _, ty, kt, k _ _ _ _ q s1 (repI_c (A := fun _ => True) rfl rfl)⟩
/-! ### a if t else b -/
theorem s_ife {v x y : Expr} {t : T} {a b : E} {pos : Pos} (ht : PT X v (rdT (gOf X ca zc) U F B W c t)) (ha : PE X x (rdE (gOf X ca zc) U F B W c a)) (hb : PE X y (rdE (gOf X ca zc) U F B W c b)) : PE X (.IfExp v x y pos) (rdE (gOf X ca zc) U F B W c (.ife t a b)) :=
  PE.imp (pe_ifExp ht ha hb) fun σ H Q ⟨env, Qd, R, rl, w, k, xx⟩ => rdT1 rl w xx fun b H1 w1 s1 r1 x1 => by
    cases b with
    | true => exact ⟨env, Qd, R, r1, w1, fun d inf v H' q s z => k d inf v H' q (s1.trans s) (z.back s1), x1⟩
    | false => exact ⟨env, Qd, R, r1, w1, fun d inf v H' q s z => k d inf v H' q (s1.trans s) (z.back s1), x1⟩
/-! ### methods of texts and lists -/
/-- what a method's rule must give -/
structure BmK [Nm] (X : Cx) (ca : Ca) (zc : List (Str × Addr)) (U : Addr → Prop) (F B : Hp) (op : BMt) (T : String) (r : V → List V → Hp → VK → Prop) : Prop where
  ty : ∀ {env : List Sl} {σ : L2.St} {H H1 : Hp} {dx : D} {ix : Inf} {x : V}, RepI (gOf X ca zc) U F env σ H H1 dx ix x → bmO op dx = true → tyV X.K T x H1
  go : ∀ {env : List Sl} {σ : L2.St} {H H2 : Hp} {Qd : Post} {Q : VK} {dx dy : D} {ix iy : Inf} {x y : V}, RelW (gOf X ca zc) U F B env σ H → Same H H2 → RepI (gOf X ca zc) U F env σ H H2 dx ix x → RepI (gOf X ca zc) U F env σ H H2 dy iy y → bmD op dx dy Qd →
      (∀ d inf v H', Qd d inf → Same H2 H' → RepI (gOf X ca zc) U F env σ H H' d inf v → Q v H') → r x [y] H2 Q
theorem bm_str {op : BMt} (h : op ≠ .index) {env : List Sl} {σ : L2.St} {H H1 : Hp} {dx : D} {ix : Inf} {x : V} (z : RepI (gOf X ca zc) U F env σ H H1 dx ix x) (o : bmO op dx = true) : tyV X.K "str" x H1 := by
  cases dx <;> first | (exfalso; revert o; cases op <;> exact Bool.false_ne_true) | skip
  · obtain rfl := z.str
    exact (rfl : _ = _)
  · exfalso
    revert o h
    cases op <;> intro h o <;> first | exact h rfl | exact Bool.false_ne_true o
theorem bm_new {g : GZ} {env : List Sl} {σ : L2.St} {H H2 : Hp} {Qd : Post} {Q : VK} {ys : List Str} (rl : RelW g U F B env σ H) (s : Same H H2) (q : Qd (.lst (ys.map .str)) ⟨[], [], true, true⟩)
    (k : ∀ d inf v H', Qd d inf → Same H2 H' → RepI g U F env σ H H' d inf v → Q v H') : rNewStrs ys H2 Q := fun p hp => k _ _ _ _ q (same_new hp) (repI_new rl s hp RepL.strs)
theorem bm_rule (op : BMt) : ∃ (T id : String) (r : V → List V → Hp → VK → Prop), PlainAttrs T ∧ (∀ nm, op.nm = nm → ∃ name : String, nm = name ∧ Slot T name id) ∧ typeOf (.builtin id) = pure (.type "method_descriptor") ∧ MtR X id r ∧ BmK X ca zc U F B op T r := by
  cases op with
  | join =>
    refine ⟨_, _, _, PySem.F.plainAttrs_str, fun nm e => ⟨"join", e.symm, PySem.F.slot_str_join⟩, PySem.F.type_str_join, mt_join, fun z o => bm_str (by decide) z o, fun {env σ H H2 Qd Q dx dy ix iy x y} rl s zx zy w k => ?_⟩
    cases dx <;> first | (exfalso; revert w; cases dy <;> exact id) | skip
    cases dy <;> first | exact w.elim | skip
    obtain ⟨ys, e, hl, w⟩ := w
    obtain ⟨p, xs, rfl, hp, hx⟩ := zy.lst
    obtain rfl := hx.strsOf e
    obtain rfl := zx.str
    exact ⟨_, p, ys, rfl, rfl, .inl (.of hp), hl, k _ _ _ _ w (Same.refl _) (repI_str _)⟩
  | split =>
    refine ⟨_, _, _, PySem.F.plainAttrs_str, fun nm e => ⟨"split", e.symm, PySem.F.slot_str_split⟩, PySem.F.type_str_split, mt_split, fun z o => bm_str (by decide) z o, fun {env σ H H2 Qd Q dx dy ix iy x y} rl s zx zy w k => ?_⟩
    cases dx <;> first | (exfalso; revert w; cases dy <;> exact id) | skip
    cases dy <;> first | exact w.elim | skip
    obtain rfl := zx.str
    obtain rfl := zy.str
    exact ⟨_, _, rfl, rfl, w.1.1, w.1.2, bm_new rl s w.2 k⟩
  | partition =>
    refine ⟨_, _, _, PySem.F.plainAttrs_str, fun nm e => ⟨"partition", e.symm, PySem.F.slot_str_partition⟩, PySem.F.type_str_partition, mt_partition, fun z o => bm_str (by decide) z o, fun {env σ H H2 Qd Q dx dy ix iy x y} rl s zx zy w k => ?_⟩
    cases dx <;> first | (exfalso; revert w; cases dy <;> exact id) | skip
    cases dy <;> first | exact w.elim | skip
    obtain rfl := zx.str
    obtain rfl := zy.str
    exact ⟨_, _, rfl, rfl, w.1.1, w.1.2, fun p hp => k _ _ _ _ w.2 (same_new hp) (repI_c (A := fun _ => True) (by simp [D.imm, immL]) ⟨p, _, rfl, upd_same, _, _, rfl, rfl, _, _, rfl, rfl, _, _, rfl, rfl, rfl⟩)⟩
  | startswith =>
    refine ⟨_, _, _, PySem.F.plainAttrs_str, fun nm e => ⟨"startswith", e.symm, PySem.F.slot_str_startswith⟩, PySem.F.type_str_startswith, mt_startswith, fun z o => bm_str (by decide) z o, fun {env σ H H2 Qd Q dx dy ix iy x y} rl s zx zy w k => ?_⟩
    cases dx <;> first | (exfalso; revert w; cases dy <;> exact id) | skip
    cases dy <;> first | exact w.elim | skip
    obtain rfl := zx.str
    obtain rfl := zy.str
    exact ⟨_, _, rfl, rfl, k _ _ _ _ w (Same.refl _) (repI_bl _)⟩
  | find =>
    refine ⟨_, _, _, PySem.F.plainAttrs_str, fun nm e => ⟨"find", e.symm, PySem.F.slot_str_find⟩, PySem.F.type_str_find, mt_find, fun z o => bm_str (by decide) z o, fun {env σ H H2 Qd Q dx dy ix iy x y} rl s zx zy w k => ?_⟩
    cases dx <;> first | (exfalso; revert w; cases dy <;> exact id) | skip
    cases dy <;> first | exact w.elim | skip
    obtain rfl := zx.str
    obtain rfl := zy.str
    exact ⟨_, _, rfl, rfl, k _ _ _ _ w (Same.refl _) (repI_int _)⟩
  | index =>
    refine ⟨_, _, _, PySem.F.plainAttrs_list, fun nm e => ⟨"index", e.symm, PySem.F.slot_list_index⟩, PySem.F.type_list_index, mt_index, fun {env σ H H1 dx ix x} z o => ?_, fun {env σ H H2 Qd Q dx dy ix iy x y} rl s zx zy w k => ?_⟩
    · cases dx <;> first | (exfalso; exact Bool.false_ne_true o) | skip
      obtain ⟨p, xs, rfl, hp, hl⟩ := z.lst
      exact .inl ⟨rfl, xs, .of hp⟩
    · cases dx <;> first | (exfalso; revert w; cases dy <;> exact id) | skip
      cases dy <;> first | exact w.elim | skip
      · obtain ⟨ys, e, j, h1, h2, w⟩ := w
        obtain ⟨p, xs, rfl, hp, hx⟩ := zx.lst
        obtain rfl := hx.intsOf e
        obtain rfl := zy.int
        rename_i b
        refine ⟨p, _, .int b, j, .int b, rfl, rfl, .of hp, rfl, ?_, by rw [List.getElem?_map, h1]; rfl, ?_, fun m z' hm hz => ?_, k _ _ _ _ w (Same.refl _) (repI_int _)⟩
        · rw [List.all_map]
          exact List.all_eq_true.mpr fun _ _ => rfl
        · simp [eqV]
        · rw [List.getElem?_map] at hz
          cases q : ys[m]? with
          | none => rw [q] at hz; cases hz
          | some t =>
            rw [q] at hz
            cases hz
            have := h2 m hm
            rw [q] at this
            have ne : t ≠ b := fun e => this (by rw [e])
            simp [eqV, ne]
      · obtain ⟨ys, e, j, h1, h2, w⟩ := w
        obtain ⟨p, xs, rfl, hp, hx⟩ := zx.lst
        obtain rfl := hx.strsOf e
        obtain rfl := zy.str
        rename_i b
        refine ⟨p, _, .str b, j, .str b, rfl, rfl, .of hp, rfl, ?_, by rw [List.getElem?_map, h1]; rfl, ?_, fun m z' hm hz => ?_, k _ _ _ _ w (Same.refl _) (repI_int _)⟩
        · rw [List.all_map]
          exact List.all_eq_true.mpr fun _ _ => rfl
        · simp [eqV]
        · rw [List.getElem?_map] at hz
          cases q : ys[m]? with
          | none => rw [q] at hz; cases hz
          | some t =>
            rw [q] at hz
            cases hz
            have := h2 m hm
            rw [q] at this
            have ne : t ≠ b := fun e => this (by rw [e])
            simp [eqV, ne]
theorem s_bm {op : BMt} {ia ib : E} {o e : Expr} {f : Str} {ap cp : Pos} (hf : op.nm = f) (h : noSup o = true) (hl : (ap.endLine == cp.line) = true) (hm : mE m ib e = true) (ho : PE X o (rdE (gOf X ca zc) U F B W c ia)) (he : PE X e (rdE (gOf X ca zc) U F B W c ib)) :
    PE X (.Call (.Attribute o f ap) [e] [] cp) (rdE (gOf X ca zc) U F B W c (.bm op ia ib)) := by
  obtain ⟨T, id, r, pa, sl, ty, mt, bk⟩ := bm_rule (X := X) (ca := ca) (U := U) (F := F) (B := B) op
  obtain ⟨name, rfl, sl⟩ := sl f hf
  have hs := star_cons hm [] X.env
  refine PE.imp (pe_bm pa sl ty mt ho (pa_cons he pa_nil hs) (base_of h _) (by rw [hs]; rfl) hl hs rfl) fun σ H Q ⟨env, Qd, R, rl, w, k, x⟩ => ?_
  refine rdE1 rl w x fun dx ix vx H1 w1 s1 z1 r1 x1 => ⟨bk.ty z1 w1.1, ?_⟩
  refine rdE1 r1 w1.2 x1 fun dy iy vy H2 w2 s2 z2 r2 x2 => ?_
  exact bk.go rl (s1.trans s2) (z1.ext s2) (z2.back s1) w2 fun d inf v H' q s z => k d inf v H' q ((s1.trans s2).trans s) z
theorem s_upper {ia : E} {o : Expr} {ap cp : Pos} (h : noSup o = true) (hl : (ap.endLine == cp.line) = true) (ho : PE X o (rdE (gOf X ca zc) U F B W c ia)) :
    PE X (.Call (.Attribute o "upper" ap) [] [] cp) (rdE (gOf X ca zc) U F B W c (.upper ia)) := by
  refine PE.imp (pe_bm0 PySem.F.plainAttrs_str PySem.F.slot_str_upper PySem.F.type_str_upper mt_upper ho (base_of h _) hl) fun σ H Q ⟨env, Qd, R, rl, w, k, x⟩ => ?_
  refine rdE1 rl w x fun dx ix vx H1 w1 s1 z1 r1 x1 => ?_
  cases dx <;> first | exact w1.elim | skip
  obtain rfl := z1.str
  exact ⟨rfl, _, rfl, rfl, w1.1, k _ _ _ _ w1.2 s1 (repI_str _)⟩
theorem s_lrev {ia : E} {e : Expr} {p p2 pos pos2 : Pos} (s : SX X ca zc m c n W) (hg : glB m.sc "list" = true) (hg2 : glB m.sc "reversed" = true) (hb : ("list" : Str) ∈ m.bl) (hb2 : ("reversed" : Str) ∈ m.bl) (hm : mE m ia e = true) (he : PE X e (rdE (gOf X ca zc) U F B W c ia)) :
    PE X (.Call (.Name "list" p) [.Call (.Name "reversed" p2) [e] [] pos2] [] pos) (rdE (gOf X ca zc) U F B W c (.lrev ia)) := by
  refine PE.imp (pe_lstRev s.calm (s.gl hg) (s.bl _ hb) (s.gl hg2) (s.bl _ hb2) he (star_cons hm _ _)) fun σ H Q ⟨env, Qd, R, rl, w, k, x⟩ => ?_
  refine rdE1 rl w x fun dx ix vx H1 w1 s1 z1 r1 x1 => ?_
  cases dx <;> first | exact w1.elim | skip
  rename_i ds
  obtain ⟨q, xs, rfl, hq, hl⟩ := z1.lst
  refine ⟨q, xs, rfl, .of hq, fun l hn => k _ _ _ _ w1 (s1.trans (same_new hn)) (repI_new rl s1 hn (RepL.reverse ?_))⟩
  cases hi : immL ds with
  | true => exact RepL.imm hi hl
  | false => rw [Bool.or_false]; exact hl
theorem s_lrng {ia : E} {e : Expr} {p p2 pos pos2 : Pos} (s : SX X ca zc m c n W) (hg : glB m.sc "list" = true) (hg2 : glB m.sc "range" = true) (hb : ("list" : Str) ∈ m.bl) (hb2 : ("range" : Str) ∈ m.bl) (hm : mE m ia e = true) (he : PE X e (rdE (gOf X ca zc) U F B W c ia)) :
    PE X (.Call (.Name "list" p) [.Call (.Name "range" p2) [e] [] pos2] [] pos) (rdE (gOf X ca zc) U F B W c (.lrng ia)) := by
  refine PE.imp (pe_lstRng s.calm (s.gl hg) (s.bl _ hb) (s.gl hg2) (s.bl _ hb2) he (star_cons hm _ _)) fun σ H Q ⟨env, Qd, R, rl, w, k, x⟩ => ?_
  refine rdE1 rl w x fun dx ix vx H1 w1 s1 z1 r1 x1 => ?_
  cases dx <;> first | exact w1.elim | skip
  obtain rfl := z1.int
  refine ⟨_, rfl, w1.1.1.1, w1.1.1.2, w1.1.2, fun q hq => k _ _ _ _ w1.2 (s1.trans (same_new hq)) (repI_new rl s1 hq ?_)⟩
  unfold rngD
  generalize Int.toNat _ = m
  generalize List.range m = l
  induction l with
  | nil => exact (rfl : _ = _)
  | cons a r ih => exact ⟨.int a, _, rfl, (by show V.int (a : Int) = V.int (0 + (a : Int)); rw [Int.zero_add]), ih⟩
theorem s_lrr {ia : E} {e : Expr} {p p2 p3 pos pos2 pos3 : Pos} (s : SX X ca zc m c n W) (hg : glB m.sc "list" = true) (hg2 : glB m.sc "reversed" = true) (hg3 : glB m.sc "range" = true) (hb : ("list" : Str) ∈ m.bl) (hb2 : ("reversed" : Str) ∈ m.bl) (hb3 : ("range" : Str) ∈ m.bl) (hm : mE m ia e = true) (he : PE X e (rdE (gOf X ca zc) U F B W c ia)) :
    PE X (.Call (.Name "list" p) [.Call (.Name "reversed" p2) [.Call (.Name "range" p3) [e] [] pos3] [] pos2] [] pos) (rdE (gOf X ca zc) U F B W c (.lrr ia)) := by
  refine PE.imp (pe_lstRR s.calm (s.gl hg) (s.bl _ hb) (s.gl hg2) (s.bl _ hb2) (s.gl hg3) (s.bl _ hb3) he (star_cons hm _ _)) fun σ H Q ⟨env, Qd, R, rl, w, k, x⟩ => ?_
  refine rdE1 rl w x fun dx ix vx H1 w1 s1 z1 r1 x1 => ?_
  cases dx <;> first | exact w1.elim | skip
  obtain rfl := z1.int
  rename_i i
  refine ⟨_, rfl, w1.1.1.1, w1.1.1.2, w1.1.2, fun q hq => k _ _ _ _ w1.2 (s1.trans (same_new hq)) (repI_new rl s1 hq ?_)⟩
  have e : (rngD i.toNat 0).reverse = (List.range i.toNat).map fun k : Nat => D.int ((i.toNat : Int) - 1 - (k : Int)) := by
    refine List.ext_getElem? fun j => ?_
    unfold rngD
    by_cases hj : j < i.toNat
    · rw [List.getElem?_reverse (by simpa using hj), List.getElem?_map, List.getElem?_map, List.length_map, List.length_range, List.getElem?_range hj, List.getElem?_range (by omega)]
      show some (D.int _) = some (D.int _)
      congr 2
      omega
    · rw [List.getElem?_eq_none (by simpa using hj), List.getElem?_eq_none (by simpa using hj)]
  rw [e]
  generalize (i.toNat : Int) - 1 = a
  generalize List.range i.toNat = l
  induction l with
  | nil => exact (rfl : _ = _)
  | cons b r ih => exact ⟨.int (a - (b : Int)), _, rfl, rfl, ih⟩
theorem s_sset {ia : E} {e : Expr} {p p2 pos pos2 : Pos} (s : SX X ca zc m c n W) (hg : glB m.sc "sorted" = true) (hg2 : glB m.sc "set" = true) (hb : ("sorted" : Str) ∈ m.bl) (hb2 : ("set" : Str) ∈ m.bl) (hm : mE m ia e = true) (he : PE X e (rdE (gOf X ca zc) U F B W c ia)) :
    PE X (.Call (.Name "sorted" p) [.Call (.Name "set" p2) [e] [] pos2] [] pos) (rdE (gOf X ca zc) U F B W c (.sset ia)) := by
  refine PE.imp (pe_sortSet s.calm (s.gl hg) (s.bl _ hb) (s.gl hg2) (s.bl _ hb2) he (star_cons hm _ _)) fun σ H Q ⟨env, Qd, R, rl, w, k, x⟩ => ?_
  refine rdE1 rl w x fun dx ix vx H1 w1 s1 z1 r1 x1 => ?_
  cases dx <;> first | exact w1.elim | skip
  rename_i ds
  obtain ⟨ns, e1, ⟨h4, Bd, hB, hm2⟩, w1⟩ := w1
  obtain ⟨q, xs, rfl, hq, hl⟩ := z1.lst
  obtain rfl := hl.intsOf e1
  exact ⟨q, ns, Bd, rfl, .of hq, h4, hB, hm2, fun ms l q1 q2 hn => k _ _ _ _ (w1 ms q1 q2) (s1.trans (same_new hn)) (repI_new rl s1 hn RepL.ints)⟩
end
end Rj

namespace Rj
open PySem PySem.Spec PyProof.Rows L2
section
variable [Nm] {X : Cx} {ca : Ca} {zc : List (Str × Addr)} {U : Addr → Prop} {F B : Hp} {W : WX} {c : Cl} {m : MC} {n : Nat}
/-! ### what is walked -/
open Classical in
/-- the heap without the things that slots own, but for those at l -/
noncomputable def cutH (env : List Sl) (σ : L2.St) (l : List Nat) (H : Hp) : Hp := fun a => if ((Ex env σ a ∧ ¬ ∃ i, i ∈ l ∧ Ow env σ i a) ∨ Sx env σ a) ∧ ∃ o, H a = some o ∧ Wr o then none else H a
theorem cutH_raw {env : List Sl} {σ : L2.St} {l : List Nat} {H : Hp} {b : Addr} {o : HO} (e : cutH env σ l H b = some o) : H b = some o := by
  unfold cutH at e
  split at e
  · cases e
  · exact e
theorem cutH_sub {env : List Sl} {σ : L2.St} {l : List Nat} {H : Hp} : Same (cutH env σ l H) H := by
  refine .of (fun b o e => cutH_raw e) fun b ps e => ?_
  unfold cutH
  rw [if_neg]
  · exact e
  · rintro ⟨_, o, e', w⟩
    rw [e] at e'
    cases e'
    exact w
theorem cutH_keep {env : List Sl} {σ : L2.St} {l : List Nat} {H : Hp} {a : Addr} (h : Ex env σ a → ∃ i, i ∈ l ∧ Ow env σ i a) (h2 : ¬ Sx env σ a) : cutH env σ l H a = H a := by
  unfold cutH
  rw [if_neg]
  rintro ⟨z | z, _⟩
  · exact z.2 (h z.1)
  · exact h2 z
theorem cutH_wr {env : List Sl} {σ : L2.St} {l : List Nat} {H : Hp} {a : Addr} {o : HO} (e : H a = some o) (w : ¬ Wr o) : cutH env σ l H a = some o := by
  unfold cutH
  rw [if_neg]
  · exact e
  · rintro ⟨_, o', e', w'⟩
    rw [e] at e'
    cases e'
    exact w w'
theorem cutH_sx {env : List Sl} {σ : L2.St} {l : List Nat} {H : Hp} {a : Addr} {o : HO} (h : Sx env σ a) (e : H a = some o) (w : Wr o) : cutH env σ l H a = none := by
  unfold cutH
  rw [if_pos ⟨.inr h, o, e, w⟩]
/-- J yields the data xs one by one, over any heap that keeps Hb -/
def ItOk (g : GZ) (Hb : Hp) (A : Addr → Prop) (J : L2.It) (xs : List D) : Prop := ∀ H2, Same Hb H2 →
  (∀ (i : Nat) (d : D), xs[i]? = some d → J.go i H2 ∧ ∀ v H3, J.yld i H2 v H3 → Same H2 H3 ∧ Rep g A H3 d v) ∧ (∀ i, xs.length ≤ i → J.stop i H2)
def rdI (g : GZ) (U : Addr → Prop) (F B : Hp) (W : WX) (c : Cl) (ir : It) : TI := fun σ H Q => ∃ (env : List Sl) (Qd : List D → Inf → Prop) (R : Exn), RelW g U F B env σ H ∧ wpI c ir env Qd R ∧
  (∀ xs inf J H1, Qd xs inf → Same H H1 → ItOk g (cutH env σ inf.all H1) (fun a => Rch U F env σ inf.al inf.fr a ∧ cutH env σ inf.all H1 a ≠ none) J xs → Q J H1) ∧ exW g W σ H R
theorem RepL.cutH {g : GZ} {env : List Sl} {σ : L2.St} {H : Hp} {al l : List Nat} {fr : Bool} {ds : List D} {vs : List V} (r : RelW g U F B env σ H) (hs : ∀ i, i ∈ al → i ∈ l) (h : RepL g (Rch U F env σ al fr) H ds vs) : RepL g (Rch U F env σ al fr) (cutH env σ l H) ds vs := by
  refine h.kept (fun a o ha e _ => ?_) (fun a o e nw _ => cutH_wr e nw)
  rw [cutH_keep (fun z => let ⟨i, h1, h2⟩ := ha.2.1 z; ⟨i, hs i h1, h2⟩) fun z => (r.sx z).1 ha.1]
  exact e
/-- an address that the value itself stands at -/
theorem RepI.keep {g : GZ} {env : List Sl} {σ : L2.St} {H H1 : Hp} {ds : List D} {inf : Inf} {v : V} (r : RelW g U F B env σ H) (s : Same H H1) (h : RepI g U F env σ H H1 (.lst ds) inf v) :
    ∃ p xs, v = .ref p ∧ Rj.cutH env σ inf.all H1 p = some (.lst xs) ∧ RepL g (Rch U F env σ inf.al inf.fr) (Rj.cutH env σ inf.all H1) ds xs := by
  obtain ⟨p, xs, e, h1, h2⟩ := h.lst
  refine ⟨p, xs, e, ?_, h2.cutH (r.ext s) fun i z => List.mem_append_right _ z⟩
  subst e
  obtain ⟨p', xs', e1, h3, h4, _⟩ := h.low r
  cases e1
  rw [cutH_keep h3.2.1 fun z => ((r.ext s).sx z).1 h3.1]
  exact h1
theorem itl_ok {g : GZ} {Hb : Hp} {A : Addr → Prop} {a : Addr} {xs : List V} {ds : List D} (h : Hb a = some (.lst xs)) (hl : RepL g A Hb ds xs) : ItOk g Hb A (Itl g.K a) ds := fun H2 s => by
  have sq : SqL g.K H2 a xs := .of (s _ _ h)
  refine ⟨fun i d e => ?_, fun i hi => ⟨xs, sq, by rw [hl.len]; exact hi⟩⟩
  obtain ⟨v, h1, h2⟩ := hl.get e
  refine ⟨⟨xs, v, sq, h1⟩, fun u H3 y => ?_⟩
  obtain ⟨rfl, y⟩ := y
  have e2 := y xs sq
  rw [h1] at e2
  cases e2
  exact ⟨Same.refl _, h2.ext s⟩
theorem itt_ok {g : GZ} {Hb : Hp} {A : Addr → Prop} {a : Addr} {xs : List V} {ds : List D} (h : Hb a = some (.tup xs)) (hl : RepL g A Hb ds xs) : ItOk g Hb A (Itt g.K a) ds := fun H2 s => by
  have sq : SqT g.K H2 a xs := .of (s _ _ h)
  refine ⟨fun i d e => ?_, fun i hi => ⟨xs, sq, by rw [hl.len]; exact hi⟩⟩
  obtain ⟨v, h1, h2⟩ := hl.get e
  refine ⟨⟨xs, v, sq, h1⟩, fun u H3 y => ?_⟩
  obtain ⟨rfl, y⟩ := y
  have e2 := y xs sq
  rw [h1] at e2
  cases e2
  exact ⟨Same.refl _, h2.ext s⟩
theorem its_ok {g : GZ} {Hb : Hp} {A : Addr → Prop} {a : Addr} {ns : List Int} (h : Fz g.K Hb a (ns.map V.int)) : ItOk g Hb A (Itl g.K a) (ns.map D.int) := fun H2 s => by
  have sq : SqL g.K H2 a (ns.map V.int) := (h.ext s).sq
  refine ⟨fun i d e => ?_, fun i hi => ⟨_, sq, by rw [List.length_map] at hi ⊢; exact hi⟩⟩
  rw [List.getElem?_map] at e
  cases q : ns[i]? with
  | none => rw [q] at e; cases e
  | some k =>
    rw [q] at e
    cases e
    have h1 : (ns.map V.int)[i]? = some (.int k) := by rw [List.getElem?_map, q]; rfl
    refine ⟨⟨_, _, sq, h1⟩, fun u H3 y => ?_⟩
    obtain ⟨rfl, y⟩ := y
    have e2 := y _ sq
    rw [h1] at e2
    cases e2
    exact ⟨Same.refl _, rfl⟩
theorem itr_ok {g : GZ} {Hb : Hp} {A : Addr → Prop} (lo : Int) (k : Nat) : ItOk g Hb A (Itr lo k) (rngD k lo) := fun H2 s => by
  refine ⟨fun i d e => ?_, fun i hi => ?_⟩
  · unfold rngD at e
    rw [List.getElem?_map] at e
    by_cases h : i < k
    · rw [List.getElem?_range h] at e
      cases e
      refine ⟨h, fun v H3 y => ?_⟩
      obtain ⟨rfl, rfl⟩ := y
      exact ⟨Same.refl _, rfl⟩
    · rw [List.getElem?_eq_none (by simpa using h)] at e
      cases e
  · unfold rngD at hi
    rw [List.length_map, List.length_range] at hi
    exact hi
theorem itS_ok {g : GZ} {Hb : Hp} {A : Addr → Prop} (x : Str) : ItOk g Hb A (Its x) (x.cps.toList.map fun ch => .str ⟨#[ch]⟩) := fun H2 s => by
  refine ⟨fun i d e => ?_, fun i hi => by rw [List.length_map] at hi; exact hi⟩
  rw [List.getElem?_map, Array.getElem?_toList] at e
  cases q : x.cps[i]? with
  | none => rw [q] at e; cases e
  | some ch =>
    rw [q] at e
    cases e
    have hi : i < x.cps.size := by
      obtain ⟨h, _⟩ := Array.getElem?_eq_some_iff.mp q
      exact h
    refine ⟨hi, fun v H3 y => ?_⟩
    obtain ⟨rfl, ch', e1, rfl⟩ := y
    rw [q] at e1
    cases e1
    exact ⟨Same.refl _, rfl⟩
theorem itz_ok {g : GZ} {Hb : Hp} {A : Addr → Prop} {a b : Addr} {xs ys : List V} {ds es : List D} (h : Hb a = some (.lst xs)) (hl : RepL g A Hb ds xs) (h' : Hb b = some (.lst ys)) (hl' : RepL g A Hb es ys) : ItOk g Hb A (Itz g.K a b) (ds.zipWith (fun x y => D.tup [x, y]) es) := fun H2 s => by
  have sq : SqL g.K H2 a xs := .of (s _ _ h)
  have sq' : SqL g.K H2 b ys := .of (s _ _ h')
  refine ⟨fun i d e => ?_, fun i hi => ⟨xs, ys, sq, sq', ?_⟩⟩
  · rw [List.getElem?_zipWith] at e
    cases q1 : ds[i]? with
    | none => rw [q1] at e; cases e
    | some d1 =>
      cases q2 : es[i]? with
      | none => rw [q1, q2] at e; cases e
      | some d2 =>
        rw [q1, q2] at e
        cases e
        obtain ⟨v1, h1, h2⟩ := hl.get q1
        obtain ⟨v2, h3, h4⟩ := hl'.get q2
        refine ⟨⟨xs, ys, v1, v2, sq, sq', h1, h3⟩, fun v H3 y => ?_⟩
        obtain ⟨t, x, y, rfl, ht, rfl, f1, f2⟩ := y
        have e1 := f1 xs sq
        have e2 := f2 ys sq'
        rw [h1] at e1
        rw [h3] at e2
        cases e1
        cases e2
        have sn : Same H2 (L2.upd H2 t (.tup [v1, v2])) := same_new ht
        exact ⟨sn, t, _, rfl, upd_same, v1, _, rfl, (h2.ext s).ext sn, v2, _, rfl, (h4.ext s).ext sn, rfl⟩
  · rw [List.length_zipWith] at hi
    rw [hl.len, hl'.len]
    omega
theorem itzM_ok {g : GZ} {Hb : Hp} {A : Addr → Prop} {a b : Addr} {xs ys : List V} {ds es : List D} (h : Hb a = some (.lst xs)) (hl : RepL g A Hb ds xs) (h' : Hb b = some (.tup ys)) (hl' : RepL g A Hb es ys) : ItOk g Hb A (ItzM g.K a b) (ds.zipWith (fun x y => D.tup [x, y]) es) := fun H2 s => by
  have sq : SqL g.K H2 a xs := .of (s _ _ h)
  have sq' : SqT g.K H2 b ys := .of (s _ _ h')
  refine ⟨fun i d e => ?_, fun i hi => ⟨xs, ys, sq, sq', ?_⟩⟩
  · rw [List.getElem?_zipWith] at e
    cases q1 : ds[i]? with
    | none => rw [q1] at e; cases e
    | some d1 =>
      cases q2 : es[i]? with
      | none => rw [q1, q2] at e; cases e
      | some d2 =>
        rw [q1, q2] at e
        cases e
        obtain ⟨v1, h1, h2⟩ := hl.get q1
        obtain ⟨v2, h3, h4⟩ := hl'.get q2
        refine ⟨⟨xs, ys, v1, v2, sq, sq', h1, h3⟩, fun v H3 y => ?_⟩
        obtain ⟨t, x, y, rfl, ht, rfl, f1, f2⟩ := y
        have e1 := f1 xs sq
        have e2 := f2 ys sq'
        rw [h1] at e1
        rw [h3] at e2
        cases e1
        cases e2
        have sn : Same H2 (L2.upd H2 t (.tup [v1, v2])) := same_new ht
        exact ⟨sn, t, _, rfl, upd_same, v1, _, rfl, (h2.ext s).ext sn, v2, _, rfl, (h4.ext s).ext sn, rfl⟩
  · rw [List.length_zipWith] at hi
    rw [hl.len, hl'.len]
    omega
theorem ite_ok {g : GZ} {Hb : Hp} {A : Addr → Prop} {a : Addr} {xs : List V} {ds : List D} (h : Hb a = some (.lst xs)) (hl : RepL g A Hb ds xs) : ItOk g Hb A (Ite g.K a) (enumD ds) := fun H2 s => by
  have sq : SqL g.K H2 a xs := .of (s _ _ h)
  refine ⟨fun i d e => ?_, fun i hi => ⟨xs, sq, ?_⟩⟩
  · unfold enumD at e
    rw [List.getElem?_zipWith] at e
    cases q : ds[i]? with
    | none =>
      rw [q] at e
      cases q2 : (List.range ds.length)[i]? <;> rw [q2] at e <;> cases e
    | some d1 =>
      have hlt : i < ds.length := (List.getElem?_eq_some_iff.mp q).1
      rw [q, List.getElem?_range hlt] at e
      cases e
      obtain ⟨v1, h1, h2⟩ := hl.get q
      refine ⟨⟨xs, v1, sq, h1⟩, fun v H3 y => ?_⟩
      obtain ⟨t, x, rfl, ht, rfl, f1⟩ := y
      have e1 := f1 xs sq
      rw [h1] at e1
      cases e1
      have sn : Same H2 (L2.upd H2 t (.tup [.int (i : Nat), v1])) := same_new ht
      exact ⟨sn, t, _, rfl, upd_same, _, _, rfl, rfl, v1, _, rfl, (h2.ext s).ext sn, rfl⟩
  · unfold enumD at hi
    rw [List.length_zipWith, List.length_range, Nat.min_self] at hi
    rw [hl.len]
    exact hi
/-! ### the iterators of the text -/
def iAny (K : PySem.W.Frag) (tl : TE) : TI := fun σ H R => tl σ H fun x H1 => (∃ a, x = .ref a ∧ ((∃ xs, SqL K H1 a xs) ∧ R (Itl K a) H1 ∨ (∃ xs, SqT K H1 a xs) ∧ R (Itt K a) H1)) ∨ ∃ y, x = .str y ∧ R (Its y) H1
theorem pi_any {tg l : Expr} {tl : TE} (hl : PE X l tl) : PI X tg l (iAny X.K tl) := by
  refine ⟨fun pins s σ H R I h => thn (hl.run pins s σ H _ I h) fun v s1 ⟨x, H1, I1, r1, q1⟩ => ?_⟩
  rcases q1 with ⟨a, rfl, ⟨⟨xs, hq⟩, q⟩ | ⟨⟨xs, hq⟩, q⟩⟩ | ⟨y, rfl, q⟩
  · cases r1
    obtain ⟨its, rv, p, hz⟩ := I1.list hq
    exact wpAny_pyIter_list p.isList (pi_one (tk := s1.toks) I1 _ (turn_list a _) ⟨_, Heap.get?_push_size _ rfl, rfl, rfl⟩ q)
  · cases r1
    obtain ⟨its, rv, p, hz⟩ := I1.tuple hq
    exact wpAny_pyIter_tuple (show s1.heap.IsTuple a its.toArray from p) (pi_one (tk := s1.toks) I1 _ (turn_tuple a _) ⟨_, Heap.get?_push_size _ rfl, rfl, rfl⟩ q)
  · obtain ⟨t, rfl⟩ := r1
    cases ha : y.cps.all (· < 128)
    · exact wpAny_pyIter_wide ha (pi_one (tk := s1.toks) I1 _ (turn_str _ y t "str_iterator" (.inr rfl)) ⟨_, Heap.get?_push_size _ rfl, rfl, rfl⟩ q)
    · exact wpAny_pyIter_ascii ha (pi_one (tk := s1.toks) I1 _ (turn_str _ y t "str_ascii_iterator" (.inl rfl)) ⟨_, Heap.get?_push_size _ rfl, rfl, rfl⟩ q)
theorem PI.imp {tg l : Expr} {t t' : TI} (h : PI X tg l t) (i : ∀ σ H Q, t' σ H Q → t σ H Q) : PI X tg l t' := ⟨fun pins s σ H Q I q => h.run pins s σ H Q I (i σ H Q q)⟩
theorem i_e {tg a : Expr} {ia : E} (ha : PE X a (rdE (gOf X ca zc) U F B W c ia)) : PI X tg a (rdI (gOf X ca zc) U F B W c (.e ia)) := by
  refine PI.imp (pi_any ha) fun σ H Q ⟨env, Qd, R, rl, w, k, x⟩ => rdE1 rl w x fun d i v H1 w1 s1 z1 r1 x1 => ?_
  cases d <;> first | exact w1.elim | skip
  · obtain rfl := z1.str
    exact .inr ⟨_, rfl, k _ _ _ _ w1 s1 (itS_ok _)⟩
  · obtain ⟨p, xs, rfl, h1, h2⟩ := z1.keep rl s1
    exact .inl ⟨p, rfl, .inl ⟨⟨xs, .of (cutH_sub _ _ h1)⟩, k _ _ _ _ w1 s1 (itl_ok h1 h2.there)⟩⟩
  · obtain ⟨p, xs, rfl, h1, h2⟩ := z1.tup
    refine .inl ⟨p, rfl, .inr ⟨⟨xs, .of h1⟩, k _ _ _ _ w1 s1 (itt_ok (xs := xs) ?_ (h2.cutH r1 fun i z => List.mem_append_right _ z).there)⟩⟩
    exact cutH_wr h1 fun z => z
  · obtain ⟨p, e, h1⟩ := (z1.flat (by intro _ z; cases z) : Rep (gOf X ca zc) _ H1 (.scr _) v)
    refine .inl ⟨p, e, .inl ⟨⟨_, h1.sq⟩, k _ _ _ _ w1 s1 (its_ok ?_)⟩⟩
    refine h1.imp_left fun ⟨o, z⟩ => ⟨o, ?_⟩
    exact cutH_wr z fun z => z
theorem i_rng1 {tg a : Expr} {ia : E} {p pos : Pos} (s : SX X ca zc m c n W) (hg : glB m.sc "range" = true) (hb : ("range" : Str) ∈ m.bl) (hm : mE m ia a = true) (ha : PE X a (rdE (gOf X ca zc) U F B W c ia)) : PI X tg (.Call (.Name "range" p) [a] [] pos) (rdI (gOf X ca zc) U F B W c (.rng1 ia)) := by
  refine PI.imp (pi_range1 (s.gl hg) (s.bl _ hb) (pa_cons ha pa_nil (star_cons hm _ _)) (star_cons hm _ _)) fun σ H Q ⟨env, Qd, R, rl, w, k, x⟩ => rdE1 rl w x fun d i v H1 w1 s1 z1 r1 x1 => ?_
  cases d <;> first | exact w1.elim | skip
  obtain rfl := z1.int
  exact ⟨_, rfl, w1.1.1, w1.1.2, k _ _ _ _ w1.2 s1 (itr_ok _ _)⟩
theorem i_rng2 {tg a b : Expr} {ia ib : E} {p pos : Pos} (s : SX X ca zc m c n W) (hg : glB m.sc "range" = true) (hb : ("range" : Str) ∈ m.bl) (hm : mE m ia a = true) (hm2 : mE m ib b = true) (ha : PE X a (rdE (gOf X ca zc) U F B W c ia)) (hb' : PE X b (rdE (gOf X ca zc) U F B W c ib)) :
    PI X tg (.Call (.Name "range" p) [a, b] [] pos) (rdI (gOf X ca zc) U F B W c (.rng2 ia ib)) := by
  refine PI.imp (pi_range2 (s.gl hg) (s.bl _ hb) (pa_cons ha (pa_cons hb' pa_nil (star_cons hm2 _ _)) (star_cons hm _ _)) (by rw [star_cons hm, star_cons hm2]; rfl) (star_cons hm2 _ _)) fun σ H Q ⟨env, Qd, R, rl, w, k, x⟩ => rdE1 rl w x fun d i v H1 w1 s1 z1 r1 x1 => rdE1 r1 w1 x1 fun d2 i2 v2 H2 w2 s2 z2 r2 x2 => ?_
  cases d <;> first | (exfalso; revert w2; cases d2 <;> exact id) | skip
  cases d2 <;> first | exact w2.elim | skip
  obtain rfl := z1.int
  obtain rfl := z2.int
  exact ⟨_, _, rfl, ⟨w2.1.1.1, w2.1.1.2, w2.1.2.1, w2.1.2.2⟩, k _ _ _ _ w2.2 (s1.trans s2) (itr_ok _ _)⟩
theorem itc_ok {g : GZ} {Hb : Hp} {A : Addr → Prop} (lo c : Int) (k : Nat) : ItOk g Hb A (L2.Itc lo c k) (rngC k lo c) := fun H2 s => by
  refine ⟨fun i d e => ?_, fun i hi => ?_⟩
  · unfold rngC at e
    rw [List.getElem?_map] at e
    by_cases h : i < k
    · rw [List.getElem?_range h] at e
      cases e
      refine ⟨h, fun v H3 y => ?_⟩
      obtain ⟨rfl, rfl⟩ := y
      exact ⟨Same.refl _, rfl⟩
    · rw [List.getElem?_eq_none (by simpa using h)] at e
      cases e
  · unfold rngC at hi
    rw [List.length_map, List.length_range] at hi
    exact hi
theorem i_rng3 {tg a b q : Expr} {ia ib iq : E} {p pos : Pos} (s : SX X ca zc m c n W) (hg : glB m.sc "range" = true) (hb : ("range" : Str) ∈ m.bl) (hm : mE m ia a = true) (hm2 : mE m ib b = true) (hm3 : mE m iq q = true) (ha : PE X a (rdE (gOf X ca zc) U F B W c ia)) (hb' : PE X b (rdE (gOf X ca zc) U F B W c ib)) (hq : PE X q (rdE (gOf X ca zc) U F B W c iq)) :
    PI X tg (.Call (.Name "range" p) [a, b, q] [] pos) (rdI (gOf X ca zc) U F B W c (.rng3 ia ib iq)) := by
  refine PI.imp (pi_range3 (s.gl hg) (s.bl _ hb) (pa_cons ha (pa_cons hb' (pa_cons hq pa_nil (star_cons hm3 _ _)) (star_cons hm2 _ _)) (star_cons hm _ _)) (star_cons hm _ _) (by rw [star_cons hm2, star_cons hm3]; rfl)) fun σ H Q ⟨env, Qd, R, rl, w, k, x⟩ => rdE1 rl w x fun d i v H1 w1 s1 z1 r1 x1 => rdE1 r1 w1 x1 fun d2 i2 v2 H2 w2 s2 z2 r2 x2 => rdE1 r2 w2 x2 fun d3 i3 v3 H3 w3 s3 z3 r3 x3 => ?_
  cases d <;> first | (exfalso; revert w3; cases d2 <;> cases d3 <;> exact id) | skip
  cases d2 <;> first | (exfalso; revert w3; cases d3 <;> exact id) | skip
  cases d3 <;> first | exact w3.elim | skip
  obtain rfl := z1.int
  obtain rfl := z2.int
  obtain rfl := z3.int
  obtain ⟨m, h, w3⟩ := w3
  exact ⟨_, _, _, m, rfl, h, k _ _ _ _ w3 ((s1.trans s2).trans s3) (itc_ok _ _ _)⟩
theorem i_zip {a b : Expr} {elts : List Expr} {kk : Nat} {tpos : Pos} {ia ib : E} {p pos : Pos} (s : SX X ca zc m c n W) (hg : glB m.sc "zip" = true) (hb : ("zip" : Str) ∈ m.bl) (hm : mE m ia a = true) (hm2 : mE m ib b = true) (ha : PE X a (rdE (gOf X ca zc) U F B W c ia)) (hb' : PE X b (rdE (gOf X ca zc) U F B W c ib)) :
    PI X (.Tuple elts kk tpos) (.Call (.Name "zip" p) [a, b] [] pos) (rdI (gOf X ca zc) U F B W c (.zip ia ib)) := by
  refine PI.imp (pi_zipM (s.gl hg) (s.bl _ hb) (pa_cons ha (pa_cons hb' pa_nil (star_cons hm2 _ _)) (star_cons hm _ _)) (star_cons hm _ _) (by rw [star_cons hm2]; rfl)) fun σ H Q ⟨env, Qd, R, rl, w, k, x⟩ => rdE1 rl w x fun d i v H1 w1 s1 z1 r1 x1 => rdE1 r1 w1 x1 fun d2 i2 v2 H2 w2 s2 z2 r2 x2 => ?_
  cases d <;> first | (exfalso; revert w2; cases d2 <;> exact id) | skip
  have k1 : ∀ a, Rch U F env σ i.all i.fr a → Ex env σ a → ∃ j, j ∈ (⟨i.al ++ i2.al, i.me ++ i2.me, i.fr && i2.fr, false⟩ : Inf).all ∧ Ow env σ j a := fun a q z => by
    obtain ⟨j, hj, ho⟩ := q.2.1 z
    refine ⟨j, ?_, ho⟩
    rcases List.mem_append.mp hj with hj | hj
    · exact List.mem_append_left _ (List.mem_append_left _ hj)
    · exact List.mem_append_right _ (List.mem_append_left _ hj)
  have k2 : ∀ a, Rch U F env σ i2.all i2.fr a → Ex env σ a → ∃ j, j ∈ (⟨i.al ++ i2.al, i.me ++ i2.me, i.fr && i2.fr, false⟩ : Inf).all ∧ Ow env σ j a := fun a q z => by
    obtain ⟨j, hj, ho⟩ := q.2.1 z
    refine ⟨j, ?_, ho⟩
    rcases List.mem_append.mp hj with hj | hj
    · exact List.mem_append_left _ (List.mem_append_right _ hj)
    · exact List.mem_append_right _ (List.mem_append_right _ hj)
  cases d2 <;> first | exact w2.elim | skip
  · obtain ⟨p1, xs, rfl, h1, h2⟩ := (z1.ext s2).lst
    obtain ⟨p2, ys, rfl, h3, h4⟩ := z2.lst
    obtain ⟨_, _, e1, q1, q2, _⟩ := z1.low rl
    cases e1
    obtain ⟨_, _, e2, q3, q4, _⟩ := z2.low r1
    cases e2
    refine ⟨p1, p2, xs, ys, rfl, .inl ⟨.of h1, .of h3, k _ _ _ _ w2 (s1.trans s2) (itz_ok (xs := xs) (ys := ys) ?_ ?_ ?_ ?_)⟩⟩
    · rw [cutH_keep (k1 _ q1) fun z => (r2.sx z).1 q1.1]
      exact h1
    · exact ((h2.mono fun a q => q.mono (fun j z => List.mem_append_left _ z) fun z => (Bool.and_eq_true_iff.mp z).1).cutH r2 fun j z => List.mem_append_right _ z).there
    · rw [cutH_keep (k2 _ q3) fun z => (r2.sx z).1 q3.1]
      exact h3
    · exact ((h4.mono fun a q => q.mono (fun j z => List.mem_append_right _ z) fun z => (Bool.and_eq_true_iff.mp z).2).cutH r2 fun j z => List.mem_append_right _ z).there
  · obtain ⟨p1, xs, rfl, h1, h2⟩ := (z1.ext s2).lst
    obtain ⟨p2, ys, rfl, h3, h4⟩ := z2.tup
    obtain ⟨_, _, e1, q1, q2, _⟩ := z1.low rl
    cases e1
    refine ⟨p1, p2, xs, ys, rfl, .inr ⟨.of h1, .of h3, k _ _ _ _ w2 (s1.trans s2) (itzM_ok (xs := xs) (ys := ys) ?_ ?_ ?_ ?_)⟩⟩
    · rw [cutH_keep (k1 _ q1) fun z => (r2.sx z).1 q1.1]
      exact h1
    · exact ((h2.mono fun a q => q.mono (fun j z => List.mem_append_left _ z) fun z => (Bool.and_eq_true_iff.mp z).1).cutH r2 fun j z => List.mem_append_right _ z).there
    · exact cutH_wr h3 fun z => z
    · exact ((h4.mono fun a q => q.mono (fun j z => List.mem_append_right _ z) fun z => (Bool.and_eq_true_iff.mp z).2).cutH r2 fun j z => List.mem_append_right _ z).there
theorem i_enum {a : Expr} {elts : List Expr} {kk : Nat} {tpos : Pos} {ia : E} {p pos : Pos} (s : SX X ca zc m c n W) (hg : glB m.sc "enumerate" = true) (hb : ("enumerate" : Str) ∈ m.bl) (hm : mE m ia a = true) (ha : PE X a (rdE (gOf X ca zc) U F B W c ia)) :
    PI X (.Tuple elts kk tpos) (.Call (.Name "enumerate" p) [a] [] pos) (rdI (gOf X ca zc) U F B W c (.enum ia)) := by
  refine PI.imp (pi_enum (s.gl hg) (s.bl _ hb) (pa_cons ha pa_nil (star_cons hm _ _)) (star_cons hm _ _)) fun σ H Q ⟨env, Qd, R, rl, w, k, x⟩ => rdE1 rl w x fun d i v H1 w1 s1 z1 r1 x1 => ?_
  cases d <;> first | exact w1.elim | skip
  obtain ⟨p1, xs, rfl, h1, h2⟩ := z1.keep rl s1
  exact ⟨p1, xs, rfl, .of (cutH_sub _ _ h1), k _ _ _ _ w1 s1 (ite_ok h1 h2.there)⟩
end
end Rj

namespace Rj
open PySem PySem.Spec PyProof.Rows L2
section
variable [Nm] {X : Cx} {ca : Ca} {zc : List (Str × Addr)} {U : Addr → Prop} {F B : Hp} {W : WX} {c : Cl} {m : MC} {n : Nat} {g : GZ}
/-! ### targets -/
def gNs : List Nat → TGs
  | [] => gNil
  | i :: is => gCons (gName i) (gNs is)
def rdG (K : PySem.W.Frag) : Tg → TG
  | .name i => gName i
  | .tup is => gTup K is.length (gNs is)
/-- what stands the same behind the target's stores -/
structure Bd (ns : List Nat) (env env' : List Sl) (σ σ' : L2.St) : Prop where
  en : ∀ j, j ∉ ns → env'[j]? = env[j]?
  st : ∀ j, j ∉ ns → σ'[j]? = σ[j]?
  no : ∀ j, j ∈ ns → ∀ s v a, env'[j]? = some s → ¬ OwA s v a
theorem Rep.ok1 {env env' : List Sl} {σ σ' : L2.St} {H : Hp} {fr : Bool} {d : D} {v : V} (hx : ∀ a, Ex env' σ' a → Ex env σ a) (h : Rep g (Ok1 U F env σ fr) H d v) : Rep g (Ok1 U F env' σ' fr) H d v := h.mono fun a z => ok1_mono hx z
theorem ex_setV {env : List Sl} {σ : L2.St} {i : Nat} {d : D} {fr : Bool} {v : Option V} {a : Addr} (z : Ex (env.set i (.val d fr)) (σ.set i v) a) : Ex env σ a := (ex_set z).elim id fun q => False.elim q
theorem wipe_get {σ : L2.St} {j : Nat} : ∀ {l : List Nat}, (wipe σ l)[j]? = if j ∈ l then (if j < σ.length then some none else none) else σ[j]?
  | [] => by simp [wipe]
  | i :: l => by
    unfold wipe
    by_cases hj : i = j
    · subst hj
      rw [List.getElem?_set]
      simp [wipe_length]
    · rw [List.getElem?_set_ne hj, wipe_get]
      have e : (j ∈ i :: l) = (j ∈ l) := by
        simp [Ne.symm hj]
      simp only [e]
theorem wipe_set {σ : L2.St} {i : Nat} {v : Option V} {l : List Nat} (h : i ∈ l) : wipe (σ.set i v) l = wipe σ l := by
  apply List.ext_getElem?
  intro j
  rw [wipe_get, wipe_get, List.length_set]
  by_cases hj : j ∈ l
  · rw [if_pos hj, if_pos hj]
  · rw [if_neg hj, if_neg hj, List.getElem?_set_ne (fun z => hj (by rw [← z]; exact h))]
theorem many_len {fr : Bool} : ∀ {is : List Nat} {ds : List D} {env : List Sl}, (setMany fr is ds env).length = env.length
  | [], ds, env => by cases ds <;> rfl
  | i :: is, [], env => rfl
  | i :: is, d :: ds, env => by
    show (setMany fr is ds (env.set i (.val d fr))).length = env.length
    rw [many_len, List.length_set]
theorem many_out {fr : Bool} {j : Nat} : ∀ {is : List Nat} {ds : List D} {env : List Sl}, j ∉ is → (setMany fr is ds env)[j]? = env[j]?
  | [], ds, env, _ => by cases ds <;> rfl
  | i :: is, [], env, _ => rfl
  | i :: is, d :: ds, env, h => by
    show (setMany fr is ds (env.set i (.val d fr)))[j]? = env[j]?
    rw [many_out (fun z => h (List.mem_cons_of_mem _ z)), List.getElem?_set_ne (fun z => h (by rw [z]; exact List.mem_cons_self))]
theorem many_no {fr : Bool} {j : Nat} {s : Sl} {v : Option V} {a : Addr} : ∀ {is : List Nat} {ds : List D} {env : List Sl}, ds.length = is.length → j ∈ is → (setMany fr is ds env)[j]? = some s → ¬ OwA s v a
  | i :: is, [], env, hl, _ => by simp at hl
  | i :: is, d :: ds, env, hl, h => by
    show (setMany fr is ds (env.set i (.val d fr)))[j]? = _ → _
    by_cases hj : j ∈ is
    · exact many_no (by simpa using hl) hj
    · rw [many_out hj]
      have e : j = i := (List.mem_cons.mp h).resolve_right hj
      subst e
      intro e
      rw [List.getElem?_set] at e
      simp only [if_true] at e
      split at e
      · cases e
        exact fun z => z
      · cases e
theorem many_ok {fr : Bool} : ∀ {is : List Nat} {ds : List D} {vs : List V} {env : List Sl} {σ : L2.St} {H : Hp} {Q : L2.St → Hp → Prop}, RelW g U F B env σ H → RepL g (Ok1 U F env σ fr) H ds vs → ds.length = is.length →
    (∀ σ', RelW g U F B (setMany fr is ds env) σ' H → (∀ j, j ∉ is → σ'[j]? = σ[j]?) → (∀ l, (∀ j, j ∈ is → j ∈ l) → wipe σ' l = wipe σ l) → Q σ' H) → gNs is vs σ H Q
  | [], ds, vs, env, σ, H, Q, r, h, hl, k => by
    cases ds with
    | cons d ds => simp at hl
    | nil =>
      have h : vs = [] := h
      subst h
      exact ⟨rfl, k σ r (fun _ _ => rfl) fun _ _ => rfl⟩
  | i :: is, [], vs, env, σ, H, Q, r, h, hl, k => by simp at hl
  | i :: is, d :: ds, vs, env, σ, H, Q, r, h, hl, k => by
    obtain ⟨v, rr, rfl, h1, h2⟩ := h
    refine ⟨v, rr, rfl, ?_⟩
    refine many_ok (r.setV h1) (h2.mono fun a z => ok1_mono (fun a z => ex_setV z) z) (by simpa using hl) fun σ' r' k1 k2 => ?_
    refine k σ' r' (fun j hj => ?_) fun l hl => ?_
    · rw [k1 j fun z => hj (List.mem_cons_of_mem _ z), List.getElem?_set_ne (fun z => hj (by rw [z]; exact List.mem_cons_self))]
    · rw [k2 l fun j hj => hl j (List.mem_cons_of_mem _ hj)]
      exact wipe_set (hl i List.mem_cons_self)
theorem bind_ok {t : Tg} {fr : Bool} {d : D} {v : V} {env : List Sl} {σ : L2.St} {H : Hp} {k : List Sl → Prop} {Q : L2.St → Hp → Prop} (r : RelW g U F B env σ H) (h : Rep g (Ok1 U F env σ fr) H d v) (w : bindT fr env k t d)
    (q : ∀ env' σ', k env' → RelW g U F B env' σ' H → Bd t.ns env env' σ σ' → (∀ l, (∀ j, j ∈ t.ns → j ∈ l) → wipe σ' l = wipe σ l) → Q σ' H) : rdG g.K t v σ H Q := by
  cases t with
  | name i =>
    refine q _ _ w (r.setV h) ⟨fun j hj => ?_, fun j hj => ?_, fun j hj s w a e => ?_⟩ fun l hl => wipe_set (hl i (List.mem_singleton.mpr rfl))
    · exact List.getElem?_set_ne fun z => hj (by rw [← z]; exact List.mem_singleton.mpr rfl)
    · exact List.getElem?_set_ne fun z => hj (by rw [← z]; exact List.mem_singleton.mpr rfl)
    · have hj : j ∈ [i] := hj
      obtain rfl := List.mem_singleton.mp hj
      rw [List.getElem?_set] at e
      simp only [if_true] at e
      split at e
      · cases e
        exact fun z => z
      · cases e
  | tup is =>
    cases d <;> first | exact w.elim | skip
    obtain ⟨hl, w⟩ := w
    obtain ⟨a, xs, rfl, ha, hx⟩ := h
    refine ⟨a, xs, rfl, .of ha, by rw [hx.len, hl], ?_⟩
    exact many_ok r hx hl fun σ' r' k1 k2 => q _ _ w r' ⟨fun j hj => many_out hj, k1, fun j hj s w a => many_no hl hj⟩ k2
theorem pgs_many {sc : Scope} {sx : SX X ca zc m c n W} : ∀ {is : List Nat} {es : List Expr}, mTs m.N sc is es = true → (hf : ∀ x, locB sc x = true → L2.Loc X.env.scope x ∧ (X.fn x = true ∨ X.env.scope.names.lookup x = some .local)) → PGs X es (gNs is)
  | [], [], _, _ => pgs_nil
  | [], _ :: _, h, _ => by cases h
  | i :: is, [], h, _ => by cases h
  | i :: is, e :: es, h, hf => by
    cases e <;> first | (exfalso; exact Bool.false_ne_true h) | skip
    rename_i x p
    have h : (nameAt m.N i x && locB sc x && noDbg x && mTs m.N sc is es) = true := h
    obtain ⟨h, h4⟩ := Bool.and_eq_true_iff.mp h
    obtain ⟨h, h3⟩ := Bool.and_eq_true_iff.mp h
    obtain ⟨h1, h2⟩ := Bool.and_eq_true_iff.mp h
    exact pgs_cons (pg_name sx.nd (by rw [sx.N]; exact of_decide_eq_true h1) (hf x h2).1 (hf x h2).2) (pgs_many (sx := sx) h4 hf)
theorem g_ok {sc : Scope} (sx : SX X ca zc m c n W) (hf : ∀ x, locB sc x = true → L2.Loc X.env.scope x ∧ (X.fn x = true ∨ X.env.scope.names.lookup x = some .local)) {t : Tg} {tg : Expr} (h : mT m.N sc t tg = true) : PG X tg (rdG X.K t) := by
  cases t with
  | name i =>
    cases tg <;> first | (exfalso; exact Bool.false_ne_true h) | skip
    rename_i x p
    have h : (nameAt m.N i x && locB sc x && noDbg x) = true := h
    obtain ⟨h, h3⟩ := Bool.and_eq_true_iff.mp h
    obtain ⟨h1, h2⟩ := Bool.and_eq_true_iff.mp h
    exact pg_name sx.nd (by rw [sx.N]; exact of_decide_eq_true h1) (hf x h2).1 (hf x h2).2
  | tup is =>
    cases tg <;> first | (exfalso; exact Bool.false_ne_true h) | skip
    rename_i es k p
    have h : mTs m.N sc is es = true := h
    have hn : ∀ {is : List Nat} {es : List Expr}, mTs m.N sc is es = true → (assignEach es X.env).length = is.length ∧ (assignEach es X.env).findIdx? (·.1) = none := by
      intro is
      induction is with
      | nil =>
        intro es h
        cases es with
        | nil => exact ⟨rfl, rfl⟩
        | cons => cases h
      | cons i is ih =>
        intro es h
        cases es with
        | nil => cases h
        | cons e es =>
          cases e <;> first | (exfalso; exact Bool.false_ne_true h) | skip
          have h4 := (Bool.and_eq_true_iff.mp h).2
          obtain ⟨a, b⟩ := ih h4
          refine ⟨?_, ?_⟩
          · show (_ :: assignEach es X.env).length = _
            rw [List.length_cons, a, List.length_cons]
          · show (((false, _) : Bool × _) :: assignEach es X.env).findIdx? (·.1) = none
            rw [List.findIdx?_cons, b]
            rfl
    exact pg_tup sx.calm (pgs_many (sx := sx) h hf) (hn h).1 (hn h).2
end
end Rj

namespace Rj
open PySem PySem.Spec PyProof.Rows L2
/-- nothing is let out -/
def W0 : WX := fun _ _ _ _ => False
section
variable [Nm] {X : Cx} {ca : Ca} {zc : List (Str × Addr)} {U : Addr → Prop} {F B : Hp} {W : WX} {c : Cl} {m : MC} {n : Nat} {g : GZ}
theorem sx_blk (sx : SX X ca zc m c n W) (s : Shared) (H : Hp) (scope : Scope) (cl : List (Str × Addr)) (C : Addr) (fp : List Addr) : SX (X.blk s H scope (compEnvC scope cl C X.env) fp) ca zc (m.blk scope) c n W0 where
  N := sx.N
  sc := by
    show relS scope X.env.scope = relS scope m.sc
    rw [sx.sc]
  nd := sx.nd
  calm := sx.calm
  room := sx.room
  prg := sx.prg
  mkr := sx.mkr
  cf := ⟨sx.cf.me, sx.cf.mks, sx.cf.su, sx.cf.at_, sx.cf.sb, sx.cf.ty, sx.cf.xs, sx.cf.xv⟩
  ini := sx.ini
  tk := fun _ => takes0
  tkN := fun _ u s' ⟨_, _, _, _, _, _, _, _, _, _, _, _, _, _, _, _, w⟩ => w.elim
  fn := sx.fn
  po := PassesOwn.never
  ex := sx.ex
  cl := sx.cl
  bl := sx.bl
  gi := sx.gi
  gs := sx.gs
  fnd := sx.fnd
  nst := sx.nst
  nfo := sx.nfo
  ncl := sx.ncl
  zq := fun e => by cases e
  ft0 := fun e => by cases e
/-- a block's own names are stored to -/
theorem blk_loc {s : Shared} {H : Hp} {scope : Scope} {cl : List (Str × Addr)} {C : Addr} {fp : List Addr} (x : Str) (h : locB scope x = true) :
    L2.Loc (X.blk s H scope (compEnvC scope cl C X.env) fp).env.scope x ∧ ((X.blk s H scope (compEnvC scope cl C X.env) fp).fn x = true ∨ (X.blk s H scope (compEnvC scope cl C X.env) fp).env.scope.names.lookup x = some .local) := by
  rcases loc_of h with e | e
  · have e2 : (relS scope X.env.scope).names.lookup x = some .local := lookup_relS_keep (by intro z; cases z) e
    exact ⟨.inl e2, .inr e2⟩
  · have e2 : (relS scope X.env.scope).names.lookup x = some .cell := lookup_relS_keep (by intro z; cases z) e
    refine ⟨.inr e2, .inl ?_⟩
    show (scope.names.lookup x == some NameKind.cell) = true
    rw [e]
    rfl
/-! ### the slots of a comprehension's own names -/
theorem own_ns {N : List Str} {is : List Nat} : (ownN N is).map (·.2) = is := by
  unfold ownN
  rw [List.map_map]
  exact List.map_id is
def wipeE (env : List Sl) : List Nat → List Sl
  | [] => env
  | i :: is => (wipeE env is).set i .un
theorem wipeE_len {env : List Sl} : ∀ {l : List Nat}, (wipeE env l).length = env.length
  | [] => rfl
  | i :: is => by
    show ((wipeE env is).set i .un).length = env.length
    rw [List.length_set, wipeE_len]
theorem wipeE_out {env : List Sl} {j : Nat} : ∀ {l : List Nat}, j ∉ l → (wipeE env l)[j]? = env[j]?
  | [], _ => rfl
  | i :: is, h => by
    show ((wipeE env is).set i .un)[j]? = env[j]?
    rw [List.getElem?_set_ne (fun z => h (by rw [z]; exact List.mem_cons_self)), wipeE_out fun z => h (List.mem_cons_of_mem _ z)]
theorem wipeE_in {env : List Sl} {j : Nat} {s : Sl} : ∀ {l : List Nat}, (wipeE env l)[j]? = some s → j ∈ l → s = .un
  | [], _, h => by cases h
  | i :: is, e, h => by
    have e : ((wipeE env is).set i .un)[j]? = some s := e
    by_cases hj : i = j
    · subst hj
      rw [List.getElem?_set] at e
      simp only [if_true] at e
      split at e
      · exact (Option.some.inj e).symm
      · cases e
    · rw [List.getElem?_set_ne hj] at e
      exact wipeE_in e ((List.mem_cons.mp h).resolve_left (Ne.symm hj))
theorem RelW.wipe {env : List Sl} {σ : L2.St} {H : Hp} (r : RelW g U F B env σ H) : ∀ (l : List Nat), RelW g U F B (wipeE env l) (L2.wipe σ l) H
  | [] => r
  | i :: l => (RelW.wipe r l).setU
theorem many_wipe {fr : Bool} : ∀ {is : List Nat} {ds : List D} {e1 e2 : List Sl}, ds.length = is.length → e1.length = e2.length → (∀ j, j ∉ is → e1[j]? = e2[j]?) → setMany fr is ds e1 = setMany fr is ds e2
  | [], ds, e1, e2, hl, h1, h2 => by
    have e : e1 = e2 := List.ext_getElem? fun j => h2 j (by simp)
    rw [e]
  | i :: is, [], e1, e2, hl, h1, h2 => by simp at hl
  | i :: is, d :: ds, e1, e2, hl, h1, h2 => by
    show setMany fr is ds (e1.set i (.val d fr)) = setMany fr is ds (e2.set i (.val d fr))
    refine many_wipe (by simpa using hl) (by simp [h1]) fun j hj => ?_
    by_cases e : i = j
    · subst e
      rw [List.getElem?_set, List.getElem?_set, h1]
      simp only [if_true]
    · rw [List.getElem?_set_ne e, List.getElem?_set_ne e]
      exact h2 j (by simp [hj, Ne.symm e])
theorem bindT_wipe {fr : Bool} {env : List Sl} {k : List Sl → Prop} {t : Tg} {d : D} (h : bindT fr env k t d) : bindT fr (wipeE env t.ns) k t d := by
  cases t with
  | name i =>
    have h : k (env.set i (.val d fr)) := h
    show k ((env.set i .un).set i (.val d fr))
    rw [List.set_set]
    exact h
  | tup is =>
    cases d <;> first | exact h.elim | skip
    obtain ⟨h1, h2⟩ := h
    refine ⟨h1, ?_⟩
    show k (setMany fr is _ (wipeE env is))
    rw [many_wipe h1 wipeE_len fun j hj => wipeE_out hj]
    exact h2
theorem own_free {env : List Sl} : ∀ {l : List Nat}, ownFree l env = true → ∀ j, j ∈ l → ∀ s v a, env[j]? = some s → ¬ OwA s v a
  | [], _, j, hj, _, _, _ => by cases hj
  | i :: l, h, j, hj, s, v, a => by
    obtain ⟨h1, h2⟩ := Bool.and_eq_true_iff.mp h
    rcases List.mem_cons.mp hj with e | hj
    · subst e
      intro e
      rw [getD_of e] at h1
      cases s <;> first | exact fun z => z | cases h1
    · exact own_free h2 j hj s v a
theorem wipe_ow {env : List Sl} {σ : L2.St} {a : Addr} {j : Nat} {l : List Nat} (h : Ow (wipeE env l) (L2.wipe σ l) j a) : Ow env σ j a := by
  obtain ⟨s, v, e1, e2, e3⟩ := h
  by_cases hj : j ∈ l
  · have := wipeE_in e1 hj
    subst this
    exact e3.elim
  · rw [wipeE_out hj] at e1
    rw [wipe_get, if_neg hj] at e2
    exact ⟨s, v, e1, e2, e3⟩
/-- in a block the same lists are owned -/
theorem bd_ow {l : List Nat} {env env' : List Sl} {σ σ' : L2.St} (h : ownFree l env = true) (b : Bd l (wipeE env l) env' (L2.wipe σ l) σ') {j : Nat} {a : Addr} : Ow env' σ' j a ↔ Ow env σ j a := by
  by_cases hj : j ∈ l
  · constructor
    · rintro ⟨s, v, e, _, z⟩
      exact absurd z (b.no j hj s v a e)
    · rintro ⟨s, v, e, _, z⟩
      exact absurd z (own_free h j hj s v a e)
  · have e1 : env'[j]? = env[j]? := (b.en j hj).trans (wipeE_out hj)
    have e2 : σ'[j]? = σ[j]? := by
      rw [b.st j hj, wipe_get, if_neg hj]
    unfold Ow
    rw [e1, e2]
theorem bd_rch {l : List Nat} {env env' : List Sl} {σ σ' : L2.St} (h : ownFree l env = true) (b : Bd l (wipeE env l) env' (L2.wipe σ l) σ') {al : List Nat} {fr : Bool} {a : Addr} (z : Rch U F env' σ' al fr a) : Rch U F env σ al fr a :=
  ⟨z.1, fun ⟨j, q⟩ => let ⟨i, h1, h2⟩ := z.2.1 ⟨j, (bd_ow h b).mpr q⟩; ⟨i, h1, (bd_ow h b).mp h2⟩, z.2.2⟩
/-- a new address is kept apart -/
theorem RelW.avoid {env : List Sl} {σ : L2.St} {H H2 : Hp} (r : RelW g U F B env σ H) {p : Addr} (hp : H p = none) (s : Same H H2) (hp2 : H2 p ≠ none) : RelW g (fun a => U a ∧ a ≠ p) F B env σ H2 := by
  have hx : ∀ a, H2 a = none → U a ∧ a ≠ p := fun a h => ⟨r.uf a (s.free h), fun e => hp2 (by rw [← e]; exact h)⟩
  refine ⟨r.len, hx, r.fb, r.bh.trans s, fun i t h => ?_, r.apart, r.tb.ext s⟩
  exact (r.slot i t h).kept (fun a u n => ⟨u, fun e => n (by rw [e]; exact hp)⟩) (fun _ _ z => z) rfl (fun a o _ _ q n => s.k a o q n) (fun a o q _ n => s.k a o q n) (fun a o _ q n => s.k a o q n) (fun _ _ z => z) (fun a u _ z => u z.1) fun j k v z q ds as fr e => let ⟨p, xs, h1, h2, h3⟩ := z q ds as fr e; ⟨p, xs, h1, s _ _ h2, h3⟩
/-! ### a comprehension -/
abbrev ttX (g : GZ) (c : Cl) (cd : T) : TT := fun σ H Q => ∃ (U : Addr → Prop) (F B : Hp), rdT g U F B W0 c cd σ H Q
abbrev teX (g : GZ) (c : Cl) (ie : E) : TE := fun σ H Q => ∃ (U : Addr → Prop) (F B : Hp), rdE g U F B W0 c ie σ H Q
abbrev cf (c : Cl) (ie : E) (t : Tg) (cd : T) (env : List Sl) (fr : Bool) : D → Post → Prop → Prop := fun x k skip => bindT fr env (fun env1 => wpT c cd env1 (fun b => if b = true then wpE c ie env1 k (fun _ => False) else skip) (fun _ => False)) t x
theorem comp_core {ie : E} {t : Tg} {it : It} {cd : T} {σ : L2.St} {H : Hp} {Q : VK} (h : rdE g U F B W c (.comp ie t it cd) σ H Q) : tLc (rdI g U F B W c it) (rdG g.K t) (ttX g c cd) (teX g c ie) t.ns σ H Q := by
  obtain ⟨env, Qd, R, rl, w, k, x⟩ := h
  refine ⟨env, _, R, rl, w, fun xs inf J H1 q s1 itk P hP => ?_, x⟩
  obtain ⟨⟨g1, g2, g3⟩, q⟩ := q
  have n1 : Same H1 (L2.upd H1 P (.lst [])) := same_new hP
  have r1 := rl.ext s1
  -- between two turns: acc is told so far
  refine ⟨fun i mm H2 => mm = xs.length - i ∧ i ≤ xs.length ∧ ∃ (acc : List D) (vs : List V) (j : Inf), H2 P = some (.lst vs) ∧ Same H1 H2 ∧ j.me = [] ∧ RepL g (fun a => Rch U F env σ j.al j.fr a ∧ a ≠ P) H2 acc vs ∧ acc.length ≤ i ∧
    loopC (cf c ie t cd env inf.fr) (xs.drop i) acc j (fun ds i => Qd (.lst ds) i.nw),
    ⟨xs.length, by simp, Nat.zero_le _, [], [], ci, upd_same, n1, rfl, rfl, Nat.le_refl _, q⟩, fun i mm H2 ⟨e1, e2, acc, vs, j, hv, s2, jm, hl, hlen, lp⟩ => ?_⟩
  have sc : Same (cutH env σ inf.all H1) H2 := cutH_sub.trans s2
  obtain ⟨go, stop⟩ := itk H2 sc
  by_cases hi : i < xs.length
  · -- one more turn
    obtain ⟨d, hd⟩ : ∃ d, xs[i]? = some d := ⟨xs[i], by simp [hi]⟩
    have hdrop : xs.drop i = d :: xs.drop (i + 1) := by
      rw [List.drop_eq_getElem_cons hi]
      congr 1
      have e := hd
      rw [List.getElem?_eq_getElem hi] at e
      exact Option.some.inj e
    rw [hdrop] at lp
    have lp : cf c ie t cd env inf.fr d (fun d2 i2 => loopC (cf c ie t cd env inf.fr) (xs.drop (i + 1)) (acc ++ [d2]) (j.j i2) (fun ds i => Qd (.lst ds) i.nw)) (loopC (cf c ie t cd env inf.fr) (xs.drop (i + 1)) acc j (fun ds i => Qd (.lst ds) i.nw)) := lp
    obtain ⟨hgo, hy⟩ := go i d hd
    refine .inr ⟨hgo, fun H3 => ∃ (acc : List D) (vs : List V) (j : Inf), H3 P = some (.lst vs) ∧ Same H1 H3 ∧ j.me = [] ∧ RepL g (fun a => Rch U F env σ j.al j.fr a ∧ a ≠ P) H3 acc vs ∧ acc.length ≤ i + 1 ∧
      loopC (cf c ie t cd env inf.fr) (xs.drop (i + 1)) acc j (fun ds i => Qd (.lst ds) i.nw),
      fun H3 z => ⟨xs.length - (i + 1), by omega, rfl, hi, z⟩, fun v H3 y => ?_⟩
    obtain ⟨s3, hr⟩ := hy v H3 y
    have hP3 : H3 P = some (.lst vs) := s3 _ _ hv
    have ra : RelW g (fun a => U a ∧ a ≠ P) F B env σ H3 := r1.avoid hP (s2.trans s3) (by rw [hP3]; intro z; cases z)
    have rw' := ra.wipe t.ns
    have vr : Rep g (Ok1 (fun a => U a ∧ a ≠ P) F (wipeE env t.ns) (L2.wipe σ t.ns) inf.fr) H3 d v := by
      refine (hr.mono fun a z => ?_)
      refine ⟨⟨⟨z.1.1, fun e => ?_⟩, fun ⟨b, ow⟩ => ?_⟩, z.1.2.2⟩
      · subst e
        refine z.2 ?_
        cases q6 : cutH env σ inf.all H1 a with
        | none => rfl
        | some o =>
          have q7 := cutH_raw q6
          rw [hP] at q7
          cases q7
      · obtain ⟨i0, h1, _⟩ := z.1.2.1 ⟨b, (wipe_ow ow)⟩
        rw [g2] at h1
        cases h1
    refine bind_ok rw' vr (bindT_wipe lp) fun env' σ' w1 r' bd hw => ⟨?_, ?_⟩
    · rw [hw t.ns fun _ z => z]
      apply List.ext_getElem?
      intro j
      simp only [wipe_get, wipe_length]
      split <;> rfl
    · refine ⟨_, F, B, env', _, _, r', w1, fun b H4 q4 s4 => ?_, fun _ _ z => z.elim⟩
      cases b with
      | false =>
        have s14 := (s2.trans s3).trans s4
        exact ⟨acc, vs, j, s4 _ _ hP3, s14, jm, hl.ext (s3.trans s4), by omega, q4⟩
      | true =>
        rw [if_pos rfl] at q4 ⊢
        refine ⟨_, F, B, env', _, _, r'.ext s4, q4, fun d2 i2 v2 H5 q5 s5 z5 => ?_, fun _ _ z => z.elim⟩
        have s15 := ((s2.trans s3).trans s4).trans s5
        have hP5 : H5 P = some (.lst vs) := s5 _ _ (s4 _ _ hP3)
        have low := z5.low (r'.ext s4)
        refine ⟨vs, hP5, ?_, acc ++ [d2], vs ++ [v2], j.j i2, upd_same, ?_, rfl, ?_, by simp; omega, q5⟩
        · rw [hl.len]
          omega
        · exact s15.over hP hP5 trivial trivial
        · have up : ∀ a, (Rch U F env σ (j.j i2).al (j.j i2).fr a ∧ a ≠ P) → a ≠ P := fun a z => z.2
          refine RepL.upd hP5 trivial up (RepL.app ((hl.ext ((s3.trans s4).trans s5)).mono fun a z => ⟨z.1.mono (fun m w => List.mem_append_left _ (List.mem_append_right _ w)) fun w => (Bool.and_eq_true_iff.mp w).1, z.2⟩) (RepL.one (low.mono fun a z => ?_)))
          have z2 := bd_rch g3 bd z
          exact ⟨⟨z2.1.1, fun e => let ⟨m, h1, h2⟩ := z2.2.1 e; ⟨m, List.mem_append_right _ h1, h2⟩, fun w => z2.2.2 (Bool.and_eq_true_iff.mp w).2⟩, z2.1.2⟩
  · have e : i = xs.length := by omega
    subst e
    rw [List.drop_length] at lp
    refine .inl ⟨stop _ (Nat.le_refl _), k _ _ _ _ lp (s1.trans s2) ?_⟩
    have ja : j.all = j.al := by unfold Inf.all; rw [jm]; rfl
    refine ⟨P, vs, acc, rfl, rfl, hv, ?_, .inl ⟨rfl, s1.free hP⟩⟩
    rw [show j.nw.al = j.al from ja]
    exact hl
/-! ### dicts -/
theorem keyD_of {d : D} {Q : Key → Prop} {A : Addr → Prop} {H : Hp} {v : V} {g : G} (h : keyD d Q) (r : Rep g A H d v) : ∃ k, v = kV k ∧ Q k := by
  cases d <;> first | exact h.elim | skip
  · obtain rfl : v = .int _ := r
    exact ⟨_, rfl, h⟩
  · obtain rfl : v = .str _ := r
    exact ⟨_, rfl, h⟩
theorem get_of {g : G} {A : Addr → Prop} {H : Hp} {k : Key} {d : D} : ∀ {ks : List Key} {ds : List D} {kvs : List (Key × V)}, kvs.map (·.1) = ks → RepL g A H ds (kvs.map (·.2)) → dicGet k ks ds = some d → ∃ v, valV kvs k = some v ∧ Rep g A H d v
  | [], _, kvs, _, _, e => by cases e
  | x :: ks, ds, [], e1, _, _ => by cases e1
  | x :: ks, ds, p :: kvs, e1, hl, e => by
    have e1 : p.1 :: kvs.map (·.1) = x :: ks := e1
    cases e1
    cases ds with
    | nil => cases e
    | cons d0 ds =>
      obtain ⟨v, r, e2, h1, h2⟩ := hl
      have e2 : p.2 :: kvs.map (·.2) = v :: r := e2
      cases e2
      have e : (if p.1 = k then some d0 else dicGet k (kvs.map (·.1)) ds) = some d := e
      by_cases hk : p.1 = k
      · rw [if_pos hk] at e
        cases e
        exact ⟨p.2, valV_pos hk, h1⟩
      · rw [if_neg hk] at e
        rw [valV_neg hk]
        exact get_of rfl h2 e
theorem has_of {k : Key} {kvs : List (Key × V)} : (valV kvs k).isSome = hasK (kvs.map (·.1)) k := by
  rw [← valV_any]
  unfold hasK
  rw [List.any_map]
  rfl
theorem RepI.dic {env : List Sl} {σ : L2.St} {H H' : Hp} {ks : List Key} {ds : List D} {inf : Inf} {v : V} (h : RepI g U F env σ H H' (.dic ks ds) inf v) : ∃ a kvs, v = .ref a ∧ Rch U F env σ inf.al inf.fr a ∧ H' a = some (.dK kvs) ∧ kvs.map (·.1) = ks ∧ RepL g (Rch U F env σ inf.al inf.fr) H' ds (kvs.map (·.2)) :=
  h.flat (by intro _ z; cases z)
theorem plain_nosl {e : Expr} (h : plainIx e = true) : NoSl e := by
  intro o i
  cases e <;> first | rfl | exact absurd h Bool.false_ne_true
theorem s_dix {a b : E} {x y : Expr} {pos : Pos} (s : SX X ca zc m c n W) (h : plainIx y = true) (ha : PE X x (rdE (gOf X ca zc) U F B W c a)) (hb : PE X y (rdE (gOf X ca zc) U F B W c b)) : PE X (.Subscript x y pos) (rdE (gOf X ca zc) U F B W c (.dix a b)) := by
  have hu := s.hu
  refine PE.imp (pe_dget (by omega) ha hb (plain_nosl h)) fun σ H Q ⟨env, Qd, R, rl, w, k, xx⟩ => ?_
  refine rdE1 rl w xx fun dx ix vx H1 w1 s1 z1 r1 x1 => rdE1 r1 w1 x1 fun dy iy vy H2 w2 s2 z2 r2 x2 => ?_
  cases dx <;> first | exact w2.elim | skip
  obtain ⟨p, kvs, rfl, hr, hp, hk, hl⟩ := (z1.ext s2).dic
  obtain ⟨kk, rfl, d, e, q⟩ := keyD_of w2 (z2.low r1)
  obtain ⟨v, e2, r⟩ := get_of hk hl e
  refine ⟨p, v, rfl, ?_, k _ _ _ _ q (s1.trans s2) (repI_n r)⟩
  rw [← e2]
  exact DGet.k hp
theorem t_din {neg : Bool} {a b : E} {x y : Expr} {o : CmpOp} {pos : Pos} (s : SX X ca zc m c n W) (ho : (bif neg then copB .notin o else copB .isin o) = true) (hm : behindInMarks o y = false) (ha : PE X x (rdE (gOf X ca zc) U F B W c a)) (hb : PE X y (rdE (gOf X ca zc) U F B W c b)) : PT X (.Compare x [o] [y] pos) (rdT (gOf X ca zc) U F B W c (.din neg a b)) := by
  have hu := s.hu
  have key : ∀ {σ : L2.St} {H : Hp} {Q : Bool → Hp → Prop}, rdT (gOf X ca zc) U F B W c (.din neg a b) σ H Q → rdE (gOf X ca zc) U F B W c a σ H (fun y H1 => rdE (gOf X ca zc) U F B W c b σ H1 (fun x H2 => ∃ a o, x = .ref a ∧ DGet H2 a y o ∧ Q (bif neg then !o.isSome else o.isSome) H2)) := fun {σ H Q} ⟨env, Qd, R, rl, w, k, xx⟩ => by
    refine rdE1 rl w xx fun dx ix vx H1 w1 s1 z1 r1 x1 => rdE1 r1 w1 x1 fun dy iy vy H2 w2 s2 z2 r2 x2 => ?_
    cases dy <;> first | (exfalso; revert w2; cases dx <;> exact id) | skip
    obtain ⟨p, kvs, rfl, hr, hp, hk, hl⟩ := z2.dic
    obtain ⟨kk, rfl, q⟩ := keyD_of w2 ((z1.ext s2).low rl)
    refine ⟨p, _, rfl, DGet.k hp, ?_⟩
    rw [has_of, hk]
    exact k _ _ q (s1.trans s2)
  cases neg with
  | true =>
    cases o <;> first | (exfalso; exact Bool.false_ne_true ho) | skip
    refine PT.imp (pt_cmp (pc_dnotin (by omega) ha hb) hm) fun σ H Q q => ?_
    have := key q
    refine (?_ : tB _ σ H Q)
    obtain ⟨env, Qd, R, rl, w, k, xx⟩ := this
    exact ⟨env, Qd, R, rl, w, fun d inf v H' q1 s1 z1 => (by
      obtain ⟨env2, Qd2, R2, rl2, w2, k2, xx2⟩ := k d inf v H' q1 s1 z1
      exact ⟨env2, Qd2, R2, rl2, w2, fun d inf v H' q1 s1 z1 => (by
        obtain ⟨a, o, e1, e2, e3⟩ := k2 d inf v H' q1 s1 z1
        exact ⟨a, o, e1, e2, _, rfl, e3⟩), xx2⟩), xx⟩
  | false =>
    cases o <;> first | (exfalso; exact Bool.false_ne_true ho) | skip
    refine PT.imp (pt_cmp (pc_din (by omega) ha hb) hm) fun σ H Q q => ?_
    have := key q
    refine (?_ : tB _ σ H Q)
    obtain ⟨env, Qd, R, rl, w, k, xx⟩ := this
    exact ⟨env, Qd, R, rl, w, fun d inf v H' q1 s1 z1 => (by
      obtain ⟨env2, Qd2, R2, rl2, w2, k2, xx2⟩ := k d inf v H' q1 s1 z1
      exact ⟨env2, Qd2, R2, rl2, w2, fun d inf v H' q1 s1 z1 => (by
        obtain ⟨a, o, e1, e2, e3⟩ := k2 d inf v H' q1 s1 z1
        exact ⟨a, o, e1, e2, _, rfl, e3⟩), xx2⟩), xx⟩
end
end Rj

namespace Rj
open PySem PySem.Spec PyProof.Rows L2
/-! ### heaps with the cells of captured names, and without -/
def isC (cl : List (Str × Addr)) (a : Addr) : Prop := ∃ y, cl.lookup y = some a
open Classical in
/-- the cells' things are told by J -/
noncomputable def putC (cl : List (Str × Addr)) (J H : Hp) : Hp := fun a => if isC cl a then J a else H a
theorem putC_in {cl : List (Str × Addr)} {J H : Hp} {a : Addr} (h : isC cl a) : putC cl J H a = J a := if_pos h
theorem putC_out {cl : List (Str × Addr)} {J H : Hp} {a : Addr} (h : ¬ isC cl a) : putC cl J H a = H a := if_neg h
def noH : Hp := fun _ => none
section
variable {P : Program} {w : World} {H H' : Hp} {h h' : Heap} {cl : List (Str × Addr)}
theorem cel_at {a : Addr} {o : Obj} (hok : HOk P w H h) (e : H a = some (CelO a o)) : h.get? a = some o := (hok a _ e).1
theorem cel_ok {a : Addr} {o : Obj} (e : h.get? a = some o) : ObjOk P w H h a (CelO a o) := ⟨e, ⟨o, e⟩, fun _ _ q st => st _ q⟩
theorem cel_code {a : Addr} {o : Obj} {v : Option Value} {q : Str} (hok : HOk P w H h) (e : H a = some (CelO a o)) (hd : o.data = .cell v) (e2 : H a = some (LamX.CodeO a q)) : False := by
  obtain ⟨b, ob, vs, t, z, h1, h2, _⟩ := NdefX.codeO_at hok e2
  cases z
  have k := cel_at hok e
  rw [h1] at k
  cases k
  rw [hd] at h2
  cases h2
theorem cel_fn {a : Addr} {o : Obj} {v : Option Value} {F : NdefX.NF} (hok : HOk P w H h) (e : H a = some (CelO a o)) (hd : o.data = .cell v) (e2 : H a = some (NdefX.FnO a F)) : False := by
  obtain ⟨od, sl, doc, pm, ctv, h1⟩ := NdefX.fnO_at hok e2
  have k := cel_at hok e
  rw [h1] at k
  cases k
  cases hd
/-- what is held but for the cells, and the cells -/
theorem hok_put {J : Hp} (hok : HOk P w H' h') (hJ : ∀ a o, isC cl a → J a = some o → ∃ ob, o = CelO a ob ∧ h'.get? a = some ob) (hn : ∀ a, isC cl a → H' a = none ∨ ∃ φ, H' a = some (.ext φ)) : HOk P w (putC cl J H') h' := fun a o e => by
  by_cases hc : isC cl a
  · rw [putC_in hc] at e
    obtain ⟨ob, rfl, q⟩ := hJ a o hc e
    exact cel_ok q
  · rw [putC_out hc] at e
    have nx : ∀ b u, H' b = some u → (∀ φ, u ≠ .ext φ) → putC cl J H' b = some u := fun b u q n => by
      rw [putC_out fun z => by
        rcases hn b z with y | ⟨φ, y⟩
        · rw [q] at y
          cases y
        · rw [q] at y
          exact n φ (Option.some.inj y)]
      exact q
    exact (hok a o e).stay (fun _ _ _ z => z) (fun b z => nx b _ z fun _ y => nomatch y) fun b xs z => nx b _ z fun _ y => nomatch y
end
mutual
/-- a value without functions, where all but such things stay -/
theorem Rep.nfk {g : G} {A : Addr → Prop} {H H' : Hp} (hk : ∀ a o, H a = some o → (∀ φ, o ≠ .ext φ) → H' a = some o) : ∀ {d : D} {v : V}, d.nf = true → Rep g A H d v → Rep g A H' d v
  | .non, _, _, h => h
  | .bl _, _, _, h => h
  | .int _, _, _, h => h
  | .str _, _, _, h => h
  | .lst ds, _, n, h => by
    obtain ⟨a, xs, ev, ha, hs, hl⟩ := h
    exact ⟨a, xs, ev, ha, hk _ _ hs (fun _ z => nomatch z), RepL.nfk hk n hl⟩
  | .tup ds, _, n, h => by
    obtain ⟨a, xs, ev, hs, hl⟩ := h
    exact ⟨a, xs, ev, hk _ _ hs (fun _ z => nomatch z), RepL.nfk hk n hl⟩
  | .ins _ ks ds, _, n, h => by
    obtain ⟨a, dx, fs, ev, ha, hs, hq, hl⟩ := h
    exact ⟨a, dx, fs, ev, ha, hk _ _ hs (fun _ z => nomatch z), hq, RepL.nfk hk n hl⟩
  | .dic ks ds, _, n, h => by
    obtain ⟨a, kvs, ev, ha, hs, hq, hl⟩ := h
    exact ⟨a, kvs, ev, ha, hk _ _ hs (fun _ z => nomatch z), hq, RepL.nfk hk n hl⟩
  | .scr ns, _, _, h => by
    obtain ⟨a, ev, hs⟩ := h
    exact ⟨a, ev, hs.imp_left fun ⟨o, z⟩ => ⟨o, hk _ _ z fun _ y => nomatch y⟩⟩
  | .any, _, _, _ => trivial
  | .fn k cs, _, n, _ => by cases n
theorem RepL.nfk {g : G} {A : Addr → Prop} {H H' : Hp} (hk : ∀ a o, H a = some o → (∀ φ, o ≠ .ext φ) → H' a = some o) : ∀ {ds : List D} {vs : List V}, nfL ds = true → RepL g A H ds vs → RepL g A H' ds vs
  | [], _, _, h => h
  | d :: ds, _, n, h => by
    obtain ⟨v, r, ev, k1, k2⟩ := h
    obtain ⟨n1, n2⟩ := Bool.and_eq_true_iff.mp (show (d.nf && nfL ds) = true from n)
    exact ⟨v, r, ev, Rep.nfk hk n1 k1, RepL.nfk hk n2 k2⟩
end
mutual
theorem imm_nf : ∀ {d : D}, d.imm = true → d.nf = true
  | .non, _ => rfl
  | .bl _, _ => rfl
  | .int _, _ => rfl
  | .str _, _ => rfl
  | .lst _, h => by cases h
  | .tup ds, h => immL_nf (ds := ds) h
  | .ins _ _ _, h => by cases h
  | .dic _ _, h => by cases h
  | .scr _, _ => rfl
  | .any, h => by cases h
  | .fn _ _, h => by cases h
theorem immL_nf : ∀ {ds : List D}, immL ds = true → nfL ds = true
  | [], _ => rfl
  | d :: ds, h => by
    obtain ⟨h1, h2⟩ := Bool.and_eq_true_iff.mp (show (d.imm && immL ds) = true from h)
    show (d.nf && nfL ds) = true
    rw [imm_nf h1, immL_nf h2]
    rfl
end
section
variable [Nm]
/-- the cells are there again -/
theorem Same.uncover {P : Program} {w : World} {cl : List (Str × Addr)} {H H' : Hp} {h : Heap} (hok : HOk P w H h) (hc : ∀ a, isC cl a → ∃ o v, H a = some (CelO a o) ∧ o.data = .cell v) (hn : ∀ a, isC cl a → H' a = none) (s : Same (putC cl noH H) H') : Same H (putC cl H H') := by
  have low : ∀ b o, ¬ isC cl b → H b = some o → putC cl noH H b = some o := fun b o n e => by rw [putC_out n]; exact e
  have up : ∀ b o, H' b = some o → putC cl H H' b = some o := fun b o e => by
    rw [putC_out fun z => by rw [hn b z] at e; cases e]
    exact e
  have nt : ∀ b ps, H b = some (.tbl ps) → ¬ isC cl b := fun b ps e z => by
    obtain ⟨o, v, q, _⟩ := hc b z
    rw [e] at q
    cases q
  refine ⟨fun b o e n => ?_, fun b ps e z => ?_, fun {P} ⟨ps, g1, g2, g3⟩ => ?_⟩
  · by_cases z : isC cl b
    · rw [putC_in z]
      exact e
    · exact up _ _ (s.k b o (low b o z e) n)
  · rw [putC_out (nt b ps e)] at z
    exact s.tt b ps (low _ _ (nt b ps e) e) z
  · obtain ⟨ps', k1, k2, k3⟩ := s.t (P := P) ⟨ps, low _ _ (nt P ps g1) g1, g2, fun pos cv q => by
      obtain ⟨c, e1, e2⟩ := g3 pos cv q
      refine ⟨c, e1, low _ _ (fun z => ?_) e2⟩
      obtain ⟨o, v, q1, q2⟩ := hc c z
      exact cel_code hok q1 q2 e2⟩
    exact ⟨ps', up _ _ k1, k2, fun pos cv q => let ⟨c, e1, e2⟩ := k3 pos cv q; ⟨c, e1, up _ _ e2⟩⟩
/-- the cells are given up again -/
theorem Same.recover {P : Program} {w : World} {cl : List (Str × Addr)} {H H' J : Hp} {h' : Heap} (hok : HOk P w H' h') (hn : ∀ a, isC cl a → H a = none) (hc : ∀ a, isC cl a → ∃ o v, H' a = some (CelO a o) ∧ o.data = .cell v) (s : Same (putC cl J H) H') : Same H (putC cl noH H') := by
  have low : ∀ b o, H b = some o → ¬ isC cl b := fun b o e z => by rw [hn b z] at e; cases e
  have at_ : ∀ b o, H b = some o → putC cl J H b = some o := fun b o e => by rw [putC_out (low b o e)]; exact e
  have nc : ∀ b ps, H' b = some (.tbl ps) → ¬ isC cl b := fun b ps e z => by
    obtain ⟨o, v, q, _⟩ := hc b z
    rw [e] at q
    cases q
  refine ⟨fun b o e n => ?_, fun b ps e z => ?_, fun {P} ⟨ps, g1, g2, g3⟩ => ?_⟩
  · rw [putC_out (low b o e)]
    exact s.k b o (at_ b o e) n
  · rw [putC_out (low _ _ e)] at z
    exact s.tt b ps (at_ _ _ e) z
  · obtain ⟨ps', k1, k2, k3⟩ := s.t (P := P) ⟨ps, at_ _ _ g1, g2, fun pos cv q => let ⟨c, e1, e2⟩ := g3 pos cv q; ⟨c, e1, at_ _ _ e2⟩⟩
    refine ⟨ps', by rw [putC_out (nc _ _ k1)]; exact k1, k2, fun pos cv q => ?_⟩
    obtain ⟨c, e1, e2⟩ := k3 pos cv q
    refine ⟨c, e1, ?_⟩
    rw [putC_out fun z => ?_]
    · exact e2
    · obtain ⟨o, v, q1, q2⟩ := hc c z
      exact cel_code hok q1 q2 e2
end
theorem rep_uncover {g : G} {A : Addr → Prop} {cl : List (Str × Addr)} {H H' : Hp} {d : D} {v : V} (hi : d.imm = true) (hn : ∀ a, isC cl a → H' a = none) (h : Rep g A H' d v) : Rep g A (putC cl H H') d v :=
  Rep.nfk (fun a o e _ => by rw [putC_out fun z => by rw [hn a z] at e; cases e]; exact e) (imm_nf hi) h
theorem rep_recover {g : G} {A : Addr → Prop} {cl : List (Str × Addr)} {H' : Hp} {d : D} {v : V} (hi : d.imm = true) (hc : ∀ a, isC cl a → ∃ o v, H' a = some (CelO a o) ∧ o.data = .cell v) (h : Rep g A H' d v) : Rep g A (putC cl noH H') d v :=
  Rep.nfk (fun a o e n => by
    rw [putC_out fun z => by
      obtain ⟨ob, u, q, _⟩ := hc a z
      rw [e] at q
      exact n _ (Option.some.inj q)]
    exact e) (imm_nf hi) h
/-! ### a function that a slot holds, called -/
section
variable [Nm] {X : Cx} {ca : Ca} {zc : List (Str × Addr)} {U : Addr → Prop} {F B : Hp} {W : WX} {c : Cl} {m : MC} {n : Nat}
theorem cellT_c {H : Hp} {cl : List (Str × Addr)} {fr : List Str} {ws : List V} (C : CellT H cl fr ws) : ∀ a, isC cl a → ∃ o v, H a = some (CelO a o) ∧ o.data = .cell v := fun a ⟨y, e⟩ => by
  obtain ⟨o, h1, v, h2⟩ := C.all y a e
  exact ⟨o, v, h1, h2⟩
theorem cells_cl {P : Program} {w : World} {h : Heap} {H : Hp} {cl : List (Str × Addr)} {fr : List Str} {ws : List V} (C : CellT H cl fr ws) (hok : HOk P w H h) : NdefX.CellsAt cl fr (ws.map some) h (putC cl noH H) := by
  refine ⟨by rw [List.length_map]; exact C.len, fun y a e => ?_, C.inj, fun i y e => ?_⟩
  · obtain ⟨o, h1, v, h2⟩ := C.all y a e
    exact ⟨putC_in ⟨y, e⟩, v, o, cel_at hok h1, h2⟩
  · obtain ⟨a, o, u, x, h1, h2, h3, h4, h5⟩ := C.has i y e
    refine ⟨a, h1, fun v ev => ?_⟩
    rw [List.getElem?_map, h4] at ev
    cases ev
    exact ⟨u, h5, o, cel_at hok h2, h3⟩
theorem run_v {k : Nat} {f : Addr} {Fn : NdefX.NF} {ps fr : List Str} {sp : List (Option V) → Sp} {pins : List (Addr × Obj)} {σ : L2.St} {H : Hp} {s : Shared} {us : List Value} {vs ws : List V} {Q : VK} (ok : NdefX.NOk X.prog X.w X.K X.mg X.base (L2.CX X.prog X.w) k f Fn ps fr sp) (hr : Room k X.A)
    (I : Inv X pins σ H s) (hf : H f = some (NdefX.FnO f Fn)) (hc : H Fn.c = some (LamX.CodeO Fn.c Fn.qual)) (C : CellT H Fn.cl fr ws) (r : Vals vs us)
    (q : sp (ws.map some) vs (putC Fn.cl noH H) (fun v H' => Same (putC Fn.cl noH H) H' ∧ ((∀ a, isC Fn.cl a → H' a = none) → Q v (putC Fn.cl H H'))) (fun _ _ _ => False)) :
    wpAny (model X.prog X.w) X.A (call (.ref f) us) (EP X pins σ Q) X.xe s := by
  have e0 := I.env0
  have cc := cellT_c C
  have sub : ∀ a, H a = none → putC Fn.cl noH H a = none := fun a e => by
    by_cases z : isC Fn.cl a
    · rw [putC_in z]
      rfl
    · rw [putC_out z]
      exact e
  have hok1 : HOk X.prog X.w (putC Fn.cl noH H) s.heap := hok_put I.hok (fun a o _ e => by cases e) fun a z => let ⟨o, v, e, _⟩ := cc a z; .inr ⟨_, e⟩
  have e1 : Env0 X.prog X.w X.K X.mg X.base X.A X.stack s (putC Fn.cl noH H) := ⟨e0.frames, e0.mod, fun b o e => ⟨(e0.bs b o e).1, sub b (e0.bs b o e).2⟩, e0.bsz, e0.funs, fun b hb => sub b (e0.frf b hb), hok1, e0.bare⟩
  have hf1 : putC Fn.cl noH H f = some (NdefX.FnO f Fn) := by
    rw [putC_out fun z => ?_]
    · exact hf
    · obtain ⟨o, v, e, hd⟩ := cc f z
      exact cel_fn I.hok e hd hf
  have hc1 : putC Fn.cl noH H Fn.c = some (LamX.CodeO Fn.c Fn.qual) := by
    rw [putC_out fun z => ?_]
    · exact hc
    · obtain ⟨o, v, e, hd⟩ := cc Fn.c z
      exact cel_code I.hok e hd hc
  refine wpAny_call (codeAny_mono (ok.run X.A X.stack s (putC Fn.cl noH H) us vs (ws.map some) _ (fun _ _ _ => False) hr e1 hf1 hc1 (cells_cl C I.hok) r q) fun rr s' hq => ?_)
  cases rr with
  | error e =>
    obtain ⟨_, _, _, _, _, _, _, _, _, _, _, _, z⟩ := hq
    exact z.elim
  | ok fl =>
    cases fl with
    | ret u =>
      obtain ⟨v, H', os, bare, un, hok', rv, sm, qq⟩ := hq
      have hn : ∀ a, isC Fn.cl a → H' a = none := fun a z => by
        obtain ⟨o, x, e, _⟩ := cc a z
        exact un.free a o (cel_at I.hok e) (putC_in z) (by simp)
      have hkp : ∀ a o, isC Fn.cl a → H a = some o → ∃ ob, o = CelO a ob ∧ s'.heap.get? a = some ob := fun a o z e => by
        obtain ⟨ob, x, e2, _⟩ := cc a z
        rw [e] at e2
        cases e2
        refine ⟨ob, rfl, un.keep a ob (cel_at I.hok e) (putC_in z) (fun hb => ?_) (by simp)⟩
        rw [e0.frf a hb] at e
        cases e
      have low : ∀ b o, H b = some o → (∀ φ, o ≠ .ext φ) → putC Fn.cl noH H b = some o := fun b o e nx => by
        rw [putC_out fun z => by
          obtain ⟨ob, x, e2, _⟩ := cc b z
          rw [e] at e2
          exact nx _ (Option.some.inj e2)]
        exact e
      have up : ∀ b o, H' b = some o → putC Fn.cl H H' b = some o := fun b o e => by
        rw [putC_out fun z => by rw [hn b z] at e; cases e]
        exact e
      refine I.after ⟨v, putC Fn.cl H H', os, bare, ⟨fun b o e x => un.keep b o e (sub b x), fun b o e x => un.slot b o e (sub b x), fun b o e x hx => ?_, un.there, fun b xs e => up _ _ (un.tups b xs (low _ _ e fun _ z => nomatch z)), fun b o x e => up _ _ (un.frzs b o x (low _ _ e fun _ z => nomatch z)), fun b ps e => ?_⟩, hok_put hok' hkp fun a z => .inl (hn a z), rv, qq hn⟩
      · rw [putC_out fun z => ?_]
        · exact un.free b o e (sub b x) hx
        · obtain ⟨ob, y, e2, _⟩ := cc b z
          rw [x] at e2
          cases e2
      · obtain ⟨more, e2⟩ := un.tbls b ps (low _ _ e fun _ z => nomatch z)
        exact ⟨more, up _ _ e2⟩
    | next => exact False.elim hq
    | brk => exact False.elim hq
    | cont => exact False.elim hq
/-- without the cells: values that hold no functions -/
theorem nf_hide {g : G} {A : Addr → Prop} {cl : List (Str × Addr)} {H : Hp} {ds : List D} {vs : List V} (cc : ∀ a, isC cl a → ∃ o v, H a = some (CelO a o) ∧ o.data = .cell v) (hn : nfL ds = true) (h : RepL g A H ds vs) : RepL g A (putC cl noH H) ds vs :=
  RepL.nfk (fun a o e nx => by
    rw [putC_out fun z => by
      obtain ⟨ob, u, q, _⟩ := cc a z
      rw [e] at q
      exact nx _ (Option.some.inj q)]
    exact e) hn h
theorem tb_hide {P : Program} {w : World} {h : Heap} {cl : List (Str × Addr)} {H : Hp} (hok : HOk P w H h) (cc : ∀ a, isC cl a → ∃ o v, H a = some (CelO a o) ∧ o.data = .cell v) (t : TbOk ca H) : TbOk ca (putC cl noH H) := fun p hp => by
  obtain ⟨ps, h1, h2, h3⟩ := t p hp
  refine ⟨ps, ?_, h2, fun pos cv q => ?_⟩
  · rw [putC_out fun z => ?_]
    · exact h1
    · obtain ⟨o, v, e, _⟩ := cc _ z
      rw [h1] at e
      cases e
  · obtain ⟨a, e1, e2⟩ := h3 pos cv q
    refine ⟨a, e1, ?_⟩
    rw [putC_out fun z => ?_]
    · exact e2
    · obtain ⟨o, v, e, hd⟩ := cc _ z
      exact cel_code hok e hd e2
theorem s_callv {i : Nat} {x : Str} {p pos : Pos} {y : Expr} {ys : List Expr} {ies : Es} (sx : SX X ca zc m c n W) (h1 : nameAt m.N i x = true) (h2 : visB m.sc x = true) (h3 : noDbg x = true) (hm : mEs m ies (y :: ys) = true) (ha : PA X (y :: ys) (rdA (gOf X ca zc) U F B W c ies)) :
    PE X (.Call (.Name x p) (y :: ys) [] pos) (rdE (gOf X ca zc) U F B W c (.callv i ies)) := by
  refine ⟨fun pins s σ H Q I ⟨env, Qd, R, rl, w, k, xx⟩ => ?_⟩
  have w : fnS (env.getD i .un) fun kk cs => wpEs c ies env (fun ds _ => (nfL ds = true ∧ nfL cs = true) ∧ c.fnc kk ds cs (fun d => d.imm = true ∧ Qd d ci)) R := w
  obtain ⟨t, ht⟩ : ∃ t, env.getD i .un = t := ⟨_, rfl⟩
  rw [ht] at w
  cases t <;> first | exact w.elim | skip
  rename_i d fr
  cases d <;> first | exact w.elim | skip
  rename_i kk cs
  have w : wpEs c ies env (fun ds _ => (nfL ds = true ∧ nfL cs = true) ∧ c.fnc kk ds cs (fun d => d.imm = true ∧ Qd d ci)) R := w
  obtain ⟨v, hv, f, cl, cc, us0, rfl, f1, f2, f3, f4, f5⟩ := rl.val i _ _ (of_getD ht (by intro z; cases z))
  have f2' := f2
  have nm : (noDbg x) = true := h3
  refine wpAny_Call_Name_kw (thn ((pe_var (pos := p) (by rw [sx.N]; exact of_decide_eq_true h1) (by rw [sx.sc]; exact vis_of h2) (noDbg_of nm).1 (noDbg_of nm).2.1).run pins s σ H (fun v H1 => v = .ref f ∧ H1 = H) I ⟨.ref f, hv, rfl, rfl⟩) fun u s1 ⟨v, H1, I1, r1, q1⟩ => ?_)
  obtain ⟨rfl, rfl⟩ := q1
  obtain rfl : u = Value.ref f := r1
  obtain ⟨i2, j2, e3, m1, m2⟩ : ∃ i2 j2, ies = .cons i2 j2 ∧ mE m i2 y = true ∧ mEs m j2 ys = true := by
    cases ies with
    | nil => cases hm
    | cons a b => exact ⟨a, b, rfl, Bool.and_eq_true_iff.mp hm⟩
  refine PySem.W.callWith_F (first := []) (NdefX.fnAt_of I1 f1) (thn (ha.run pos pins s1 σ H1 (fun vs H2 => ∃ ds inf, Same H1 H2 ∧ RepA (gOf X ca zc) U F env σ H2 ds inf vs ∧ ((nfL ds = true ∧ nfL cs = true) ∧ c.fnc kk ds cs (fun d => d.imm = true ∧ Qd d ci))) I1
    ⟨env, _, R, rl, w, fun ds inf vs H' q sm ra => ⟨ds, inf, sm, ra, q⟩, xx⟩) fun us s2 ⟨vs, H2, I2, r, ds, inf, sm, ra, ⟨n1, n2⟩, hq⟩ => ?_) (star_cons m1 _ _) (star_no m2)
  have g1 := sm _ _ f1
  have g3 := sm _ _ f3
  have C2 := f4.ext fun a o z => sm _ _ z
  refine ⟨NdefX.fnAt_of I2 g1, ?_⟩
  show wpAny _ _ (call (.ref f) us) _ _ _
  obtain ⟨fk, fv, hk, hl1, hl2⟩ := sx.ncl kk ds cs _ hq
  have hfv : ca.fv kk = fv := (sx.nfo kk fk fv hk).1
  have C2' : CellT H2 (ca.nf kk cl cc).cl fv us0 := by rw [← hfv]; exact C2
  have cells := cellT_c C2
  refine run_v (sx.nst kk fk fv hk cl cc f) sx.room I2 g1 (by rw [show (ca.nf kk cl cc).c = cc from f2]; exact g3) C2' r ?_
  refine ⟨fun _ => True, ds, cs, us0, _, rfl, hl1, nf_hide cells n1 (ra.2.2.mono fun _ _ => trivial), nf_hide cells n2 ((f5.ext sm).mono fun _ _ => trivial), tb_hide I2.hok cells ((rl.ext sm).tb), hq, fun d v H' ⟨di, dq⟩ s3 rp => ⟨s3, fun hn => ?_⟩⟩
  have s4 : Same H1 (putC (ca.nf kk cl cc).cl H2 H') := sm.trans (Same.uncover I2.hok cells hn s3)
  exact k d ci v _ dq s4 (repI_c di (rep_uncover di hn (rp di)))
end
end Rj

namespace Rj
open PySem PySem.Spec PyProof.Rows L2
/-! ### a function of this very row, called and handed on -/
section
variable [Nm] {X : Cx} {ca : Ca} {zc : List (Str × Addr)} {U : Addr → Prop} {F B : Hp} {W : WX} {c : Cl} {m : MC} {n : Nat}
theorem cap_rep {g : GZ} {env : List Sl} {σ : L2.St} {H : Hp} (r : RelW g U F B env σ H) {j : Nat} {d : D} (e : capOf (env.getD j .un) = some d) : ∃ v, σ[j]? = some (some v) ∧ Rep g (fun _ => True) H d v := by
  obtain ⟨t, ht⟩ : ∃ t, env.getD j .un = t := ⟨_, rfl⟩
  rw [ht] at e
  cases t <;> first | cases e | skip
  · obtain ⟨v, h1, h2⟩ := r.slot j _ (of_getD ht (by intro z; cases z))
    exact ⟨v, h1, h2.mono fun _ _ => trivial⟩
  · obtain ⟨q, xs, h1, h2, _, h3⟩ := r.slot j _ (of_getD ht (by intro z; cases z))
    exact ⟨_, h1, q, xs, rfl, trivial, h2, h3.mono fun _ _ => trivial⟩
  · obtain ⟨q, kvs, h1, h2, h3, _, h4⟩ := r.slot j _ (of_getD ht (by intro z; cases z))
    exact ⟨_, h1, q, kvs, rfl, trivial, h2, h3, h4.mono fun _ _ => trivial⟩
  · obtain ⟨q, xs, h1, h2, _, _, h3⟩ := r.slot j _ (of_getD ht (by intro z; cases z))
    exact ⟨_, h1, q, xs, rfl, trivial, h2, h3.rep (fun _ _ => trivial) fun _ _ => trivial⟩
theorem caps_rep {g : GZ} {env : List Sl} {σ : L2.St} {H : Hp} (r : RelW g U F B env σ H) : ∀ {js : List Nat} {cs : List D}, capsOf env js = some cs → ∃ us : List V, js.map (NdefX.slotAt σ) = us.map some ∧ RepL g (fun _ => True) H cs us
  | [], cs, e => by
    cases e
    exact ⟨[], rfl, rfl⟩
  | j :: js, cs, e => by
    unfold capsOf at e
    cases h1 : capOf (env.getD j .un) with
    | none => rw [h1] at e; cases e
    | some d =>
      cases h2 : capsOf env js with
      | none => rw [h1, h2] at e; cases e
      | some ds =>
        rw [h1, h2] at e
        cases e
        obtain ⟨v, a1, a2⟩ := cap_rep r h1
        obtain ⟨us, b1, b2⟩ := caps_rep r h2
        refine ⟨v :: us, ?_, v, us, rfl, a2, b2⟩
        rw [List.map_cons, List.map_cons, b1, NdefX.slotAt_of a1]
theorem cap_of {k : Nat} {js : List Nat} (h : capB m k js = true) : ∃ f fv, m.fs.nds[k]? = some (f, fv) ∧ js.map (fun j => m.N[j]?) = fv.map some ∧ NdefX.ndefB m.sc (C8.fnScope (m.nst k)) fv = true := by
  unfold capB at h
  cases q : m.fs.nds[k]? with
  | none => rw [q] at h; cases h
  | some p =>
    rw [q] at h
    obtain ⟨h1, h2⟩ := Bool.and_eq_true_iff.mp h
    exact ⟨p.1, p.2, rfl, of_decide_eq_true h1, h2⟩
theorem caps_made (sx : SX X ca zc m c n W) (h0 : m.nb = true) {k : Nat} {js : List Nat} {fv : List Str} (h1 : js.map (fun j => m.N[j]?) = fv.map some) (h2 : NdefX.ndefB m.sc (C8.fnScope (m.nst k)) fv = true) (ok : X.Ok) : NdefX.Caps X (cloFrom zc (C8.fnScope (m.nst k)).names []) fv js := by
  rw [sx.zq h0]
  exact NdefX.Caps.made ok (fun y hy e => by rw [sx.sc]; exact NdefX.ndef_free h2 y hy e) (NdefX.ndef_fr h2) (by rw [sx.N]; exact h1)
theorem mEs_cons {ies : Es} {y : Expr} {ys : List Expr} (hm : mEs m ies (y :: ys) = true) : ∃ i2 j2, ies = .cons i2 j2 ∧ mE m i2 y = true ∧ mEs m j2 ys = true := by
  cases ies with
  | nil => cases hm
  | cons a b => exact ⟨a, b, rfl, Bool.and_eq_true_iff.mp hm⟩
theorem s_calln {i k : Nat} {js : List Nat} {x : Str} {p pos : Pos} {y : Expr} {ys : List Expr} {ies : Es} (sx : SX X ca zc m c n W) (h0 : m.nb = true) (h1 : nameAt m.N i x = true) (h2 : visB m.sc x = true) (h3 : noDbg x = true) (hc : capB m k js = true) (hm : mEs m ies (y :: ys) = true)
    (ha : PA X (y :: ys) (rdA (gOf X ca zc) U F B W c ies)) : PE X (.Call (.Name x p) (y :: ys) [] pos) (rdE (gOf X ca zc) U F B W c (.calln i k js ies)) := by
  obtain ⟨f, fv, hk, e1, e2⟩ := cap_of hc
  obtain ⟨q1, q2⟩ := sx.nfo k f fv hk
  obtain ⟨i2, j2, e3, m1, m2⟩ := mEs_cons hm
  have pe := NdefX.pe_calln (X := X) (mk := fun c' => ca.nf k zc c') (cl := cloFrom zc (C8.fnScope (m.nst k)).names []) (ps := f.N.take f.np) (fr := fv) (js := js) (i := i) (j := n) (k := n) (sp := fun _ _ => spN ⟨X.K, ca⟩ c k f) (E := fun _ _ _ => False) (p := p) (pos := pos)
    (fun a c' => sx.nst k f fv hk zc c' a) (fun c' => by show (ca.nf k zc c').cl = _; rw [q2]; rfl) (caps_made sx h0 e1 e2) sx.room (Nat.le_refl n) (fun _ _ _ _ _ _ _ hq => by
      obtain ⟨_, _, _, _, _, _, _, _, _, _, _, _, z⟩ := hq
      exact z.elim) (by rw [sx.N]; exact of_decide_eq_true h1) (by rw [sx.sc]; exact vis_of h2) ha (noDbg_of h3).1 (noDbg_of h3).2.1 (star_cons m1 _ _) (star_no m2)
  refine PE.imp pe fun σ H Q ⟨env, Qd, R, rl, w, k0, xx⟩ => ?_
  have w : fnvS (env.getD i .un) fun k' => k' = k ∧ wpEs c ies env (fun ds _ => capS (capsOf env js) fun cs => (nfL ds = true ∧ nfL cs = true) ∧ c.fnc k ds cs (fun d => d.imm = true ∧ Qd d ci)) R := w
  obtain ⟨t, ht⟩ : ∃ t, env.getD i .un = t := ⟨_, rfl⟩
  rw [ht] at w
  cases t <;> first | exact w.elim | skip
  obtain ⟨rfl, w⟩ := w
  obtain ⟨a, cc, g1, g2, g3, g4⟩ := rl.slot i _ (of_getD ht (by intro z; cases z))
  refine ⟨a, cc, g1, g2, env, _, R, rl, w, fun ds inf vs H1 q sm ra => ⟨sm _ _ g2, ?_, ?_⟩, xx⟩
  · show H1 (ca.nf _ zc cc).c = some (LamX.CodeO (ca.nf _ zc cc).c (ca.nf _ zc cc).qual)
    rw [show (ca.nf _ zc cc).c = cc from g3]
    exact sm _ _ g4
  · cases hcs : capsOf env js with
    | none => rw [hcs] at q; exact q.elim
    | some cs =>
      rw [hcs] at q
      obtain ⟨⟨n1, n2⟩, hq⟩ := q
      obtain ⟨us, u1, u2⟩ := caps_rep (rl.ext sm) hcs
      obtain ⟨f', fv', hk', hl1, _⟩ := sx.ncl _ ds cs _ hq
      rw [hk] at hk'
      cases hk'
      rw [u1]
      exact ⟨fun _ => True, ds, cs, us, _, rfl, hl1, ra.2.2.mono fun _ _ => trivial, u2, (rl.ext sm).tb, hq, fun d v H' ⟨di, dq⟩ s3 rp => k0 d ci v H' dq (sm.trans s3) (repI_c di (rp di))⟩
/-- a def is called while the cells of a function that is handed to it are told -/
theorem run_c {f : Addr} {fd : FuncData} {ps fr : List Str} {sp : Sp} {pins : List (Addr × Obj)} {σ : L2.St} {H : Hp} {s : Shared} {us : List Value} {vs us0 : List V} {cl : List (Str × Addr)} {js : List Nat} {Q : VK} {E : XK}
    (ok : FnH X n f fd ps sp) (hr : Room n X.A) (hb : L2.Binds X.K fd ps []) (hx : PassesAt (L2.CX X.prog X.w) X σ E) (I : Inv X pins σ H s) (cp : NdefX.Caps X cl fr js) (hfn : ∀ x, X.fn x = true) (hus : js.map (NdefX.slotAt σ) = us0.map some) (r : Vals vs us)
    (q : ∀ J : Hp, CellT (putC cl J H) cl fr us0 → Same H (putC cl J H) → sp vs (putC cl J H) (fun v H' => Same (putC cl J H) H' ∧ ((∀ a, isC cl a → ∃ o v, H' a = some (CelO a o) ∧ o.data = .cell v) → Same H (putC cl noH H') → Q v (putC cl noH H'))) fun cls d H' => Same (putC cl J H) H' ∧ (Same H (putC cl noH H') → E cls d (putC cl noH H'))) :
    wpAny (model X.prog X.w) X.A (call (.ref f) us) (EP X pins σ Q) X.xe s := by
  have C := NdefX.cells_of I cp
  have e0 := I.env0
  obtain ⟨J, hJ⟩ : ∃ J : Hp, J = fun a => (s.heap.get? a).map (CelO a) := ⟨_, rfl⟩
  have nC : ∀ a, isC cl a → H a = none := fun a ⟨y, e⟩ => (C.all y a e).1
  have inJ : ∀ a, isC cl a → ∃ o v, s.heap.get? a = some o ∧ J a = some (CelO a o) ∧ o.data = .cell v := fun a ⟨y, e⟩ => by
    obtain ⟨v, o, h1, h2⟩ := (C.all y a e).2
    exact ⟨o, v, h1, by rw [hJ]; show Option.map _ _ = _; rw [h1]; rfl, h2⟩
  have up : ∀ b o, H b = some o → putC cl J H b = some o := fun b o e => by
    rw [putC_out fun z => by rw [nC b z] at e; cases e]
    exact e
  have nT : ∀ b ps, putC cl J H b = some (.tbl ps) → H b = some (.tbl ps) := fun b ps e => by
    by_cases z : isC cl b
    · rw [putC_in z] at e
      obtain ⟨o, v, _, k, _⟩ := inJ b z
      rw [e] at k
      cases k
    · rw [putC_out z] at e
      exact e
  have sm : Same H (putC cl J H) := .of up nT
  have ct : CellT (putC cl J H) cl fr us0 := by
    refine ⟨by have := C.len; rw [hus, List.length_map] at this; exact this, fun y a e => ?_, C.inj, fun i y e => ?_⟩
    · obtain ⟨o, v, _, k, hd⟩ := inJ a ⟨y, e⟩
      exact ⟨o, by rw [putC_in ⟨y, e⟩]; exact k, v, hd⟩
    · obtain ⟨a, ha, hv⟩ := C.has i y e
      have hi : i < us0.length := by
        have h1 := (List.getElem?_eq_some_iff.mp e).1
        have := C.len
        rw [hus, List.length_map] at this
        omega
      obtain ⟨u, ru, o, ho, hd⟩ := hv us0[i] (by rw [hus, List.getElem?_map, List.getElem?_eq_getElem hi]; rfl)
      refine ⟨a, o, u, us0[i], ha, ?_, hd, List.getElem?_eq_getElem hi, ru⟩
      rw [putC_in ⟨y, ha⟩, hJ]
      show Option.map _ _ = _
      rw [ho]
      rfl
  have hok1 : HOk X.prog X.w (putC cl J H) s.heap := hok_put I.hok (fun a o z e => by
    obtain ⟨ob, v, k1, k2, _⟩ := inJ a z
    rw [e] at k2
    cases k2
    exact ⟨ob, rfl, k1⟩) fun a z => .inl (nC a z)
  have far : ∀ a, isC cl a → X.s_0.heap.objs.size ≤ a := fun a ⟨y, e⟩ => I.ok.cab y a (hfn y) (cp.sub y a e)
  have out1 : ∀ b o, X.base.get? b = some o → ¬ isC cl b := fun b o e z => by
    have h1 := far b z
    have h2 := Heap.lt_size e
    have h3 := I.ok.bsz
    exact Nat.lt_irrefl _ (Nat.lt_of_lt_of_le h2 (Nat.le_trans h3 h1))
  have out2 : ∀ b ∈ frs X.stack, ¬ isC cl b := fun b hb z => by
    rcases List.mem_cons.mp (I.stkSub b hb) with e | hb
    · obtain ⟨o, v, h1, _, hd⟩ := inJ b z
      obtain ⟨mm, ⟨o2, es, ep, h2, hd2, _⟩, _⟩ := I.loc
      rw [e, h2] at h1
      cases h1
      rw [hd2] at hd
      cases hd
    · obtain ⟨_, o, ho, _⟩ := I.ok.funs.mem hb
      have h1 := far b z
      have h2 := Heap.lt_size ho
      exact Nat.lt_irrefl _ (Nat.lt_of_lt_of_le h2 h1)
  have e1 : Env0 X.prog X.w X.K X.mg X.base X.A X.stack s (putC cl J H) := ⟨e0.frames, e0.mod, fun b o e => ⟨(e0.bs b o e).1, by rw [putC_out (out1 b o e)]; exact (e0.bs b o e).2⟩, e0.bsz, e0.funs, fun b hb => by rw [putC_out (out2 b hb)]; exact e0.frf b hb, hok1, e0.bare⟩
  have q0 := q J ct sm
  have hl : us.length = ps.length := by rw [← r.length]; exact ok.len _ _ _ _ q0
  have b0 := hb s us I.kIn (by rw [List.append_nil]; exact hl)
  rw [List.append_nil] at b0
  have cells : ∀ {H' : Hp}, Same (putC cl J H) H' → ∀ a, isC cl a → ∃ o v, H' a = some (CelO a o) ∧ o.data = .cell v := fun {H'} s3 a z => by
    obtain ⟨o, v, _, k, hd⟩ := inJ a z
    exact ⟨o, v, s3 _ _ (by rw [putC_in z]; exact k), hd⟩
  have down : ∀ {H' : Hp}, Same (putC cl J H) H' → ∀ b o, H' b = some o → (∀ φ, o ≠ .ext φ) → putC cl noH H' b = some o := fun {H'} s3 b o e nx => by
    rw [putC_out fun z => by
      obtain ⟨ob, v, k, _⟩ := cells s3 b z
      rw [e] at k
      exact nx _ (Option.some.inj k)]
    exact e
  have hok2 : ∀ {H' : Hp} {h' : Heap}, HOk X.prog X.w H' h' → Same (putC cl J H) H' → HOk X.prog X.w (putC cl noH H') h' := fun {H' h'} hk s3 => hok_put hk (fun a o _ e => by cases e) fun a z => let ⟨o, v, e, _⟩ := cells s3 a z; .inr ⟨_, e⟩
  have keepC : ∀ {H' : Hp} {h' : Heap}, HOk X.prog X.w H' h' → Same (putC cl J H) H' → ∀ b o, isC cl b → s.heap.get? b = some o → h'.get? b = some o := fun {H' h'} hk s3 b o z e => by
    obtain ⟨ob, v, k1, k2, _⟩ := inJ b z
    rw [e] at k1
    cases k1
    exact cel_at hk (s3 _ _ (by rw [putC_in z]; exact k2))
  refine wpAny_call (codeAny_mono (ok.run X.A X.stack s (putC cl J H) ⟨us, []⟩ us vs _ _ hr e1 b0 r q0) fun rr s' hq => ?_)
  cases rr with
  | error e =>
    obtain ⟨a, Bh, H', cls, d, e', fl, hk, ub, na, os, bare, s3, hE⟩ := hq
    refine hx pins H s e s' I ⟨a, Bh, putC cl noH H', cls, d, e', fl, hok2 hk s3, ⟨fun b o e x nb => ?_, ub.slot, fun b o e x => ?_, ub.there, fun b xs e => down s3 _ _ (ub.tups b xs (up _ _ e)) (fun _ z => nomatch z), fun b o x e => down s3 _ _ (ub.frzs b o x (up _ _ e)) (fun _ z => nomatch z), fun b ps e => ?_⟩, ?_, os, bare, hE (Same.recover hk nC (cells s3) s3)⟩
    · by_cases z : isC cl b
      · exact keepC hk s3 b o z e
      · exact ub.keep b o e (by rw [putC_out z]; exact x) nb
    · by_cases z : isC cl b
      · rw [putC_in z]
        rfl
      · rw [putC_out z]
        exact ub.free b o e (by rw [putC_out z]; exact x)
    · obtain ⟨more, e2⟩ := ub.tbls b ps (up _ _ e)
      exact ⟨more, down s3 _ _ e2 fun _ z => nomatch z⟩
    · by_cases z : isC cl a
      · rw [putC_in z]
        rfl
      · rw [putC_out z]
        exact na
  | ok fl =>
    cases fl with
    | ret u =>
      obtain ⟨v, H', os, bare, un, hk, rv, s3, qq⟩ := hq
      refine I.after ⟨v, putC cl noH H', os, bare, ⟨fun b o e x nb nx => ?_, fun b o e x hb nx => ?_, fun b o e x nx => ?_, un.there, fun b xs e => down s3 _ _ (un.tups b xs (up _ _ e)) (fun _ z => nomatch z), fun b o x e => down s3 _ _ (un.frzs b o x (up _ _ e)) (fun _ z => nomatch z), fun b ps e => ?_⟩, hok2 hk s3, rv, qq (cells s3) (Same.recover hk nC (cells s3) s3)⟩
      · by_cases z : isC cl b
        · exact keepC hk s3 b o z e
        · exact un.keep b o e (by rw [putC_out z]; exact x) nb nx
      · exact un.slot b o e (by rw [putC_out (out2 b hb)]; exact x) hb nx
      · by_cases z : isC cl b
        · rw [putC_in z]
          rfl
        · rw [putC_out z]
          exact un.free b o e (by rw [putC_out z]; exact x) nx
      · obtain ⟨more, e2⟩ := un.tbls b ps (up _ _ e)
        exact ⟨more, down s3 _ _ e2 fun _ z => nomatch z⟩
    | next => exact False.elim hq
    | brk => exact False.elim hq
    | cont => exact False.elim hq
/-- arguments, the last one the name of a function of this row -/
def rdAL (g : GZ) (U : Addr → Prop) (F B : Hp) (W : WX) (c : Cl) (i k : Nat) (es : Es) : TA := fun σ H Q => ∃ (env : List Sl) (Qd : List D → Inf → Prop) (R : Exn), RelW g U F B env σ H ∧ fnvS (env.getD i .un) (fun k' => k' = k) ∧ wpEs c es env Qd R ∧
  (∀ ds inf vs v H', Qd ds inf → Same H H' → RepA g U F env σ H' ds inf vs → σ[i]? = some (some v) → Q (vs ++ [v]) H') ∧ exW g W σ H R
theorem fnv_at {g : GZ} {env : List Sl} {σ : L2.St} {H : Hp} {i k : Nat} (rl : RelW g U F B env σ H) (h : fnvS (env.getD i .un) fun k' => k' = k) : ∃ f cc, σ[i]? = some (some (.ref f)) ∧ H f = some (NdefX.FnO f (g.ca.nf k g.zc cc)) ∧ (g.ca.nf k g.zc cc).c = cc ∧ H cc = some (LamX.CodeO cc (g.ca.nf k g.zc cc).qual) := by
  obtain ⟨t, ht⟩ : ∃ t, env.getD i .un = t := ⟨_, rfl⟩
  rw [ht] at h
  cases t <;> first | exact h.elim | skip
  obtain rfl : _ = k := h
  exact rl.slot i _ (of_getD ht (by intro z; cases z))
theorem aL_nil {i k : Nat} {z : Str} {p : Pos} (sx : SX X ca zc m c n W) (h1 : nameAt m.N i z = true) (h2 : visB m.sc z = true) (h3 : noDbg z = true) : PA X [.Name z p] (rdAL (gOf X ca zc) U F B W c i k .nil) := by
  refine PA.imp (pa_cons (pe_var (i := i) (by rw [sx.N]; exact of_decide_eq_true h1) (by rw [sx.sc]; exact vis_of h2) (noDbg_of h3).1 (noDbg_of h3).2.1) pa_nil rfl) fun σ H Q ⟨env, Qd, R, rl, fv, w, k0, xx⟩ => ?_
  obtain ⟨f, cc, g1, _⟩ := fnv_at rl fv
  exact ⟨_, g1, k0 [] ci [] _ H w (Same.refl _) repA_nil g1⟩
theorem aL_cons {i k : Nat} {e : Expr} {es : List Expr} {ie : E} {ies : Es} (he : PE X e (rdE (gOf X ca zc) U F B W c ie)) (hes : PA X es (rdAL (gOf X ca zc) U F B W c i k ies)) (hs : starEach (e :: es) X.env = (false, eval e X.env) :: starEach es X.env) : PA X (e :: es) (rdAL (gOf X ca zc) U F B W c i k (.cons ie ies)) := by
  refine PA.imp (pa_cons he hes hs) fun σ H Q ⟨env, Qd, R, rl, fv, w, k0, xx⟩ => ?_
  refine rdE1 rl w xx fun d i v H1 w1 s1 z1 r1 x1 => ?_
  exact ⟨env, _, R, r1, fv, w1, fun ds j vs u H2 q s2 z2 hu => k0 _ _ _ u H2 q (s1.trans s2) (repA_cons rl (z1.ext s2) z2) hu, x1⟩
theorem star_noL {i : Nat} {pos : Pos} {env : Env} : ∀ {irs : Es} {es : List Expr}, mEsL m i irs es = true → (backTo pos (starEach es env)).any (·.1) = false
  | .nil, [], h => by cases h
  | .nil, [e], h => by
    cases e <;> first | (exfalso; exact Bool.false_ne_true h) | rfl
  | .nil, _ :: _ :: _, h => by
    rename_i a b r
    cases a <;> exact (Bool.false_ne_true h).elim
  | .cons ir irs, e :: es, h => by
    have h2 : mE m ir e = true ∧ mEsL m i irs es = true := Bool.and_eq_true_iff.mp h
    rw [star_cons h2.1]
    show ((false, _) :: backTo pos (starEach es env)).any (·.1) = false
    rw [List.any_cons, star_noL h2.2]
    rfl
  | .cons _ _, [], h => by cases h
theorem star_headL {i : Nat} {pos : Pos} {env : Env} {irs : Es} {y : Expr} {ys : List Expr} (h : mEsL m i irs (y :: ys) = true) : starEach (y :: ys) env = (false, eval y env) :: starEach ys env ∧ (backTo pos (starEach ys env)).any (·.1) = false := by
  cases irs with
  | nil =>
    cases ys with
    | nil => cases y <;> first | (exfalso; exact Bool.false_ne_true h) | exact ⟨rfl, rfl⟩
    | cons a b => cases y <;> exact (Bool.false_ne_true h).elim
  | cons ir irs =>
    have h2 : mE m ir y = true ∧ mEsL m i irs ys = true := Bool.and_eq_true_iff.mp h
    exact ⟨star_cons h2.1 _ _, star_noL h2.2⟩
theorem s_callc {f i k : Nat} {js : List Nat} {fn : Fn} {x : Str} {p pos : Pos} {y : Expr} {ys : List Expr} {ies : Es} (sx : SX X ca zc m c n W) (hf : m.fs.fns[f]? = some fn) (ho : fn.own = none) (hx : fn.name = x) (hg : glB m.sc x = true) (hd0 : noDbg x = true) (h0 : m.nb = true) (h4 : m.tl = true) (hq : m.q = false) (hc : capB m k js = true) (hm : mEsL m i ies (y :: ys) = true)
    (ha : PA X (y :: ys) (rdAL (gOf X ca zc) U F B W c i k ies)) : PE X (.Call (.Name x p) (y :: ys) [] pos) (rdE (gOf X ca zc) U F B W c (.callc f ies i k js)) := by
  obtain ⟨fd, hmg, hkp, hb, hok, _⟩ := sx.fn f fn hf
  have hmg := hmg ho
  have hi : ¬ fn.ini = true := by unfold Fn.ini; rw [ho]; exact Bool.false_ne_true
  rw [show spS ⟨X.K, ca⟩ c f fn = spF ⟨X.K, ca⟩ c f fn from if_neg hi] at hok
  obtain ⟨f2, fv, hk, e1, e2⟩ := cap_of hc
  obtain ⟨q1, q2⟩ := sx.nfo k f2 fv hk
  obtain ⟨t1, t2⟩ := star_headL (env := X.env) (pos := pos) hm
  subst hx
  refine ⟨fun pins s σ H Q I ⟨env, Qd, R, rl, w, k0, xx⟩ => ?_⟩
  have w : fnvS (env.getD i .un) fun k' => k' = k ∧ wpEs c ies env (fun ds _ => capS (capsOf env js) fun cs => c.call f (ds ++ [.fn k cs]) (fun d => d.imm = true ∧ Qd d ci) R) R := w
  obtain ⟨w1, w2⟩ : (fnvS (env.getD i .un) fun k' => k' = k) ∧ wpEs c ies env (fun ds _ => capS (capsOf env js) fun cs => c.call f (ds ++ [.fn k cs]) (fun d => d.imm = true ∧ Qd d ci) R) R := by
    revert w
    cases env.getD i .un <;> first | exact fun z => z.elim | exact id
  obtain ⟨fa, cc, g1, g2, g3, g4⟩ := fnv_at rl w1
  refine wpAny_Call_Name_kw (ld_glob I (sx.gl hg) hmg ?_ (noDbg_of hd0).1)
  refine PySem.W.callWith_K (h₀ := X.base) I.ok.mod.kin hkp (thn (ha.run pos pins s σ H (fun vs H1 => ∃ ds inf vs0, vs = vs0 ++ [.ref fa] ∧ Same H H1 ∧ RepA (gOf X ca zc) U F env σ H1 ds inf vs0 ∧ capS (capsOf env js) fun cs => c.call f (ds ++ [.fn k cs]) (fun d => d.imm = true ∧ Qd d ci) R) I
    ⟨env, _, R, rl, w1, w2, fun ds inf vs v H' q sm ra hv => ⟨ds, inf, vs, by rw [g1] at hv; cases hv; rfl, sm, ra, q⟩, xx⟩) fun us s1 ⟨vs, H1, I1, r, ds, inf, vs0, ev, sm, ra, hcall⟩ => ⟨I1.kIn, ?_⟩) t1 t2
  cases hcs : capsOf env js with
  | none => rw [hcs] at hcall; exact hcall.elim
  | some cs =>
    rw [hcs] at hcall
    have hcall : c.call f (ds ++ [.fn k cs]) (fun d => d.imm = true ∧ Qd d ci) R := hcall
    obtain ⟨us0, u1, u2⟩ := caps_rep (rl.ext sm) hcs
    have hcl : (ca.nf k zc cc).cl = cloFrom zc (C8.fnScope (m.nst k)).names [] := by rw [q2]; rfl
    refine run_c (E := fun cls d H' => W cls d σ H') hok sx.room hb (passAt (sx.tk hq) σ) I1 (caps_made sx h0 e1 e2 I1.ok) (sx.ft0 h0 h4) u1 r fun J ct s3 => ?_
    refine ⟨fun _ => True, ds ++ [.fn k cs], _, R, sx.cl f fn _ _ _ hf hcall, ?_, (rl.ext (sm.trans s3)).tb, hcall, fun d v H' ⟨di, dq⟩ s5 ok => ⟨s5, fun cells s6 => k0 d ci v _ dq (sm.trans s6) (repI_c di (rep_recover di cells ok.1))⟩, fun e H' hr s5 => ⟨s5, fun s6 => xx e _ hr (sm.trans s6)⟩⟩
    rw [ev]
    refine RepL.app ((ra.2.2.mono fun _ _ => trivial).ext s3) (RepL.one ⟨fa, zc, cc, us0, rfl, s3 _ _ (sm _ _ g2), g3, s3 _ _ (sm _ _ g4), ?_, u2.ext s3⟩)
    show CellT _ (ca.nf k zc cc).cl (ca.fv k) us0
    rw [hcl, q1]
    exact ct
/-- f(..), its last parameter by its default -/
theorem s_calld {f : Nat} {fr : Bool} {fn : Fn} {x : Str} {p pos : Pos} {y : Expr} {ys : List Expr} {ies : Es} (s : SX X ca zc m c n W) (hf : m.fs.fns[f]? = some fn) (ho : fn.own = none) (hx : fn.name = x) (hfr : fn.fr = fr) (hdv : fn.dv = 1) (hg : glB m.sc x = true) (hd0 : (noDbg x && (!m.q || m.fs.cm.contains x)) = true)
    (hm : mEs m ies (y :: ys) = true) (ha : PA X (y :: ys) (rdA (gOf X ca zc) U F B W c ies)) : PE X (.Call (.Name x p) (y :: ys) [] pos) (rdE (gOf X ca zc) U F B W c (.calld f fr ies)) := by
  obtain ⟨hd, hq0⟩ := Bool.and_eq_true_iff.mp hd0
  obtain ⟨fd, hmg, hkp, hb, hok, hokN⟩ := s.fnd f fn hf hdv
  have hmg := hmg ho
  have hi : ¬ fn.ini = true := by unfold Fn.ini; rw [ho]; exact Bool.false_ne_true
  rw [show spS ⟨X.K, ca⟩ c f fn = spF ⟨X.K, ca⟩ c f fn from if_neg hi] at hok hokN
  obtain ⟨i, j, rfl, m1, m2⟩ := mEs_cons hm
  subst hx
  have pe : PE X (.Call (.Name fn.name p) (y :: ys) [] pos) (tCallSD (spF ⟨X.K, ca⟩ c f fn) [.non] (fun σ => WE W σ) (rdA (gOf X ca zc) U F B W c (.cons i j))) := by
    have hv : Vals [V.non] [Value.none] := .cons rfl .nil
    cases hq : m.q with
    | false => exact pe_callSD hok s.room (s.gl hg) hmg hkp hb hv (fun σ => passAt (s.tk hq) σ) ha (noDbg_of hd).1 (star_cons m1 _ _) (star_no m2)
    | true =>
      rw [hq] at hq0
      exact pe_callSD (hokN (by simpa using hq0)) s.room (s.gl hg) hmg hkp hb hv (fun σ => L2N.passAt (s.tkN hq) σ) ha (noDbg_of hd).1 (star_cons m1 _ _) (star_no m2)
  refine PE.imp pe fun σ H Q ⟨env, Qd, R, rl, w, k, x⟩ => ?_
  refine ⟨env, _, R, rl, w, fun ds inf vs H1 q s1 z => ?_, x⟩
  have hl : (ds ++ [D.non]).length = fn.np := s.cl f fn _ _ _ hf q
  refine ⟨Rch U F env σ inf.al inf.fr, ds ++ [D.non], _, R, hl, z.2.2.app (RepL.one rfl), (rl.ext s1).tb, q, fun d v H' qd s2 ok => k d _ v H' qd (s1.trans s2) ?_, fun e H' hr s2 => x e H' hr (s1.trans s2)⟩
  subst hfr
  exact call_res rl s1 ok
end
end Rj

namespace Rj
open PySem PySem.Spec PyProof.Rows L2
theorem ba2 {a b : Bool} (h : (a && b) = true) : a = true ∧ b = true := Bool.and_eq_true_iff.mp h
theorem mE_set {m : MC} {ir : E} {l : List Expr} {k : Nat} {p : Pos} : mE m ir (.Set l k p) = false := by
  cases ir <;> rfl
theorem fold_it {m : MC} {it : It} {e : Expr} (h : mI m it e = true) (env : Env) (x : Value) : foldedSetIterable e env x = pure x := by
  cases e <;> first | rfl | skip
  exfalso
  cases it with
  | e a =>
    have h : mE m a (.Set _ _ _) = true := h
    rw [mE_set] at h
    cases h
  | _ => cases h
section
variable [Nm] {c : Cl} {n : Nat}
mutual
theorem soundE : ∀ (ir : E) {X : Cx} {ca : Ca} {zc : List (Str × Addr)} {m : MC} {W : WX} (sx : SX X ca zc m c n W) {e : Expr}, mE m ir e = true → ∀ (U : Addr → Prop) (F B : Hp), PE X e (rdE (gOf X ca zc) U F B W c ir)
  | .var i, X, ca, zc, m, W, sx, e, h, U, F, B => by
    cases e <;> first | (exfalso; exact Bool.false_ne_true h) | skip
    obtain ⟨h, h3⟩ := ba2 h
    obtain ⟨h1, h2⟩ := ba2 h
    exact s_var (pe_var (by rw [sx.N]; exact of_decide_eq_true h1) (by rw [sx.sc]; exact vis_of h2) (noDbg_of h3).1 (noDbg_of h3).2.1)
  | .cint k, X, ca, zc, m, W, sx, e, h, U, F, B => by
    cases e <;> first | (exfalso; exact Bool.false_ne_true h) | skip
    rename_i v _ _
    cases v <;> first | (exfalso; exact Bool.false_ne_true h) | skip
    obtain rfl := of_decide_eq_true h
    exact s_const (d := .int k) pe_int (fun _ _ => rfl) rfl fun _ _ _ => rfl
  | .cbl k, X, ca, zc, m, W, sx, e, h, U, F, B => by
    cases e <;> first | (exfalso; exact Bool.false_ne_true h) | skip
    rename_i v _ _
    cases v <;> first | (exfalso; exact Bool.false_ne_true h) | skip
    rename_i b
    obtain rfl : k = b := eq_of_beq h
    exact s_const (d := .bl k) pe_bl (fun _ _ => rfl) rfl fun _ _ _ => rfl
  | .cstr k, X, ca, zc, m, W, sx, e, h, U, F, B => by
    cases e <;> first | (exfalso; exact Bool.false_ne_true h) | skip
    rename_i v _ _
    cases v <;> first | (exfalso; exact Bool.false_ne_true h) | skip
    obtain rfl := of_decide_eq_true h
    exact s_const (d := .str k) pe_str (fun _ _ => rfl) rfl fun _ _ _ => rfl
  | .cnon, X, ca, zc, m, W, sx, e, h, U, F, B => by
    cases e <;> first | (exfalso; exact Bool.false_ne_true h) | skip
    rename_i v _ _
    cases v <;> first | (exfalso; exact Bool.false_ne_true h) | skip
    exact s_const (d := .non) pe_non (fun _ _ => rfl) rfl fun _ _ _ => rfl
  | .gint x k, X, ca, zc, m, W, sx, e, h, U, F, B => by
    cases e <;> first | (exfalso; exact Bool.false_ne_true h) | skip
    obtain ⟨h, h4⟩ := ba2 h
    obtain ⟨h, h3⟩ := ba2 h
    obtain ⟨h1, h2⟩ := ba2 h
    obtain rfl := of_decide_eq_true h1
    obtain ⟨t, ht⟩ := sx.gi _ (of_decide_eq_true h4)
    exact s_const (d := .int k) (pe_glob (v := .int k) (sx.gl h2) ht ⟨t, rfl⟩ (noDbg_of h3).1) (fun _ _ => rfl) rfl fun _ _ _ => rfl
  | .gstr x k, X, ca, zc, m, W, sx, e, h, U, F, B => by
    cases e <;> first | (exfalso; exact Bool.false_ne_true h) | skip
    obtain ⟨h, h4⟩ := ba2 h
    obtain ⟨h, h3⟩ := ba2 h
    obtain ⟨h1, h2⟩ := ba2 h
    obtain rfl := of_decide_eq_true h1
    obtain ⟨t, ht⟩ := sx.gs _ (of_decide_eq_true h4)
    exact s_const (d := .str k) (pe_glob (v := .str k) (sx.gl h2) ht ⟨t, rfl⟩ (noDbg_of h3).1) (fun _ _ => rfl) rfl fun _ _ _ => rfl
  | .bin op a b, X, ca, zc, m, W, sx, e, h, U, F, B => by
    cases e <;> first | (exfalso; exact Bool.false_ne_true h) | skip
    obtain ⟨h, h3⟩ := ba2 h
    obtain ⟨h1, h2⟩ := ba2 h
    exact s_bin h1 (soundE a sx h2 U F B) (soundE b sx h3 U F B)
  | .neg a, X, ca, zc, m, W, sx, e, h, U, F, B => by
    cases e <;> first | (exfalso; exact Bool.false_ne_true h) | skip
    rename_i o _ _
    cases o <;> first | (exfalso; exact Bool.false_ne_true h) | skip
    exact s_neg (soundE a sx h U F B)
  | .not a, X, ca, zc, m, W, sx, e, h, U, F, B => by
    cases e <;> first | (exfalso; exact Bool.false_ne_true h) | skip
    rename_i o _ _
    cases o <;> first | (exfalso; exact Bool.false_ne_true h) | skip
    exact s_not (soundE a sx h U F B)
  | .cmp op a b, X, ca, zc, m, W, sx, e, h, U, F, B => by
    cases e <;> first | (exfalso; exact Bool.false_ne_true h) | skip
    rename_i l os es p
    match os, es, h with
    | [o], [y], h =>
      obtain ⟨h, h4⟩ := ba2 h
      obtain ⟨h, h3⟩ := ba2 h
      obtain ⟨h1, h2⟩ := ba2 h
      exact s_cmp sx.hu h1 (by simpa using h2) (soundE a sx h3 U F B) (soundE b sx h4 U F B)
  | .chain op op' a b d, X, ca, zc, m, W, sx, e, h, U, F, B => by
    cases e <;> first | (exfalso; exact Bool.false_ne_true h) | skip
    rename_i l os es p
    match os, es, h with
    | [o, o'], [y, z], h =>
      obtain ⟨h, h4⟩ := ba2 h
      obtain ⟨h, h3⟩ := ba2 h
      obtain ⟨h, h2⟩ := ba2 h
      obtain ⟨h, h6⟩ := ba2 h
      obtain ⟨h1, h5⟩ := ba2 h
      exact s_chain sx.hu h1 h5 (by simpa using h6) (soundE a sx h2 U F B) (soundE b sx h3 U F B) (soundE d sx h4 U F B)
  | .and a b, X, ca, zc, m, W, sx, e, h, U, F, B => by
    cases e <;> first | (exfalso; exact Bool.false_ne_true h) | skip
    rename_i op vs p
    cases op <;> first | (exfalso; cases vs with | nil => exact Bool.false_ne_true h | cons x r => cases r <;> exact Bool.false_ne_true h) | skip
    match vs, h with
    | [x, y], h =>
      obtain ⟨h1, h2⟩ := ba2 h
      exact s_and (soundE a sx h1 U F B) (pe_one (soundE b sx h2 U F B))
    | x :: y :: z :: r, h =>
      obtain ⟨h1, h2⟩ := ba2 h
      exact s_and (soundE a sx h1 U F B) (soundE b sx h2 U F B)
  | .or a b, X, ca, zc, m, W, sx, e, h, U, F, B => by
    cases e <;> first | (exfalso; exact Bool.false_ne_true h) | skip
    rename_i op vs p
    cases op <;> first | (exfalso; cases vs with | nil => exact Bool.false_ne_true h | cons x r => cases r <;> exact Bool.false_ne_true h) | skip
    match vs, h with
    | [x, y], h =>
      obtain ⟨h1, h2⟩ := ba2 h
      exact s_or (soundE a sx h1 U F B) (pe_one (soundE b sx h2 U F B))
    | x :: y :: z :: r, h =>
      obtain ⟨h1, h2⟩ := ba2 h
      exact s_or (soundE a sx h1 U F B) (soundE b sx h2 U F B)
  | .tup es, X, ca, zc, m, W, sx, e, h, U, F, B => by
    cases e <;> first | (exfalso; exact Bool.false_ne_true h) | skip
    exact s_tup (soundA es sx h U F B)
  | .lst es, X, ca, zc, m, W, sx, e, h, U, F, B => by
    cases e <;> first | (exfalso; exact Bool.false_ne_true h) | skip
    exact s_lst (soundA es sx h U F B)
  | .ix a b, X, ca, zc, m, W, sx, e, h, U, F, B => by
    cases e <;> first | (exfalso; exact Bool.false_ne_true h) | skip
    obtain ⟨h, h3⟩ := ba2 h
    obtain ⟨h1, h2⟩ := ba2 h
    exact s_ix h1 (soundE a sx h2 U F B) (soundE b sx h3 U F B)
  | .sl a lo hi, X, ca, zc, m, W, sx, e, h, U, F, B => by
    cases e <;> first | (exfalso; exact Bool.false_ne_true h) | skip
    rename_i v s p
    cases s <;> first | (exfalso; exact Bool.false_ne_true h) | skip
    rename_i l u st p2
    cases st <;> first | (exfalso; exact Bool.false_ne_true h) | skip
    obtain ⟨h, h3⟩ := ba2 h
    obtain ⟨h1, h2⟩ := ba2 h
    exact s_sl (soundE a sx h1 U F B) (soundO lo sx h2 U F B) (soundO hi sx h3 U F B)
  | .call f fr es, X, ca, zc, m, W, sx, e, h, U, F, B => by
    cases e <;> first | (exfalso; exact Bool.false_ne_true h) | skip
    rename_i fn as ks p
    cases fn <;> first | (exfalso; exact Bool.false_ne_true h) | skip
    match as, ks, h with
    | y :: ys, [], h =>
      obtain ⟨h, h4⟩ := ba2 h
      obtain ⟨h, h3⟩ := ba2 h
      obtain ⟨h1, h2⟩ := ba2 h
      cases hf : m.fs.fns[f]? with
      | none => rw [hf] at h1; cases h1
      | some d =>
        rw [hf] at h1
        obtain ⟨h1, h7⟩ := ba2 h1
        obtain ⟨h1, h6⟩ := ba2 h1
        obtain ⟨h8, h5⟩ := ba2 h1
        exact s_call sx hf (of_decide_eq_true h8) (of_decide_eq_true h5) (eq_of_beq h6) h2 h3 h4 (soundA es sx h4 U F B)
  | .blt b es, X, ca, zc, m, W, sx, e, h, U, F, B => by
    cases e <;> first | (exfalso; exact Bool.false_ne_true h) | skip
    rename_i fn as ks p
    cases fn <;> first | (exfalso; exact Bool.false_ne_true h) | skip
    match as, ks, h with
    | y :: ys, [], h =>
      obtain ⟨h, h5⟩ := ba2 h
      obtain ⟨h, h4⟩ := ba2 h
      obtain ⟨h, h3⟩ := ba2 h
      obtain ⟨h1, h2⟩ := ba2 h
      exact s_blt sx (of_decide_eq_true h1) h2 h3 (of_decide_eq_true h4) h5 (soundA1 es sx h5 U F B)
  | .isi a t, X, ca, zc, m, W, sx, e, h, U, F, B => by
    cases e <;> first | (exfalso; exact Bool.false_ne_true h) | skip
    rename_i fn as ks p
    cases fn <;> first | (exfalso; exact Bool.false_ne_true h) | skip
    match as, ks, h with
    | [y, .Name z pz], [], h =>
      obtain ⟨h, h7⟩ := ba2 h
      obtain ⟨h, h6⟩ := ba2 h
      obtain ⟨h, h5⟩ := ba2 h
      obtain ⟨h, h4⟩ := ba2 h
      obtain ⟨h, h3⟩ := ba2 h
      obtain ⟨h1, h2⟩ := ba2 h
      obtain rfl := of_decide_eq_true h1
      obtain rfl := of_decide_eq_true h2
      exact s_isi sx h3 h4 (of_decide_eq_true h5) (of_decide_eq_true h6) h7 (soundE a sx h7 U F B)
  | .comp ie t it cd, X, ca, zc, m, W, sx, e, h, U, F, B => by
    cases e <;> first | (exfalso; exact Bool.false_ne_true h) | skip
    rename_i x gs scope p
    match gs, h with
    | [⟨tg, iter, ifs, 0⟩], h =>
      obtain ⟨h, h6⟩ := ba2 h
      obtain ⟨h, h5⟩ := ba2 h
      obtain ⟨h, h4⟩ := ba2 h
      obtain ⟨h, h3⟩ := ba2 h
      obtain ⟨h1, h2⟩ := ba2 h
      have hl := pe_lc (X := X) (elt := x) (tg := tg) (iter := iter) (ifs := ifs) (scope := scope) (own := ownN m.N t.ns) (pos := p) sx.calm sx.nd (soundI it sx h1 h2 U F B) (by rw [sx.N, sx.sc]; exact blkOk_by h3)
        (g := rdG X.K t) (tt := ttX (gOf X ca zc) c cd) (te := teX (gOf X ca zc) c ie)
        (fun s H C cl fp => g_ok (sx_blk sx s H scope cl C fp) (fun x hx => blk_loc x hx) h4)
        (fun s H C cl fp => soundC cd (sx_blk sx s H scope cl C fp) h5)
        (fun s H C cl fp => ⟨fun pins s1 σ H1 Q I ⟨U', F', B', q⟩ => (soundE ie (sx_blk sx s H scope cl C fp) h6 U' F' B').run pins s1 σ H1 Q I q⟩) (fold_it h1 X.env)
      rw [own_ns] at hl
      exact PE.imp hl fun _ _ _ q => comp_core q
  | .fld a x, X, ca, zc, m, W, sx, e, h, U, F, B => by
    cases e <;> first | (exfalso; exact Bool.false_ne_true h) | skip
    obtain ⟨h, h3⟩ := ba2 h
    obtain ⟨h1, h2⟩ := ba2 h
    obtain rfl := of_decide_eq_true h1
    exact s_fld sx h2 (soundE a sx h3 U F B)
  | .meth a x fr es, X, ca, zc, m, W, sx, e, h, U, F, B => by
    cases e <;> first | (exfalso; exact Bool.false_ne_true h) | skip
    rename_i fn as ks p
    cases fn <;> first | (exfalso; exact Bool.false_ne_true h) | skip
    cases ks <;> first | (exfalso; exact Bool.false_ne_true h) | skip
    obtain ⟨h, h7⟩ := ba2 h
    obtain ⟨h, h6⟩ := ba2 h
    obtain ⟨h, h5⟩ := ba2 h
    obtain ⟨h, h4⟩ := ba2 h
    obtain ⟨h, h3⟩ := ba2 h
    obtain ⟨h1, h2⟩ := ba2 h
    obtain ⟨h1, hq⟩ := ba2 h1
    obtain rfl := of_decide_eq_true h1
    exact s_meth sx (by simpa using hq) h5 h2 h3 (of_decide_eq_true h4) (soundE a sx h6 U F B) h7 (soundA es sx h7 U F B)
  | .make x i es, X, ca, zc, m, W, sx, e, h, U, F, B => by
    cases e <;> first | (exfalso; exact Bool.false_ne_true h) | skip
    rename_i fn as ks p
    cases fn <;> first | (exfalso; exact Bool.false_ne_true h) | skip
    cases ks <;> first | (exfalso; exact Bool.false_ne_true h) | skip
    obtain ⟨h, h5⟩ := ba2 h
    obtain ⟨h, h4⟩ := ba2 h
    obtain ⟨h, h3⟩ := ba2 h
    obtain ⟨h1, h2⟩ := ba2 h
    obtain ⟨h1, hq⟩ := ba2 h1
    obtain rfl := of_decide_eq_true h1
    exact s_make sx (by simpa using hq) h2 h3 (of_decide_eq_true h4) h5 (soundA es sx h5 U F B)
  | .isc a x, X, ca, zc, m, W, sx, e, h, U, F, B => by
    cases e <;> first | (exfalso; exact Bool.false_ne_true h) | skip
    rename_i fn as ks p
    cases fn <;> first | (exfalso; exact Bool.false_ne_true h) | skip
    match as, ks, h with
    | [y, .Name z pz], [], h =>
      obtain ⟨h, h8⟩ := ba2 h
      obtain ⟨h, h7⟩ := ba2 h
      obtain ⟨h, h6⟩ := ba2 h
      obtain ⟨h, h5⟩ := ba2 h
      obtain ⟨h, h4⟩ := ba2 h
      obtain ⟨h, h3⟩ := ba2 h
      obtain ⟨h1, h2⟩ := ba2 h
      obtain rfl := of_decide_eq_true h1
      obtain rfl := of_decide_eq_true h2
      exact s_isc sx h3 h4 h5 (of_decide_eq_true h6) (of_decide_eq_true h7) h8 (soundE a sx h8 U F B)
  | .ife t a b, X, ca, zc, m, W, sx, e, h, U, F, B => by
    cases e <;> first | (exfalso; exact Bool.false_ne_true h) | skip
    obtain ⟨h, h3⟩ := ba2 h
    obtain ⟨h1, h2⟩ := ba2 h
    exact s_ife (soundB t sx h1 U F B).1 (soundE a sx h2 U F B) (soundE b sx h3 U F B)
  | .bm op a b, X, ca, zc, m, W, sx, e, h, U, F, B => by
    cases e <;> first | (exfalso; exact Bool.false_ne_true h) | skip
    rename_i fn as ks p
    cases fn <;> first | (exfalso; exact Bool.false_ne_true h) | skip
    match as, ks, h with
    | [v], [], h =>
      obtain ⟨h, h5⟩ := ba2 h
      obtain ⟨h, h4⟩ := ba2 h
      obtain ⟨h, h3⟩ := ba2 h
      obtain ⟨h1, h2⟩ := ba2 h
      exact s_bm (of_decide_eq_true h1) h3 h2 h5 (soundE a sx h4 U F B) (soundE b sx h5 U F B)
  | .lrev a, X, ca, zc, m, W, sx, e, h, U, F, B => by
    cases e <;> first | (exfalso; exact Bool.false_ne_true h) | skip
    rename_i fn as ks p
    match fn, as, ks, h with
    | .Name f pf, [.Call (.Name g pg) [x] [] p2], [], h =>
      obtain ⟨h, h7⟩ := ba2 h
      obtain ⟨h, h6⟩ := ba2 h
      obtain ⟨h, h5⟩ := ba2 h
      obtain ⟨h, h4⟩ := ba2 h
      obtain ⟨h, h3⟩ := ba2 h
      obtain ⟨h1, h2⟩ := ba2 h
      obtain rfl := of_decide_eq_true h1
      obtain rfl := of_decide_eq_true h2
      exact s_lrev sx h3 h4 (of_decide_eq_true h5) (of_decide_eq_true h6) h7 (soundE a sx h7 U F B)
  | .sset a, X, ca, zc, m, W, sx, e, h, U, F, B => by
    cases e <;> first | (exfalso; exact Bool.false_ne_true h) | skip
    rename_i fn as ks p
    match fn, as, ks, h with
    | .Name f pf, [.Call (.Name g pg) [x] [] p2], [], h =>
      obtain ⟨h, h7⟩ := ba2 h
      obtain ⟨h, h6⟩ := ba2 h
      obtain ⟨h, h5⟩ := ba2 h
      obtain ⟨h, h4⟩ := ba2 h
      obtain ⟨h, h3⟩ := ba2 h
      obtain ⟨h1, h2⟩ := ba2 h
      obtain rfl := of_decide_eq_true h1
      obtain rfl := of_decide_eq_true h2
      exact s_sset sx h3 h4 (of_decide_eq_true h5) (of_decide_eq_true h6) h7 (soundE a sx h7 U F B)
  | .lrng a, X, ca, zc, m, W, sx, e, h, U, F, B => by
    cases e <;> first | (exfalso; exact Bool.false_ne_true h) | skip
    rename_i fn as ks p
    match fn, as, ks, h with
    | .Name f pf, [.Call (.Name g pg) [x] [] p2], [], h =>
      obtain ⟨h, h7⟩ := ba2 h
      obtain ⟨h, h6⟩ := ba2 h
      obtain ⟨h, h5⟩ := ba2 h
      obtain ⟨h, h4⟩ := ba2 h
      obtain ⟨h, h3⟩ := ba2 h
      obtain ⟨h1, h2⟩ := ba2 h
      obtain rfl := of_decide_eq_true h1
      obtain rfl := of_decide_eq_true h2
      exact s_lrng sx h3 h4 (of_decide_eq_true h5) (of_decide_eq_true h6) h7 (soundE a sx h7 U F B)
  | .upper a, X, ca, zc, m, W, sx, e, h, U, F, B => by
    cases e <;> first | (exfalso; exact Bool.false_ne_true h) | skip
    rename_i fn as ks p
    cases fn <;> first | (exfalso; exact Bool.false_ne_true h) | skip
    match as, ks, h with
    | [], [], h =>
      obtain ⟨h, h4⟩ := ba2 h
      obtain ⟨h, h3⟩ := ba2 h
      obtain ⟨h1, h2⟩ := ba2 h
      obtain rfl := of_decide_eq_true h1
      exact s_upper h3 h2 (soundE a sx h4 U F B)
  | .lrr a, X, ca, zc, m, W, sx, e, h, U, F, B => by
    cases e <;> first | (exfalso; exact Bool.false_ne_true h) | skip
    rename_i fn as ks p
    match fn, as, ks, h with
    | .Name f pf, [.Call (.Name g pg) [.Call (.Name k pk) [x] [] p3] [] p2], [], h =>
      obtain ⟨h, h10⟩ := ba2 h
      obtain ⟨h, h9⟩ := ba2 h
      obtain ⟨h, h8⟩ := ba2 h
      obtain ⟨h, h7⟩ := ba2 h
      obtain ⟨h, h6⟩ := ba2 h
      obtain ⟨h, h5⟩ := ba2 h
      obtain ⟨h, h4⟩ := ba2 h
      obtain ⟨h, h3⟩ := ba2 h
      obtain ⟨h1, h2⟩ := ba2 h
      obtain rfl := of_decide_eq_true h1
      obtain rfl := of_decide_eq_true h2
      obtain rfl := of_decide_eq_true h3
      exact s_lrr sx h4 h5 h6 (of_decide_eq_true h7) (of_decide_eq_true h8) (of_decide_eq_true h9) h10 (soundE a sx h10 U F B)
  | .alv i, X, ca, zc, m, W, sx, e, h, U, F, B => by
    cases e <;> first | (exfalso; exact Bool.false_ne_true h) | skip
    obtain ⟨h, h3⟩ := ba2 h
    obtain ⟨h1, h2⟩ := ba2 h
    exact s_alv (pe_var (by rw [sx.N]; exact of_decide_eq_true h1) (by rw [sx.sc]; exact vis_of h2) (noDbg_of h3).1 (noDbg_of h3).2.1)
  | .callv i es, X, ca, zc, m, W, sx, e, h, U, F, B => by
    cases e <;> first | (exfalso; exact Bool.false_ne_true h) | skip
    rename_i fn as ks p
    cases fn <;> first | (exfalso; exact Bool.false_ne_true h) | skip
    match as, ks, h with
    | y :: ys, [], h =>
      obtain ⟨h, h5⟩ := ba2 h
      obtain ⟨h, h4⟩ := ba2 h
      obtain ⟨h, h3⟩ := ba2 h
      obtain ⟨h1, h2⟩ := ba2 h
      exact s_callv sx h2 h3 h4 h5 (soundA es sx h5 U F B)
  | .calln i k js es, X, ca, zc, m, W, sx, e, h, U, F, B => by
    cases e <;> first | (exfalso; exact Bool.false_ne_true h) | skip
    rename_i fn as ks p
    cases fn <;> first | (exfalso; exact Bool.false_ne_true h) | skip
    match as, ks, h with
    | y :: ys, [], h =>
      obtain ⟨h, h6⟩ := ba2 h
      obtain ⟨h, h5⟩ := ba2 h
      obtain ⟨h, h4⟩ := ba2 h
      obtain ⟨h, h3⟩ := ba2 h
      obtain ⟨h1, h2⟩ := ba2 h
      exact s_calln sx h1 h2 h3 h4 h5 h6 (soundA es sx h6 U F B)
  | .callc f es i k js, X, ca, zc, m, W, sx, e, h, U, F, B => by
    cases e <;> first | (exfalso; exact Bool.false_ne_true h) | skip
    rename_i fn as ks p
    cases fn <;> first | (exfalso; exact Bool.false_ne_true h) | skip
    match as, ks, h with
    | y :: ys, [], h =>
      obtain ⟨h, h7⟩ := ba2 h
      obtain ⟨h, h6⟩ := ba2 h
      obtain ⟨h, h5⟩ := ba2 h
      obtain ⟨h, h4⟩ := ba2 h
      obtain ⟨h, h3⟩ := ba2 h
      obtain ⟨h1, h2⟩ := ba2 h
      obtain ⟨h4, h8⟩ := ba2 h4
      cases hf : m.fs.fns[f]? with
      | none => rw [hf] at h1; cases h1
      | some d =>
        rw [hf] at h1
        obtain ⟨h1, _⟩ := ba2 h1
        obtain ⟨g1, g2⟩ := ba2 h1
        exact s_callc sx hf (of_decide_eq_true g1) (of_decide_eq_true g2) h2 h3 h4 h8 (by simpa using h5) h6 h7 (soundAL es sx k h7 U F B)
  | .calld f fr es, X, ca, zc, m, W, sx, e, h, U, F, B => by
    cases e <;> first | (exfalso; exact Bool.false_ne_true h) | skip
    rename_i fn as ks p
    cases fn <;> first | (exfalso; exact Bool.false_ne_true h) | skip
    match as, ks, h with
    | y :: ys, [], h =>
      obtain ⟨h, h4⟩ := ba2 h
      obtain ⟨h, h3⟩ := ba2 h
      obtain ⟨h1, h2⟩ := ba2 h
      cases hf : m.fs.fns[f]? with
      | none => rw [hf] at h1; cases h1
      | some d =>
        rw [hf] at h1
        obtain ⟨h1, h7⟩ := ba2 h1
        obtain ⟨h1, h6⟩ := ba2 h1
        obtain ⟨h1, h9⟩ := ba2 h1
        obtain ⟨h8, h5⟩ := ba2 h1
        exact s_calld sx hf (of_decide_eq_true h8) (of_decide_eq_true h5) (eq_of_beq h9) (of_decide_eq_true h6) h2 h3 h4 (soundA es sx h4 U F B)
  | .dix a b, X, ca, zc, m, W, sx, e, h, U, F, B => by
    cases e <;> first | (exfalso; exact Bool.false_ne_true h) | skip
    obtain ⟨h, h3⟩ := ba2 h
    obtain ⟨h1, h2⟩ := ba2 h
    exact s_dix sx h1 (soundE a sx h2 U F B) (soundE b sx h3 U F B)
theorem soundA : ∀ (ir : Es) {X : Cx} {ca : Ca} {zc : List (Str × Addr)} {m : MC} {W : WX} (sx : SX X ca zc m c n W) {es : List Expr}, mEs m ir es = true → ∀ (U : Addr → Prop) (F B : Hp), PA X es (rdA (gOf X ca zc) U F B W c ir)
  | .nil, X, ca, zc, m, W, sx, [], h, U, F, B => a_nil
  | .nil, X, ca, zc, m, W, sx, _ :: _, h, U, F, B => by cases h
  | .cons i j, X, ca, zc, m, W, sx, [], h, U, F, B => by cases h
  | .cons i j, X, ca, zc, m, W, sx, e :: es, h, U, F, B => by
    obtain ⟨h1, h2⟩ := ba2 h
    exact a_cons (soundE i sx h1 U F B) (soundA j sx h2 U F B) (star_cons h1 _ _)
theorem soundAL : ∀ (ir : Es) {X : Cx} {ca : Ca} {zc : List (Str × Addr)} {m : MC} {W : WX} (sx : SX X ca zc m c n W) {i : Nat} (k : Nat) {es : List Expr}, mEsL m i ir es = true → ∀ (U : Addr → Prop) (F B : Hp), PA X es (rdAL (gOf X ca zc) U F B W c i k ir)
  | .nil, X, ca, zc, m, W, sx, i, k, [], h, U, F, B => by cases h
  | .nil, X, ca, zc, m, W, sx, i, k, [e], h, U, F, B => by
    cases e <;> first | (exfalso; exact Bool.false_ne_true h) | skip
    obtain ⟨h, h3⟩ := ba2 h
    obtain ⟨h1, h2⟩ := ba2 h
    exact aL_nil sx h1 h2 h3
  | .nil, X, ca, zc, m, W, sx, i, k, a :: _ :: _, h, U, F, B => by cases a <;> exact (Bool.false_ne_true h).elim
  | .cons a b, X, ca, zc, m, W, sx, i, k, [], h, U, F, B => by cases h
  | .cons a b, X, ca, zc, m, W, sx, i, k, e :: es, h, U, F, B => by
    obtain ⟨h1, h2⟩ := ba2 h
    exact aL_cons (soundE a sx h1 U F B) (soundAL b sx k h2 U F B) (star_cons h1 _ _)
theorem soundA1 : ∀ (ir : Es) {X : Cx} {ca : Ca} {zc : List (Str × Addr)} {m : MC} {W : WX} (sx : SX X ca zc m c n W) {es : List Expr}, mEs m ir es = true → ∀ (U : Addr → Prop) (F B : Hp), PA X es (rdA1 (gOf X ca zc) U F B W c ir)
  | .nil, X, ca, zc, m, W, sx, [], h, U, F, B => PA.imp pa_nil fun σ H Q ⟨env, Qd, R, rl, w, k, x⟩ => k [] ci [] H w (Same.refl _) (.inr repA_nil)
  | .nil, X, ca, zc, m, W, sx, _ :: _, h, U, F, B => by cases h
  | .cons i j, X, ca, zc, m, W, sx, [], h, U, F, B => by cases h
  | .cons i .nil, X, ca, zc, m, W, sx, e :: es, h, U, F, B => by
    obtain ⟨h1, h2⟩ := ba2 h
    cases es with
    | nil => exact a1_one (soundE i sx h1 U F B) (star_cons h1 _ _)
    | cons a b => cases h2
  | .cons i (.cons i2 j), X, ca, zc, m, W, sx, e :: es, h, U, F, B => by
    obtain ⟨h1, h2⟩ := ba2 h
    cases es with
    | nil => cases h2
    | cons e2 es =>
      obtain ⟨h2, h3⟩ := ba2 h2
      exact a1_two (soundE i sx h1 U F B) (soundE i2 sx h2 U F B) (soundA j sx h3 U F B) (star_cons h1 _ _) (star_cons h2 _ _)
theorem soundO : ∀ (ir : Eo) {X : Cx} {ca : Ca} {zc : List (Str × Addr)} {m : MC} {W : WX} (sx : SX X ca zc m c n W) {e : Option Expr}, mO m ir e = true → ∀ (U : Addr → Prop) (F B : Hp), PO X e (rdO (gOf X ca zc) U F B W c ir)
  | .none, X, ca, zc, m, W, sx, e, h, U, F, B => by
    cases e with
    | none => exact o_none
    | some _ => cases h
  | .some i, X, ca, zc, m, W, sx, e, h, U, F, B => by
    cases e with
    | none => cases h
    | some e => exact o_some (soundE i sx h U F B)
theorem soundI : ∀ (ir : It) {X : Cx} {ca : Ca} {zc : List (Str × Addr)} {m : MC} {W : WX} (sx : SX X ca zc m c n W) {tg e : Expr}, mI m ir e = true → tgB ir tg = true → ∀ (U : Addr → Prop) (F B : Hp), PI X tg e (rdI (gOf X ca zc) U F B W c ir)
  | .e a, X, ca, zc, m, W, sx, tg, e, h, ht, U, F, B => i_e (soundE a sx h U F B)
  | .rng1 a, X, ca, zc, m, W, sx, tg, e, h, ht, U, F, B => by
    cases e <;> first | (exfalso; exact Bool.false_ne_true h) | skip
    rename_i fn as ks p
    cases fn <;> first | (exfalso; exact Bool.false_ne_true h) | skip
    match as, ks, h with
    | [x], [], h =>
      obtain ⟨h, h4⟩ := ba2 h
      obtain ⟨h, h3⟩ := ba2 h
      obtain ⟨h1, h2⟩ := ba2 h
      obtain rfl := of_decide_eq_true h1
      exact i_rng1 sx h2 (of_decide_eq_true h3) h4 (soundE a sx h4 U F B)
  | .rng2 a b, X, ca, zc, m, W, sx, tg, e, h, ht, U, F, B => by
    cases e <;> first | (exfalso; exact Bool.false_ne_true h) | skip
    rename_i fn as ks p
    cases fn <;> first | (exfalso; exact Bool.false_ne_true h) | skip
    match as, ks, h with
    | [x, y], [], h =>
      obtain ⟨h, h5⟩ := ba2 h
      obtain ⟨h, h4⟩ := ba2 h
      obtain ⟨h, h3⟩ := ba2 h
      obtain ⟨h1, h2⟩ := ba2 h
      obtain rfl := of_decide_eq_true h1
      exact i_rng2 sx h2 (of_decide_eq_true h3) h4 h5 (soundE a sx h4 U F B) (soundE b sx h5 U F B)
  | .rng3 a b q, X, ca, zc, m, W, sx, tg, e, h, ht, U, F, B => by
    cases e <;> first | (exfalso; exact Bool.false_ne_true h) | skip
    rename_i fn as ks p
    cases fn <;> first | (exfalso; exact Bool.false_ne_true h) | skip
    match as, ks, h with
    | [x, y, z], [], h =>
      obtain ⟨h, h6⟩ := ba2 h
      obtain ⟨h, h5⟩ := ba2 h
      obtain ⟨h, h4⟩ := ba2 h
      obtain ⟨h, h3⟩ := ba2 h
      obtain ⟨h1, h2⟩ := ba2 h
      obtain rfl := of_decide_eq_true h1
      exact i_rng3 sx h2 (of_decide_eq_true h3) h4 h5 h6 (soundE a sx h4 U F B) (soundE b sx h5 U F B) (soundE q sx h6 U F B)
  | .zip a b, X, ca, zc, m, W, sx, tg, e, h, ht, U, F, B => by
    cases e <;> first | (exfalso; exact Bool.false_ne_true h) | skip
    rename_i fn as ks p
    cases fn <;> first | (exfalso; exact Bool.false_ne_true h) | skip
    cases tg <;> first | (exfalso; exact Bool.false_ne_true ht) | skip
    match as, ks, h with
    | [x, y], [], h =>
      obtain ⟨h, h5⟩ := ba2 h
      obtain ⟨h, h4⟩ := ba2 h
      obtain ⟨h, h3⟩ := ba2 h
      obtain ⟨h1, h2⟩ := ba2 h
      obtain rfl := of_decide_eq_true h1
      exact i_zip sx h2 (of_decide_eq_true h3) h4 h5 (soundE a sx h4 U F B) (soundE b sx h5 U F B)
  | .enum a, X, ca, zc, m, W, sx, tg, e, h, ht, U, F, B => by
    cases e <;> first | (exfalso; exact Bool.false_ne_true h) | skip
    rename_i fn as ks p
    cases fn <;> first | (exfalso; exact Bool.false_ne_true h) | skip
    cases tg <;> first | (exfalso; exact Bool.false_ne_true ht) | skip
    match as, ks, h with
    | [x], [], h =>
      obtain ⟨h, h4⟩ := ba2 h
      obtain ⟨h, h3⟩ := ba2 h
      obtain ⟨h1, h2⟩ := ba2 h
      obtain rfl := of_decide_eq_true h1
      exact i_enum sx h2 (of_decide_eq_true h3) h4 (soundE a sx h4 U F B)
/-- the ifs of a comprehension -/
theorem soundC : ∀ (ir : T) {X : Cx} {ca : Ca} {zc : List (Str × Addr)} {m : MC} (sx : SX X ca zc m c n W0) {ifs : List Expr}, (match ifs with
    | [] => mYes ir
    | [q] => mB m ir q
    | _ => false) = true → PTs X ifs (ttX (gOf X ca zc) c ir)
  | ir, X, ca, zc, m, sx, [], h => by
    cases ir <;> first | (exfalso; exact Bool.false_ne_true h) | skip
    exact ⟨fun pins s σ H Q I ⟨U, F, B, env, Qd, R, rl, w, k, x⟩ => pts_nil.run pins s σ H Q I (k true H w (Same.refl _))⟩
  | ir, X, ca, zc, m, sx, [q], h => ⟨fun pins s σ H Q I ⟨U, F, B, z⟩ => (pts_one (soundB ir sx h U F B).1).run pins s σ H Q I z⟩
  | ir, X, ca, zc, m, sx, _ :: _ :: _, h => by cases h
theorem soundB : ∀ (ir : T) {X : Cx} {ca : Ca} {zc : List (Str × Addr)} {m : MC} {W : WX} (sx : SX X ca zc m c n W) {e : Expr}, mB m ir e = true → ∀ (U : Addr → Prop) (F B : Hp), TOk X e (rdT (gOf X ca zc) U F B W c ir)
  | .tru, X, ca, zc, m, W, sx, e, h, U, F, B => by cases e <;> cases h
  | .e a, X, ca, zc, m, W, sx, e, h, U, F, B => by
    obtain ⟨h1, h2⟩ := ba2 h
    refine ⟨t_e h1 (soundE a sx h2 U F B), fun op vs p z => ?_⟩
    subst z
    cases h1
  | .not a, X, ca, zc, m, W, sx, e, h, U, F, B => by
    cases e <;> first | (exfalso; exact Bool.false_ne_true h) | skip
    rename_i o _ _
    cases o <;> first | (exfalso; exact Bool.false_ne_true h) | skip
    exact ⟨t_not (soundB a sx h U F B).1, fun op vs p z => by cases z⟩
  | .and a b, X, ca, zc, m, W, sx, e, h, U, F, B => by
    cases e <;> first | (exfalso; exact Bool.false_ne_true h) | skip
    rename_i op vs p
    cases op <;> first | (exfalso; cases vs with | nil => exact Bool.false_ne_true h | cons x r => cases r <;> exact Bool.false_ne_true h) | skip
    have hw : PW X (.BoolOp .And vs p) (rdT (gOf X ca zc) U F B W c (.and a b)) := by
      match vs, h with
      | [x, y], h =>
        obtain ⟨h1, h2⟩ := ba2 h
        exact t_and (soundB a sx h1 U F B).1 (pw_and1 (soundB b sx h2 U F B).1)
      | x :: y :: z :: r, h =>
        obtain ⟨h1, h2⟩ := ba2 h
        exact t_and (soundB a sx h1 U F B).1 ((soundB b sx h2 U F B).2 _ _ _ rfl)
    exact ⟨hw.pt, fun op vs' p' z => by cases z; exact hw⟩
  | .or a b, X, ca, zc, m, W, sx, e, h, U, F, B => by
    cases e <;> first | (exfalso; exact Bool.false_ne_true h) | skip
    rename_i op vs p
    cases op <;> first | (exfalso; cases vs with | nil => exact Bool.false_ne_true h | cons x r => cases r <;> exact Bool.false_ne_true h) | skip
    have hw : PW X (.BoolOp .Or vs p) (rdT (gOf X ca zc) U F B W c (.or a b)) := by
      match vs, h with
      | [x, y], h =>
        obtain ⟨h1, h2⟩ := ba2 h
        exact t_or (soundB a sx h1 U F B).1 (pw_or1 (soundB b sx h2 U F B).1)
      | x :: y :: z :: r, h =>
        obtain ⟨h1, h2⟩ := ba2 h
        exact t_or (soundB a sx h1 U F B).1 ((soundB b sx h2 U F B).2 _ _ _ rfl)
    exact ⟨hw.pt, fun op vs' p' z => by cases z; exact hw⟩
  | .cmp op a b, X, ca, zc, m, W, sx, e, h, U, F, B => by
    cases e <;> first | (exfalso; exact Bool.false_ne_true h) | skip
    rename_i l os es p
    match os, es, h with
    | [o], [y], h =>
      obtain ⟨h, h4⟩ := ba2 h
      obtain ⟨h, h3⟩ := ba2 h
      obtain ⟨h1, h2⟩ := ba2 h
      exact ⟨t_cmp sx.hu h1 (by simpa using h2) (soundE a sx h3 U F B) (soundE b sx h4 U F B), fun op vs p z => by cases z⟩
  | .chain op op' a b d, X, ca, zc, m, W, sx, e, h, U, F, B => by
    cases e <;> first | (exfalso; exact Bool.false_ne_true h) | skip
    rename_i l os es p
    match os, es, h with
    | [o, o'], [y, z], h =>
      obtain ⟨h, h4⟩ := ba2 h
      obtain ⟨h, h3⟩ := ba2 h
      obtain ⟨h, h2⟩ := ba2 h
      obtain ⟨h, h6⟩ := ba2 h
      obtain ⟨h1, h5⟩ := ba2 h
      exact ⟨t_chain sx.hu h1 h5 (by simpa using h6) (soundE a sx h2 U F B) (soundE b sx h3 U F B) (soundE d sx h4 U F B), fun op vs p z => by cases z⟩
  | .din neg a b, X, ca, zc, m, W, sx, e, h, U, F, B => by
    cases e <;> first | (exfalso; exact Bool.false_ne_true h) | skip
    rename_i l os es p
    match os, es, h with
    | [o], [y], h =>
      obtain ⟨h, h4⟩ := ba2 h
      obtain ⟨h, h3⟩ := ba2 h
      obtain ⟨h1, h2⟩ := ba2 h
      exact ⟨t_din sx h1 (by simpa using h2) (soundE a sx h3 U F B) (soundE b sx h4 U F B), fun op vs p z => by cases z⟩
end
end
end Rj

namespace Rj
open PySem PySem.Spec PyProof.Rows L2
section
variable [Nm] (g : GZ) (U : Addr → Prop) (F B : Hp) (W : WX) (c : Cl)
/-- what a def hands back -/
def RetI (d : D) (inf : Inf) (v : V) (H' : Hp) : Prop := Same B H' ∧ Rep g (fun a => U a ∧ (inf.fr = true → F a = none)) H' d v ∧
  (inf.top = true → ∃ (p : Addr) (xs : List V) (ds : List D), d = .lst ds ∧ v = .ref p ∧ H' p = some (.lst xs) ∧ (inf.fr = true → F p = none) ∧ RepL g (fun a => (inf.fr = true → F a = none) ∧ a ≠ p) H' ds xs)
structure KOk (K : En) (Dd : Ends) : Prop where
  nx : ∀ env' σ' H', K.nx env' → RelW g U F B env' σ' H' → Dd.nx σ' H'
  rt : ∀ d inf v H', K.rt d inf → RetI g U F B d inf v H' → Dd.rt v H'
  bk : ∀ env' σ' H', K.bk env' → RelW g U F B env' σ' H' → Dd.bk σ' H'
  ct : ∀ env' σ' H', K.ct env' → RelW g U F B env' σ' H' → Dd.ct σ' H'
  ex : ∀ x env' σ' H', K.ex x env' → RelW g U F B env' σ' H' → W (.ref (g.ca x)) none σ' H'
def rdSt (ir : S) : TS := fun Dd σ H => ∃ (env : List Sl) (K : En), RelW g U F B env σ H ∧ wpS c ir env K ∧ KOk g U F B W K Dd
def rdSs (ir : Ss) : TS := fun Dd σ H => ∃ (env : List Sl) (K : En), RelW g U F B env σ H ∧ wpSs c ir env K ∧ KOk g U F B W K Dd
abbrev rdSsX (ir : Ss) : TS := fun Dd σ H => ∃ (U : Addr → Prop) (F B : Hp), rdSs g U F B W c ir Dd σ H
end
theorem PS.imp {X : Cx} {e : Stmt} {t t' : TS} (h : PS X e t) (i : ∀ D σ H, t' D σ H → t D σ H) : PS X e t' := ⟨fun pins s σ H D I q => h.run pins s σ H D I (i D σ H q)⟩
theorem PSs.imp {X : Cx} {e : List Stmt} {t t' : TS} (h : PSs X e t) (i : ∀ D σ H, t' D σ H → t D σ H) : PSs X e t' := ⟨fun pins s σ H D I q => h.run pins s σ H D I (i D σ H q)⟩
structure SS [Nm] (X : Cx) (ca : Ca) (zc : List (Str × Addr)) (m : MC) (c : Cl) (n : Nat) (W : WX) : Prop extends SX X ca zc m c n W where
  ft : ∀ x, L2.Loc X.env.scope x → X.fn x = true ∨ X.env.scope.names.lookup x = some .local
  hs : X.stack = X.env :: X.outer
  hf : X.env.frame = some X.env.locals
  pa : m.tp = true → ∀ hd : Option Value, PassesOwnAt (model X.prog X.w) (X.A.mark hd) X.A X.env X.xe
section
variable [Nm] {X : Cx} {ca : Ca} {zc : List (Str × Addr)} {U : Addr → Prop} {F B B' : Hp} {W : WX} {c : Cl} {m : MC} {n : Nat} {g : GZ} {env : List Sl} {σ : L2.St} {H H1 H' : Hp}
theorem KOk.exW {K : En} {Dd : Ends} (k : KOk g U F B W K Dd) (r : RelW g U F B env σ H) : exW g W σ H (fun x => K.ex x env) := fun x H' q s => k.ex x env σ H' q (r.ext s)
theorem RepI.ret {d : D} {inf : Inf} {v : V} (r : RelW g U F B env σ H) (s : Same H H') (h : RepI g U F env σ H H' d inf v) : RetI g U F B d inf v H' := by
  refine ⟨r.bh.trans s, (h.low r).mono fun a z => ⟨z.1, z.2.2⟩, fun ht => ?_⟩
  unfold RepI at h
  rw [if_pos ht] at h
  obtain ⟨p, xs, ds, rfl, rfl, hp, hl, hm⟩ := h
  refine ⟨p, xs, ds, rfl, rfl, hp, fun hf => ?_, hl.mono fun a z => ⟨z.1.2.2, z.2⟩⟩
  rcases hm with ⟨_, hn⟩ | ⟨i, _, ow⟩
  · exact (r.new hn).2.2
  · exact r.exF ⟨i, ow⟩
theorem asg_ok {d : D} {inf : Inf} {v : V} {i : Nat} (r : RelW g U F B env σ H) (s : Same H H') (h : RepI g U F env σ H H' d inf v) : RelW g U F B ((frz inf.all env).set i (slOf d inf)) (σ.set i (some v)) H' := by
  have r1 := r.ext s
  have plain : ∀ fr, fr = inf.fr → RelW g U F B ((frz inf.all env).set i (.val d fr)) (σ.set i (some v)) H' := fun fr e => by
    subst e
    exact (RelW.frz inf.all r1).setV ((h.low r).mono fun a z => z.ok r1 fun i q => q)
  cases d <;> first | exact plain _ rfl | skip
  rename_i ds
  show RelW g U F B ((frz inf.all env).set i (bif inf.top && inf.all.isEmpty then Sl.own ds inf.fr else Sl.val (.lst ds) inf.fr)) _ _
  cases hb : inf.top && inf.all.isEmpty with
  | false => exact plain _ rfl
  | true =>
    obtain ⟨h1, h2⟩ := ba2 hb
    have ha : inf.all = [] := List.isEmpty_iff.mp h2
    have hme : inf.me = [] := (List.append_eq_nil_iff.mp ha).1
    have hal : inf.al = [] := (List.append_eq_nil_iff.mp ha).2
    unfold RepI at h
    rw [if_pos h1] at h
    obtain ⟨p, xs, es, e1, rfl, hp, hl, hm⟩ := h
    cases e1
    rcases hm with ⟨_, hn⟩ | ⟨j, hj, _⟩
    · rw [ha]
      refine r.setNew s (fun a z => ?_) (.inl fun _ _ _ _ e => nomatch e) fun hl2 => ?_
      · have z : some (V.ref p) = some (.ref a) := z
        cases z
        exact hn
      · refine ⟨p, xs, by rw [List.getElem?_set]; simp [← r.len, hl2], hp, ⟨r.bh.free hn, r.uf p hn⟩, hl.mono fun a z => ⟨⟨z.1.1, fun q => ?_⟩, z.1.2.2⟩⟩
        rcases ex_set q with q | q
        · obtain ⟨i0, q1, _⟩ := z.1.2.1 q
          rw [hal] at q1
          cases q1
        · have q : some (V.ref p) = some (.ref a) := q
          cases q
          exact z.2 rfl
    · rw [hme] at hj
      cases hj
/-- the list that a slot owns is written -/
theorem own_ok {ds es : List D} {fr fr' : Bool} {i : Nat} {p : Addr} {xs ys : List V} (r : RelW g U F B env σ H) (hi : env[i]? = some (.own ds fr)) (hp : σ[i]? = some (some (.ref p))) (hx : H p = some (.lst xs)) (hl : RepL g (Ok1 U F env σ fr') H es ys) :
    RelW g U F B (env.set i (.own es fr')) σ (L2.upd H p (.lst ys)) := by
  obtain ⟨p', xs', e1, e2, ⟨e3, e4⟩, e5⟩ := r.own i ds fr hi
  rw [hp] at e1
  cases e1
  have ex : Ex env σ p := ⟨i, _, _, hi, hp, rfl⟩
  have hw : Wr (.lst xs) := trivial
  have np : ∀ {fr : Bool} (a : Addr), Ok1 U F env σ fr a → a ≠ p := fun a z e => z.1.2 (by rw [e]; exact ex)
  have hil : i < env.length := (List.getElem?_eq_some_iff.mp hi).1
  have exE : ∀ a, Ex (env.set i (.own es fr')) σ a → Ex env σ a := fun a ⟨j, u, w, q1, q2, q3⟩ => by
    by_cases hj : i = j
    · subst hj
      rw [List.getElem?_set] at q1
      simp only [if_true, hil] at q1
      cases q1
      exact ⟨i, _, w, hi, q2, q3⟩
    · rw [List.getElem?_set_ne hj] at q1
      exact ⟨j, u, w, q1, q2, q3⟩
  refine r.write (t := .own es fr') (H' := L2.upd H p (.lst ys)) hi hp (fun a z => .inl z) (fun a o z e _ => ?_) (fun a e => ?_) (fun a ps e => ⟨ps, ?_⟩) (fun g => g.upd hx hw trivial) (fun j k v ej _ q ds as f e => ?_) ⟨p, ys, hp, upd_same, ⟨e3, e4⟩, (hl.upd hx hw np).mono fun a z => ok1_mono exE z⟩
  · rw [upd_ne fun e => z (by rw [e]; rfl)]
    exact e
  · by_cases h : a = p
    · subst h
      rw [upd_same] at e
      cases e
    · rw [upd_ne h] at e
      exact e
  · rw [upd_ne fun h => by rw [h, hx] at e; cases e]
    exact e
  · subst ej
    rw [List.getElem?_set] at e
    simp only [if_true, hil] at e
    cases e
/-- the instance that is made gets other fields -/
theorem slf_ok {C : Str} {ks ks' : List Str} {ds es : List D} {fr fr' : Bool} {x dx dx' : Addr} {fs fs' : List (Str × V)} (r : RelW g U F B env σ H) (hi : env[0]? = some (.slf C ks ds fr)) (hp : σ[0]? = some (some (.ref x))) (hx : H x = some (.ins (g.ca C) dx fs))
    (hk : fs'.map (·.1) = ks') (hl : RepL g (Ok1 U F env σ fr') H es (fs'.map (·.2))) : RelW g U F B (env.set 0 (.slf C ks' es fr')) σ (L2.upd H x (.ins (g.ca C) dx' fs')) := by
  obtain ⟨_, x', dx0, fs0, e1, _, _, ⟨e3, e4⟩, _⟩ := r.slf 0 C ks ds fr hi
  rw [hp] at e1
  cases e1
  have hw : Wr (.ins (g.ca C) dx fs) := trivial
  have np : ∀ {fr : Bool} (a : Addr), Ok1 U F env σ fr a → a ≠ x := fun a z e => e4 (by rw [← e]; exact z.1.1)
  have hil : 0 < env.length := (List.getElem?_eq_some_iff.mp hi).1
  have exE : ∀ a, Ex (env.set 0 (.slf C ks' es fr')) σ a → Ex env σ a := fun a ⟨j, u, w, q1, q2, q3⟩ => by
    by_cases hj : 0 = j
    · subst hj
      rw [List.getElem?_set] at q1
      simp only [if_true, hil] at q1
      cases q1
      exact q3.elim
    · rw [List.getElem?_set_ne hj] at q1
      exact ⟨j, u, w, q1, q2, q3⟩
  refine r.write (t := .slf C ks' es fr') (H' := L2.upd H x (.ins (g.ca C) dx' fs')) hi hp (fun a z => z.elim) (fun a o z e _ => ?_) (fun a e => ?_) (fun a ps e => ⟨ps, ?_⟩) (fun g => g.upd hx hw trivial) (fun j k v ej _ q ds as f e => ?_) ⟨rfl, x, dx', fs', hp, upd_same, hk, ⟨e3, e4⟩, (hl.upd hx hw np).mono fun a z => ok1_mono exE z⟩
  · rw [upd_ne fun e => z (by rw [e]; rfl)]
    exact e
  · by_cases h : a = x
    · subst h
      rw [upd_same] at e
      cases e
    · rw [upd_ne h] at e
      exact e
  · rw [upd_ne fun h => by rw [h, hx] at e; cases e]
    exact e
  · subst ej
    rw [List.getElem?_set] at e
    simp only [if_true, hil] at e
    cases e
theorem RetI.weak {d : D} {inf : Inf} {v : V} (h : RetI g U F B' d inf v H') (e : Same B B') : RetI g U F B d inf v H' := ⟨e.trans h.1, h.2⟩
end
end Rj

namespace Rj
open PySem PySem.Spec PyProof.Rows L2
section
variable [Nm] {X : Cx} {ca : Ca} {zc : List (Str × Addr)} {U : Addr → Prop} {F B B' : Hp} {W : WX} {c : Cl} {m : MC} {n : Nat} {g : GZ} {env : List Sl} {σ : L2.St} {H H1 H' : Hp}
/-! ### assignments -/
theorem swaps_lc {elt : Expr} {gs : List Comprehension} {scope : Scope} {p : Pos} {x : Str} {px : Pos} {line : Nat} {E : Env} (hk : E.scope.kind = .function) : swapsWith (.ListComp elt gs scope p) (some (.Name x px)) line E = pure (swB E.scope x px (.ListComp elt gs scope p)) := by
  have hb : E.blockKind = .function := by unfold Env.blockKind; rw [hk]; rfl
  have e1 : ∀ o : Option NameKind, (o == some NameKind.local) = decide (o = some NameKind.local) := fun o => by
    cases o with
    | none => rfl
    | some k => cases k <;> rfl
  unfold swapsWith swB
  simp only [hb, hk]
  show pure ((ScopeKind.function == .function) && (E.scope.names.lookup x == some .local) && _ && _) = _
  rw [e1]
  rfl
theorem st_asg {i : Nat} {x : Str} {px pos : Pos} {e : Expr} {ie : E} (sx : SS X ca zc m c n W) (h1 : nameAt m.N i x = true) (h2 : locB m.sc x = true) (he : ∀ U F B, PE X e (rdE (gOf X ca zc) U F B W c ie)) (hs : swapsWith e (some (.Name x px)) pos.line X.env = pure false) (U F B) :
    PS X (.Assign [.Name x px] e pos) (rdSt (gOf X ca zc) U F B W c (.asg i ie)) := by
  refine PS.imp (ps_set sx.nd (by rw [sx.N]; exact of_decide_eq_true h1) (by rw [sx.sc]; exact loc_of h2) (he U F B) hs (sx.ft x (by rw [sx.sc]; exact loc_of h2))) fun Dd σ H ⟨env, K, rl, w, ok⟩ => ?_
  exact ⟨env, _, _, rl, w, fun d inf v H' q s z => ok.nx _ _ _ q (asg_ok rl s z), ok.exW rl⟩
/-- a name gets a comprehension's list, straight -/
theorem st_asgLc {i : Nat} {x : Str} {px pos p : Pos} {elt tg iter : Expr} {ifs : List Expr} {scope : Scope} {ie : E} {t : Tg} {it : It} {cd : T} (sx : SS X ca zc m c n W) (h1 : nameAt m.N i x = true) (hy : X.env.scope.names.lookup x = some .local) (hsw : swapsWith (.ListComp elt [⟨tg, iter, ifs, 0⟩] scope p) (some (.Name x px)) pos.line X.env = pure true)
    (hm : mE m (.comp ie t it cd) (.ListComp elt [⟨tg, iter, ifs, 0⟩] scope p) = true) (U F B) : PS X (.Assign [.Name x px] (.ListComp elt [⟨tg, iter, ifs, 0⟩] scope p) pos) (rdSt (gOf X ca zc) U F B W c (.asg i (.comp ie t it cd))) := by
  obtain ⟨h, h6⟩ := ba2 hm
  obtain ⟨h, h5⟩ := ba2 h
  obtain ⟨h, h4⟩ := ba2 h
  obtain ⟨h, h3⟩ := ba2 h
  obtain ⟨g1, h2⟩ := ba2 h
  have hl := ps_setLc (X := X) (i := i) (y := x) (py := px) (spos := pos) (elt := elt) (tg := tg) (iter := iter) (ifs := ifs) (scope := scope) (own := ownN m.N t.ns) (pos := p) sx.calm sx.nd (by rw [sx.N]; exact of_decide_eq_true h1) hy hsw (soundI it sx.toSX g1 h2 U F B) (by rw [sx.N, sx.sc]; exact blkOk_by h3)
    (g := rdG X.K t) (tt := ttX (gOf X ca zc) c cd) (te := teX (gOf X ca zc) c ie)
    (fun s H C cl fp => g_ok (sx_blk sx.toSX s H scope cl C fp) (fun x hx => blk_loc x hx) h4)
    (fun s H C cl fp => soundC cd (sx_blk sx.toSX s H scope cl C fp) h5)
    (fun s H C cl fp => ⟨fun pins s1 σ H1 Q I ⟨U', F', B', q⟩ => (soundE ie (sx_blk sx.toSX s H scope cl C fp) h6 U' F' B').run pins s1 σ H1 Q I q⟩) (fold_it g1 X.env)
  rw [own_ns] at hl
  refine PS.imp hl fun Dd σ H ⟨env, K, rl, w, ok⟩ => ?_
  have w : wpE c (.comp ie t it cd) env (fun d inf => K.nx ((frz inf.all env).set i (slOf d inf))) (fun x => K.ex x env) := w
  exact comp_core (Q := fun v H1 => Dd.nx (σ.set i (some v)) H1) ⟨env, _, _, rl, w, fun d inf v H' q s z => ok.nx _ _ _ q (asg_ok rl s z), ok.exW rl⟩
/-- any assignment to a name -/
theorem st_asgAny {i : Nat} {x : Str} {px pos : Pos} {e : Expr} {ie : E} (sx : SS X ca zc m c n W) (hk : X.env.scope.kind = .function) (h1 : nameAt m.N i x = true) (h2 : locB m.sc x = true) (hm : mE m ie e = true) (U F B) :
    PS X (.Assign [.Name x px] e pos) (rdSt (gOf X ca zc) U F B W c (.asg i ie)) := by
  have he := fun U F B => soundE ie sx.toSX hm U F B
  cases e with
  | ListComp elt gs scope p =>
    cases hb : swB X.env.scope x px (.ListComp elt gs scope p) with
    | false => exact st_asg sx h1 h2 he (by rw [swaps_lc hk, hb]) U F B
    | true =>
      cases ie <;> first | (exfalso; exact Bool.false_ne_true hm) | skip
      match gs, hm, hb with
      | [⟨tg, iter, ifs, 0⟩], hm, hb =>
        refine st_asgLc sx h1 ?_ (by rw [swaps_lc hk, hb]) hm U F B
        obtain ⟨h, _⟩ := ba2 hb
        obtain ⟨h, _⟩ := ba2 h
        exact of_decide_eq_true (ba2 h).2
  | SetComp _ _ _ _ =>
    exfalso
    cases ie <;> exact Bool.false_ne_true hm
  | DictComp _ _ _ _ _ =>
    exfalso
    cases ie <;> exact Bool.false_ne_true hm
  | _ => exact st_asg sx h1 h2 he rfl U F B
theorem noComp_sw {e tg : Expr} {line : Nat} {E : Env} (h : noComp e = true) : swapsWithSole [tg] e line E = pure false := by
  cases e <;> first | rfl | (exfalso; exact Bool.false_ne_true h)
theorem noComp_st {e tg : Expr} {E : Env} (h : noComp e = true) : swappedStores [tg] e E = pure none := by
  cases e <;> first | (cases tg <;> rfl) | (exfalso; exact Bool.false_ne_true h)
theorem noC_sw {e x y : Expr} {p : Pos} {line : Nat} {E : Env} (h : noC e = true) : swapsWithSole [.Subscript x y p] e line E = pure false := by
  cases e <;> first | rfl | (exfalso; exact Bool.false_ne_true h)
theorem noC_st {e x y : Expr} {p : Pos} {E : Env} (h : noC e = true) : swappedStores [.Subscript x y p] e E = pure none := by
  cases e <;> first | rfl | (exfalso; exact Bool.false_ne_true h)
theorem st_unp {is : List Nat} {ts : List Expr} {k : Nat} {p pos : Pos} {e : Expr} {ie : E} (sx : SS X ca zc m c n W) (h1 : mTs m.N m.sc is ts = true) (h2 : noComp e = true) (he : ∀ U F B, PE X e (rdE (gOf X ca zc) U F B W c ie)) (U F B) :
    PS X (.Assign [.Tuple ts k p] e pos) (rdSt (gOf X ca zc) U F B W c (.unp is ie)) := by
  have hg : PG X (.Tuple ts k p) (rdG X.K (.tup is)) := g_ok (sc := m.sc) (t := .tup is) sx.toSX (fun x hx => ⟨by rw [sx.sc]; exact loc_of hx, sx.ft x (by rw [sx.sc]; exact loc_of hx)⟩) h1
  refine PS.imp (ps_asg (he U F B) hg (noComp_sw h2) (noComp_st h2)) fun Dd σ H ⟨env, K, rl, w, ok⟩ => ?_
  refine ⟨env, _, _, rl, w, fun d inf v H' q s z => ?_, ok.exW rl⟩
  have r1 := rl.ext s
  exact bind_ok (g := gOf X ca zc) (RelW.frz inf.all r1) ((z.low rl).mono fun a y => y.ok r1 fun i q => q) q fun env' σ' w' r' _ _ => ok.nx _ _ _ w' r'
theorem bin_two {op : BOp} {a b : Int} {k : Int → Prop} (h : binI op a b k) : (op = .add ∧ k (a + b)) ∨ (op = .sub ∧ k (a - b)) := by
  cases op <;> first | exact .inl ⟨rfl, h⟩ | exact .inr ⟨rfl, h⟩ | exact h.elim
theorem st_aug {i : Nat} {x : Str} {px pos : Pos} {op : BOp} {o : Operator} {e : Expr} {ie : E} (sx : SS X ca zc m c n W) (h1 : nameAt m.N i x = true) (h2 : locB m.sc x = true) (ho : opB op o = true) (ha : augB op = true) (he : ∀ U F B, PE X e (rdE (gOf X ca zc) U F B W c ie)) (U F B) :
    PS X (.AugAssign (.Name x px) o e pos) (rdSt (gOf X ca zc) U F B W c (.aug i op ie)) := by
  have key : ∀ {f : Int → Int → Int} (hp : PIp X o (ipI f)) (hf : ∀ a b k, binI op a b k → k (f a b)), PS X (.AugAssign (.Name x px) o e pos) (rdSt (gOf X ca zc) U F B W c (.aug i op ie)) := fun {f} hp hf => by
    refine PS.imp (ps_aug sx.nd (by rw [sx.N]; exact of_decide_eq_true h1) (by rw [sx.sc]; exact loc_of h2) (he U F B) hp (sx.ft x (by rw [sx.sc]; exact loc_of h2))) fun Dd σ H ⟨env, K, rl, w, ok⟩ => ?_
    have w : rdS (env.getD i .un) i (fun x _ => wpE c ie env (fun y _ => match x, y with
      | .int a, .int b => binI op a b fun r => K.nx (env.set i (.val (.int r) true))
      | _, _ => False) (fun x => K.ex x env)) := w
    cases e1 : env.getD i .un with
    | un => rw [e1] at w; exact w.elim
    | slf _ _ _ _ => rw [e1] at w; exact w.elim
    | fnv _ => rw [e1] at w; exact w.elim
    | pin _ => rw [e1] at w; exact w.elim
    | own ds fr =>
      rw [e1] at w
      obtain ⟨p, xs, hv, hp, hb, hl⟩ := rl.own i ds fr (of_getD e1 (by intro z; cases z))
      refine ⟨.ref p, hv, env, _, _, rl, w, fun d inf v H' q s z => ?_, ok.exW rl⟩
      exact q.elim
    | dic ks ds fr =>
      rw [e1] at w
      obtain ⟨p, xs, hv, _⟩ := rl.slot i _ (of_getD e1 (by intro z; cases z))
      exact ⟨.ref p, hv, env, _, _, rl, w, fun d inf v H' q s z => q.elim, ok.exW rl⟩
    | nst q ds as fr =>
      rw [e1] at w
      obtain ⟨p, xs, hv, _⟩ := rl.slot i _ (of_getD e1 (by intro z; cases z))
      exact ⟨.ref p, hv, env, _, _, rl, w, fun d inf v H' q s z => q.elim, ok.exW rl⟩
    | als j k d =>
      rw [e1] at w
      obtain ⟨v, hv, hr, _⟩ := rl.slot i _ (of_getD e1 (by intro z; cases z))
      refine ⟨v, hv, env, _, _, rl, w, fun d2 inf v2 H' q s z => ?_, ok.exW rl⟩
      cases d <;> first | exact q.elim | skip
      cases d2 <;> first | exact q.elim | skip
      cases hr
      obtain rfl := z.int
      refine ⟨_, _, rfl, rfl, ok.nx _ _ _ (hf _ _ _ q) ((rl.ext s).setV (rfl : _ = _))⟩
    | val d fr =>
      rw [e1] at w
      obtain ⟨v, hv, hr⟩ := rl.val i d fr (of_getD e1 (by intro z; cases z))
      refine ⟨v, hv, env, _, _, rl, w, fun d2 inf v2 H' q s z => ?_, ok.exW rl⟩
      cases d <;> first | exact q.elim | skip
      cases d2 <;> first | exact q.elim | skip
      cases hr
      obtain rfl := z.int
      refine ⟨_, _, rfl, rfl, ok.nx _ _ _ (hf _ _ _ q) ((rl.ext s).setV (rfl : _ = _))⟩
  cases op <;> cases o <;> first | (exfalso; exact Bool.false_ne_true ho) | skip
  · exact key ip_add fun a b k h => h
  · exact key ip_sub fun a b k h => h
  all_goals (exfalso; exact Bool.false_ne_true ha)
/-! ### a slot's own list is written -/
theorem frz_slf {j : Nat} {C : Str} {ks : List Str} {ds : List D} {fr : Bool} : ∀ {l : List Nat} {env : List Sl}, (frz l env)[j]? = some (.slf C ks ds fr) → env[j]? = some (.slf C ks ds fr)
  | [], _, h => h
  | i :: l, env, h => by
    have h1 := frz_slf (l := l) (env := env.set i (Rj.frz1 (env.getD i .un))) h
    by_cases hj : i = j
    · subst hj
      rw [List.getElem?_set] at h1
      simp only [if_true] at h1
      split at h1
      · have q : Rj.frz1 (env.getD i .un) = .slf C ks ds fr := Option.some.inj h1
        cases z : env.getD i .un with
        | un => rw [z] at q; cases q
        | val d f => rw [z] at q; cases q
        | own d f => rw [z] at q; cases q
        | dic d f => rw [z] at q; cases q
        | nst d f => rw [z] at q; cases q
        | als d f => rw [z] at q; cases q
        | fnv d => rw [z] at q; cases q
        | pin d => rw [z] at q; cases q
        | slf C' ks' ds' fr' =>
          have z' := z
          rw [z] at q
          cases q
          exact of_getD z' (by intro w; cases w)
      · cases h1
    · rw [List.getElem?_set_ne hj] at h1
      exact h1
theorem frz_keep {C : Str} {ks : List Str} {ds : List D} {fr : Bool} {j : Nat} : ∀ {l : List Nat} {env : List Sl}, env[j]? = some (.slf C ks ds fr) → (frz l env)[j]? = some (.slf C ks ds fr)
  | [], _, h => h
  | i :: l, env, h => by
    refine frz_keep (l := l) (env := env.set i (Rj.frz1 (env.getD i .un))) ?_
    by_cases hj : i = j
    · subst hj
      have hl := (List.getElem?_eq_some_iff.mp h).1
      rw [List.getElem?_set]
      simp only [if_true, hl]
      rw [getD_of h]
      rfl
    · rw [List.getElem?_set_ne hj]
      exact h
/-- the instance that is being made -/
theorem slf_at {k : Str → List Str → List D → Bool → Prop} (r : RelW g U F B env σ H) (w : slfS env k) : ∃ C ks ds fr x dx fs, env[0]? = some (.slf C ks ds fr) ∧ σ[0]? = some (some (.ref x)) ∧ H x = some (.ins (g.ca C) dx fs) ∧ fs.map (·.1) = ks ∧ (B x = none ∧ ¬ U x) ∧ RepL g (Ok1 U F env σ fr) H ds (fs.map (·.2)) ∧ k C ks ds fr := by
  unfold slfS at w
  cases e : env.getD 0 .un with
  | un => rw [e] at w; exact w.elim
  | val d fr => rw [e] at w; exact w.elim
  | dic _ _ _ => rw [e] at w; exact w.elim
  | nst _ _ _ _ => rw [e] at w; exact w.elim
  | als _ _ _ => rw [e] at w; exact w.elim
  | fnv _ => rw [e] at w; exact w.elim
  | pin _ => rw [e] at w; exact w.elim
  | own d fr => rw [e] at w; exact w.elim
  | slf C ks ds fr =>
    rw [e] at w
    have ei := of_getD e (by intro z; cases z)
    obtain ⟨_, x, dx, fs, h1, h2, h3, h4, h5⟩ := r.slf 0 C ks ds fr ei
    exact ⟨C, ks, ds, fr, x, dx, fs, ei, h1, h2, h3, h4, h5, w⟩
theorem own_at {i : Nat} {k : List D → Bool → Prop} (r : RelW g U F B env σ H) (w : ownS env i k) : ∃ ds fr p xs, env[i]? = some (.own ds fr) ∧ σ[i]? = some (some (.ref p)) ∧ H p = some (.lst xs) ∧ RepL g (Ok1 U F env σ fr) H ds xs ∧ k ds fr := by
  unfold ownS at w
  cases e : env.getD i .un with
  | un => rw [e] at w; exact w.elim
  | val d fr => rw [e] at w; exact w.elim
  | dic _ _ _ => rw [e] at w; exact w.elim
  | nst _ _ _ _ => rw [e] at w; exact w.elim
  | als _ _ _ => rw [e] at w; exact w.elim
  | fnv _ => rw [e] at w; exact w.elim
  | pin _ => rw [e] at w; exact w.elim
  | slf _ _ _ _ => rw [e] at w; exact w.elim
  | own ds fr =>
    rw [e] at w
    have ei := of_getD e (by intro z; cases z)
    obtain ⟨p, xs, hv, hp, hb, hl⟩ := r.own i ds fr ei
    exact ⟨ds, fr, p, xs, ei, hv, hp, hl, w⟩
theorem pe_nm {i : Nat} {x : Str} {px : Pos} (sx : SS X ca zc m c n W) (h1 : nameAt m.N i x = true) (h2 : visB m.sc x = true) (h3 : noDbg x = true) : PE X (.Name x px) (tVar i) :=
  pe_var (by rw [sx.N]; exact of_decide_eq_true h1) (by rw [sx.sc]; exact vis_of h2) (noDbg_of h3).1 (noDbg_of h3).2.1
theorem not_mem_of {l : List Nat} {i : Nat} (h : l.contains i = false) : i ∉ l := fun z => by
  rw [List.contains_iff_mem.mpr z] at h
  cases h
theorem st_app {i : Nat} {x : Str} {px ap cp pos : Pos} {e : Expr} {ie : E} (sx : SS X ca zc m c n W) (h1 : nameAt m.N i x = true) (h2 : visB m.sc x = true) (h3 : noDbg x = true) (hl : (ap.endLine == cp.line) = true) (hm : mE m ie e = true) (he : ∀ U F B, PE X e (rdE (gOf X ca zc) U F B W c ie)) (U F B) :
    PS X (.Expr (.Call (.Attribute (.Name x px) "append" ap) [e] [] cp) pos) (rdSt (gOf X ca zc) U F B W c (.app i ie)) := by
  have hs := star_cons hm [] X.env
  refine PS.imp (ps_expr (pe_bm PySem.F.plainAttrs_list PySem.F.slot_list_append PySem.F.type_list_append mt_append (pe_nm sx h1 h2 h3) (pa_cons (he U F B) pa_nil hs) rfl (by rw [hs]; rfl) hl hs rfl)) fun Dd σ H ⟨env, K, rl, w, ok⟩ => ?_
  obtain ⟨ds, fr, p, xs, e1, e2, e3, e4, w⟩ := own_at rl w
  refine ⟨.ref p, e2, .inl ⟨rfl, xs, .of e3⟩, env, _, _, rl, w, fun d inf v H1 q s z => ?_, ok.exW rl⟩
  obtain ⟨⟨q1, q2⟩, q3⟩ := q
  have r1 := RelW.frz inf.all (rl.ext s)
  have ni := not_mem_of q2
  have e5 : (frz inf.all env)[i]? = some (.own ds fr) := by rw [frz_at ni]; exact e1
  obtain ⟨p', xs', f1, f2, _, f4⟩ := r1.own i ds fr e5
  rw [e2] at f1
  cases f1
  refine ⟨p, xs', v, rfl, rfl, f2, by rw [f4.len]; exact q1, ok.nx _ _ _ q3 (own_ok r1 e5 e2 f2 (RepL.app (f4.mono fun a y => ⟨y.1, fun t => y.2 (ba2 t).1⟩) (RepL.one ((z.low rl).mono fun a y => ?_))))⟩
  have y2 : Ok1 U F (frz inf.all env) σ inf.fr a := y.ok (rl.ext s) fun i q => q
  exact ⟨y2.1, fun t => y2.2 (ba2 t).2⟩
theorem st_ext {i : Nat} {x : Str} {px ap cp pos : Pos} {e : Expr} {ie : E} (sx : SS X ca zc m c n W) (h1 : nameAt m.N i x = true) (h2 : visB m.sc x = true) (h3 : noDbg x = true) (hl : (ap.endLine == cp.line) = true) (hm : mE m ie e = true) (he : ∀ U F B, PE X e (rdE (gOf X ca zc) U F B W c ie)) (U F B) :
    PS X (.Expr (.Call (.Attribute (.Name x px) "extend" ap) [e] [] cp) pos) (rdSt (gOf X ca zc) U F B W c (.ext i ie)) := by
  have hs := star_cons hm [] X.env
  refine PS.imp (ps_expr (pe_bm PySem.F.plainAttrs_list PySem.F.slot_list_extend PySem.F.type_list_extend mt_extend (pe_nm sx h1 h2 h3) (pa_cons (he U F B) pa_nil hs) rfl (by rw [hs]; rfl) hl hs rfl)) fun Dd σ H ⟨env, K, rl, w, ok⟩ => ?_
  obtain ⟨ds, fr, p, xs, e1, e2, e3, e4, w⟩ := own_at rl w
  refine ⟨.ref p, e2, .inl ⟨rfl, xs, .of e3⟩, env, _, _, rl, w, fun d inf v H1 q s z => ?_, ok.exW rl⟩
  cases d <;> first | exact q.elim | skip
  rename_i es
  obtain ⟨⟨q1, q2⟩, q3⟩ := q
  have r1 := RelW.frz inf.al (rl.ext s)
  have ni := not_mem_of q2
  have e5 : (frz inf.al env)[i]? = some (.own ds fr) := by rw [frz_at ni]; exact e1
  obtain ⟨p', xs', f1, f2, _, f4⟩ := r1.own i ds fr e5
  rw [e2] at f1
  cases f1
  obtain ⟨b, ys, rfl, hb, hy⟩ := z.lst
  refine ⟨p, b, xs', ys, rfl, rfl, f2, hb, by rw [f4.len, hy.len]; exact q1, ok.nx _ _ _ q3 (own_ok r1 e5 e2 f2 (RepL.app (f4.mono fun a y => ⟨y.1, fun t => y.2 (ba2 t).1⟩) (hy.mono fun a y => ?_)))⟩
  have y2 : Ok1 U F (frz inf.al env) σ inf.fr a := y.ok (rl.ext s) fun i q => q
  exact ⟨y2.1, fun t => y2.2 (ba2 t).2⟩
theorem st_setix {i : Nat} {x : Str} {px p2 pos : Pos} {y e : Expr} {ik ie : E} (sx : SS X ca zc m c n W) (h1 : nameAt m.N i x = true) (h2 : visB m.sc x = true) (h3 : noDbg x = true) (hp : plainIx y = true) (hc : noC e = true) (hk : ∀ U F B, PE X y (rdE (gOf X ca zc) U F B W c ik)) (he : ∀ U F B, PE X e (rdE (gOf X ca zc) U F B W c ie)) (U F B) :
    PS X (.Assign [.Subscript (.Name x px) y p2] e pos) (rdSt (gOf X ca zc) U F B W c (.setix i ik ie)) := by
  have ha : ∀ v, assign (.Subscript (.Name x px) y p2) X.env v = (do
      let ov ← holding [v] (eval (.Name x px) X.env)
      let iv ← holding [v, ov] (eval y X.env)
      standAt p2
      holding [v, ov, iv] (setItem ov iv v)
      release [v, ov, iv] []) := by
    intro v
    cases y <;> first | rfl | (exfalso; exact Bool.false_ne_true hp)
  refine PS.imp (ps_asg (he U F B) (pg_sub (pe_nm sx h1 h2 h3) (hk U F B) set_list ha) (noC_sw hc) (noC_st hc)) fun Dd σ H ⟨env, K, rl, w, ok⟩ => ?_
  obtain ⟨ds, fr, p, xs, e1, e2, e3, e4, w⟩ := own_at rl w
  refine ⟨env, _, _, rl, w, fun d inf v H1 q s z => ?_, ok.exW rl⟩
  refine ⟨.ref p, e2, env, _, _, rl.ext s, q, fun d2 i2 v2 H2 q s2 z2 => ?_, (ok.exW rl).more s⟩
  cases d2 <;> first | exact q.elim | skip
  obtain ⟨q2, k, q4, q3⟩ := q
  have ss := s.trans s2
  have r1 := RelW.frz inf.all (rl.ext ss)
  have ni := not_mem_of q2
  have e5 : (frz inf.all env)[i]? = some (.own ds fr) := by rw [frz_at ni]; exact e1
  obtain ⟨p', xs', f1, f2, _, f4⟩ := r1.own i ds fr e5
  rw [e2] at f1
  cases f1
  refine ⟨p, xs', _, k, rfl, z2.int, f2, by rw [f4.len]; exact q4, ok.nx _ _ _ q3 (own_ok r1 e5 e2 f2 (RepL.set (((z.ext s2).low rl).mono fun a y => ?_) k (f4.mono fun a y => ⟨y.1, fun t => y.2 (ba2 t).1⟩)))⟩
  have y2 : Ok1 U F (frz inf.all env) σ inf.fr a := y.ok (rl.ext ss) fun i q => q
  exact ⟨y2.1, fun t => y2.2 (ba2 t).2⟩
theorem putF_new {x : Str} {v : V} : ∀ {fs : List (Str × V)}, (fs.map (·.1)).contains x = false → putF x v fs = fs ++ [(x, v)]
  | [], _ => rfl
  | (y, u) :: fs, h => by
    have h : (y :: fs.map (·.1)).contains x = false := h
    rw [List.contains_cons, Bool.or_eq_false_iff] at h
    have ne : ¬ y = x := fun e => by
      rw [e, beq_self_eq_true] at h
      cases h.1
    show (if y = x then _ else (y, u) :: putF x v fs) = _
    rw [if_neg ne, putF_new h.2]
    rfl
theorem st_setf {x y : Str} {px p2 pos : Pos} {e : Expr} {ie : E} (sx : SS X ca zc m c n W) (h1 : nameAt m.N 0 y = true) (h2 : visB m.sc y = true) (h3 : noDbg y = true) (hc : noC e = true) (he : ∀ U F B, PE X e (rdE (gOf X ca zc) U F B W c ie)) (U F B) :
    PS X (.Assign [.Attribute (.Name y px) x p2] e pos) (rdSt (gOf X ca zc) U F B W c (.setf x ie)) := by
  have hs : swapsWith e (some (.Attribute (.Name y px) x p2)) pos.line X.env = pure false := by
    cases e <;> first | rfl | (exfalso; exact Bool.false_ne_true hc)
  refine PS.imp (ps_fld (pe_nm sx h1 h2 h3) (he U F B) hs) fun Dd σ H ⟨env, K, rl, w, ok⟩ => ?_
  obtain ⟨C, ks, ds, fr, a, dx, fs, e1, e2, e3, e4, e5, e6, w⟩ := slf_at rl w
  refine ⟨env, _, _, rl, w, fun d inf v H1 q s z => ?_, ok.exW rl⟩
  obtain ⟨⟨q1, q2, q3⟩, q4⟩ := q
  have r1 := RelW.frz inf.all (rl.ext s)
  rw [sx.prg] at q2
  obtain ⟨cl, na⟩ := sx.cf.at_ _ _ q2
  subst e4
  refine ⟨.ref a, e2, a, _, dx, fs, rfl, s _ _ e3, cl, na, by rw [List.length_map] at q3; omega, ok.nx _ _ _ q4 ?_⟩
  refine slf_ok (ks' := fs.map (·.1) ++ [x]) r1 (frz_keep e1) e2 (s _ _ e3) ?_ ?_
  · rw [putF_new q1, List.map_append]
    rfl
  · rw [putF_new q1, List.map_append]
    refine RepL.app ((e6.ext s).mono fun b y => ?_) (RepL.one ((z.low rl).mono fun b y => ?_))
    · exact ⟨⟨y.1.1, fun ⟨j, o⟩ => y.1.2 ⟨j, (ow_frz o).1⟩⟩, fun t => y.2 (ba2 t).1⟩
    · have y2 : Ok1 U F (frz inf.all env) σ inf.fr b := y.ok (rl.ext s) fun i q => q
      exact ⟨y2.1, fun t => y2.2 (ba2 t).2⟩
/-- all but the instance that is made stays: so does what is known of the rest -/
theorem RelW.over {C : Str} {ks ks' : List Str} {ds es : List D} {fr fr' : Bool} {x dx dx' : Addr} {fs fs' : List (Str × V)} (r : RelW g U F B env σ H) (hi : env[0]? = some (.slf C ks ds fr)) (hp : σ[0]? = some (some (.ref x))) (hx : H x = some (.ins (g.ca C) dx fs))
    (sm : SameX x H H') (hx' : H' x = some (.ins (g.ca C) dx' fs')) (hk : fs'.map (·.1) = ks') (hl : RepL g (Ok1 U F env σ fr') H' es (fs'.map (·.2))) : RelW g U F B (env.set 0 (.slf C ks' es fr')) σ H' := by
  obtain ⟨_, x', dx0, fs0, e1, _, _, ⟨e3, e4⟩, _⟩ := r.slf 0 C ks ds fr hi
  rw [hp] at e1
  cases e1
  have hil : 0 < env.length := (List.getElem?_eq_some_iff.mp hi).1
  have exE : ∀ a, Ex (env.set 0 (.slf C ks' es fr')) σ a → Ex env σ a := fun a ⟨j, u, w, q1, q2, q3⟩ => by
    by_cases hj : 0 = j
    · subst hj
      rw [List.getElem?_set] at q1
      simp only [if_true, hil] at q1
      cases q1
      exact q3.elim
    · rw [List.getElem?_set_ne hj] at q1
      exact ⟨j, u, w, q1, q2, q3⟩
  refine r.write0 (t := .slf C ks' es fr') (H' := H') hi hp (fun a z => z.elim) (fun a o z e n => sm.k a o (fun e2 => z (by rw [e2]; rfl)) e n) (fun a e => ?_) sm.t (fun j k v ej _ q ds as f e => ?_) ⟨rfl, x, dx', fs', hp, hx', hk, ⟨e3, e4⟩, hl.mono fun a z => ok1_mono exE z⟩
  · cases q : H a with
    | none => rfl
    | some o =>
      by_cases hax : a = x
      · subst hax
        rw [hx'] at e
        cases e
      · cases o with
        | tbl ps =>
          exact absurd e (sm.tt a ps q)
        | _ =>
          have z := sm.k a _ hax q trivial
          rw [e] at z
          cases z
  · subst ej
    rw [List.getElem?_set] at e
    simp only [if_true, hil] at e
    cases e
theorem st_sup {x z : Str} {i : Nat} {p p2 pz cp pos : Pos} {ys : List Expr} {ies : Es} (sx : SS X ca zc m c n W) (hq : m.q = false) (hl : (p2.endLine == cp.line) = true) (hn : ys.length < 29) (hg : glB m.sc x = true) (hd : noDbg x = true) (h1 : nameAt m.N 0 z = true) (h2 : visB m.sc z = true) (h3 : noDbg z = true) (hsu : (x, i) ∈ m.su) (hm : mEs m ies ys = true)
    (ha : ∀ U F B, PA X ys (rdA (gOf X ca zc) U F B W c ies)) (U F B) : PS X (.Expr (.Call (.Attribute (.Name x p) "__init__" p2) (.Name z pz :: ys) [] cp) pos) (rdSt (gOf X ca zc) U F B W c (.sup x i ies)) := by
  obtain ⟨fn, hf, hi, hmg, cr, cv⟩ := sx.cf.su x i hsu
  obtain ⟨fd, _, kp, bd, hok, _⟩ := sx.fn i fn hf
  have hok : FnH X n (adr X.K fn) fd (fn.N.take fn.np) (spI ⟨X.K, ca⟩ c i fn) := by
    have e : spS ⟨X.K, ca⟩ c i fn = spI ⟨X.K, ca⟩ c i fn := if_pos hi
    rw [← e]
    exact hok
  have st0 : starEach (.Name z pz :: ys) X.env = (false, eval (.Name z pz) X.env) :: starEach ys X.env := rfl
  have no0 := star_no (pos := cp) (env := X.env) hm
  have no1 : (backTo cp (starEach (.Name z pz :: ys) X.env)).any (·.1) = false := by
    rw [st0]
    show ((false, _) :: backTo cp (starEach ys X.env)).any (·.1) = false
    rw [List.any_cons, no0]
    rfl
  refine PS.imp (ps_expr (pe_supD (sx.gl hg) hmg cr cv kp hok sx.room bd (pa_cons (pe_nm sx h1 h2 h3) (ha U F B) st0) (fun σ => passAt (sx.tk hq) σ) (noDbg_of hd).1 st0 no0
    (ev_meth (base_of rfl _) no1 (by simp; omega) hl)) rfl) fun Dd σ H ⟨env, K, rl, w, ok⟩ => ?_
  obtain ⟨C, ks, ds, fr, a, dx, fs, e1, e2, e3, e4, e5, e6, w⟩ := slf_at rl w
  refine ⟨.ref a, e2, env, _, _, rl, w, fun as inf vs H1 q s zr => ?_, ok.exW rl⟩
  obtain ⟨q1, q2⟩ := q
  subst q1
  have hfs : fs = [] := List.map_eq_nil_iff.mp e4
  subst hfs
  refine ⟨Rch U F env σ inf.al inf.fr, a, dx, C, vs, as, _, _, rfl, sx.ini i fn C _ _ _ hf q2, s _ _ e3, fun z => e5.2 z.1, zr.2.2, (rl.ext s).tb, q2, fun ks' es H' dx' fs' q sm hx hk hr _ => ?_, fun y H' z _ => z.elim⟩
  have r1 := RelW.frz inf.all (rl.ext s)
  have r0 := rl.ext s
  have rr : RelW (gOf X ca zc) U F B ((frz inf.all env).set 0 (.slf C ks' es (fr && inf.fr))) σ H' := by
    refine RelW.over r1 (frz_keep e1) e2 (s _ _ e3) sm hx hk (hr.mono fun b w => ?_)
    rcases w.1 with w1 | w1
    · have y2 : Ok1 U F (frz inf.all env) σ inf.fr b := w1.ok r0 fun i q => List.mem_append_right _ q
      exact ⟨y2.1, fun t => y2.2 (ba2 t).2⟩
    · obtain ⟨u1, u2, u3⟩ := r0.new w1
      exact ⟨⟨u1, fun ⟨j, o⟩ => u2 ⟨j, (ow_frz o).1⟩⟩, fun _ => u3⟩
  exact ok.nx _ _ _ q rr
theorem st_pop {i j : Nat} {x y : Str} {px py ap cp pos : Pos} (sx : SS X ca zc m c n W) (h1 : nameAt m.N i x = true) (h2 : locB m.sc x = true) (h4 : nameAt m.N j y = true) (h5 : visB m.sc y = true) (h6 : noDbg y = true) (hl : (ap.endLine == cp.line) = true) (hij : i ≠ j) (U F B) :
    PS X (.Assign [.Name x px] (.Call (.Attribute (.Name y py) "pop" ap) [] [] cp) pos) (rdSt (gOf X ca zc) U F B W c (.pop i j)) := by
  refine PS.imp (ps_set sx.nd (by rw [sx.N]; exact of_decide_eq_true h1) (by rw [sx.sc]; exact loc_of h2) (pe_bm0 PySem.F.plainAttrs_list PySem.F.slot_list_pop PySem.F.type_list_pop mt_pop (pe_nm sx h4 h5 h6) rfl hl) rfl (sx.ft x (by rw [sx.sc]; exact loc_of h2))) fun Dd σ H ⟨env, K, rl, w, ok⟩ => ?_
  obtain ⟨ds, fr, p, xs, e1, e2, e3, e4, es, d, e5, w⟩ := own_at rl w
  subst e5
  have hlen := e4.len
  have hlt : es.length < xs.length := by rw [hlen]; simp
  obtain ⟨v, e6, r6⟩ := e4.get (i := es.length) (d := d) (by simp)
  have e7 : xs[xs.length - 1]? = some v := by rw [hlen]; simpa using e6
  refine ⟨.ref p, e2, .inl ⟨rfl, xs, .of e3⟩, p, xs, v, rfl, rfl, e3, e7, ok.nx _ _ _ w ?_⟩
  have hx : xs.dropLast = xs.take es.length := by rw [List.dropLast_eq_take, hlen]; simp
  have ht := RepL.take es.length e4
  have hes : (es ++ [d]).take es.length = es := by simp
  rw [hes] at ht
  rw [hx]
  have ro := own_ok rl e1 e2 e3 ht
  have ex : Ex env σ p := ⟨j, _, _, e1, e2, rfl⟩
  refine ro.setV (Rep.ok1 (fun a z => ?_) (r6.upd e3 trivial (fun a z e => z.1.2 (by rw [e]; exact ex))))
  obtain ⟨i0, u0, w0, o1, o2, o3⟩ := z
  by_cases hj : j = i0
  · subst hj
    rw [List.getElem?_set] at o1
    simp only [if_true] at o1
    split at o1
    · cases o1
      exact ⟨j, _, _, e1, o2, o3⟩
    · cases o1
  · rw [List.getElem?_set_ne hj] at o1
    exact ⟨i0, u0, w0, o1, o2, o3⟩
theorem RepL.nil {g : GZ} {A : Addr → Prop} {H : Hp} : RepL g A H [] [] := rfl
theorem st_rev {i : Nat} {x : Str} {px ap cp pos : Pos} (sx : SS X ca zc m c n W) (h1 : nameAt m.N i x = true) (h2 : visB m.sc x = true) (h3 : noDbg x = true) (hl : (ap.endLine == cp.line) = true) (U F B) :
    PS X (.Expr (.Call (.Attribute (.Name x px) "reverse" ap) [] [] cp) pos) (rdSt (gOf X ca zc) U F B W c (.rev i)) := by
  refine PS.imp (ps_expr (pe_bm0 PySem.F.plainAttrs_list PySem.F.slot_list_reverse PySem.F.type_list_reverse mt_reverse (pe_nm sx h1 h2 h3) rfl hl)) fun Dd σ H ⟨env, K, rl, w, ok⟩ => ?_
  obtain ⟨ds, fr, p, xs, e1, e2, e3, e4, w⟩ := own_at rl w
  exact ⟨.ref p, e2, .inl ⟨rfl, xs, .of e3⟩, p, xs, rfl, rfl, e3, ok.nx _ _ _ w (own_ok rl e1 e2 e3 (RepL.reverse e4))⟩
theorem st_clr {i : Nat} {x : Str} {px ap cp pos : Pos} (sx : SS X ca zc m c n W) (h1 : nameAt m.N i x = true) (h2 : visB m.sc x = true) (h3 : noDbg x = true) (hl : (ap.endLine == cp.line) = true) (U F B) :
    PS X (.Expr (.Call (.Attribute (.Name x px) "clear" ap) [] [] cp) pos) (rdSt (gOf X ca zc) U F B W c (.clr i)) := by
  refine PS.imp (ps_expr (pe_bm0 PySem.F.plainAttrs_list PySem.F.slot_list_clear PySem.F.type_list_clear mt_clear (pe_nm sx h1 h2 h3) rfl hl)) fun Dd σ H ⟨env, K, rl, w, ok⟩ => ?_
  obtain ⟨ds, fr, p, xs, e1, e2, e3, e4, w⟩ := own_at rl w
  exact ⟨.ref p, e2, .inl ⟨rfl, xs, .of e3⟩, p, xs, rfl, rfl, e3, ok.nx _ _ _ w (own_ok rl e1 e2 e3 RepL.nil)⟩
theorem st_ins {i : Nat} {x : Str} {px ap cp pos : Pos} {u e : Expr} {ik ie : E} (sx : SS X ca zc m c n W) (h1 : nameAt m.N i x = true) (h2 : visB m.sc x = true) (h3 : noDbg x = true) (hl : (ap.endLine == cp.line) = true) (hmk : mE m ik u = true) (hm : mE m ie e = true) (hk : ∀ U F B, PE X u (rdE (gOf X ca zc) U F B W c ik)) (he : ∀ U F B, PE X e (rdE (gOf X ca zc) U F B W c ie)) (U F B) :
    PS X (.Expr (.Call (.Attribute (.Name x px) "insert" ap) [u, e] [] cp) pos) (rdSt (gOf X ca zc) U F B W c (.ins i ik ie)) := by
  have hs := star_cons hm [] X.env
  have hs2 := star_cons hmk [e] X.env
  refine PS.imp (ps_expr (pe_bm PySem.F.plainAttrs_list PySem.F.slot_list_insert PySem.F.type_list_insert mt_insert (pe_nm sx h1 h2 h3) (pa_cons (hk U F B) (pa_cons (he U F B) pa_nil hs) hs2) rfl (by rw [hs2, hs]; rfl) hl hs2 (by rw [hs]; rfl))) fun Dd σ H ⟨env, K, rl, w, ok⟩ => ?_
  obtain ⟨ds, fr, p, xs, e1, e2, e3, e4, w⟩ := own_at rl w
  refine ⟨.ref p, e2, .inl ⟨rfl, xs, .of e3⟩, env, _, _, rl, w, fun d inf v H1 q s z => ?_, ok.exW rl⟩
  cases d <;> first | exact q.elim | skip
  rename_i k
  obtain rfl := z.int
  refine ⟨env, _, _, rl.ext s, q, fun d inf v H2 q s2 z2 => ?_, (ok.exW rl).more s⟩
  obtain ⟨⟨q1, q5, q2⟩, q3⟩ := q
  have ss := s.trans s2
  have r1 := RelW.frz inf.all (rl.ext ss)
  have ni := not_mem_of q2
  have e5 : (frz inf.all env)[i]? = some (.own ds fr) := by rw [frz_at ni]; exact e1
  obtain ⟨p', xs', f1, f2, _, f4⟩ := r1.own i ds fr e5
  rw [e2] at f1
  cases f1
  have f5 := f4.mono (A' := Ok1 U F (frz inf.all env) σ (fr && inf.fr)) fun a y => ⟨y.1, fun t => y.2 (ba2 t).1⟩
  refine ⟨p, xs', k, v, rfl, rfl, f2, by rw [f4.len]; exact q5, q1.1, q1.2, ok.nx _ _ _ q3 (own_ok r1 e5 e2 f2 (RepL.app (RepL.app (RepL.take _ f5) (RepL.one ((z2.low (rl.ext s)).mono fun a y => ?_))) (RepL.drop _ f5)))⟩
  have y2 : Ok1 U F (frz inf.all env) σ inf.fr a := y.ok (rl.ext ss) fun i q => q
  exact ⟨y2.1, fun t => y2.2 (ba2 t).2⟩
/-! ### simple statements -/
theorem st_expr {e : Expr} {pos : Pos} {ie : E} (hc : noC e = true) (he : ∀ U F B, PE X e (rdE (gOf X ca zc) U F B W c ie)) (U F B) : PS X (.Expr e pos) (rdSt (gOf X ca zc) U F B W c (.expr ie)) := by
  have hs : swapsWith e none pos.line X.env = pure false := by
    cases e <;> first | rfl | (exfalso; exact Bool.false_ne_true hc)
  exact PS.imp (ps_expr (he U F B) hs) fun Dd σ H ⟨env, K, rl, w, ok⟩ => ⟨env, _, _, rl, w, fun d inf v H' q s z => ok.nx _ _ _ q (rl.ext s), ok.exW rl⟩
theorem st_ret {e : Expr} {pos : Pos} {ie : E} (he : ∀ U F B, PE X e (rdE (gOf X ca zc) U F B W c ie)) (U F B) : PS X (.Return (some e) pos) (rdSt (gOf X ca zc) U F B W c (.ret ie)) :=
  PS.imp (ps_ret (he U F B)) fun Dd σ H ⟨env, K, rl, w, ok⟩ => ⟨env, _, _, rl, w, fun d inf v H' q s z => ok.rt _ _ _ _ q (z.ret rl s), ok.exW rl⟩
theorem st_retN {pos : Pos} (U F B) : PS X (.Return none pos) (rdSt (gOf X ca zc) U F B W c .retN) :=
  PS.imp ps_retN fun Dd σ H ⟨env, K, rl, w, ok⟩ => ok.rt _ _ _ _ w ⟨rl.bh, rfl, fun z => by cases z⟩
theorem st_brk {pos : Pos} (U F B) : PS X (.Break pos) (rdSt (gOf X ca zc) U F B W c .brk) := PS.imp ps_break fun Dd σ H ⟨env, K, rl, w, ok⟩ => ok.bk _ _ _ w rl
theorem st_cnt {pos : Pos} (U F B) : PS X (.Continue pos) (rdSt (gOf X ca zc) U F B W c .cnt) := PS.imp ps_continue fun Dd σ H ⟨env, K, rl, w, ok⟩ => ok.ct _ _ _ w rl
theorem st_pass {pos : Pos} (U F B) : PS X (.Pass pos) (rdSt (gOf X ca zc) U F B W c .pass) := PS.imp ps_pass fun Dd σ H ⟨env, K, rl, w, ok⟩ => ok.nx _ _ _ w rl
theorem st_raise {x msg : Str} {k : Nat} {p p2 p3 pos : Pos} (sx : SS X ca zc m c n W) (hg : glB m.sc x = true) (hd : noDbg x = true) (hx : x ∈ m.ex) (U F B) :
    PS X (.Raise (some (.Call (.Name x p) [.Constant (.str msg) k p2] [] p3)) none pos) (rdSt (gOf X ca zc) U F B W c (.raise x)) := by
  obtain ⟨e1, e2, e3, e4, e5⟩ := sx.ex x hx
  cases hq : m.q with
  | false => exact PS.imp (ps_raise sx.calm (sx.tk hq) (pmk_own PySem.F.excBase_ValueError e2 e1 e3 (raises_own e4 e5) (sx.gl hg) (noDbg_of hd).1)) fun Dd σ H ⟨env, K, rl, w, ok⟩ => ok.ex _ _ _ _ w rl
  | true => exact PS.imp (L2N.ps_raise sx.calm (sx.tkN hq) (L2N.pmk_own PySem.F.excBase_ValueError e2 e1 e3 (raises_own e4 e5) (sx.gl hg) (noDbg_of hd).1)) fun Dd σ H ⟨env, K, rl, w, ok⟩ => ok.ex _ _ _ _ w rl
/-! ### blocks, branches, loops -/
theorem st_ite {v : Expr} {a b : List Stmt} {pos : Pos} {t : T} {ia ib : Ss} (ht : ∀ U F B, PT X v (rdT (gOf X ca zc) U F B W c t)) (ha : ∀ U F B, PSs X a (rdSs (gOf X ca zc) U F B W c ia)) (hb : ∀ U F B, PSs X b (rdSs (gOf X ca zc) U F B W c ib)) (U F B) :
    PS X (.If v a b pos) (rdSt (gOf X ca zc) U F B W c (.ite t ia ib)) :=
  PS.imp (ps_if (ht U F B) (ha U F B) (hb U F B)) fun Dd σ H ⟨env, K, rl, w, ok⟩ => ⟨env, _, _, rl, w, fun b H' q s => by
    cases b with
    | true => exact ⟨env, K, rl.ext s, q, ok⟩
    | false => exact ⟨env, K, rl.ext s, q, ok⟩, ok.exW rl⟩
theorem KOk.loop {K : En} {Dd : Ends} (ok : KOk g U F B W K Dd) {f : List Sl → Prop} {N : L2.St → Hp → Prop} (e : Same B B') (fb : Same F B) (h : ∀ env' σ' H', f env' → RelW g U F B' env' σ' H' → N σ' H') : KOk g U F B' W (K.loop f) { Dd with nx := N, ct := N, bk := Dd.nx } :=
  ⟨h, fun d inf v H' q z => ok.rt d inf v H' q (z.weak e), fun env' σ' H' q r => ok.nx _ _ _ q (r.weak fb e), h, fun x env' σ' H' q r => ok.ex _ _ _ _ q (r.weak fb e)⟩
theorem st_for {tg iter : Expr} {body : List Stmt} {pos : Pos} {t : Tg} {it : It} {ib : Ss} (sx : SS X ca zc m c n W) (hi : ∀ U F B, PI X tg iter (rdI (gOf X ca zc) U F B W c it)) (hg : PG X tg (rdG X.K t)) (hs : ∀ x, foldedSetIterable iter X.env x = pure x) (hb : ∀ U F B, PSs X body (rdSs (gOf X ca zc) U F B W c ib)) (U F B) :
    PS X (.For tg iter body [] pos) (rdSt (gOf X ca zc) U F B W c (.for t it ib)) := by
  have hb' : PSs X body (rdSsX (gOf X ca zc) W c ib) := ⟨fun pins s σ H D I ⟨U, F, B, q⟩ => (hb U F B).run pins s σ H D I q⟩
  refine PS.imp (ps_for sx.po sx.calm (hi U F B) hg hb' hs) fun Dd σ H ⟨env, K, rl, w, ok⟩ => ?_
  refine ⟨env, _, _, rl, w, fun xs inf J H1 q s itk => ?_, ok.exW rl⟩
  have r1 := rl.ext s
  have subB : Same B (cutH env σ inf.all H1) := by
    refine ⟨fun a o e n => ?_, fun a ps e w => ?_, fun {P} g => ?_⟩
    · rw [cutH_keep (fun z => ?_) fun z => ?_]
      · exact r1.bh.k a o e n
      · have z2 := (r1.exT z).2.1
        rw [e] at z2
        cases z2
      · have z2 := (r1.sx z).2.1
        rw [e] at z2
        cases z2
    · rw [cutH_keep (fun z => ?_) fun z => ?_] at w
      · exact r1.bh.tt a ps e w
      · have z2 := (r1.exT z).2.1
        rw [e] at z2
        cases z2
      · have z2 := (r1.sx z).2.1
        rw [e] at z2
        cases z2
    · obtain ⟨ps, h1, h2, h3⟩ := r1.bh.t g
      exact ⟨ps, cutH_wr h1 fun w => w, h2, fun pos cv hc => let ⟨c, e1, e2⟩ := h3 pos cv hc; ⟨c, e1, cutH_wr e2 fun w => w⟩⟩
  have r2 : RelW (gOf X ca zc) U F (cutH env σ inf.all H1) (frz inf.all env) σ H1 := by
    refine (RelW.frz inf.all r1).base (rl.fb.trans subB) cutH_sub (fun a ⟨j, o⟩ => ?_) fun a ⟨C, ks, ds, fr, z1, z2⟩ => ?_
    · obtain ⟨o1, o2⟩ := ow_frz o
      obtain ⟨⟨ob, k1, k2, _⟩, _⟩ := r1.owT o1
      unfold cutH
      rw [if_pos]
      refine ⟨.inl ⟨⟨j, o1⟩, fun ⟨i, h1, h2⟩ => ?_⟩, ob, k1, k2⟩
      rw [r1.apart j i a o1 h2] at o2
      exact o2 h1
    · obtain ⟨_, _, C', dx, fs, k1⟩ := r1.sx ⟨C, ks, ds, fr, frz_slf z1, z2⟩
      exact cutH_sx ⟨C, ks, ds, fr, frz_slf z1, z2⟩ k1 trivial
  refine ⟨fun i k σ2 H2 => k = xs.length - i ∧ i ≤ xs.length ∧ ∃ env2, RelW (gOf X ca zc) U F (cutH env σ inf.all H1) env2 σ2 H2 ∧ loopF t inf.fr (fun env1 K1 => wpSs c ib env1 K1) K (xs.drop i) env2, ⟨xs.length, by simp, Nat.zero_le _, _, r2, q⟩, fun i k σ2 H2 ⟨e1, e2, env2, r3, lp⟩ => ?_⟩
  obtain ⟨go, stop⟩ := itk H2 r3.bh
  by_cases hlt : i < xs.length
  · obtain ⟨d, hd⟩ : ∃ d, xs[i]? = some d := ⟨xs[i], by simp [hlt]⟩
    have hdrop : xs.drop i = d :: xs.drop (i + 1) := by
      rw [List.drop_eq_getElem_cons hlt]
      congr 1
      have e := hd
      rw [List.getElem?_eq_getElem hlt] at e
      exact Option.some.inj e
    rw [hdrop] at lp
    obtain ⟨hgo, hy⟩ := go i d hd
    refine .inr ⟨hgo, fun σ' H' => ∃ env2, RelW (gOf X ca zc) U F (cutH env σ inf.all H1) env2 σ' H' ∧ loopF t inf.fr (fun env1 K1 => wpSs c ib env1 K1) K (xs.drop (i + 1)) env2, fun σ' H' z => ⟨xs.length - (i + 1), by omega, rfl, hlt, z⟩, fun v H3 y => ?_⟩
    obtain ⟨s3, hr⟩ := hy v H3 y
    refine bind_ok (g := gOf X ca zc) (r3.ext s3) (hr.mono fun a z => ?_) lp fun env' σ' w1 r' _ _ => ?_
    · refine ⟨⟨z.1.1, fun ex => z.2 (r3.exT ex).2.1⟩, z.1.2.2⟩
    · exact ⟨U, F, _, env', _, r', w1, ok.loop subB rl.fb fun e' σ' H' q r => ⟨e', r, q⟩⟩
  · have e : i = xs.length := by omega
    subst e
    rw [List.drop_length] at lp
    exact .inl ⟨stop _ (Nat.le_refl _), ok.nx _ _ _ lp (r3.weak rl.fb subB)⟩
theorem RetI.upU {g : GZ} {p : Addr} {d : D} {inf : Inf} {v : V} (h : RetI g (fun a => U a ∧ a ≠ p) F B d inf v H') : RetI g U F B d inf v H' := ⟨h.1, h.2.1.mono fun a z => ⟨z.1.1, z.2⟩, h.2.2⟩
/-- over a list that a slot owns, and goes on to own -/
theorem st_forO {tg iter : Expr} {body : List Stmt} {pos : Pos} {t : Tg} {i : Nat} {ib : Ss} (sx : SS X ca zc m c n W) (hi : ∀ U F B, PI X tg iter (rdI (gOf X ca zc) U F B W c (.e (.var i)))) (hg : PG X tg (rdG X.K t)) (hs : ∀ x, foldedSetIterable iter X.env x = pure x) (hb : ∀ U F B, PSs X body (rdSs (gOf X ca zc) U F B W c ib)) (U F B) :
    PS X (.For tg iter body [] pos) (rdSt (gOf X ca zc) U F B W c (.forO t i ib)) := by
  have hb' : PSs X body (rdSsX (gOf X ca zc) W c ib) := ⟨fun pins s σ H D I ⟨U, F, B, q⟩ => (hb U F B).run pins s σ H D I q⟩
  refine PS.imp (ps_for sx.po sx.calm (hi U F B) hg hb' hs) fun Dd σ H ⟨env, K, rl, w, ok⟩ => ?_
  obtain ⟨ds, fr, p, xs0, e1, e2, _, _, w⟩ := own_at rl w
  have w : ∀ p, loopF t fr (fun env1 K1 => wpSs c ib env1 K1) (K.pn i p ds fr) ds (env.set i (.pin p)) := w
  have w0 : wpI c (.e (.var i)) env (fun xs inf => xs = ds ∧ inf = ⟨[], [i], fr, true⟩) (fun x => K.ex x env) := by
    show rdS (env.getD i .un) i _
    rw [getD_of e1]
    exact ⟨rfl, rfl⟩
  refine ⟨env, _, _, rl, w0, fun xs inf J H1 q s itk => ?_, ok.exW rl⟩
  obtain ⟨rfl, rfl⟩ := q
  have r1 := rl.ext s
  obtain ⟨p', xs1, e2', hp1, hbu, hl1⟩ := r1.own i xs fr e1
  rw [e2] at e2'
  cases e2'
  have ow : Ow env σ i p := ⟨_, _, e1, e2, rfl⟩
  have subB : Same B (cutH env σ [i] H1) := by
    refine ⟨fun a o e n => ?_, fun a ps e w => ?_, fun {P} g => ?_⟩
    · rw [cutH_keep (fun z => ?_) fun z => ?_]
      · exact r1.bh.k a o e n
      · have z2 := (r1.exT z).2.1
        rw [e] at z2
        cases z2
      · have z2 := (r1.sx z).2.1
        rw [e] at z2
        cases z2
    · rw [cutH_keep (fun z => ?_) fun z => ?_] at w
      · exact r1.bh.tt a ps e w
      · have z2 := (r1.exT z).2.1
        rw [e] at z2
        cases z2
      · have z2 := (r1.sx z).2.1
        rw [e] at z2
        cases z2
    · obtain ⟨ps, h1, h2, h3⟩ := r1.bh.t g
      exact ⟨ps, cutH_wr h1 fun w => w, h2, fun pos cv hc => let ⟨c, e1, e2⟩ := h3 pos cv hc; ⟨c, e1, cutH_wr e2 fun w => w⟩⟩
  have hil : i < env.length := (List.getElem?_eq_some_iff.mp e1).1
  have r2 : RelW (gOf X ca zc) (fun a => U a ∧ a ≠ p) F (cutH env σ [i] H1) (env.set i (.pin p)) σ H1 := by
    refine (r1.pinned e1 e2).base (rl.fb.trans subB) cutH_sub (fun a ⟨j, o⟩ => ?_) fun a ⟨C, ks, ds, fr, z1, z2⟩ => ?_
    · obtain ⟨u, v, o1, o2, o3⟩ := o
      by_cases hj : i = j
      · subst hj
        rw [List.getElem?_set] at o1
        simp only [if_true, hil] at o1
        cases o1
        exact o3.elim
      · rw [List.getElem?_set_ne hj] at o1
        have oj : Ow env σ j a := ⟨u, v, o1, o2, o3⟩
        obtain ⟨⟨ob, k1, k2, _⟩, _⟩ := r1.owT oj
        unfold cutH
        rw [if_pos]
        refine ⟨.inl ⟨⟨j, oj⟩, fun ⟨i2, h1, h2⟩ => ?_⟩, ob, k1, k2⟩
        rw [List.mem_singleton] at h1
        subst h1
        exact hj (r1.apart _ _ a h2 oj)
    · by_cases hj : i = 0
      · subst hj
        rw [List.getElem?_set] at z1
        simp only [if_true, hil] at z1
        cases z1
      · rw [List.getElem?_set_ne hj] at z1
        obtain ⟨_, _, C', dx, fs, k1⟩ := r1.sx ⟨C, ks, ds, fr, z1, z2⟩
        exact cutH_sx ⟨C, ks, ds, fr, z1, z2⟩ k1 trivial
  have hpB : cutH env σ [i] H1 p = some (.lst xs1) := by
    rw [cutH_keep (fun _ => ⟨i, List.mem_singleton.mpr rfl, ow⟩) fun z => (r1.sx z).1 hbu.2]
    exact hp1
  have hlB := ((hl1.mono fun a z => (⟨z.1.1, fun e => absurd e z.1.2, z.2⟩ : Rch U F env σ [] fr a) ).there.mono fun a z => z.1).cutH (l := [i]) r1 (fun _ z => by cases z)
  have hlN : RepL (gOf X ca zc) (fun a => Rch U F env σ [] fr a ∧ cutH env σ [i] H1 a ≠ none) (cutH env σ [i] H1) xs xs1 := hlB.there
  refine ⟨fun k2 k σ2 H2 => k = xs.length - k2 ∧ k2 ≤ xs.length ∧ ∃ env2, RelW (gOf X ca zc) (fun a => U a ∧ a ≠ p) F (cutH env σ [i] H1) env2 σ2 H2 ∧ loopF t fr (fun env1 K1 => wpSs c ib env1 K1) (K.pn i p xs fr) (xs.drop k2) env2, ⟨xs.length, by simp, Nat.zero_le _, _, r2, w p⟩, fun k2 k σ2 H2 ⟨n1, n2, env2, r3, lp⟩ => ?_⟩
  have fin : ∀ {env3 : List Sl} {σ3 : L2.St} {H3 : Hp}, RelW (gOf X ca zc) (fun a => U a ∧ a ≠ p) F (cutH env σ [i] H1) env3 σ3 H3 → (K.pn i p xs fr).nx env3 → Dd.nx σ3 H3 := fun {env3 σ3 H3} r4 ⟨g1, g2⟩ => by
    have ei := of_getD g1 (by intro z; cases z)
    refine ok.nx _ _ _ g2 ((r4.weak rl.fb subB).unpin ei (r4.bh _ _ hpB) hbu.1 hbu.2 ((hlN.ext r4.bh).mono fun a z => ?_))
    refine ⟨⟨⟨z.1.1, fun e => z.2 (r4.exT e).2.1⟩, z.1.2.2⟩, fun e => ?_⟩
    obtain ⟨_, n, _⟩ := z.1.2.1 (by rw [e]; exact ⟨i, ow⟩)
    cases n
  obtain ⟨go, stop⟩ := itk H2 r3.bh
  by_cases hlt : k2 < xs.length
  · obtain ⟨d, hd⟩ : ∃ d, xs[k2]? = some d := ⟨xs[k2], by simp [hlt]⟩
    have hdrop : xs.drop k2 = d :: xs.drop (k2 + 1) := by
      rw [List.drop_eq_getElem_cons hlt]
      congr 1
      have e := hd
      rw [List.getElem?_eq_getElem hlt] at e
      exact Option.some.inj e
    rw [hdrop] at lp
    obtain ⟨hgo, hy⟩ := go k2 d hd
    refine .inr ⟨hgo, fun σ' H' => ∃ env2, RelW (gOf X ca zc) (fun a => U a ∧ a ≠ p) F (cutH env σ [i] H1) env2 σ' H' ∧ loopF t fr (fun env1 K1 => wpSs c ib env1 K1) (K.pn i p xs fr) (xs.drop (k2 + 1)) env2, fun σ' H' z => ⟨xs.length - (k2 + 1), by omega, rfl, hlt, z⟩, fun v H3 y => ?_⟩
    obtain ⟨s3, hr⟩ := hy v H3 y
    refine bind_ok (g := gOf X ca zc) (r3.ext s3) (hr.mono fun a z => ?_) lp fun env' σ' w1 r' _ _ => ?_
    · refine ⟨⟨⟨z.1.1, fun e => ?_⟩, fun ex => z.2 (r3.exT ex).2.1⟩, z.1.2.2⟩
      obtain ⟨_, n, _⟩ := z.1.2.1 (by rw [e]; exact ⟨i, ow⟩)
      cases n
    · refine ⟨_, F, _, env', _, r', w1, ⟨fun e' σ' H' q r => ⟨e', r, q⟩, fun d inf v H' q z => ok.rt d inf v H' q (z.weak subB).upU, fun env' σ' H' q r => fin r q, fun e' σ' H' q r => ⟨e', r, q⟩, fun x env' σ' H' q r => ok.ex _ _ _ _ q ((r.weak rl.fb subB).upU (r.bh _ _ hpB))⟩⟩
  · have e : k2 = xs.length := by omega
    subst e
    rw [List.drop_length] at lp
    exact .inl ⟨stop _ (Nat.le_refl _), fin r3 lp⟩
theorem st_whl {v : Expr} {body : List Stmt} {pos : Pos} {t : T} {ib : Ss} (sx : SS X ca zc m c n W) (ht : ∀ U F B, PT X v (rdT (gOf X ca zc) U F B W c t)) (hb : ∀ U F B, PSs X body (rdSs (gOf X ca zc) U F B W c ib)) (U F B) :
    PS X (.While v body [] pos) (rdSt (gOf X ca zc) U F B W c (.whl t ib)) := by
  refine PS.imp (ps_while sx.po (ht U F B) (hb U F B)) fun Dd σ H ⟨env, K, rl, w, ok⟩ => ?_
  obtain ⟨k, w⟩ := w
  refine ⟨fun k σ2 H2 => ∃ env2, RelW (gOf X ca zc) U F B env2 σ2 H2 ∧ loopW (fun env1 k => wpT c t env1 k (fun x => K.ex x env1)) (fun env1 K1 => wpSs c ib env1 K1) K k env2, ⟨k, env, rl, w⟩, fun k σ2 H2 ⟨env2, r2, lp⟩ => ?_⟩
  cases k with
  | zero => exact lp.elim
  | succ k =>
    refine ⟨env2, _, _, r2, lp, fun b H3 q s => ?_, ok.exW r2⟩
    cases b with
    | false => exact ok.nx _ _ _ q (r2.ext s)
    | true =>
      exact ⟨fun σ' H' => ∃ env2, RelW (gOf X ca zc) U F B env2 σ' H' ∧ loopW (fun env1 k => wpT c t env1 k (fun x => K.ex x env1)) (fun env1 K1 => wpSs c ib env1 K1) K k env2, fun σ' H' z => ⟨k, Nat.lt_succ_self k, z⟩,
        env2, _, r2.ext s, q, ok.loop (Same.refl _) r2.fb fun e' σ' H' q r => ⟨e', r, q⟩⟩
end
end Rj

namespace Rj
open PySem PySem.Spec PyProof.Rows L2
section
variable [Nm] {X : Cx} {ca : Ca} {zc : List (Str × Addr)} {U : Addr → Prop} {F B B' : Hp} {W : WX} {c : Cl} {m : MC} {n : Nat} {g : GZ} {env : List Sl} {σ : L2.St} {H H1 H' : Hp}
/-! ### what is asked of an exception that is held -/
/-- isinstance(e, (A, B)) of the exception that the suite holds -/
def rIsET (K : PySem.W.Frag) (D a : Addr) : List V → Hp → VK → Prop := fun xs H Q => ∃ (tp : Addr) (cs : List V) (us : List Value) (b : Bool),
  xs = [.ref a, .ref tp] ∧ H tp = some (.tup cs) ∧ Paired ClsV cs us ∧ PySem.W.kitAny K (.ref D) us = some b ∧ Q (.bl b) H
theorem call_isET {a D : Addr} {oe : Obj} {pn : List (Addr × Obj)} (C : ExcC X.K D) (hz : Zc (.ref D) none oe) (hf : ∃ vs, oe.data = .fields vs) :
    CallR (X.suite a ((a, oe) :: pn)) (.builtin "isinstance") (rIsET X.K D a) := fun pins s σ H xs us Q I r h => by
  obtain ⟨tp, cs, ws, b, rfl, hT, k, e, q⟩ := h
  obtain ⟨u1, u2, rfl, r1, r2⟩ := vals2 r
  have e1 : u1 = Value.ref a := r1
  have e2 : u2 = Value.ref tp := r2
  subst e1 e2
  obtain ⟨get, _⟩ := I.pin (a, oe) (List.mem_append_left _ List.mem_cons_self)
  have J : PySem.W.InstAt s.heap a oe D none := by
    obtain ⟨vs, hv⟩ := hf
    obtain ⟨oc, od, dt, sl⟩ := oe
    obtain ⟨z1, z2⟩ := hz
    simp only at z1 z2 hv
    subst z1 z2 hv
    exact ⟨get, rfl, rfl, trivial⟩
  obtain ⟨_, its, rv, o, o1, o2, len, o3⟩ := (show ObjOk X.prog X.w H s.heap tp (.tup cs) from I.hok tp _ hT)
  have e4 := ClsV.all k rv
  subst e4
  obtain ⟨oc, od, dt, sl⟩ := o
  simp only at o2 o3
  subst o2 o3
  have Z := PySem.W.handS_kitx_exc (K := X.K) (x := a) (ox := oe) C.hg C.hk C.hs C.hd C.ha C.hn C.ht C.hm
  exact PySem.W.kia_tup Z I.kIn J o1 e (fun z => nomatch z) fun tk => ⟨.bl b, H, I.tok tk, rfl, q⟩
/-- a test of it: j the slot that holds it -/
def tX (m : MC) (ca : Ca) (D a : Addr) (j : Nat) (xe : XE) : TE := fun σ H Q => ∃ x0 b, x0 ∈ m.ex ∧ ca x0 = D ∧ xeB (m.fs.xs x0) xe = some b ∧ σ[j]? = some (some (.ref a)) ∧ ∀ H', Same H H' → Q (.bl b) H'
theorem kitAny_of {K : PySem.W.Frag} {x0 : Str} (cf : Cf K mg ca m) : ∀ {xs : List Str} {b : Bool}, isTB (m.fs.xs x0) xs = some b → PySem.W.kitAny K (.ref (ca x0)) (xs.map fun x => .ref (ca x)) = some b
  | [], b, h => by
    have h : some false = some b := h
    exact h
  | x :: xs, b, h => by
    have h : (match m.fs.xs x0 x, isTB (m.fs.xs x0) xs with
      | some a, some b => some (a || b)
      | _, _ => none) = some b := h
    cases h1 : m.fs.xs x0 x with
    | none => simp only [h1] at h; cases h
    | some b1 =>
      cases h2 : isTB (m.fs.xs x0) xs with
      | none => simp only [h1, h2] at h; cases h
      | some b2 =>
        simp only [h1, h2] at h
        have k1 := (cf.xs _ _ _ h1).2.1
        have k2 := kitAny_of cf h2
        show (match PySem.W.kitOne K (.ref (ca x0)) (.ref (ca x)) with
          | some true => some true
          | some false => PySem.W.kitAny K (.ref (ca x0)) (xs.map fun x => .ref (ca x))
          | none => none) = some b
        rw [k1]
        cases b1 with
        | true => simpa using h
        | false =>
          simp only
          rw [k2]
          simpa using h
section
variable {a D : Addr} {oe : Obj} {pn : List (Addr × Obj)} {j : Nat} {nm : Str}
/-- the classes of a tuple -/
theorem names_ok (sx : SX X ca zc m c n W) (a : Addr) (pn : List (Addr × Obj)) : ∀ {xs : List Str} {es : List Expr}, mXs m xs es = true →
    PA (X.suite a pn) es (fun σ H Q => Q (xs.map fun x => .ref (ca x)) H) ∧ (∀ E : Env, E = X.env → starEach es E = es.map fun e => (false, eval e E))
  | [], [], _ => ⟨pa_nil, fun _ _ => rfl⟩
  | [], _ :: _, h => by cases h
  | x :: xs, [], h => by cases h
  | x :: xs, e :: es, h => by
    cases e <;> first | (exfalso; exact Bool.false_ne_true h) | skip
    rename_i y p
    have h : (decide (x = y) && glB m.sc y && noDbg y && decide (y ∈ m.ex) && mXs m xs es) = true := h
    obtain ⟨h, h5⟩ := ba2 h
    obtain ⟨h, h4⟩ := ba2 h
    obtain ⟨h, h3⟩ := ba2 h
    obtain ⟨h1, h2⟩ := ba2 h
    obtain rfl := of_decide_eq_true h1
    obtain ⟨i1, i2⟩ := names_ok sx a pn h5
    refine ⟨PA.imp (pa_cons (pe_glob (X := X.suite a pn) (v := .ref (ca x)) (sx.gl h2) (sx.ex x (of_decide_eq_true h4)).1 rfl (noDbg_of h3).1) i1 rfl) fun σ H Q q => q, fun E e => ?_⟩
    show (false, eval (.Name x p) E) :: starEach es E = _
    rw [i2 E e]
    rfl
theorem x_ok (sx : SX X ca zc m c n W) (C : ExcC X.K D) (hz : Zc (.ref D) none oe) (hf : ∃ vs, oe.data = .fields vs) (h1 : nameAt m.N j nm = true) (h2 : visB m.sc nm = true) (h3 : noDbg nm = true) :
    ∀ (xe : XE) {e : Expr}, mX m nm xe e = true → PE (X.suite a ((a, oe) :: pn)) e (tX m ca D a j xe)
  | .cbl k, e, h => by
    cases e <;> first | (exfalso; exact Bool.false_ne_true h) | skip
    rename_i v _ _
    cases v <;> first | (exfalso; exact Bool.false_ne_true h) | skip
    rename_i b
    obtain rfl : k = b := eq_of_beq h
    exact PE.imp pe_bl fun σ H Q ⟨x0, b, _, _, e, _, q⟩ => by
      cases e
      exact q H (Same.refl _)
  | .is x, e, h => by
    cases e <;> first | (exfalso; exact Bool.false_ne_true h) | skip
    rename_i fn as ks p
    cases fn <;> first | (exfalso; exact Bool.false_ne_true h) | skip
    match as, ks, h with
    | [.Name y py, .Name z pz], [], h =>
      obtain ⟨h, g8⟩ := ba2 h
      obtain ⟨h, g7⟩ := ba2 h
      obtain ⟨h, g6⟩ := ba2 h
      obtain ⟨h, g5⟩ := ba2 h
      obtain ⟨h, g4⟩ := ba2 h
      obtain ⟨h, g3⟩ := ba2 h
      obtain ⟨g1, g2⟩ := ba2 h
      obtain rfl := of_decide_eq_true g1
      obtain rfl := of_decide_eq_true g2
      obtain rfl := of_decide_eq_true g3
      have hv : PE (X.suite a ((a, oe) :: pn)) (.Name y py) (tVar j) := pe_var (by show X.N[j]? = _; rw [sx.N]; exact of_decide_eq_true h1) (by show Vis X.env.scope y; rw [sx.sc]; exact vis_of h2) (noDbg_of h3).1 (noDbg_of h3).2.1
      have hT : PE (X.suite a ((a, oe) :: pn)) (.Name x pz) (tC (.ref (ca x))) := pe_glob (v := .ref (ca x)) (sx.gl g5) (sx.ex x (of_decide_eq_true g8)).1 rfl (noDbg_of g6).1
      refine PE.imp (pe_callB (call_isE C hz hf) (sx.gl g4) (sx.bl _ (of_decide_eq_true g7)) boot_isi (pa_cons hv (pa_cons hT pa_nil))) fun σ H Q ⟨x0, b, hx, hd, hb, hs, q⟩ => ?_
      subst hd
      refine ⟨.ref a, hs, _, _, b, rfl, fun u r => r, (sx.cf.xs _ _ _ hb).2.1, q H (Same.refl _)⟩
  | .isv, e, h => by
    cases e <;> first | (exfalso; exact Bool.false_ne_true h) | skip
    rename_i fn as ks p
    cases fn <;> first | (exfalso; exact Bool.false_ne_true h) | skip
    match as, ks, h with
    | [.Name y py, .Name z pz], [], h =>
      obtain ⟨h, g7⟩ := ba2 h
      obtain ⟨h, g6⟩ := ba2 h
      obtain ⟨h, g5⟩ := ba2 h
      obtain ⟨h, g4⟩ := ba2 h
      obtain ⟨h, g3⟩ := ba2 h
      obtain ⟨g1, g2⟩ := ba2 h
      obtain rfl := of_decide_eq_true g1
      obtain rfl := of_decide_eq_true g2
      obtain rfl := of_decide_eq_true g3
      have hv : PE (X.suite a ((a, oe) :: pn)) (.Name y py) (tVar j) := pe_var (by show X.N[j]? = _; rw [sx.N]; exact of_decide_eq_true h1) (by show Vis X.env.scope y; rw [sx.sc]; exact vis_of h2) (noDbg_of h3).1 (noDbg_of h3).2.1
      have hT : PE (X.suite a ((a, oe) :: pn)) (.Name "ValueError" pz) (tC (.ty "ValueError")) := pe_bltn (sx.gl g5) (sx.bl _ (of_decide_eq_true g7)) (by decide +kernel) rfl
      refine PE.imp (pe_callB (call_isE C hz hf) (sx.gl g4) (sx.bl _ (of_decide_eq_true g6)) boot_isi (pa_cons hv (pa_cons hT pa_nil))) fun σ H Q ⟨x0, b, hx, hd, hb, hs, q⟩ => ?_
      subst hd
      cases hb
      refine ⟨.ref a, hs, _, _, true, rfl, fun u r => r, (sx.cf.xv _ hx).1, q H (Same.refl _)⟩
  | .isT xs, e, h => by
    cases e <;> first | (exfalso; exact Bool.false_ne_true h) | skip
    rename_i fn as ks p
    cases fn <;> first | (exfalso; exact Bool.false_ne_true h) | skip
    match as, ks, h with
    | [.Name y py, .Tuple es kk pz], [], h =>
      obtain ⟨h, g5⟩ := ba2 h
      obtain ⟨h, g6⟩ := ba2 h
      obtain ⟨h, g4⟩ := ba2 h
      obtain ⟨h, g3⟩ := ba2 h
      obtain ⟨g1, g2⟩ := ba2 h
      obtain rfl := of_decide_eq_true g1
      obtain rfl := of_decide_eq_true g2
      obtain ⟨i1, _⟩ := names_ok sx a ((a, oe) :: pn) g5
      have hv : PE (X.suite a ((a, oe) :: pn)) (.Name y py) (tVar j) := pe_var (by show X.N[j]? = _; rw [sx.N]; exact of_decide_eq_true h1) (by show Vis X.env.scope y; rw [sx.sc]; exact vis_of h2) (noDbg_of h3).1 (noDbg_of h3).2.1
      refine PE.imp (pe_callB (call_isET C hz hf) (sx.gl g3) (sx.bl _ (of_decide_eq_true g4)) boot_isi (pa_cons hv (pa_cons (pe_tup i1) pa_nil))) fun σ H Q ⟨x0, b, hx, hd, hb, hs, q⟩ => ?_
      subst hd
      have small : (xs.map fun x => V.ref (ca x)).length ≤ sizeLine := by
        rw [List.length_map]
        have := of_decide_eq_true g6
        exact Nat.le_trans (Nat.le_of_lt this) (by decide)
      have pr : ∀ ys : List Str, Paired ClsV (ys.map fun x => V.ref (ca x)) (ys.map fun x => Value.ref (ca x)) := fun ys => by
        induction ys with
        | nil => exact .nil
        | cons y ys ih => exact .cons (.own _) ih
      exact ⟨.ref a, hs, small, fun tp hp => ⟨tp, _, _, b, rfl, upd_same, pr xs, kitAny_of sx.cf hb, q _ (same_new hp)⟩⟩
  | .not x, e, h => by
    cases e <;> first | (exfalso; exact Bool.false_ne_true h) | skip
    rename_i o _ _
    cases o <;> first | (exfalso; exact Bool.false_ne_true h) | skip
    refine PE.imp (pe_not (x_ok sx C hz hf h1 h2 h3 x h)) fun σ H Q ⟨x0, b, hx, hd, hb, hs, q⟩ => ?_
    have hb : (xeB (m.fs.xs x0) x).map (!·) = some b := hb
    cases q1 : xeB (m.fs.xs x0) x with
    | none => rw [q1] at hb; cases hb
    | some b1 =>
      rw [q1] at hb
      cases hb
      exact ⟨x0, b1, hx, hd, q1, hs, fun H' s => ⟨b1, rfl, q H' s⟩⟩
  | .and x y, e, h => by
    cases e <;> first | (exfalso; exact Bool.false_ne_true h) | skip
    rename_i op vs p
    cases op <;> first | (exfalso; cases vs with | nil => exact Bool.false_ne_true h | cons x r => cases r <;> exact Bool.false_ne_true h) | skip
    have go : ∀ {e1 e2 : Expr} {r : List Expr}, PE (X.suite a ((a, oe) :: pn)) e1 (tX m ca D a j x) → PE (X.suite a ((a, oe) :: pn)) (.BoolOp .And (e2 :: r) p) (tX m ca D a j y) → PE (X.suite a ((a, oe) :: pn)) (.BoolOp .And (e1 :: e2 :: r) p) (tX m ca D a j (.and x y)) := fun {e1 e2 r} k1 k2 => by
      refine PE.imp (pe_and k1 k2) fun σ H Q ⟨x0, b, hx, hd, hb, hs, q⟩ => ?_
      have hb : (match xeB (m.fs.xs x0) x, xeB (m.fs.xs x0) y with
        | some x, some y => some (x && y)
        | _, _ => none) = some b := hb
      cases q1 : xeB (m.fs.xs x0) x with
      | none => simp only [q1] at hb; cases hb
      | some b1 =>
        cases q2 : xeB (m.fs.xs x0) y with
        | none => simp only [q1, q2] at hb; cases hb
        | some b2 =>
          simp only [q1, q2] at hb
          cases hb
          refine ⟨x0, b1, hx, hd, q1, hs, fun H' s => ⟨b1, rfl, ?_⟩⟩
          cases b1 with
          | false => exact q H' s
          | true => exact ⟨x0, b2, hx, hd, q2, hs, fun H2 s2 => q H2 (s.trans s2)⟩
    match vs, h with
    | [e1, e2], h =>
      obtain ⟨g1, g2⟩ := ba2 h
      exact go (x_ok sx C hz hf h1 h2 h3 x g1) (pe_one (x_ok sx C hz hf h1 h2 h3 y g2))
    | e1 :: e2 :: e3 :: r, h =>
      obtain ⟨g1, g2⟩ := ba2 h
      exact go (x_ok sx C hz hf h1 h2 h3 x g1) (x_ok sx C hz hf h1 h2 h3 y g2)
theorem xs_ok (sx : SX X ca zc m c n W) (C : ExcC X.K D) (hz : Zc (.ref D) none oe) (hf : ∃ vs, oe.data = .fields vs) (h1 : nameAt m.N j nm = true) (h2 : visB m.sc nm = true) (h3 : noDbg nm = true) :
    ∀ (xs : List XE) {es : List Expr}, mXL m nm xs es = true → PA (X.suite a ((a, oe) :: pn)) es (fun σ H Q => ∃ x0 bs, x0 ∈ m.ex ∧ ca x0 = D ∧ xesB (m.fs.xs x0) xs = some bs ∧ σ[j]? = some (some (.ref a)) ∧ ∀ H', Same H H' → Q (bs.map .bl) H')
  | [], [], _ => PA.imp pa_nil fun σ H Q ⟨x0, bs, _, _, e, _, q⟩ => by
    have e : some [] = some bs := e
    cases e
    exact q H (Same.refl _)
  | [], _ :: _, h => by cases h
  | _ :: _, [], h => by cases h
  | x :: xs, e :: es, h => by
    obtain ⟨g1, g2⟩ := ba2 h
    have hst : starEach (e :: es) (X.suite a ((a, oe) :: pn)).env = (false, eval e (X.suite a ((a, oe) :: pn)).env) :: starEach es (X.suite a ((a, oe) :: pn)).env := by
      cases e <;> first | rfl | (exfalso; cases x <;> exact Bool.false_ne_true g1)
    refine PA.imp (pa_cons (x_ok sx C hz hf h1 h2 h3 x g1) (xs_ok sx C hz hf h1 h2 h3 xs g2) hst) fun σ H Q ⟨x0, bs, hx, hd, hb, hs, q⟩ => ?_
    have hb : (match xeB (m.fs.xs x0) x, xesB (m.fs.xs x0) xs with
      | some a, some b => some (a :: b)
      | _, _ => none) = some bs := hb
    cases q1 : xeB (m.fs.xs x0) x with
    | none => simp only [q1] at hb; cases hb
    | some b1 =>
      cases q2 : xesB (m.fs.xs x0) xs with
      | none => simp only [q1, q2] at hb; cases hb
      | some b2 =>
        simp only [q1, q2] at hb
        cases hb
        exact ⟨x0, b1, hx, hd, q1, hs, fun H' s => ⟨x0, b2, hx, hd, q2, hs, fun H2 s2 => q H2 (s.trans s2)⟩⟩
end
end
end Rj

namespace Rj
open PySem PySem.Spec PyProof.Rows L2
section
variable [Nm] {X : Cx} {ca : Ca} {zc : List (Str × Addr)} {U : Addr → Prop} {F B B' : Hp} {W : WX} {c : Cl} {m : MC} {n : Nat} {g : GZ} {env : List Sl} {σ : L2.St} {H H1 H' : Hp}
theorem xesB_len {is : Str → Option Bool} : ∀ {xs : List XE} {bs : List Bool}, xesB is xs = some bs → bs.length = xs.length
  | [], bs, h => by
    have h : some [] = some bs := h
    cases h
    rfl
  | x :: xs, bs, h => by
    have h : (match xeB is x, xesB is xs with
      | some a, some b => some (a :: b)
      | _, _ => none) = some bs := h
    cases q1 : xeB is x with
    | none => simp only [q1] at h; cases h
    | some b1 =>
      cases q2 : xesB is xs with
      | none => simp only [q1, q2] at h; cases h
      | some b2 =>
        simp only [q1, q2] at h
        cases h
        simp [xesB_len q2]
def wipe1 : Option Nat → L2.St → L2.St
  | some i, σ => σ.set i none
  | none, σ => σ
def set1 (a : Addr) : Option Nat → L2.St → L2.St
  | some i, σ => σ.set i (some (.ref a))
  | none, σ => σ
/-- what the text of a suite is -/
theorem mH_asg {e : Option Nat} {nm : Option Str} {j : Nat} {xe : XE} {suite : List Stmt} (h : mH1 m e nm (.asg j xe) suite = true) : ∃ x px v pos, suite = [.Assign [.Name x px] v pos] ∧ (nameAt m.N j x && locB m.sc x) = true ∧ e ≠ some j ∧
    mHx m xe v nm = true := by
  cases suite with
  | nil => exact absurd h Bool.false_ne_true
  | cons st r =>
    cases r with
    | cons a b => exfalso; cases st <;> first | exact Bool.false_ne_true h | skip
                  rename_i ts v p
                  cases ts <;> first | exact Bool.false_ne_true h | skip
                  rename_i t ts
                  cases t <;> first | exact Bool.false_ne_true h | skip
                  cases ts <;> exact Bool.false_ne_true h
    | nil =>
      cases st <;> first | (exfalso; exact Bool.false_ne_true h) | skip
      rename_i ts v p
      cases ts <;> first | (exfalso; exact Bool.false_ne_true h) | skip
      rename_i t ts
      cases ts with
      | cons a b => exfalso; cases t <;> exact Bool.false_ne_true h
      | nil =>
        cases t <;> first | (exfalso; exact Bool.false_ne_true h) | skip
        obtain ⟨h, g5⟩ := ba2 h
        obtain ⟨h, g4⟩ := ba2 h
        obtain ⟨g12, g3⟩ := ba2 h
        exact ⟨_, _, _, _, rfl, g12, of_decide_eq_true g4, g5⟩
theorem mH_asgL {e : Option Nat} {nm : Option Str} {j : Nat} {xs : List XE} {suite : List Stmt} (h : mH1 m e nm (.asgL j xs) suite = true) : ∃ x px vs pv pos n, suite = [.Assign [.Name x px] (.List vs pv) pos] ∧ nm = some n ∧ (nameAt m.N j x && locB m.sc x) = true ∧ e ≠ some j ∧ xs.length < 100 ∧
    (visB m.sc n && noDbg n && mXL m n xs vs) = true := by
  cases suite with
  | nil => exact absurd h Bool.false_ne_true
  | cons st r =>
    cases st <;> first | (exfalso; exact Bool.false_ne_true h) | skip
    rename_i ts v p
    cases ts <;> first | (exfalso; exact Bool.false_ne_true h) | skip
    rename_i t ts
    cases t <;> first | (exfalso; exact Bool.false_ne_true h) | skip
    cases ts <;> first | (exfalso; exact Bool.false_ne_true h) | skip
    cases v <;> first | (exfalso; exact Bool.false_ne_true h) | skip
    cases r <;> first | (exfalso; exact Bool.false_ne_true h) | skip
    obtain ⟨h, g5⟩ := ba2 h
    obtain ⟨h, g4⟩ := ba2 h
    obtain ⟨h, g9⟩ := ba2 h
    obtain ⟨g12, g3⟩ := ba2 h
    cases nm with
    | none => cases g5
    | some n => exact ⟨_, _, _, _, _, n, rfl, rfl, g12, of_decide_eq_true g4, of_decide_eq_true g9, g5⟩
theorem mH_asgN {e : Option Nat} {nm : Option Str} {j : Nat} {suite : List Stmt} (h : mH1 m e nm (.asgN j) suite = true) : ∃ x px kk pv pos, suite = [.Assign [.Name x px] (.Constant .none kk pv) pos] ∧ (nameAt m.N j x && locB m.sc x) = true ∧ e ≠ some j := by
  cases suite with
  | nil => exact absurd h Bool.false_ne_true
  | cons st r =>
    cases st <;> first | (exfalso; exact Bool.false_ne_true h) | skip
    rename_i ts v p
    cases ts <;> first | (exfalso; exact Bool.false_ne_true h) | skip
    rename_i t ts
    cases t <;> first | (exfalso; exact Bool.false_ne_true h) | skip
    cases ts <;> first | (exfalso; exact Bool.false_ne_true h) | skip
    cases v <;> first | (exfalso; exact Bool.false_ne_true h) | skip
    rename_i k _ _
    cases k <;> first | (exfalso; exact Bool.false_ne_true h) | skip
    cases r <;> first | (exfalso; exact Bool.false_ne_true h) | skip
    obtain ⟨h, g4⟩ := ba2 h
    obtain ⟨g12, g3⟩ := ba2 h
    exact ⟨_, _, _, _, _, rfl, g12, of_decide_eq_true g4⟩
theorem mH_app {e : Option Nat} {nm : Option Str} {j : Nat} {xe : XE} {suite : List Stmt} (h : mH1 m e nm (.app j xe) suite = true) : ∃ x px ap cp vf va vk vp pos n, suite = [.Expr (.Call (.Attribute (.Name x px) "append" ap) [.Call vf va vk vp] [] cp) pos] ∧ nm = some n ∧ nameAt m.N j x = true ∧ visB m.sc x = true ∧ noDbg x = true ∧
    (ap.endLine == cp.line) = true ∧ e ≠ some j ∧ (visB m.sc n && noDbg n && mX m n xe (.Call vf va vk vp)) = true := by
  cases suite with
  | nil => exact absurd h Bool.false_ne_true
  | cons st r =>
    cases st <;> first | (exfalso; exact Bool.false_ne_true h) | skip
    rename_i v p
    cases v <;> first | (exfalso; exact Bool.false_ne_true h) | skip
    rename_i fe as ks cp
    cases fe <;> first | (exfalso; exact Bool.false_ne_true h) | skip
    rename_i o f ap
    cases o <;> first | (exfalso; exact Bool.false_ne_true h) | skip
    cases as <;> first | (exfalso; exact Bool.false_ne_true h) | skip
    rename_i a as
    cases a <;> first | (exfalso; exact Bool.false_ne_true h) | skip
    cases as <;> first | (exfalso; exact Bool.false_ne_true h) | skip
    cases ks <;> first | (exfalso; exact Bool.false_ne_true h) | skip
    cases r <;> first | (exfalso; exact Bool.false_ne_true h) | skip
    obtain ⟨h, g7⟩ := ba2 h
    obtain ⟨h, g6⟩ := ba2 h
    obtain ⟨h, g5⟩ := ba2 h
    obtain ⟨h, g4⟩ := ba2 h
    obtain ⟨h, g3⟩ := ba2 h
    obtain ⟨g1, g2⟩ := ba2 h
    obtain rfl := of_decide_eq_true g4
    cases nm with
    | none => cases g7
    | some n => exact ⟨_, _, _, _, _, _, _, _, _, n, rfl, rfl, g1, g2, g3, g5, of_decide_eq_true g6, g7⟩
theorem mH_raise {e : Option Nat} {nm : Option Str} {y : Str} {suite : List Stmt} (h : mH1 m e nm (.raise y) suite = true) : ∃ (msg : Str) (k : Nat) (p p2 p3 pos : Pos), suite = [.Raise (some (.Call (.Name y p) [.Constant (.str msg) k p2] [] p3)) none pos] ∧ glB m.sc y = true ∧ noDbg y = true ∧ y ∈ m.ex ∧ m.tp = true ∧ e = none := by
  cases suite with
  | nil => exact absurd h Bool.false_ne_true
  | cons st r =>
    cases st <;> first | (exfalso; exact Bool.false_ne_true h) | skip
    rename_i ex cs pos
    match ex, cs, r, h with
    | some (.Call (.Name z p) [.Constant (.str msg) k p2] [] p3), none, [], h =>
      obtain ⟨h, g5⟩ := ba2 h
      obtain ⟨h, g4⟩ := ba2 h
      obtain ⟨h, g3⟩ := ba2 h
      obtain ⟨g1, g2⟩ := ba2 h
      obtain rfl := of_decide_eq_true g1
      obtain ⟨g6, g7⟩ := ba2 g5
      exact ⟨_, _, _, _, _, _, rfl, g2, g3, of_decide_eq_true g4, g6, Option.isNone_iff_eq_none.mp g7⟩
theorem eAt_cases {e : Option Nat} {nm : Option Str} (h : eAt m e nm = true) : (e = none ∧ nm = none) ∨ ∃ i z, e = some i ∧ nm = some z ∧ nameAt m.N i z = true ∧ m.sc.names.lookup z = some .local ∧ noDbg z = true := by
  cases e with
  | none =>
    cases nm with
    | none => exact .inl ⟨rfl, rfl⟩
    | some z => cases h
  | some i =>
    cases nm with
    | none => cases h
    | some z =>
      obtain ⟨h, k3⟩ := ba2 h
      obtain ⟨k1, k2⟩ := ba2 h
      exact .inr ⟨i, z, rfl, rfl, k1, of_decide_eq_true k2, k3⟩
/-- what the longer rows' text is -/
theorem mH_cat {e : Option Nat} {nm : Option Str} {j : Nat} {xs : List XE} {suite : List Stmt} (h : mH1 m e nm (.cat j xs) suite = true) : ∃ x px py vs pv pb pos n, suite = [.Assign [.Name x px] (.BinOp (.Name x py) .Add (.List vs pv) pb) pos] ∧ nm = some n ∧ nameAt m.N j x = true ∧ locB m.sc x = true ∧ visB m.sc x = true ∧ noDbg x = true ∧ xs.length < 100 ∧ e ≠ some j ∧
    (visB m.sc n && noDbg n && mXL m n xs vs) = true := by
  unfold mH1 at h
  split at h <;> first | (exfalso; exact Bool.false_ne_true h) | skip
  all_goals (rename_i heq; first | cases heq | skip)
  obtain ⟨h, g8⟩ := ba2 h
  obtain ⟨h, g7⟩ := ba2 h
  obtain ⟨h, g6⟩ := ba2 h
  obtain ⟨h, g5⟩ := ba2 h
  obtain ⟨h, g4⟩ := ba2 h
  obtain ⟨h, g3⟩ := ba2 h
  obtain ⟨g1, g2⟩ := ba2 h
  obtain rfl := of_decide_eq_true g1
  cases nm with
  | none => cases g8
  | some n => exact ⟨_, _, _, _, _, _, _, n, rfl, rfl, g2, g3, g4, g5, of_decide_eq_true g6, of_decide_eq_true g7, g8⟩
theorem mH_sum2 {e : Option Nat} {nm : Option Str} {j : Nat} {a b : XE} {suite : List Stmt} (h : mH1 m e nm (.sum2 j a b) suite = true) : ∃ x px p1 va p2 kk p3 p4 vb p5 p6 pb pos n, suite = [.Assign [.Name x px] (.BinOp (.Call (.Name "int" p1) [va] [] p2) .Add (.BinOp (.Constant (.int 2) kk p3) .Mult (.Call (.Name "int" p4) [vb] [] p5) p6) pb) pos] ∧ nm = some n ∧ (nameAt m.N j x && locB m.sc x) = true ∧ noDbg x = true ∧ e ≠ some j ∧ glB m.sc "int" = true ∧ ("int" : Str) ∈ m.bl ∧
    (visB m.sc n && noDbg n && mX m n a va && mX m n b vb) = true := by
  unfold mH1 at h
  split at h <;> first | (exfalso; exact Bool.false_ne_true h) | skip
  all_goals (rename_i heq; first | cases heq | skip)
  obtain ⟨h, g9⟩ := ba2 h
  obtain ⟨h, g8⟩ := ba2 h
  obtain ⟨h, g7⟩ := ba2 h
  obtain ⟨h, g6⟩ := ba2 h
  obtain ⟨h, g5⟩ := ba2 h
  obtain ⟨h, g4⟩ := ba2 h
  obtain ⟨h, g3⟩ := ba2 h
  obtain ⟨g12, g2⟩ := ba2 h
  obtain rfl := of_decide_eq_true g4
  obtain rfl := of_decide_eq_true g5
  obtain rfl := of_decide_eq_true g6
  cases nm with
  | none => cases g9
  | some n => exact ⟨_, _, _, _, _, _, _, _, _, _, _, _, _, n, rfl, rfl, g12, g2, of_decide_eq_true g3, g7, of_decide_eq_true g8, g9⟩
theorem mH_pick {e : Option Nat} {nm : Option Str} {j i : Nat} {ss : List Str} {a : XE} {suite : List Stmt} (h : mH1 m e nm (.pick j ss i a) suite = true) : ∃ x px es p1 y p2 p3 va p4 p5 p6 pos n, suite = [.Assign [.Name x px] (.Subscript (.List es p1) (.BinOp (.Name y p2) .Mult (.Call (.Name "int" p3) [va] [] p4) p5) p6) pos] ∧ nm = some n ∧ (nameAt m.N j x && locB m.sc x) = true ∧ e ≠ some j ∧ e ≠ some i ∧ nameAt m.N i y = true ∧ visB m.sc y = true ∧ noDbg y = true ∧ glB m.sc "int" = true ∧ ("int" : Str) ∈ m.bl ∧ ss.length < 100 ∧ mStrs ss es = true ∧
    (visB m.sc n && noDbg n && mX m n a va) = true := by
  unfold mH1 at h
  split at h <;> first | (exfalso; exact Bool.false_ne_true h) | skip
  all_goals (rename_i heq; first | cases heq | skip)
  obtain ⟨h, g13⟩ := ba2 h
  obtain ⟨h, g12⟩ := ba2 h
  obtain ⟨h, g11⟩ := ba2 h
  obtain ⟨h, g10⟩ := ba2 h
  obtain ⟨h, g9⟩ := ba2 h
  obtain ⟨h, g8⟩ := ba2 h
  obtain ⟨h, g7⟩ := ba2 h
  obtain ⟨h, g6⟩ := ba2 h
  obtain ⟨h, g5⟩ := ba2 h
  obtain ⟨h, g4⟩ := ba2 h
  obtain ⟨h, g3⟩ := ba2 h
  obtain ⟨g12', g2⟩ := ba2 h
  obtain rfl := of_decide_eq_true g8
  cases nm with
  | none => cases g13
  | some n => exact ⟨_, _, _, _, _, _, _, _, _, _, _, _, n, rfl, rfl, g12', of_decide_eq_true g3, of_decide_eq_true g4, g5, g6, g7, g9, of_decide_eq_true g10, of_decide_eq_true g11, g12, g13⟩
theorem mH_seq {e : Option Nat} {nm : Option Str} {a b : Hd} {suite : List Stmt} (h : mH m e nm (.seq a b) suite = true) : ∃ s s2 r, suite = s :: s2 :: r ∧ mH1 m e nm a [s] = true ∧ a.isR = false ∧ b.isR = false ∧ mH m e nm b (s2 :: r) = true := by
  match suite, h with
  | s :: s2 :: r, h =>
    have h : (mH1 m e nm a [s] && (!a.isR && (!b.isR && mH m e nm b (s2 :: r)))) = true := h
    obtain ⟨h1, h2⟩ := ba2 h
    obtain ⟨h3, h4⟩ := ba2 h2
    obtain ⟨h5, h6⟩ := ba2 h4
    exact ⟨s, s2, r, rfl, h1, by simpa using h3, by simpa using h5, h6⟩
  | [s], h => cases s <;> exact absurd h Bool.false_ne_true
  | [], h => exact absurd h Bool.false_ne_true
theorem mH_base {e : Option Nat} {nm : Option Str} {h : Hd} {suite : List Stmt} (hh : ∀ a b, h ≠ .seq a b) : mH m e nm h suite = mH1 m e nm h suite := by
  cases h <;> first | rfl | exact absurd rfl (hh _ _)
def Hld (a : Addr) (e : Option Nat) (σ : L2.St) : Prop := ∀ i, e = some i → i < σ.length → σ[i]? = some (some (.ref a))
theorem hold_1 {a : Addr} {e : Option Nat} {σ : L2.St} : Hld a e (set1 a e σ) := fun i h hl => by
  subst h
  have hl : i < (σ.set i (some (V.ref a))).length := hl
  rw [List.length_set] at hl
  show (σ.set i (some (V.ref a)))[i]? = _
  rw [List.getElem?_set]
  simp [hl]
theorem Hld.set {a : Addr} {e : Option Nat} {j : Nat} {v : Option V} (h : Hld a e σ) (hj : e ≠ some j) : Hld a e (σ.set j v) := fun i hi hl => by
  rw [List.length_set] at hl
  rw [List.getElem?_set_ne (fun z => hj (by rw [hi, z]))]
  exact h i hi hl
/-- an except's suite -/
def tsF (m : MC) (ca : Ca) (x0 : Str) : Hd → (L2.St → Hp → Prop) → L2.St → Hp → Prop
  | .asg j xe, P, σ, H => ∃ b, xeB (m.fs.xs x0) xe = some b ∧ ∀ H', Same H H' → P (σ.set j (some (.bl b))) H'
  | .asgL j xs, P, σ, H => ∃ bs, xesB (m.fs.xs x0) xs = some bs ∧ ∀ H' p, Same H H' → H' p = none → P (σ.set j (some (.ref p))) (L2.upd H' p (.lst (bs.map .bl)))
  | .asgN j, P, σ, H => P (σ.set j (some .non)) H
  | .app j xe, P, σ, H => ∃ b, xeB (m.fs.xs x0) xe = some b ∧ ∃ p xs, σ[j]? = some (some (.ref p)) ∧ H p = some (.lst xs) ∧ xs.length < sizeLine ∧ ∀ H', Same H H' → P σ (L2.upd H' p (.lst (xs ++ [.bl b])))
  | .raise _, _, _, _ => False
  | .asgS _ _, _, _, _ => False
  | .cat j xs, P, σ, H => ∃ bs, xesB (m.fs.xs x0) xs = some bs ∧ ∃ p ys, σ[j]? = some (some (.ref p)) ∧ H p = some (.lst ys) ∧ ys.length + bs.length ≤ sizeLine ∧ ∀ H' q, Same H H' → H' q = none → P (σ.set j (some (.ref q))) (L2.upd H' q (.lst (ys ++ bs.map .bl)))
  | .sum2 j a b, P, σ, H => ∃ k l, xeB (m.fs.xs x0) a = some k ∧ xeB (m.fs.xs x0) b = some l ∧ ∀ H', Same H H' → P (σ.set j (some (.int ((if k then 1 else 0) + 2 * if l then 1 else 0)))) H'
  | .pick j ss i a, P, σ, H => ∃ k, xeB (m.fs.xs x0) a = some k ∧ ∃ z mm y, σ[i]? = some (some (.int z)) ∧ ixN ss.length (z * if k then 1 else 0) = some mm ∧ ss[mm]? = some y ∧ ∀ H', Same H H' → P (σ.set j (some (.str y))) H'
  | .seq a b, P, σ, H => tsF m ca x0 a (fun σ1 H1 => tsF m ca x0 b P σ1 H1) σ H
def tsG (m : MC) (ca : Ca) (e : Option Nat) (h : Hd) (a : Addr) (cls : Value) (d : Option Addr) : TS := fun D σ H => ∃ x0, x0 ∈ m.ex ∧ cls = .ref (ca x0) ∧ d = none ∧ Hld a e σ ∧ tsF m ca x0 h D.nx σ H
def tsH (m : MC) (ca : Ca) (e : Option Nat) (h : Hd) (a : Addr) (cls : Value) (d : Option Addr) : TS := tsG m ca e h a cls d
theorem mH_no {e : Option Nat} {nm : Option Str} {h : Hd} {suite : List Stmt} (hh : (∃ j x, h = .asgS j x) ∨ ∃ a b, h = .seq a b) : mH1 m e nm h suite = false := by
  rcases hh with ⟨j, x, rfl⟩ | ⟨a, b, rfl⟩ <;> (cases suite with
    | nil => rfl
    | cons st r => cases st <;> rfl)
theorem mH1_one {e : Option Nat} {nm : Option Str} {h : Hd} {suite : List Stmt} (hm : mH1 m e nm h suite = true) : ∃ st, suite = [st] := by
  cases h with
  | asg j xe => obtain ⟨_, _, _, _, rfl, _⟩ := mH_asg hm; exact ⟨_, rfl⟩
  | asgL j xs => obtain ⟨_, _, _, _, _, _, rfl, _⟩ := mH_asgL hm; exact ⟨_, rfl⟩
  | asgN j => obtain ⟨_, _, _, _, _, rfl, _⟩ := mH_asgN hm; exact ⟨_, rfl⟩
  | app j xe => obtain ⟨_, _, _, _, _, _, _, _, _, _, rfl, _⟩ := mH_app hm; exact ⟨_, rfl⟩
  | raise y => obtain ⟨_, _, _, _, _, _, rfl, _⟩ := mH_raise hm; exact ⟨_, rfl⟩
  | asgS j x => rw [mH_no (.inl ⟨_, _, rfl⟩)] at hm; cases hm
  | cat j xs => obtain ⟨_, _, _, _, _, _, _, _, rfl, _⟩ := mH_cat hm; exact ⟨_, rfl⟩
  | sum2 j xa xb => obtain ⟨_, _, _, _, _, _, _, _, _, _, _, _, _, _, rfl, _⟩ := mH_sum2 hm; exact ⟨_, rfl⟩
  | pick j ss i xa => obtain ⟨_, _, _, _, _, _, _, _, _, _, _, _, _, rfl, _⟩ := mH_pick hm; exact ⟨_, rfl⟩
  | seq a b => rw [mH_no (.inr ⟨_, _, rfl⟩)] at hm; cases hm
theorem tsF_mono {e : Option Nat} {nm : Option Str} {h : Hd} {suite : List Stmt} {x0 : Str} {a : Addr} {P P' : L2.St → Hp → Prop} (hm : mH1 m e nm h suite = true) (hd : Hld a e σ) (t : tsF m ca x0 h P σ H) (k : ∀ σ1 H1, Hld a e σ1 → P σ1 H1 → P' σ1 H1) : tsF m ca x0 h P' σ H := by
  cases h with
  | asg j xe =>
    obtain ⟨x, px, v, pos, rfl, g12, g4, g5⟩ := mH_asg hm
    obtain ⟨b, q, t⟩ := t
    exact ⟨b, q, fun H' s => k _ _ (hd.set g4) (t H' s)⟩
  | asgL j xs =>
    obtain ⟨x, px, vs, pv, pos, z', rfl, e5, g12, g4, g9, g5⟩ := mH_asgL hm
    obtain ⟨b, q, t⟩ := t
    exact ⟨b, q, fun H' p s hp => k _ _ (hd.set g4) (t H' p s hp)⟩
  | asgN j =>
    obtain ⟨x, px, kk, pv, pos, rfl, g12, g4⟩ := mH_asgN hm
    exact k _ _ (hd.set g4) t
  | app j xe =>
    obtain ⟨b, q, p, xs, t1, t2, t3, t⟩ := t
    exact ⟨b, q, p, xs, t1, t2, t3, fun H' s => k _ _ hd (t H' s)⟩
  | raise y => exact t
  | asgS j x => exact t
  | cat j xs =>
    obtain ⟨x, px, py, vs, pv, pb, pos, z', rfl, e5, g1, g2, g3, g4, g6, g7, g5⟩ := mH_cat hm
    obtain ⟨b, q, p, ys, t1, t2, t3, t⟩ := t
    exact ⟨b, q, p, ys, t1, t2, t3, fun H' p s hp => k _ _ (hd.set g7) (t H' p s hp)⟩
  | sum2 j xa xb =>
    obtain ⟨x, px, p1, va, p2, kk, p3, p4, vb, p5, p6, pb, pos, z', rfl, e5, g12, g2, g3, g4, g6, g5⟩ := mH_sum2 hm
    obtain ⟨b, l, q, q2, t⟩ := t
    exact ⟨b, l, q, q2, fun H' s => k _ _ (hd.set g3) (t H' s)⟩
  | pick j ss i xa =>
    obtain ⟨x, px, es, p1, y, p2, p3, va, p4, p5, p6, pos, z', rfl, e5, g12, g3, g4, g6, g7, g8, g9, g10, g11, g13, g5⟩ := mH_pick hm
    obtain ⟨b, q, z, mm, y, t1, t2, t3, t⟩ := t
    exact ⟨b, q, z, mm, y, t1, t2, t3, fun H' s => k _ _ (hd.set g3) (t H' s)⟩
  | seq a b => rw [mH_no (.inr ⟨_, _, rfl⟩)] at hm; cases hm
theorem noC_sw1 {e : Expr} {tg : Expr} {line : Nat} {E : Env} (h : noC e = true) : swapsWith e (some tg) line E = pure false := by
  cases e <;> first | rfl | (exfalso; exact Bool.false_ne_true h)
theorem strs_ok {Y : Cx} : ∀ {ss : List Str} {es : List Expr}, mStrs ss es = true → PA Y es (fun σ H Q => Q (ss.map .str) H)
  | [], [], _ => PA.imp pa_nil fun σ H Q q => q
  | [], _ :: _, h => by cases h
  | z :: zs, [], h => by cases h
  | z :: zs, e :: es, h => by
    cases e <;> first | (exfalso; exact Bool.false_ne_true h) | skip
    rename_i v p q
    cases v <;> first | (exfalso; exact Bool.false_ne_true h) | skip
    rename_i y
    have h : (decide (z = y) && mStrs zs es) = true := h
    obtain ⟨h1, h2⟩ := ba2 h
    obtain rfl := of_decide_eq_true h1
    exact PA.imp (pa_cons pe_str (strs_ok h2) rfl) fun σ H Q q => q
theorem atI_of2 {α : Type} {xs : List α} {j : Int} {mm : Nat} {v : α} {l : Nat} (hl : xs.length = l) (h : ixN l j = some mm) (e : xs[mm]? = some v) : atI xs j = some v := by
  unfold atI
  rw [hl, h]
  exact e
theorem suite1_ok {a : Addr} {oe : Obj} {pn : List (Addr × Obj)} {cls : Value} {d : Option Addr} {e : Option Nat} {nm : Option Str} {h : Hd} {st : Stmt} (sx : SS X ca zc m c n W) (hz : Zc cls d oe) (hf : ∃ vs, oe.data = .fields vs) (he : eAt m e nm = true) (hm : mH1 m e nm h [st] = true) (hr : h.isR = false) :
    PS (X.suite a ((a, oe) :: pn)) st (tsG m ca e h a cls d) := by
  by_cases hc : ∃ D, cls = .ref D ∧ d = none ∧ ExcC X.K D
  · obtain ⟨D, rfl, rfl, C⟩ := hc
    -- a name's slot is set
    have set : ∀ {i : Nat} {x : Str} {px pos : Pos} {v : Expr} {t : TE}, (nameAt m.N i x && locB m.sc x) = true → PE (X.suite a ((a, oe) :: pn)) v t → noC v = true → PS (X.suite a ((a, oe) :: pn)) (.Assign [.Name x px] v pos) (fun D σ H => t σ H fun w H1 => D.nx (σ.set i (some w)) H1) := fun {i x px pos v t} g hv hn => by
      obtain ⟨g1, g2⟩ := ba2 g
      exact ps_set (X := X.suite a ((a, oe) :: pn)) sx.nd (by show X.N[_]? = _; rw [sx.N]; exact of_decide_eq_true g1) (by show L2.Loc X.env.scope _; rw [sx.sc]; exact loc_of g2) hv (noC_sw1 hn) (sx.ft _ (by rw [sx.sc]; exact loc_of g2))
    have held : ∀ {i : Nat} {z : Str} {σ0 : L2.St}, nameAt m.N i z = true → σ0.length = X.N.length → Hld a (some i) σ0 → σ0[i]? = some (some (V.ref a)) := fun {i z σ0} h1 hl hd => by
      have h2 : m.N[i]? = some z := of_decide_eq_true h1
      rw [sx.N] at hl
      exact hd i rfl (by rw [hl]; exact (List.getElem?_eq_some_iff.mp h2).1)
    have pvar : ∀ {i : Nat} {x : Str} {px : Pos}, nameAt m.N i x = true → visB m.sc x = true → noDbg x = true → PE (X.suite a ((a, oe) :: pn)) (.Name x px) (tVar i) := fun {i x px} g1 g2 g3 => pe_var (by show X.N[_]? = _; rw [sx.N]; exact of_decide_eq_true g1) (by show Vis X.env.scope _; rw [sx.sc]; exact vis_of g2) (noDbg_of g3).1 (noDbg_of g3).2.1
    -- int(isinstance(e, A))
    have pint : ∀ {i : Nat} {z : Str} {xe : XE} {v : Expr} {p1 p2 : Pos}, nameAt m.N i z = true → visB m.sc z = true → noDbg z = true → mX m z xe v = true → glB m.sc "int" = true → ("int" : Str) ∈ m.bl → PE (X.suite a ((a, oe) :: pn)) (.Call (.Name "int" p1) [v] [] p2) (fun σ H Q => ∃ x0 b, x0 ∈ m.ex ∧ ca x0 = D ∧ xeB (m.fs.xs x0) xe = some b ∧ σ[i]? = some (some (.ref a)) ∧ ∀ H', Same H H' → Q (.int (if b then 1 else 0)) H') := fun {i z xe v p1 p2} k1 k2 k3 hx g1 g2 => by
      have hst : starEach [v] (X.suite a ((a, oe) :: pn)).env = (false, eval v (X.suite a ((a, oe) :: pn)).env) :: starEach [] (X.suite a ((a, oe) :: pn)).env := by
        cases v <;> first | rfl | (exfalso; cases xe <;> exact Bool.false_ne_true hx)
      have hpl : (backTo p2 (starEach ([] : List Expr) (X.suite a ((a, oe) :: pn)).env)).any (·.1) = false := rfl
      exact PE.imp (pe_callTy (X := X.suite a ((a, oe) :: pn)) call_int1 (sx.gl g1) (sx.bl _ g2) boot_int (pa_cons (x_ok sx.toSX C hz hf k1 k2 k3 xe hx) pa_nil hst) (by decide) (by decide) hst hpl) fun σ H Q ⟨x0, b, e1, e2, e3, e4, q⟩ => ⟨x0, b, e1, e2, e3, e4, fun H' s => .inr ⟨b, rfl, q H' s⟩⟩
    cases h with
    | asg j xe =>
      obtain ⟨x, px, v, pos, e0, g12, g4, g5⟩ := mH_asg hm
      cases e0
      rcases eAt_cases he with ⟨rfl, rfl⟩ | ⟨i, z, rfl, rfl, k1, k2, k3⟩
      · cases xe <;> first | (exfalso; exact Bool.false_ne_true g5) | skip
        cases v <;> first | (exfalso; exact Bool.false_ne_true g5) | skip
        rename_i b v' _ _
        cases v' <;> first | (exfalso; exact Bool.false_ne_true g5) | skip
        rename_i k
        obtain rfl : b = k := eq_of_beq g5
        refine PS.imp (set (i := j) g12 pe_bl rfl) fun Dd σ H ⟨x0, hx, e1, e2, e3, b', e4, q⟩ => ?_
        have e4 : some b = some b' := e4
        cases e4
        exact q H (Same.refl _)
      · obtain ⟨g5, g8⟩ := ba2 g5
        obtain ⟨g5, g7⟩ := ba2 g5
        obtain ⟨g5, g6⟩ := ba2 g5
        refine ⟨fun pins s σ H Dd I ⟨x0, hx, e1, e2, e3, b, e4, q⟩ => (set (i := j) g12 (x_ok sx.toSX C hz hf k1 g5 g6 xe g8) g7).run pins s σ H Dd I ?_⟩
        have e1 := Value.ref.inj e1
        have hl : σ.length = X.N.length := I.len
        exact ⟨x0, b, hx, e1.symm, e4, held k1 hl e3, q⟩
    | asgL j xs =>
      obtain ⟨x, px, vs, pv, pos, z', e0, e5, g12, g4, g9, g5⟩ := mH_asgL hm
      cases e0
      rcases eAt_cases he with ⟨rfl, rfl⟩ | ⟨i, z, rfl, rfl, k1, k2, k3⟩
      · cases e5
      · cases e5
        obtain ⟨g5, g8⟩ := ba2 g5
        obtain ⟨g5, g6⟩ := ba2 g5
        refine ⟨fun pins s σ H Dd I ⟨x0, hx, e1, e2, e3, bs, e4, q⟩ => (set (i := j) g12 (pe_lst (xs_ok sx.toSX C hz hf k1 g5 g6 xs g8)) rfl).run pins s σ H Dd I ?_⟩
        have e1 := Value.ref.inj e1
        have hl : σ.length = X.N.length := I.len
        exact ⟨x0, bs, hx, e1.symm, e4, held k1 hl e3, fun H' s => ⟨by
          rw [List.length_map, xesB_len e4]
          exact Nat.le_trans (Nat.le_of_lt g9) (by decide), fun p hp => q H' p s hp⟩⟩
    | asgN j =>
      obtain ⟨x, px, kk, pv, pos, e0, g12, g4⟩ := mH_asgN hm
      cases e0
      exact PS.imp (set (i := j) g12 pe_non rfl) fun Dd σ H ⟨x0, hx, e1, e2, e3, q⟩ => q
    | app j xe =>
      obtain ⟨x, px, ap, cp, vf, va, vk, vp, pos, z', e0, e5, g1, g2, g3, gl, g4, g5⟩ := mH_app hm
      cases e0
      rcases eAt_cases he with ⟨rfl, rfl⟩ | ⟨i, z, rfl, rfl, k1, k2, k3⟩
      · cases e5
      · cases e5
        obtain ⟨g5, g8⟩ := ba2 g5
        obtain ⟨g5, g6⟩ := ba2 g5
        refine ⟨fun pins s σ H Dd I ⟨x0, hx, e1, e2, e3, b, e4, p, xs, q1, q2, q3, q⟩ => (ps_expr (pe_bm PySem.F.plainAttrs_list PySem.F.slot_list_append PySem.F.type_list_append mt_append (pvar g1 g2 g3) (pa_cons (x_ok sx.toSX C hz hf k1 g5 g6 xe g8) pa_nil rfl) rfl rfl gl rfl rfl)).run pins s σ H Dd I ?_⟩
        have e1 := Value.ref.inj e1
        have hl : σ.length = X.N.length := I.len
        exact ⟨.ref p, q1, .inl ⟨rfl, xs, .of q2⟩, x0, b, hx, e1.symm, e4, held k1 hl e3, fun H' s => ⟨p, xs, .bl b, rfl, rfl, s _ _ q2, q3, q H' s⟩⟩
    | raise y => cases hr
    | asgS j x => rw [mH_no (.inl ⟨_, _, rfl⟩)] at hm; cases hm
    | cat j xs =>
      obtain ⟨x, px, py, vs, pv, pb, pos, z', e0, e5, g1, g2, g3, g4, g6, g7, g5⟩ := mH_cat hm
      cases e0
      rcases eAt_cases he with ⟨rfl, rfl⟩ | ⟨i, z, rfl, rfl, k1, k2, k3⟩
      · cases e5
      · cases e5
        obtain ⟨g5, g8⟩ := ba2 g5
        obtain ⟨g5, g9⟩ := ba2 g5
        refine ⟨fun pins s σ H Dd I ⟨x0, hx, e1, e2, e3, bs, e4, p, ys, q1, q2, q3, q⟩ => (set (i := j) (by rw [g1, g2]; rfl) (pe_op op_catL (pvar g1 g3 g4) (pe_lst (xs_ok sx.toSX C hz hf k1 g5 g9 xs g8))) rfl).run pins s σ H Dd I ?_⟩
        have e1 := Value.ref.inj e1
        have hl : σ.length = X.N.length := I.len
        refine ⟨.ref p, q1, x0, bs, hx, e1.symm, e4, held k1 hl e3, fun H' s => ⟨by
          rw [List.length_map, xesB_len e4]
          exact Nat.le_trans (Nat.le_of_lt g6) (by decide), fun r hr => ?_⟩⟩
        have s2 : Same H' (L2.upd H' r (.lst (bs.map .bl))) := same_new hr
        have z1 : L2.upd H' r (.lst (bs.map .bl)) r = some (.lst (bs.map .bl)) := by unfold L2.upd; rw [if_pos rfl]
        exact ⟨p, r, ys, bs.map .bl, rfl, rfl, .of (s2 _ _ (s _ _ q2)), .of z1, by rw [List.length_map]; exact q3, fun t ht => q _ t (s.trans s2) ht⟩
    | sum2 j xa xb =>
      obtain ⟨x, px, p1, va, p2, kk, p3, p4, vb, p5, p6, pb, pos, z', e0, e5, g12, g2, g3, g4, g6, g5⟩ := mH_sum2 hm
      cases e0
      rcases eAt_cases he with ⟨rfl, rfl⟩ | ⟨i, z, rfl, rfl, k1, k2, k3⟩
      · cases e5
      · cases e5
        obtain ⟨g5, g9⟩ := ba2 g5
        obtain ⟨g5, g8⟩ := ba2 g5
        obtain ⟨g5, g7⟩ := ba2 g5
        refine ⟨fun pins s σ H Dd I ⟨x0, hx, e1, e2, e3, b, l, e4, e6, q⟩ => (set (i := j) g12 (pe_op op_add (pint k1 g5 g7 g8 g4 g6) (pe_op op_mulM pe_int (pint k1 g5 g7 g9 g4 g6))) rfl).run pins s σ H Dd I ?_⟩
        have e1 := Value.ref.inj e1
        have hl : σ.length = X.N.length := I.len
        have hh := held k1 hl e3
        refine ⟨x0, b, hx, e1.symm, e4, hh, fun H' s => ⟨x0, l, hx, e1.symm, e6, hh, fun H2 s2 => ⟨_, _, rfl, rfl, .inr (.inl (by decide)), _, _, rfl, rfl, q H2 (s.trans s2)⟩⟩⟩
    | pick j ss i xa =>
      obtain ⟨x, px, es, p1, y, p2, p3, va, p4, p5, p6, pos, z', e0, e5, g12, g3, g4, g6, g7, g8, g9, g10, g11, g13, g5⟩ := mH_pick hm
      cases e0
      rcases eAt_cases he with ⟨rfl, rfl⟩ | ⟨i', z, rfl, rfl, k1, k2, k3⟩
      · cases e5
      · cases e5
        obtain ⟨g5, gx⟩ := ba2 g5
        obtain ⟨g5, gd⟩ := ba2 g5
        refine ⟨fun pins s σ H Dd I ⟨x0, hx, e1, e2, e3, b, e4, zz, mm, yy, q1, q2, q3, q⟩ => (set (i := j) g12 (pe_ix ix_list (pe_lst (strs_ok g13)) (pe_op op_mulM (pvar g6 g7 g8) (pint k1 g5 gd gx g9 g10)) (fun o i => rfl)) rfl).run pins s σ H Dd I ?_⟩
        have e1 := Value.ref.inj e1
        have hl : σ.length = X.N.length := I.len
        have hh := held k1 hl e3
        refine ⟨by rw [List.length_map]; exact Nat.le_trans (Nat.le_of_lt g11) (by decide), fun r hr => ⟨.int zz, q1, x0, b, hx, e1.symm, e4, hh, fun H' s => ⟨_, _, rfl, rfl, .inl (by cases b <;> decide), ?_⟩⟩⟩
        have s2 : Same H (L2.upd H r (.lst (ss.map .str))) := same_new hr
        have z1 : L2.upd H r (.lst (ss.map .str)) r = some (.lst (ss.map .str)) := by unfold L2.upd; rw [if_pos rfl]
        exact ⟨r, ss.map .str, _, .str yy, rfl, rfl, .of (s _ _ z1), atI_of2 (by rw [List.length_map]) q2 (by rw [List.getElem?_map, q3]; rfl), q H' (s2.trans s)⟩
    | seq p q => rw [mH_no (.inr ⟨_, _, rfl⟩)] at hm; cases hm
  · exact ⟨fun pins s σ H D I q => by
      obtain ⟨x0, hx, e1, e2, _⟩ := q
      exact absurd ⟨_, e1, e2, (sx.cf.xv x0 hx).2⟩ hc⟩
theorem suite_ok {a : Addr} {oe : Obj} {pn : List (Addr × Obj)} {cls : Value} {d : Option Addr} {e : Option Nat} {nm : Option Str} (sx : SS X ca zc m c n W) (hz : Zc cls d oe) (hf : ∃ vs, oe.data = .fields vs) (he : eAt m e nm = true) : ∀ {h : Hd} {suite : List Stmt}, mH m e nm h suite = true → h.isR = false →
    PSs (X.suite a ((a, oe) :: pn)) suite (tsH m ca e h a cls d) := by
  intro h
  induction h with
  | seq p q _ ih =>
    intro suite hm hr
    obtain ⟨s, s2, r, rfl, h1, h2, hq, h3⟩ := mH_seq hm
    refine PSs.imp (pss_cons (suite1_ok sx hz hf he h1 h2) (ih h3 hq)) fun Dd σ H ⟨x0, hx, e1, e2, e3, t⟩ => ?_
    exact ⟨x0, hx, e1, e2, e3, tsF_mono h1 e3 t fun σ1 H1 hd1 t1 => ⟨x0, hx, e1, e2, hd1, t1⟩⟩
  | _ =>
    intro suite hm hr
    rw [mH_base (fun _ _ => Hd.noConfusion)] at hm
    have h1 := mH1_one hm
    obtain ⟨st, rfl⟩ := h1
    exact pss_one (suite1_ok sx hz hf he hm hr)
theorem SS.tr (sx : SS X ca zc m c n W) {W' : WX} {pn : List (Addr × Obj)} {xe : Value → Shared → Prop} (tk : Takes (X.tr pn xe) W') (po : PassesOwn (model X.prog X.w) X.A X.env xe) : SS (X.tr pn xe) ca zc (m.tr false) c n W' where
  N := sx.N
  sc := sx.sc
  nd := sx.nd
  calm := sx.calm
  room := sx.room
  tk := fun _ => tk
  tkN := fun h => by cases h
  pa := fun h => by cases h
  prg := sx.prg
  fn := sx.fn
  mkr := sx.mkr
  cf := ⟨sx.cf.me, sx.cf.mks, sx.cf.su, sx.cf.at_, sx.cf.sb, sx.cf.ty, sx.cf.xs, sx.cf.xv⟩
  po := po
  ex := sx.ex
  cl := sx.cl
  ini := sx.ini
  bl := sx.bl
  gi := sx.gi
  gs := sx.gs
  fnd := sx.fnd
  nst := sx.nst
  nfo := sx.nfo
  ncl := sx.ncl
  zq := sx.zq
  ft0 := sx.ft0
  ft := sx.ft
  hs := sx.hs
  hf := sx.hf
theorem SS.trN (sx : SS X ca zc m c n W) {W' : WX} {pn : List (Addr × Obj)} {xe : Value → Shared → Prop} (tk : L2N.Takes (X.tr pn xe) W') (po : PassesOwn (model X.prog X.w) X.A X.env xe) : SS (X.tr pn xe) ca zc (m.tr true) c n W' where
  N := sx.N
  sc := sx.sc
  nd := sx.nd
  calm := sx.calm
  room := sx.room
  tk := fun h => by cases h
  tkN := fun _ => tk
  pa := fun h => by cases h
  prg := sx.prg
  fn := sx.fn
  mkr := sx.mkr
  cf := ⟨sx.cf.me, sx.cf.mks, sx.cf.su, sx.cf.at_, sx.cf.sb, sx.cf.ty, sx.cf.xs, sx.cf.xv⟩
  po := po
  ex := sx.ex
  cl := sx.cl
  ini := sx.ini
  bl := sx.bl
  gi := sx.gi
  gs := sx.gs
  fnd := sx.fnd
  nst := sx.nst
  nfo := sx.nfo
  ncl := sx.ncl
  zq := sx.zq
  ft0 := sx.ft0
  ft := sx.ft
  hs := sx.hs
  hf := sx.hf
/-- behind the suite -/
theorem hd1_ok {e : Option Nat} {nm : Option Str} {x0 : Str} (sx : SS X ca zc m c n W) {h : Hd} {suite : List Stmt} (hm : mH1 m e nm h suite = true) (hr : h.isR = false) {e' : Option Nat} {env : List Sl} {σ : L2.St} {H : Hp} {K : En} {P : L2.St → Hp → Prop} (base : RelW (gOf X ca zc) U F B (un1 e' env) (wipe1 e σ) H) (w : wpH m.fs e' x0 env K h)
    (kk : ∀ env' σ' H', RelW (gOf X ca zc) U F B env' (wipe1 e σ') H' → K.nx env' → P σ' H') : tsF m ca x0 h P σ H := by
  have com : ∀ {j : Nat} {v : Option V} {σ : L2.St}, e ≠ some j → wipe1 e (σ.set j v) = (wipe1 e σ).set j v := fun {j v σ} hne => by
    cases e with
    | none => rfl
    | some i =>
      have hij : i ≠ j := fun z => hne (by rw [z])
      show (σ.set j v).set i none = (σ.set i none).set j v
      rw [List.set_comm _ _ (Ne.symm hij)]
  have at_ : ∀ {j : Nat} {v : V} {σ : L2.St}, e ≠ some j → (wipe1 e σ)[j]? = some (some v) → σ[j]? = some (some v) := fun {j v σ} hne e2 => by
    cases e with
    | none => exact e2
    | some i =>
      have hij : i ≠ j := fun z => hne (by rw [z])
      have e2 : (σ.set i none)[j]? = some (some v) := e2
      rw [List.getElem?_set_ne hij] at e2
      exact e2
  have rb : ∀ {env : List Sl} {σ : L2.St} {H' : Hp} (bs : List Bool), RepL (gOf X ca zc) (Rch U F env σ [] true) H' (bs.map D.bl) (bs.map V.bl) := fun {env σ H'} bs => by
    induction bs with
    | nil => exact (rfl : _ = _)
    | cons b bs ih => exact ⟨.bl b, _, rfl, rfl, ih⟩
  have lst : ∀ {env : List Sl} {σ : L2.St} {H H' : Hp} {j : Nat} {p : Addr} (bs : List Bool), RelW (gOf X ca zc) U F B env (wipe1 e σ) H → Same H H' → H' p = none → e ≠ some j → RelW (gOf X ca zc) U F B (env.set j (.own (bs.map .bl) true)) (wipe1 e (σ.set j (some (.ref p)))) (L2.upd H' p (.lst (bs.map .bl))) := fun {env σ H H' j p} bs base s hp g4 => by
    rw [com g4]
    have r2 := base.ext s
    exact asg_ok (i := j) (inf := ⟨[], [], true, true⟩) r2 (same_new (o := .lst (bs.map V.bl)) hp) (repI_new r2 (Same.refl _) hp (rb bs))
  cases h with
  | asg j xe =>
    obtain ⟨x, px, v, pos, rfl, g12, g4, g5⟩ := mH_asg hm
    have w : (match xeB (m.fs.xs x0) xe with
      | some b => K.nx ((un1 e' env).set j (.val (.bl b) true))
      | none => False) := w
    cases q : xeB (m.fs.xs x0) xe with
    | none => simp only [q] at w
    | some b =>
      simp only [q] at w
      refine ⟨b, q, fun H' s => kk _ _ _ ?_ w⟩
      rw [com g4]
      exact (base.ext s).setV (rfl : _ = _)
  | asgL j xs =>
    obtain ⟨x, px, vs, pv, pos, z', rfl, e5, g12, g4, g9, g5⟩ := mH_asgL hm
    have w : (match xesB (m.fs.xs x0) xs with
      | some bs => K.nx ((un1 e' env).set j (.own (bs.map .bl) true))
      | none => False) := w
    cases q : xesB (m.fs.xs x0) xs with
    | none => simp only [q] at w
    | some bs =>
      simp only [q] at w
      exact ⟨bs, q, fun H' p s hp => kk _ _ _ (lst bs base s hp g4) w⟩
  | asgN j =>
    obtain ⟨x, px, kx, pv, pos, rfl, g12, g4⟩ := mH_asgN hm
    refine kk _ _ _ ?_ w
    rw [com g4]
    exact base.setV (rfl : _ = _)
  | app j xe =>
    obtain ⟨x, px, ap, cp, vf, va, vk, vp, pos, z', rfl, e5, g1, g2, g3, gl, g4, g5⟩ := mH_app hm
    have w : (match xeB (m.fs.xs x0) xe with
      | some b => ownS (un1 e' env) j fun ds fr => ds.length < sizeLine ∧ K.nx ((un1 e' env).set j (.own (ds ++ [.bl b]) fr))
      | none => False) := w
    cases q : xeB (m.fs.xs x0) xe with
    | none => simp only [q] at w
    | some b =>
      simp only [q] at w
      obtain ⟨ds, fr, p, xs, e1, e2, e3, e4, w1, w2⟩ := own_at base w
      refine ⟨b, q, p, xs, at_ g4 e2, e3, by rw [e4.len]; exact w1, fun H' s => kk _ _ _ ?_ w2⟩
      obtain ⟨p', xs', f1, f2, _, f4⟩ := (base.ext s).own j ds fr e1
      rw [e2] at f1
      cases f1
      have f3 := s _ _ e3
      rw [f2] at f3
      cases f3
      exact own_ok (base.ext s) e1 e2 f2 (RepL.app f4 (RepL.one (rfl : _ = _)))
  | raise y => cases hr
  | asgS j x => rw [mH_no (.inl ⟨_, _, rfl⟩)] at hm; cases hm
  | cat j xs =>
    obtain ⟨x, px, py, vs, pv, pb, pos, z', rfl, e5, g1, g2, g3, g4, g6, g7, g5⟩ := mH_cat hm
    have w : (match xesB (m.fs.xs x0) xs with
      | some bs => ownS (un1 e' env) j fun ds _ => ∃ bs0, boolsOf ds = some bs0 ∧ bs0.length + bs.length ≤ sizeLine ∧ K.nx ((un1 e' env).set j (.own ((bs0 ++ bs).map .bl) true))
      | none => False) := w
    cases q : xesB (m.fs.xs x0) xs with
    | none => simp only [q] at w
    | some bs =>
      simp only [q] at w
      obtain ⟨ds, fr, p, ys, e1, e2, e3, e4, bs0, w1, w2, w3⟩ := own_at base w
      have ey : ys = bs0.map V.bl := RepL.boolsOf w1 e4
      subst ey
      refine ⟨bs, q, p, _, at_ g7 e2, e3, by rw [List.length_map]; exact w2, fun H' r s hp => kk _ _ _ ?_ w3⟩
      rw [← List.map_append]
      exact lst (bs0 ++ bs) base s hp g7
  | sum2 j xa xb =>
    obtain ⟨x, px, p1, va, p2, kx, p3, p4, vb, p5, p6, pb, pos, z', rfl, e5, g12, g2, g3, g4, g6, g5⟩ := mH_sum2 hm
    have w : (match xeB (m.fs.xs x0) xa, xeB (m.fs.xs x0) xb with
      | some k, some l => K.nx ((un1 e' env).set j (.val (.int ((if k then 1 else 0) + 2 * if l then 1 else 0)) true))
      | _, _ => False) := w
    cases q : xeB (m.fs.xs x0) xa with
    | none => simp only [q] at w
    | some b =>
      cases q2 : xeB (m.fs.xs x0) xb with
      | none => simp only [q, q2] at w
      | some l =>
        simp only [q, q2] at w
        refine ⟨b, l, q, q2, fun H' s => kk _ _ _ ?_ w⟩
        rw [com g3]
        exact (base.ext s).setV (rfl : _ = _)
  | pick j ss i xa =>
    obtain ⟨x, px, es, p1, y, p2, p3, va, p4, p5, p6, pos, z', rfl, e5, g12, g3, g4, g6, g7, g8, g9, g10, g11, g13, g5⟩ := mH_pick hm
    have w : (match xeB (m.fs.xs x0) xa with
      | some k => ∃ z u, (un1 e' env)[i]? = some (.val (.int z) u) ∧ ∃ mm y, ixN ss.length (z * if k then 1 else 0) = some mm ∧ ss[mm]? = some y ∧ K.nx ((un1 e' env).set j (.val (.str y) true))
      | none => False) := w
    cases q : xeB (m.fs.xs x0) xa with
    | none => simp only [q] at w
    | some b =>
      simp only [q] at w
      obtain ⟨z, u, w1, mm, yy, w2, w3, w4⟩ := w
      obtain ⟨v, f1, f2⟩ : ∃ v, (wipe1 e σ)[i]? = some (some v) ∧ v = .int z := by
        have := base.slot i _ w1
        obtain ⟨v, f1, f2⟩ := this
        exact ⟨v, f1, f2⟩
      subst f2
      refine ⟨b, q, z, mm, yy, at_ g4 f1, w2, w3, fun H' s => kk _ _ _ ?_ w4⟩
      rw [com g3]
      exact (base.ext s).setV (rfl : _ = _)
  | seq a b => rw [mH_no (.inr ⟨_, _, rfl⟩)] at hm; cases hm
theorem hdF_ok {e : Option Nat} {nm : Option Str} {x0 : Str} (sx : SS X ca zc m c n W) : ∀ {h : Hd} {suite : List Stmt}, mH m e nm h suite = true → h.isR = false → ∀ {e' : Option Nat} {env : List Sl} {σ : L2.St} {H : Hp} {K : En} {P : L2.St → Hp → Prop}, RelW (gOf X ca zc) U F B (un1 e' env) (wipe1 e σ) H → wpH m.fs e' x0 env K h →
    (∀ env' σ' H', RelW (gOf X ca zc) U F B env' (wipe1 e σ') H' → K.nx env' → P σ' H') → tsF m ca x0 h P σ H := by
  intro h
  induction h with
  | seq p q _ ih =>
    intro suite hm hr e' env σ H K P base w kk
    obtain ⟨s, s2, r, rfl, h1, h2, hq, h3⟩ := mH_seq hm
    exact hd1_ok (K := { K with nx := fun env1 => wpH m.fs none x0 env1 K q }) sx h1 h2 base w fun env' σ' H' r1 w1 => ih h3 hq (e' := none) r1 w1 kk
  | _ =>
    intro suite hm hr e' env σ H K P base w kk
    rw [mH_base (fun _ _ => Hd.noConfusion)] at hm
    exact hd1_ok sx hm hr base w kk
theorem hd_ok {e : Option Nat} {nm : Option Str} {h : Hd} {suite : List Stmt} {x0 : Str} {K : En} {Dd D' : Ends} {a : Addr} (sx : SS X ca zc m c n W) (ok : KOk (gOf X ca zc) U F B W K Dd) (r : RelW (gOf X ca zc) U F B env σ H) (hx : x0 ∈ m.ex) (hm : mH m e nm h suite = true) (hr : h.isR = false) (w : wpH m.fs e x0 env K h)
    (hD : ∀ σ' H', Dd.nx (wipe1 e σ') H' → D'.nx σ' H') : tsH m ca e h a (.ref (ca x0)) none D' (set1 a e σ) H := by
  have base : RelW (gOf X ca zc) U F B (un1 e env) (wipe1 e (set1 a e σ)) H := by
    cases e with
    | none => exact r
    | some i =>
      show RelW (gOf X ca zc) U F B (env.set i .un) ((σ.set i (some (.ref a))).set i none) H
      rw [List.set_set]
      exact r.setU
  exact ⟨x0, hx, rfl, rfl, hold_1, hdF_ok sx hm hr base w fun env' σ' H' r1 w1 => hD _ _ (ok.nx _ _ _ w1 r1)⟩
theorem st_try {body suite : List Stmt} {x : Str} {py p2 pos : Pos} {nm : Option Str} {e : Option Nat} {h : Hd} {ib : Ss} (sx : SS X ca zc m c n W) (hq : m.q = false) (hg : glB m.sc x = true) (hd : noDbg x = true) (hx : x ∈ m.ex) (he : eAt m e nm = true) (hm : mH m e nm h suite = true)
    (hb : ∀ (W' : WX) (pn : List (Addr × Obj)) (xe : Value → Shared → Prop), SS (X.tr pn xe) ca zc (m.tr h.isR) c n W' → ∀ U F B, PSs (X.tr pn xe) body (rdSs (gOf X ca zc) U F B W' c ib)) (U F B) :
    PS X (.Try body [.ExceptHandler (some (.Name x py)) nm suite p2] [] [] pos) (rdSt (gOf X ca zc) U F B W c (.try ib x e h)) := by
  have hn : Names X x (.ref (ca x)) := ⟨sx.gl hg, (noDbg_of hd).1, .inl (sx.ex x hx).1⟩
  obtain ⟨b0, rest, rfl⟩ : ∃ b0 rest, suite = b0 :: rest := by
    cases suite with
    | nil => exfalso; cases h <;> exact Bool.false_ne_true hm
    | cons b r => exact ⟨b, r, rfl⟩
  cases hr : h.isR with
  | true =>
    cases h with
    | asg j xe => cases hr
    | asgS j xe => cases hr
    | cat j xe => cases hr
    | seq j xe => cases hr
    | sum2 j xe xb => cases hr
    | pick j ss i xe => cases hr
    | asgL j xs => cases hr
    | asgN j => cases hr
    | app j xe => cases hr
    | raise y =>
      obtain ⟨msg, k, p1, p3, p4, pos2, es, g2, g3, g4, g5, rfl⟩ := mH_raise (by rw [mH_base (fun _ _ => Hd.noConfusion)] at hm; exact hm)
      have hnm : nm = none := by
        cases nm with
        | none => rfl
        | some z => cases he
      subst hnm
      obtain ⟨e1, e2, e3, e4, e5⟩ := sx.ex y g4
      refine PS.imp (L2H.ps_try_onlyX sx.hs sx.hf hn (sx.pa g5) (sx.tk hq) (tb := fun W' => rdSs (gOf X ca zc) U F B W' c ib) (ts := fun a cls d D σ H => W (.ref (ca y)) none σ H) (fun W' pn xe tkN _ po => hb W' pn xe (sx.trN tkN po) U F B) (fun a oe cls d pn hz hf tkS hot => ?_)) fun Dd σ H ⟨env, K, rl, w, ok⟩ => ?_
      · rw [es]
        exact pss_one (L2H.ps_raiseH hot tkS (L2N.pmk_own PySem.F.excBase_ValueError e2 e1 e3 (raises_own e4 e5) (sx.gl g2) (noDbg_of g3).1))
      · refine ⟨env, _, rl, w, ok.nx, ok.rt, ok.bk, ok.ct, fun z env' σ' H' q r => ?_⟩
        have q : (match c.prg.xs z x with
          | some true => K.ex y env'
          | some false => K.ex z env'
          | none => False) := q
        rw [sx.prg] at q
        cases q1 : m.fs.xs z x with
        | none => simp only [q1] at q
        | some b =>
          obtain ⟨f1, f2, f3⟩ := sx.cf.xs _ _ _ q1
          refine ⟨b, f1, fun hb a ha => ?_, fun hb => ?_⟩
          · subst hb
            simp only [q1] at q
            exact ok.ex _ _ _ _ q r
          · subst hb
            simp only [q1] at q
            exact ok.ex _ _ _ _ q r
  | false =>
  rw [hr] at hb
  cases e with
  | none =>
    have hnm : nm = none := by
      cases nm with
      | none => rfl
      | some z => cases he
    subst hnm
    refine PS.imp (ps_try_only sx.hs sx.hf hn (sx.tk hq) (tb := fun W' => rdSs (gOf X ca zc) U F B W' c ib) (ts := tsH m ca none h) (fun W' pn xe tk po => hb W' pn xe (sx.tr tk po) U F B) (fun a oe cls d pn hz hf => suite_ok sx hz hf he hm hr)) fun Dd σ H ⟨env, K, rl, w, ok⟩ => ?_
    refine ⟨env, _, rl, w, ok.nx, ok.rt, ok.bk, ok.ct, fun y env' σ' H' q r => ?_⟩
    have q : (match c.prg.xs y x with
      | some true => wpH c.prg none y env' K h
      | some false => K.ex y env'
      | none => False) := q
    rw [sx.prg] at q
    cases q1 : m.fs.xs y x with
    | none => simp only [q1] at q
    | some b =>
      obtain ⟨f1, f2, f3⟩ := sx.cf.xs _ _ _ q1
      refine ⟨b, f1, fun hb a ha => ?_, fun hb => ?_⟩
      · subst hb
        simp only [q1] at q
        exact hd_ok (D' := Dd) sx ok r f3 hm hr q fun _ _ z => z
      · subst hb
        simp only [q1] at q
        exact ok.ex _ _ _ _ q r
  | some i =>
    cases nm with
    | none => cases he
    | some z =>
      obtain ⟨he', k3⟩ := ba2 he
      obtain ⟨k1, k2⟩ := ba2 he'
      have kl : X.env.kindOf z = some .local := by
        show X.env.scope.names.lookup z = _
        rw [sx.sc]
        exact of_decide_eq_true k2
      refine PS.imp (ps_try_as sx.hs sx.hf sx.nd (by rw [sx.N]; exact of_decide_eq_true k1) kl hn (sx.tk hq) (tb := fun W' => rdSs (gOf X ca zc) U F B W' c ib) (ts := tsH m ca (some i) h) (fun W' pn xe tk po => hb W' pn xe (sx.tr tk po) U F B) (fun a oe cls d pn hz hf => suite_ok sx hz hf he hm hr)) fun Dd σ H ⟨env, K, rl, w, ok⟩ => ?_
      refine ⟨env, _, rl, w, ok.nx, ok.rt, ok.bk, ok.ct, fun y env' σ' H' q r => ?_⟩
      have q : (match c.prg.xs y x with
        | some true => wpH c.prg (some i) y env' K h
        | some false => K.ex y env'
        | none => False) := q
      rw [sx.prg] at q
      cases q1 : m.fs.xs y x with
      | none => simp only [q1] at q
      | some b =>
        obtain ⟨f1, f2, f3⟩ := sx.cf.xs _ _ _ q1
        refine ⟨b, f1, fun hb a ha => ?_, fun hb => ?_⟩
        · subst hb
          simp only [q1] at q
          exact hd_ok sx ok r f3 hm hr q fun _ _ z => z
        · subst hb
          simp only [q1] at q
          exact ok.ex _ _ _ _ q r
end
end Rj

namespace Rj
open PySem PySem.Spec PyProof.Rows L2
section
variable [Nm] {X : Cx} {ca : Ca} {zc : List (Str × Addr)} {U : Addr → Prop} {F B B' : Hp} {W : WX} {c : Cl} {m : MC} {n : Nat} {g : GZ} {env : List Sl} {σ : L2.St} {H H1 H' : Hp}
theorem ex_put {i : Nat} {s t : Sl} (hi : env[i]? = some s) (h : ∀ v a, OwA t v a → OwA s v a) {a : Addr} (z : Ex (env.set i t) σ a) : Ex env σ a := by
  obtain ⟨j, u, w, q1, q2, q3⟩ := z
  by_cases hj : i = j
  · subst hj
    rw [List.getElem?_set] at q1
    simp only [if_true] at q1
    split at q1
    · cases q1
      exact ⟨i, _, w, hi, q2, h _ _ q3⟩
    · cases q1
  · rw [List.getElem?_set_ne hj] at q1
    exact ⟨j, u, w, q1, q2, q3⟩
theorem set_at {i : Nat} {s t : Sl} (hi : env[i]? = some s) : (env.set i t)[i]? = some t := by
  have hil : i < env.length := (List.getElem?_eq_some_iff.mp hi).1
  rw [List.getElem?_set]
  simp [hil]
/-! ### dicts -/
theorem dic_at {i : Nat} {k : List Key → List D → Bool → Prop} (r : RelW g U F B env σ H) (w : dicS (env.getD i .un) k) : ∃ ks ds fr p kvs, env[i]? = some (.dic ks ds fr) ∧ σ[i]? = some (some (.ref p)) ∧ H p = some (.dK kvs) ∧ kvs.map (·.1) = ks ∧ RepL g (Ok1 U F env σ fr) H ds (kvs.map (·.2)) ∧ k ks ds fr := by
  cases e : env.getD i .un <;> rw [e] at w <;> first | exact w.elim | skip
  rename_i ks ds fr
  have ei := of_getD e (by intro z; cases z)
  obtain ⟨p, kvs, hv, hp, hk, hb, hl⟩ := r.slot i _ ei
  exact ⟨ks, ds, fr, p, kvs, ei, hv, hp, hk, hl, w⟩
theorem st_dnw {i : Nat} {x : Str} {px pd pos : Pos} (sx : SS X ca zc m c n W) (h1 : nameAt m.N i x = true) (h2 : locB m.sc x = true) (U F B) :
    PS X (.Assign [.Name x px] (.Dict [] [] pd) pos) (rdSt (gOf X ca zc) U F B W c (.dnw i)) := by
  refine PS.imp (ps_set sx.nd (by rw [sx.N]; exact of_decide_eq_true h1) (by rw [sx.sc]; exact loc_of h2) pe_dnewK rfl (sx.ft x (by rw [sx.sc]; exact loc_of h2))) fun Dd σ H ⟨env, K, rl, w, ok⟩ => ?_
  intro p hp
  refine ok.nx _ _ _ w (rl.setNew (same_new hp) (fun a z => ?_) (.inl fun _ _ _ _ e => nomatch e) fun hl => ⟨p, [], by rw [List.getElem?_set]; simp [← rl.len, hl], upd_same, rfl, ⟨rl.bh.free hp, rl.uf p hp⟩, rfl⟩)
  have z : some (V.ref p) = some (.ref a) := z
  cases z
  exact hp
theorem RepL.upto {A : Addr → Prop} {H : Hp} {d : D} {v : V} {k : Key} {g : G} (h : Rep g A H d v) : ∀ {kvs : List (Key × V)} {ds : List D}, RepL g A H ds (kvs.map (·.2)) → RepL g A H (((kvs.map (·.1)).zip ds).map fun p => if p.1 = k then d else p.2) ((kvs.map fun kv => if kv.1 = k then (kv.1, v) else kv).map (·.2))
  | [], ds, hl => by
    cases ds with
    | nil => exact rfl
    | cons a b =>
      obtain ⟨_, _, e, _⟩ := hl
      cases e
  | p :: kvs, ds, hl => by
    cases ds with
    | nil =>
      have hl : _ = [] := hl
      cases hl
    | cons d0 ds =>
      obtain ⟨u, r, e, h1, h2⟩ := hl
      have e : p.2 :: kvs.map (·.2) = u :: r := e
      cases e
      refine ⟨(if p.1 = k then (p.1, v) else p).2, _, rfl, ?_, RepL.upto h h2⟩
      show Rep g A H (if p.1 = k then d else d0) _
      by_cases hk : p.1 = k
      · rw [if_pos hk, if_pos hk]
        exact h
      · rw [if_neg hk, if_neg hk]
        exact h1
theorem put_ok {A : Addr → Prop} {H : Hp} {d : D} {v : V} {k : Key} {g : G} {kvs : List (Key × V)} {ds : List D} (h : Rep g A H d v) (hl : RepL g A H ds (kvs.map (·.2))) :
    (putK kvs k v).map (·.1) = (dicPut (kvs.map (·.1)) ds k d).1 ∧ RepL g A H (dicPut (kvs.map (·.1)) ds k d).2 ((putK kvs k v).map (·.2)) := by
  have e : hasK (kvs.map (·.1)) k = kvs.any fun kv => decide (kv.1 = k) := by
    unfold hasK
    rw [List.any_map]
    rfl
  unfold putK dicPut
  rw [e]
  by_cases hb : (kvs.any fun kv => decide (kv.1 = k)) = true
  · rw [if_pos hb, if_pos hb]
    refine ⟨?_, RepL.upto h hl⟩
    rw [List.map_map]
    apply List.map_congr_left
    intro p _
    show (if p.1 = k then (p.1, v) else p).1 = p.1
    split <;> rfl
  · rw [if_neg hb, if_neg hb]
    rw [List.map_append, List.map_append]
    exact ⟨rfl, RepL.app hl (RepL.one h)⟩
theorem st_dset {i : Nat} {x : Str} {px p2 pos : Pos} {y e : Expr} {ik ie : E} (sx : SS X ca zc m c n W) (h1 : nameAt m.N i x = true) (h2 : visB m.sc x = true) (h3 : noDbg x = true) (hp : plainIx y = true) (hc : noC e = true) (hk : ∀ U F B, PE X y (rdE (gOf X ca zc) U F B W c ik)) (he : ∀ U F B, PE X e (rdE (gOf X ca zc) U F B W c ie)) (U F B) :
    PS X (.Assign [.Subscript (.Name x px) y p2] e pos) (rdSt (gOf X ca zc) U F B W c (.dset i ik ie)) := by
  have hu := sx.hu
  have hs : swapsWith e (some (.Subscript (.Name x px) y p2)) pos.line X.env = pure false := by
    cases e <;> first | rfl | (exfalso; exact Bool.false_ne_true hc)
  refine PS.imp (ps_dput (by omega) (pe_nm sx h1 h2 h3) (hk U F B) (he U F B) hs) fun Dd σ H ⟨env, K, rl, w, ok⟩ => ?_
  obtain ⟨ks, ds, fr, p, kvs, e1, e2, e3, e4, e5, w⟩ := dic_at rl w
  refine ⟨env, _, _, rl, w, fun d inf v H1 q s z => ?_, ok.exW rl⟩
  refine ⟨.ref p, e2, env, _, _, rl.ext s, q, fun d2 i2 v2 H2 q s2 z2 => ?_, (ok.exW rl).more s⟩
  obtain ⟨kk, rfl, ⟨q1, q2⟩, q3⟩ := keyD_of q (z2.low (rl.ext s))
  have ss := s.trans s2
  have r1 := RelW.frz inf.all (rl.ext ss)
  have ni := not_mem_of q2
  have f5 : (frz inf.all env)[i]? = some (.dic ks ds fr) := by rw [frz_at ni]; exact e1
  obtain ⟨p', kvs', f1, f2, f3, f4, f6⟩ := r1.slot i _ f5
  rw [e2] at f1
  cases f1
  subst f3
  refine ⟨p, _, rfl, DPut.k f2 (by simpa using q1), ok.nx _ _ _ q3 ?_⟩
  have hw : Wr (.dK kvs') := trivial
  have ex : Ex (frz inf.all env) σ p := ⟨i, _, _, f5, e2, rfl⟩
  have np : ∀ {fr : Bool} (a : Addr), Ok1 U F (frz inf.all env) σ fr a → a ≠ p := fun a z e => z.1.2 (by rw [e]; exact ex)
  obtain ⟨k1, k2⟩ := put_ok (k := kk) (A := Ok1 U F (frz inf.all env) σ (fr && inf.fr)) (((z.ext s2).low (rl)).mono fun a y => (by
    have y2 : Ok1 U F (frz inf.all env) σ inf.fr a := y.ok (rl.ext ss) fun i q => q
    exact ⟨y2.1, fun t => y2.2 (ba2 t).2⟩)) (f6.mono fun a y => ⟨y.1, fun t => y.2 (ba2 t).1⟩)
  refine r1.write (t := .dic _ _ _) (H' := L2.upd H2 p (.dK (putK kvs' kk v))) f5 e2 (fun a z => .inl z) (fun a o z e _ => ?_) (fun a e => ?_) (fun a ps e => ⟨ps, ?_⟩) (fun g => g.upd f2 hw trivial) (fun j k v ej _ q ds as f e => ?_) ⟨p, _, e2, upd_same, k1, f4, (k2.upd f2 hw np).mono fun a z => ok1_mono (fun a => ex_put (t := .dic (dicPut (kvs'.map (·.1)) ds kk d).1 (dicPut (kvs'.map (·.1)) ds kk d).2 (fr && inf.fr)) f5 fun v a z => z) z⟩
  · rw [upd_ne fun e => z (by rw [e]; rfl)]
    exact e
  · by_cases h : a = p
    · subst h
      rw [upd_same] at e
      cases e
    · rw [upd_ne h] at e
      exact e
  · rw [upd_ne fun h => by rw [h, f2] at e; cases e]
    exact e
  · subst ej
    rw [set_at f5] at e
    cases e
/-! ### lists of lists -/
theorem nst_at {i : Nat} {k : Option Nat → List D → List Addr → Bool → Prop} (r : RelW g U F B env σ H) (w : nstS (env.getD i .un) k) : ∃ q ds as fr p xs, env[i]? = some (.nst q ds as fr) ∧ σ[i]? = some (some (.ref p)) ∧ H p = some (.lst xs) ∧ NstL g (Ok1 U F env σ fr) H q ds as xs ∧ k q ds as fr := by
  cases e : env.getD i .un <;> rw [e] at w <;> first | exact w.elim | skip
  rename_i q ds as fr
  have ei := of_getD e (by intro z; cases z)
  obtain ⟨p, xs, hv, hp, hb, hn, hl⟩ := r.slot i _ ei
  exact ⟨q, ds, as, fr, p, xs, ei, hv, hp, hl, w⟩
/-- a list within is written -/
theorem nst_write {i k : Nat} {q : Option Nat} {ds : List D} {as : List Addr} {fr fr' : Bool} {d' : D} {a p : Addr} {v : V} {xs ys zs : List V} (r : RelW g U F B env σ H) (hi : env[i]? = some (.nst q ds as fr)) (hv : σ[i]? = some (some (.ref p))) (hp : H p = some (.lst xs)) (ha : as[k]? = some a) (hx : xs[k]? = some v) (hy : H a = some (.lst ys)) (hf : fr' = true → fr = true)
    (hd : NstI g (Ok1 U F env σ fr') (L2.upd H a (.lst zs)) q d' a v) : RelW g U F B (env.set i (.nst q (ds.set k d') as fr')) σ (L2.upd H a (.lst zs)) := by
  obtain ⟨p', xs', f1, f2, f3, ⟨n1, n2, n3⟩, f4⟩ := r.slot i _ hi
  rw [hv] at f1
  cases f1
  rw [hp] at f2
  cases f2
  have hm : a ∈ as := List.mem_of_getElem? ha
  have hw : Wr (.lst ys) := trivial
  have ex : Ex env σ a := ⟨i, _, _, hi, hv, .inr hm⟩
  have np : ∀ {fr : Bool} (b : Addr), Ok1 U F env σ fr b → b ≠ a := fun b z e => z.1.2 (by rw [e]; exact ex)
  have pa : p ≠ a := fun e => n2 (by rw [e]; exact hm)
  have mvE : ∀ b, Ex (env.set i (.nst q (ds.set k d') as fr')) σ b → Ex env σ b := fun b => ex_put (t := .nst q (ds.set k d') as fr') hi fun v b z => z
  have fin : NstL g (Ok1 U F (env.set i (.nst q (ds.set k d') as fr')) σ fr') (L2.upd H a (.lst zs)) q (ds.set k d') as xs := by
    refine NstL.put (A := Ok1 U F env σ fr) (H := H) (fun b z => ok1_mono mvE ⟨z.1, fun t => z.2 (hf t)⟩) (fun b o z e _ => ?_) (fun b o e w _ => ?_) n1 ha hx (fun b o _ ne e _ => ?_) ?_ f4
    · rw [upd_ne (np b z)]
      exact e
    · exact rd_upd hy hw w e
    · rw [upd_ne ne]
      exact e
    · exact hd.mv (fun b z _ => ok1_mono mvE z) (fun b o _ e _ => e) (fun b o e _ _ => e) fun o e _ => e
  refine r.write (t := .nst q (ds.set k d') as fr') (H' := L2.upd H a (.lst zs)) hi hv (fun b z => .inl z) (fun b o z e _ => ?_) (fun b e => ?_) (fun b ps e => ⟨ps, ?_⟩) (fun g => g.upd hy hw trivial) (fun j k2 u ej h q2 ds2 as2 f e => ?_) ⟨p, xs, hv, by rw [upd_ne pa]; exact hp, f3, ⟨n1, n2, n3⟩, fin⟩
  · rw [upd_ne fun e => z (.inr (by rw [e]; exact hm))]
    exact e
  · by_cases h : b = a
    · subst h
      rw [upd_same] at e
      cases e
    · rw [upd_ne h] at e
      exact e
  · rw [upd_ne fun h => by rw [h, hy] at e; cases e]
    exact e
  · subst ej
    obtain ⟨p2, xs2, k1, k3, k4⟩ := h q ds as fr hi
    rw [hv] at k1
    cases k1
    exact ⟨p, xs2, hv, by rw [upd_ne pa]; exact k3, k4⟩
/-- a new item: its list at a, its tuple at t -/
theorem nst_grow {i k : Nat} {ds : List D} {as : List Addr} {fr fr' : Bool} {ts : List D} {a t p : Addr} {xs vs : List V} (r : RelW g U F B env σ H) (hi : env[i]? = some (.nst (some k) ds as fr)) (hv : σ[i]? = some (some (.ref p))) (hp : H p = some (.lst xs)) (hf : fr' = true → fr = true)
    (na : H a = none) (nt : H t = none) (ta : t ≠ a) (hk : ts.length = k) (hts : RepL g (Ok1 U F env σ fr') H ts vs) :
    RelW g U F B (env.set i (.nst (some k) (ds ++ [.tup (ts ++ [.lst []])]) (as ++ [a]) fr')) σ (L2.upd (L2.upd (L2.upd H a (.lst [])) t (.tup (vs ++ [.ref a]))) p (.lst (xs ++ [.ref t]))) := by
  obtain ⟨p', xs', f1, f2, f3, ⟨n1, n2, n3⟩, f4⟩ := r.slot i _ hi
  rw [hv] at f1
  cases f1
  rw [hp] at f2
  cases f2
  have hpa : p ≠ a := fun e => by rw [e, na] at hp; cases hp
  have hpt : p ≠ t := fun e => by rw [e, nt] at hp; cases hp
  have asn : a ∉ as := fun z => by
    obtain ⟨ys, e⟩ := f4.there a z
    rw [na] at e
    cases e
  have at_ : ∀ {b : Addr} {o : HO}, b ≠ p → H b = some o → (L2.upd (L2.upd (L2.upd H a (.lst [])) t (.tup (vs ++ [.ref a]))) p (.lst (xs ++ [.ref t]))) b = some o := fun {b o} h e => by
    rw [upd_ne h, upd_ne (ne_of_none e nt), upd_ne (ne_of_none e na)]
    exact e
  have atT : (L2.upd (L2.upd (L2.upd H a (.lst [])) t (.tup (vs ++ [.ref a]))) p (.lst (xs ++ [.ref t]))) t = some (.tup (vs ++ [.ref a])) := by rw [upd_ne (Ne.symm hpt), upd_same]
  have atA : (L2.upd (L2.upd (L2.upd H a (.lst [])) t (.tup (vs ++ [.ref a]))) p (.lst (xs ++ [.ref t]))) a = some (.lst []) := by rw [upd_ne (Ne.symm hpa), upd_ne (Ne.symm ta), upd_same]
  have ex : Ex env σ p := ⟨i, _, _, hi, hv, .inl rfl⟩
  have np : ∀ {fr : Bool} (b : Addr), Ok1 U F env σ fr b → b ≠ p := fun b z e => z.1.2 (by rw [e]; exact ex)
  have low : ∀ {b : Addr}, H b ≠ none → Ex (env.set i (.nst (some k) (ds ++ [.tup (ts ++ [.lst []])]) (as ++ [a]) fr')) σ b → Ex env σ b := fun {b} nb ⟨j, u, w, q1, q2, q3⟩ => by
    by_cases hj : i = j
    · subst hj
      rw [set_at hi] at q1
      cases q1
      rcases q3 with q3 | q3
      · exact ⟨i, _, w, hi, q2, .inl q3⟩
      · rcases List.mem_append.mp q3 with q3 | q3
        · exact ⟨i, _, w, hi, q2, .inr q3⟩
        · rw [List.mem_singleton.mp q3] at nb
          exact absurd na nb
    · rw [List.getElem?_set_ne hj] at q1
      exact ⟨j, u, w, q1, q2, q3⟩
  have okm : ∀ {f : Bool} (b : Addr), (f = true → fr' = true) → Ok1 U F env σ fr' b → H b ≠ none → Ok1 U F (env.set i (.nst (some k) (ds ++ [.tup (ts ++ [.lst []])]) (as ++ [a]) fr')) σ f b := fun {f} b h z n => ⟨⟨z.1.1, fun e => z.1.2 (low n e)⟩, fun t => z.2 (h t)⟩
  have mvL : ∀ {es : List D} {ys : List V}, RepL g (Ok1 U F env σ fr') H es ys → RepL g (Ok1 U F (env.set i (.nst (some k) (ds ++ [.tup (ts ++ [.lst []])]) (as ++ [a]) fr')) σ fr') (L2.upd (L2.upd (L2.upd H a (.lst [])) t (.tup (vs ++ [.ref a]))) p (.lst (xs ++ [.ref t]))) es ys := fun hl => (hl.there.kept (fun b o z e _ => at_ (np b z.1) e) (fun b o e w _ => at_ (fun h => by rw [h, hp] at e; cases e; exact w trivial) e)).mono fun b z => okm b id z.1 z.2
  have fin : NstL g (Ok1 U F (env.set i (.nst (some k) (ds ++ [.tup (ts ++ [.lst []])]) (as ++ [a]) fr')) σ fr') (L2.upd (L2.upd (L2.upd H a (.lst [])) t (.tup (vs ++ [.ref a]))) p (.lst (xs ++ [.ref t]))) (some k) (ds ++ [.tup (ts ++ [.lst []])]) (as ++ [a]) (xs ++ [.ref t]) := by
    refine NstL.snoc ?_ (f4.mv (fun b z n => okm b id ⟨z.1, fun t => z.2 (hf t)⟩ n) (fun b o z e _ => at_ (np b z) e) (fun b o e w _ => at_ (fun h => by rw [h, hp] at e; cases e; exact w trivial) e) fun b o z e _ => at_ (fun h => n2 (by rw [← h]; exact z)) e)
    refine ⟨t, ts ++ [.lst []], vs ++ [.ref a], [], [], rfl, rfl, atT, ?_, ?_, atA, rfl, ?_⟩
    · rw [List.getElem?_append_right (by omega), hk]
      simp
    · have := hts.len
      rw [List.getElem?_append_right (by omega)]
      rw [this, hk]
      simp
    · have e : (ts ++ [D.lst []]).set k .any = ts ++ [.any] := by
        rw [List.set_append_right _ _ (by omega), hk]
        simp
      rw [e]
      exact RepL.app (mvL hts) (RepL.one (d := .any) trivial)
  refine r.write (t := .nst (some k) (ds ++ [.tup (ts ++ [.lst []])]) (as ++ [a]) fr') hi hv (fun b z => ?_) (fun b o z e _ => at_ (fun h => z (.inl (by rw [h]))) e) (fun b e => ?_) (fun b ps e => ⟨ps, at_ (fun h => by rw [h, hp] at e; cases e) e⟩) (fun g => ?_) (fun j k2 u ej h q2 ds2 as2 f e => ?_) ⟨p, _, hv, upd_same, f3, ⟨?_, ?_, fun b z => ?_⟩, fin⟩
  · rcases z with z | z
    · exact .inl (.inl z)
    · rcases List.mem_append.mp z with z | z
      · exact .inl (.inr z)
      · rw [List.mem_singleton.mp z]
        exact .inr na
  · cases q : H b with
    | none => rfl
    | some o =>
      by_cases h : b = p
      · subst h
        rw [upd_same] at e
        cases e
      · rw [at_ h q] at e
        cases e
  · have g1 : TabG _ (L2.upd (L2.upd H a (.lst [])) t (.tup (vs ++ [.ref a]))) := ((same_new (o := .lst []) na).trans (same_new (o := .tup (vs ++ [.ref a])) (by rw [upd_ne ta]; exact nt))).t g
    exact g1.upd (o := .lst xs) (by rw [upd_ne hpt, upd_ne hpa]; exact hp) trivial trivial
  · subst ej
    obtain ⟨p2, xs2, k1, k3, k4⟩ := h _ ds as fr hi
    rw [hv] at k1
    cases k1
    rw [hp] at k3
    cases k3
    refine ⟨p, _, hv, upd_same, ?_⟩
    rw [List.getElem?_append_left (List.getElem?_eq_some_iff.mp k4).1]
    exact k4
  · rw [List.nodup_append]
    refine ⟨n1, by simp, fun b hb c hc => ?_⟩
    rw [List.mem_singleton.mp hc]
    exact fun e => asn (by rw [← e]; exact hb)
  · intro z
    rcases List.mem_append.mp z with z | z
    · exact n2 z
    · exact hpa (List.mem_singleton.mp z)
  · rcases List.mem_append.mp z with z | z
    · exact n3 b z
    · rw [List.mem_singleton.mp z]
      exact ⟨r.bh.free na, r.uf a na⟩
theorem mE_hs {e : Expr} {ie : E} (hm : mE m ie e = true) : starEach [e] X.env = (false, eval e X.env) :: starEach [] X.env := star_cons hm [] X.env
theorem st_nnw {i q : Nat} {x : Str} {px pd pos : Pos} (sx : SS X ca zc m c n W) (h1 : nameAt m.N i x = true) (h2 : locB m.sc x = true) (U F B) :
    PS X (.Assign [.Name x px] (.List [] pd) pos) (rdSt (gOf X ca zc) U F B W c (.nnw i q)) := by
  refine PS.imp (ps_set sx.nd (by rw [sx.N]; exact of_decide_eq_true h1) (by rw [sx.sc]; exact loc_of h2) (pe_lst pa_nil) rfl (sx.ft x (by rw [sx.sc]; exact loc_of h2))) fun Dd σ H ⟨env, K, rl, w, ok⟩ => ?_
  obtain ⟨w1, w⟩ := w
  refine ⟨by decide, fun p hp => ?_⟩
  refine ok.nx _ _ _ w (rl.setNew (same_new hp) (fun a z => ?_) (.inr w1) fun hl => ⟨p, [], by rw [List.getElem?_set]; simp [← rl.len, hl], upd_same, ⟨rl.bh.free hp, rl.uf p hp⟩, ⟨by simp, by simp, fun a z => by cases z⟩, rfl⟩)
  rcases z with z | z
  · cases z
    exact hp
  · cases z
theorem plain_ix {b : Expr} (hp : plainIx b = true) : PlainIx b := by
  intro o i
  cases b <;> first | rfl | exact absurd hp Bool.false_ne_true
theorem st_napp1 {i : Nat} {x : Str} {px ap cp pt pl pos : Pos} {kk : Nat} {u : Expr} {ia : E} (sx : SS X ca zc m c n W) (h1 : nameAt m.N i x = true) (h2 : visB m.sc x = true) (h3 : noDbg x = true) (hl : (ap.endLine == cp.line) = true) (hm : mE m ia u = true) (he : ∀ U F B, PE X u (rdE (gOf X ca zc) U F B W c ia)) (U F B) :
    PS X (.Expr (.Call (.Attribute (.Name x px) "append" ap) [.Tuple [u, .List [] pl] kk pt] [] cp) pos) (rdSt (gOf X ca zc) U F B W c (.napp1 i ia)) := by
  have hs : starEach [u, .List [] pl] X.env = (false, eval u X.env) :: starEach [.List [] pl] X.env := star_cons hm _ X.env
  refine PS.imp (ps_expr (pe_bm PySem.F.plainAttrs_list PySem.F.slot_list_append PySem.F.type_list_append mt_append (pe_nm sx h1 h2 h3) (pa_cons (pe_tup (pa_cons (he U F B) (pa_cons (pe_lst pa_nil) pa_nil) hs)) pa_nil) rfl rfl hl rfl rfl)) fun Dd σ H ⟨env, K, rl, w, ok⟩ => ?_
  obtain ⟨q, ds, as, fr, p, xs, e1, e2, e3, e4, w⟩ := nst_at rl w
  refine ⟨.ref p, e2, .inl ⟨rfl, xs, .of e3⟩, env, _, _, rl, w, fun d inf v H1 q s z => ?_, ok.exW rl⟩
  obtain ⟨⟨rfl, q1, q2⟩, q3⟩ := q
  have r1 := RelW.frz inf.all (rl.ext s)
  have ni := not_mem_of q2
  have f5 : (frz inf.all env)[i]? = some (.nst (some 1) ds as fr) := by rw [frz_at ni]; exact e1
  obtain ⟨p', xs', f1, f2, f3, f4, f6⟩ := r1.slot i _ f5
  rw [e2] at f1
  cases f1
  refine ⟨by decide, fun a na => ⟨by simp only [List.length_cons, List.length_nil]; decide, fun t nt => ?_⟩⟩
  have ta : t ≠ a := fun e => by rw [e, upd_same] at nt; cases nt
  have nt' : H1 t = none := by rw [upd_ne ta] at nt; exact nt
  refine ⟨p, xs', .ref t, rfl, rfl, ?_, by rw [f6.len.1]; exact q1, ok.nx _ _ _ (q3 a) (nst_grow r1 f5 e2 f2 (fun t => (ba2 t).1) na nt' ta rfl (RepL.one ((z.low rl).mono fun b y => ?_)))⟩
  · rw [upd_ne (ne_of_none f2 nt'), upd_ne (ne_of_none f2 na)]
    exact f2
  · have y2 : Ok1 U F (frz inf.all env) σ inf.fr b := y.ok (rl.ext s) fun i q => q
    exact ⟨y2.1, fun t => y2.2 (ba2 t).2⟩
theorem st_napp2 {i : Nat} {x : Str} {px ap cp pt pl pos : Pos} {kk : Nat} {u u2 : Expr} {ia ib : E} (sx : SS X ca zc m c n W) (h1 : nameAt m.N i x = true) (h2 : visB m.sc x = true) (h3 : noDbg x = true) (hl : (ap.endLine == cp.line) = true) (hm : mE m ia u = true) (hm2 : mE m ib u2 = true) (he : ∀ U F B, PE X u (rdE (gOf X ca zc) U F B W c ia)) (he2 : ∀ U F B, PE X u2 (rdE (gOf X ca zc) U F B W c ib)) (U F B) :
    PS X (.Expr (.Call (.Attribute (.Name x px) "append" ap) [.Tuple [u, u2, .List [] pl] kk pt] [] cp) pos) (rdSt (gOf X ca zc) U F B W c (.napp2 i ia ib)) := by
  have hs : starEach [u, u2, .List [] pl] X.env = (false, eval u X.env) :: starEach [u2, .List [] pl] X.env := star_cons hm _ X.env
  have hs2 : starEach [u2, .List [] pl] X.env = (false, eval u2 X.env) :: starEach [.List [] pl] X.env := star_cons hm2 _ X.env
  refine PS.imp (ps_expr (pe_bm PySem.F.plainAttrs_list PySem.F.slot_list_append PySem.F.type_list_append mt_append (pe_nm sx h1 h2 h3) (pa_cons (pe_tup (pa_cons (he U F B) (pa_cons (he2 U F B) (pa_cons (pe_lst pa_nil) pa_nil) hs2) hs)) pa_nil) rfl rfl hl rfl rfl)) fun Dd σ H ⟨env, K, rl, w, ok⟩ => ?_
  obtain ⟨q, ds, as, fr, p, xs, e1, e2, e3, e4, w⟩ := nst_at rl w
  refine ⟨.ref p, e2, .inl ⟨rfl, xs, .of e3⟩, env, _, _, rl, w, fun d inf v H0 q s0 z0 => ?_, ok.exW rl⟩
  refine ⟨env, _, _, rl.ext s0, q, fun d2 inf2 v2 H1 q s z => ?_, (ok.exW rl).more s0⟩
  obtain ⟨⟨rfl, q1, q2, q2'⟩, q3⟩ := q
  have ss := s0.trans s
  have r1 := RelW.frz (inf.j inf2).all (rl.ext ss)
  have ni : i ∉ (inf.j inf2).all := fun e => by
    rcases List.mem_append.mp (show i ∈ inf.all ++ inf2.all from e) with e | e
    · exact not_mem_of q2 e
    · exact not_mem_of q2' e
  have f5 : (frz (inf.j inf2).all env)[i]? = some (.nst (some 2) ds as fr) := by rw [frz_at ni]; exact e1
  obtain ⟨p', xs', f1, f2, f3, f4, f6⟩ := r1.slot i _ f5
  rw [e2] at f1
  cases f1
  refine ⟨by decide, fun a na => ⟨by simp only [List.length_cons, List.length_nil]; decide, fun t nt => ?_⟩⟩
  have ta : t ≠ a := fun e => by rw [e, upd_same] at nt; cases nt
  have nt' : H1 t = none := by rw [upd_ne ta] at nt; exact nt
  refine ⟨p, xs', .ref t, rfl, rfl, ?_, by rw [f6.len.1]; exact q1, ok.nx _ _ _ (q3 a) (nst_grow r1 f5 e2 f2 (fun t => (ba2 t).1) na nt' ta rfl (RepL.app (RepL.one (((z0.ext s).low rl).mono fun b y => ?_)) (RepL.one ((z.low (rl.ext s0)).mono fun b y => ?_))))⟩
  · rw [upd_ne (ne_of_none f2 nt'), upd_ne (ne_of_none f2 na)]
    exact f2
  · have y2 : Ok1 U F (frz (inf.j inf2).all env) σ inf.fr b := y.ok (rl.ext ss) fun i q => List.mem_append_right _ (List.mem_append_left _ q)
    exact ⟨y2.1, fun t => y2.2 (ba2 (ba2 t).2).1⟩
  · have y2 : Ok1 U F (frz (inf.j inf2).all env) σ inf2.fr b := y.ok (rl.ext ss) fun i q => List.mem_append_right _ (List.mem_append_right _ q)
    exact ⟨y2.1, fun t => y2.2 (ba2 (ba2 t).2).2⟩
theorem atI_of {α : Type} {xs : List α} {k j : Int} {mm : Nat} {v : α} {l : Nat} (hl : xs.length = l) (h : ixN l j = some mm) (e : xs[mm]? = some v) : atI xs j = some v := by
  unfold atI
  rw [hl, h]
  exact e
theorem st_ninA {i : Nat} {x : Str} {px p2 ap cp pos : Pos} {y e : Expr} {ik ie : E} (sx : SS X ca zc m c n W) (h1 : nameAt m.N i x = true) (h2 : visB m.sc x = true) (h3 : noDbg x = true) (hp : plainIx y = true) (hl : (ap.endLine == cp.line) = true) (hm : mE m ie e = true) (hk : ∀ U F B, PE X y (rdE (gOf X ca zc) U F B W c ik)) (he : ∀ U F B, PE X e (rdE (gOf X ca zc) U F B W c ie)) (U F B) :
    PS X (.Expr (.Call (.Attribute (.Subscript (.Name x px) y p2) "append" ap) [e] [] cp) pos) (rdSt (gOf X ca zc) U F B W c (.ninA i ik ie)) := by
  have hs := star_cons hm [] X.env
  refine PS.imp (ps_expr (pe_bm PySem.F.plainAttrs_list PySem.F.slot_list_append PySem.F.type_list_append mt_append (pe_ix ix_seq (pe_nm sx h1 h2 h3) (hk U F B) (plain_ix hp)) (pa_cons (he U F B) pa_nil hs) rfl (by rw [hs]; rfl) hl hs rfl)) fun Dd σ H ⟨env, K, rl, w, ok⟩ => ?_
  obtain ⟨q, ds, as, fr, p, xs, e1, e2, e3, e4, w⟩ := nst_at rl w
  refine ⟨.ref p, e2, env, _, _, rl, w, fun d inf v H1 w s z => ?_, ok.exW rl⟩
  cases d <;> first | exact w.elim | skip
  rename_i j
  obtain rfl := z.int
  obtain ⟨mm, hmm, es, hes, w⟩ := w
  have r1 := rl.ext s
  obtain ⟨p', xs', g1, g2, g3, g4, g6⟩ := r1.slot i _ e1
  rw [e2] at g1
  cases g1
  obtain ⟨a, u, k1, k2, k3⟩ := g6.at hes
  cases q with
  | some q =>
    obtain ⟨_, _, _, _, _, e, _⟩ := k3
    cases e
  | none =>
    obtain ⟨es', ys, e, rfl, ka, kl⟩ := k3
    cases e
    refine .inl ⟨p, xs', j, .ref a, rfl, rfl, .of g2, atI_of (k := 0) g6.len.1 hmm k2, .inl ⟨rfl, ys, .of ka⟩, env, _, _, r1, w, fun d2 i2 v2 H2 w s2 z2 => ?_, (ok.exW rl).more s⟩
    obtain ⟨⟨_, q1, q2⟩, q3⟩ := w
    have ss := s.trans s2
    have r2 := RelW.frz i2.all (rl.ext ss)
    have ni := not_mem_of q2
    have f5 : (frz i2.all env)[i]? = some (.nst none ds as fr) := by rw [frz_at ni]; exact e1
    obtain ⟨p3, xs3, f1, f2, f3, f4, f6⟩ := r2.slot i _ f5
    rw [e2] at f1
    cases f1
    obtain ⟨a3, u3, l1, l2, l3⟩ := f6.at hes
    rw [k1] at l1
    cases l1
    obtain ⟨es3, ys3, e, rfl, la, ll⟩ := l3
    cases e
    refine ⟨a, ys3, v2, rfl, rfl, la, by rw [ll.len]; exact q1, ok.nx _ _ _ q3 (nst_write r2 f5 e2 f2 k1 l2 la (fun t => (ba2 t).1) ⟨es ++ [d2], ys3 ++ [v2], rfl, rfl, upd_same, ?_⟩)⟩
    have ex : Ex (frz i2.all env) σ a := ⟨i, _, _, f5, e2, .inr (List.mem_of_getElem? k1)⟩
    refine RepL.upd la trivial (fun b z e => z.1.2 (by rw [e]; exact ex)) (RepL.app (ll.mono fun b y => ⟨y.1, fun t => y.2 (ba2 t).1⟩) (RepL.one ((z2.low r1).mono fun b y => ?_)))
    have y2 : Ok1 U F (frz i2.all env) σ i2.fr b := y.ok (rl.ext ss) fun i q => q
    exact ⟨y2.1, fun t => y2.2 (ba2 t).2⟩
theorem st_ninE {i : Nat} {x : Str} {px p2 ap cp pos : Pos} {y e : Expr} {ik ie : E} (sx : SS X ca zc m c n W) (h1 : nameAt m.N i x = true) (h2 : visB m.sc x = true) (h3 : noDbg x = true) (hp : plainIx y = true) (hl : (ap.endLine == cp.line) = true) (hm : mE m ie e = true) (hk : ∀ U F B, PE X y (rdE (gOf X ca zc) U F B W c ik)) (he : ∀ U F B, PE X e (rdE (gOf X ca zc) U F B W c ie)) (U F B) :
    PS X (.Expr (.Call (.Attribute (.Subscript (.Name x px) y p2) "extend" ap) [e] [] cp) pos) (rdSt (gOf X ca zc) U F B W c (.ninE i ik ie)) := by
  have hs := star_cons hm [] X.env
  refine PS.imp (ps_expr (pe_bm PySem.F.plainAttrs_list PySem.F.slot_list_extend PySem.F.type_list_extend mt_extend (pe_ix ix_seq (pe_nm sx h1 h2 h3) (hk U F B) (plain_ix hp)) (pa_cons (he U F B) pa_nil hs) rfl (by rw [hs]; rfl) hl hs rfl)) fun Dd σ H ⟨env, K, rl, w, ok⟩ => ?_
  obtain ⟨q, ds, as, fr, p, xs, e1, e2, e3, e4, w⟩ := nst_at rl w
  refine ⟨.ref p, e2, env, _, _, rl, w, fun d inf v H1 w s z => ?_, ok.exW rl⟩
  cases d <;> first | exact w.elim | skip
  rename_i j
  obtain rfl := z.int
  obtain ⟨mm, hmm, es, hes, w⟩ := w
  have r1 := rl.ext s
  obtain ⟨p', xs', g1, g2, g3, g4, g6⟩ := r1.slot i _ e1
  rw [e2] at g1
  cases g1
  obtain ⟨a, u, k1, k2, k3⟩ := g6.at hes
  cases q with
  | some q =>
    obtain ⟨_, _, _, _, _, e, _⟩ := k3
    cases e
  | none =>
    obtain ⟨es', ys, e, rfl, ka, kl⟩ := k3
    cases e
    refine .inl ⟨p, xs', j, .ref a, rfl, rfl, .of g2, atI_of (k := 0) g6.len.1 hmm k2, .inl ⟨rfl, ys, .of ka⟩, env, _, _, r1, w, fun d2 i2 v2 H2 w s2 z2 => ?_, (ok.exW rl).more s⟩
    cases d2 <;> first | exact w.elim | skip
    rename_i us
    obtain ⟨⟨_, q1, q2⟩, q3⟩ := w
    have ss := s.trans s2
    have r2 := RelW.frz i2.al (rl.ext ss)
    have ni := not_mem_of q2
    have f5 : (frz i2.al env)[i]? = some (.nst none ds as fr) := by rw [frz_at ni]; exact e1
    obtain ⟨p3, xs3, f1, f2, f3, f4, f6⟩ := r2.slot i _ f5
    rw [e2] at f1
    cases f1
    obtain ⟨a3, u3, l1, l2, l3⟩ := f6.at hes
    rw [k1] at l1
    cases l1
    obtain ⟨es3, ys3, e, rfl, la, ll⟩ := l3
    cases e
    obtain ⟨b, zs, rfl, hb, hz⟩ := z2.lst
    refine ⟨a, b, ys3, zs, rfl, rfl, la, hb, by rw [ll.len, hz.len]; exact q1, ok.nx _ _ _ q3 (nst_write r2 f5 e2 f2 k1 l2 la (fun t => (ba2 t).1) ⟨es ++ us, ys3 ++ zs, rfl, rfl, upd_same, ?_⟩)⟩
    have ex : Ex (frz i2.al env) σ a := ⟨i, _, _, f5, e2, .inr (List.mem_of_getElem? k1)⟩
    refine RepL.upd la trivial (fun b z e => z.1.2 (by rw [e]; exact ex)) (RepL.app (ll.mono fun b y => ⟨y.1, fun t => y.2 (ba2 t).1⟩) (hz.mono fun b y => ?_))
    have y2 : Ok1 U F (frz i2.al env) σ i2.fr b := y.ok (rl.ext ss) fun i q => q
    exact ⟨y2.1, fun t => y2.2 (ba2 t).2⟩
theorem atI_nat {α : Type} {vs : List α} {k : Nat} {v : α} (h : vs[k]? = some v) : atI vs (k : Int) = some v := by
  have hlt := (List.getElem?_eq_some_iff.mp h).1
  have e : ixN vs.length (k : Int) = some k := by
    unfold ixN
    simp [hlt]
  unfold atI
  rw [e]
  exact h
theorem hole_ok {A : Addr → Prop} {q : Nat} {d : D} {a : Addr} {v : V} {g : G} (h : NstI g A H (some q) d a v) : Rep g A H (hole q d) v := by
  obtain ⟨t, ts, vs, es, ys, rfl, rfl, e3, e4, e5, e6, e7, e8⟩ := h
  exact ⟨t, vs, rfl, e3, e8⟩
theorem st_als {r i : Nat} {z x : Str} {pz px p2 pos : Pos} {y : Expr} {ik : E} (sx : SS X ca zc m c n W) (h4 : nameAt m.N r z = true) (h5 : locB m.sc z = true) (h1 : nameAt m.N i x = true) (h2 : visB m.sc x = true) (h3 : noDbg x = true) (hp : plainIx y = true) (hk : ∀ U F B, PE X y (rdE (gOf X ca zc) U F B W c ik)) (U F B) :
    PS X (.Assign [.Name z pz] (.Subscript (.Name x px) y p2) pos) (rdSt (gOf X ca zc) U F B W c (.als r i ik)) := by
  refine PS.imp (ps_set sx.nd (by rw [sx.N]; exact of_decide_eq_true h4) (by rw [sx.sc]; exact loc_of h5) (pe_ix ix_seq (pe_nm sx h1 h2 h3) (hk U F B) (plain_ix hp)) rfl (sx.ft z (by rw [sx.sc]; exact loc_of h5))) fun Dd σ H ⟨env, K, rl, w, ok⟩ => ?_
  obtain ⟨q, ds, as, fr, p, xs, e1, e2, e3, e4, w⟩ := nst_at rl w
  refine ⟨.ref p, e2, env, _, _, rl, w, fun d inf v H1 w s zr => ?_, ok.exW rl⟩
  cases d <;> first | exact w.elim | skip
  rename_i j
  obtain rfl := zr.int
  obtain ⟨mm, hmm, q1, rfl, ne, w⟩ := w
  have r1 := rl.ext s
  obtain ⟨p', xs', g1, g2, g3, g4, g6⟩ := r1.slot i _ e1
  rw [e2] at g1
  cases g1
  have hlt : mm < ds.length := by
    unfold ixN at hmm
    split at hmm
    · split at hmm <;> simp_all <;> omega
    · split at hmm <;> simp_all <;> omega
  obtain ⟨d, hd⟩ : ∃ d, ds[mm]? = some d := ⟨ds[mm], List.getElem?_eq_getElem hlt⟩
  obtain ⟨a, u, k1, k2, k3⟩ := g6.at hd
  have e : ds.getD mm .any = d := by rw [List.getD_eq_getElem?_getD, hd]; rfl
  rw [e] at w
  refine .inl ⟨p, xs', j, u, rfl, rfl, .of g2, atI_of (k := 0) g6.len.1 hmm k2, ok.nx _ _ _ w (r1.setNew (Same.refl _) (fun a z => z.elim) (.inl fun _ _ _ _ e => nomatch e) fun hl => ⟨u, by rw [List.getElem?_set]; simp [← rl.len, hl], (hole_ok k3).mono fun b y => ?_, fun q2 ds2 as2 f2 e => ?_⟩)⟩
  · exact ⟨⟨y.1.1, fun e => y.1.2 ((ex_set e).elim id fun q => False.elim q)⟩, fun t => nomatch t⟩
  · rw [List.getElem?_set_ne ne] at e ⊢
    rw [e1] at e
    cases e
    exact ⟨p, xs', e2, g2, k2⟩
theorem als_at {i : Nat} {k : Nat → Nat → D → Prop} (r : RelW g U F B env σ H) (w : alsS (env.getD i .un) k) : ∃ j mm d v, env[i]? = some (.als j mm d) ∧ σ[i]? = some (some v) ∧ AlsAt env σ H j mm v ∧ k j mm d := by
  cases e : env.getD i .un <;> rw [e] at w <;> first | exact w.elim | skip
  rename_i j mm d
  have ei := of_getD e (by intro z; cases z)
  obtain ⟨v, hv, _, ha⟩ := r.slot i _ ei
  exact ⟨j, mm, d, v, ei, hv, ha, w⟩
/-- s[q].append(e), s such an item -/
theorem app_item {i mm q : Nat} {ds es ts : List D} {as : List Addr} {fr : Bool} {p t a : Addr} {v v2 : V} {xs vs ys : List V} {d2 : D} {i2 : Inf} {K : En} {Dd : Ends} {H2 : Hp} {ie : E} {R : Exn} (rl : RelW g U F B env σ H) (ok : KOk g U F B W K Dd) (s2 : Same H H2) (e1 : env[i]? = some (.nst (some q) ds as fr)) (e2 : σ[i]? = some (some (.ref p))) (hd : ds[mm]? = some (.tup ts)) (ht : ts[q]? = some (.lst es))
    (z2 : RepI g U F env σ H H2 d2 i2 v2) (w : (es.length < sizeLine ∧ i2.all.contains i = false) ∧ K.nx ((frz i2.all env).set i (.nst (some q) (ds.set mm (.tup (ts.set q (.lst (es ++ [d2]))))) as (fr && i2.fr)))) (ha : as[mm]? = some a) : ∃ ys, H2 a = some (.lst ys) ∧ ys.length < sizeLine ∧ Dd.nx σ (L2.upd H2 a (.lst (ys ++ [v2]))) := by
  obtain ⟨⟨q1, q2⟩, q3⟩ := w
  have r2 := RelW.frz i2.all (rl.ext s2)
  have ni := not_mem_of q2
  have f5 : (frz i2.all env)[i]? = some (.nst (some q) ds as fr) := by rw [frz_at ni]; exact e1
  obtain ⟨p3, xs3, f1, f2, f3, f4, f6⟩ := r2.slot i _ f5
  rw [e2] at f1
  cases f1
  obtain ⟨a3, u3, l1, l2, l3⟩ := f6.at hd
  rw [ha] at l1
  cases l1
  obtain ⟨t3, ts3, vs3, es3, ys3, k0, rfl, k2, k3, k4, k5, k6, k7⟩ := l3
  cases k0
  rw [ht] at k3
  cases k3
  have ex : Ex (frz i2.all env) σ a := ⟨i, _, _, f5, e2, .inr (List.mem_of_getElem? ha)⟩
  have np : ∀ {fr : Bool} (b : Addr), Ok1 U F (frz i2.all env) σ fr b → b ≠ a := fun b z e => z.1.2 (by rw [e]; exact ex)
  refine ⟨ys3, k5, by rw [k6.len]; exact q1, ok.nx _ _ _ q3 (nst_write r2 f5 e2 f2 ha l2 k5 (fun t => (ba2 t).1) ⟨t3, _, vs3, es ++ [d2], ys3 ++ [v2], rfl, rfl, rd_upd k5 trivial (fun z => z) k2, ?_, k4, upd_same, RepL.upd k5 trivial np (RepL.app (k6.mono fun b y => ⟨y.1, fun t => y.2 (ba2 t).1⟩) (RepL.one ((z2.low rl).mono fun b y => ?_))), ?_⟩)⟩
  · have hlt : q < ts.length := (List.getElem?_eq_some_iff.mp ht).1
    rw [List.getElem?_set]
    simp [hlt]
  · have y2 : Ok1 U F (frz i2.all env) σ i2.fr b := y.ok (rl.ext s2) fun i q => q
    exact ⟨y2.1, fun t => y2.2 (ba2 t).2⟩
  · rw [List.set_set]
    exact (k7.mono fun b y => ⟨y.1, fun t => y.2 (ba2 t).1⟩).upd k5 trivial np
theorem st_aapp {r q : Nat} {x : Str} {px p2 p3 ap cp pos : Pos} {zi : Int} {kk : Nat} {e : Expr} {ie : E} (sx : SS X ca zc m c n W) (h1 : nameAt m.N r x = true) (h2 : visB m.sc x = true) (h3 : noDbg x = true) (hz : (q : Int) = zi) (hl : (ap.endLine == cp.line) = true) (hm : mE m ie e = true) (he : ∀ U F B, PE X e (rdE (gOf X ca zc) U F B W c ie)) (U F B) :
    PS X (.Expr (.Call (.Attribute (.Subscript (.Name x px) (.Constant (.int zi) kk p3) p2) "append" ap) [e] [] cp) pos) (rdSt (gOf X ca zc) U F B W c (.aapp r q ie)) := by
  subst hz
  have hs := star_cons hm [] X.env
  refine PS.imp (ps_expr (pe_bm PySem.F.plainAttrs_list PySem.F.slot_list_append PySem.F.type_list_append mt_append (pe_ix ix_seq (pe_nm sx h1 h2 h3) pe_int (plain_ix (b := .Constant (.int q) kk p3) rfl)) (pa_cons (he U F B) pa_nil hs) rfl (by rw [hs]; rfl) hl hs rfl)) fun Dd σ H ⟨env, K, rl, w, ok⟩ => ?_
  obtain ⟨i, mm, d, v, e1, e2, ha, w⟩ := als_at rl w
  obtain ⟨q2, ds, as, fr, p, xs, k1, k2, k3, k4, ts, es, k5, k6, w⟩ := nst_at rl w
  obtain ⟨a, u, l1, l2, l3⟩ := k4.at k5
  obtain ⟨p', xs', g1, g2, g3⟩ := ha _ _ _ _ k1
  rw [k2] at g1
  cases g1
  rw [k3] at g2
  cases g2
  rw [l2] at g3
  cases g3
  cases q2 with
  | none =>
    obtain ⟨_, _, e, _⟩ := l3
    cases e
  | some q2 =>
    obtain ⟨t, ts', vs, es', ys, e, rfl, m2, m3, m4, m5, m6, m7⟩ := l3
    cases e
    refine ⟨_, e2, ?_⟩
    by_cases hq : q2 = q
    · subst hq
      have hvl : q2 < vs.length := (List.getElem?_eq_some_iff.mp m4).1
      refine .inr (.inl ⟨t, vs, _, .ref a, rfl, rfl, .of m2, ?_, .inl ⟨rfl, ys, .of m5⟩, env, _, _, rl, w, fun d2 i2 v2 H2 w s2 z2 => ?_, ok.exW rl⟩)
      · exact atI_nat m4
      · obtain ⟨⟨_, q1, q3⟩, q4⟩ := w
        obtain ⟨ys2, o1, o2, o3⟩ := app_item (p := p) (t := t) (v := .ref t) (xs := xs) (vs := vs) (ys := ys) (ie := ie) (R := fun _ => True) rl ok s2 k1 k2 k5 k6 z2 ⟨⟨q1, q3⟩, q4⟩ l1
        exact ⟨a, ys2, v2, rfl, rfl, o1, o2, o3⟩
    · -- another item: nothing is promised
      have hvl : ts.length = vs.length := by
        have := m7.len
        rw [List.length_set] at this
        exact this.symm
      have hlt : q < ts.length := (List.getElem?_eq_some_iff.mp k6).1
      obtain ⟨v', r1, r2⟩ := m7.get (i := q) (d := .lst es) (by rw [List.getElem?_set_ne hq]; exact k6)
      obtain ⟨b, zs, rfl, _, r3, _⟩ := r2
      refine .inr (.inl ⟨t, vs, _, .ref b, rfl, rfl, .of m2, ?_, .inl ⟨rfl, zs, .of r3⟩, env, _, _, rl, w, fun d2 i2 v2 H2 w s2 z2 => ?_, ok.exW rl⟩)
      · exact atI_nat r1
      · obtain ⟨⟨e, _⟩, _⟩ := w
        exact absurd (Option.some.inj e) hq
theorem st_alsl {r i : Nat} {z x : Str} {pz px p2 pos : Pos} {y : Expr} {ik : E} (sx : SS X ca zc m c n W) (h4 : nameAt m.N r z = true) (h5 : locB m.sc z = true) (h1 : nameAt m.N i x = true) (h2 : visB m.sc x = true) (h3 : noDbg x = true) (hp : plainIx y = true) (hk : ∀ U F B, PE X y (rdE (gOf X ca zc) U F B W c ik)) (U F B) :
    PS X (.Assign [.Name z pz] (.Subscript (.Name x px) y p2) pos) (rdSt (gOf X ca zc) U F B W c (.alsl r i ik)) := by
  refine PS.imp (ps_set sx.nd (by rw [sx.N]; exact of_decide_eq_true h4) (by rw [sx.sc]; exact loc_of h5) (pe_ix ix_seq (pe_nm sx h1 h2 h3) (hk U F B) (plain_ix hp)) rfl (sx.ft z (by rw [sx.sc]; exact loc_of h5))) fun Dd σ H ⟨env, K, rl, w, ok⟩ => ?_
  obtain ⟨q, ds, as, fr, p, xs, e1, e2, e3, e4, w⟩ := nst_at rl w
  refine ⟨.ref p, e2, env, _, _, rl, w, fun d inf v H1 w s zr => ?_, ok.exW rl⟩
  cases d <;> first | exact w.elim | skip
  rename_i j
  obtain rfl := zr.int
  obtain ⟨mm, hmm, rfl, ne, w⟩ := w
  have r1 := rl.ext s
  obtain ⟨p', xs', g1, g2, g3, g4, g6⟩ := r1.slot i _ e1
  rw [e2] at g1
  cases g1
  have hlt : mm < ds.length := by
    unfold ixN at hmm
    split at hmm
    · split at hmm <;> simp_all <;> omega
    · split at hmm <;> simp_all <;> omega
  obtain ⟨d, hd⟩ : ∃ d, ds[mm]? = some d := ⟨ds[mm], List.getElem?_eq_getElem hlt⟩
  obtain ⟨a, u, k1, k2, k3⟩ := g6.at hd
  refine .inl ⟨p, xs', j, u, rfl, rfl, .of g2, atI_of (k := 0) g6.len.1 hmm k2, ok.nx _ _ _ w (r1.setNew (Same.refl _) (fun a z => z.elim) (.inl fun _ _ _ _ e => nomatch e) fun hl => ⟨u, by rw [List.getElem?_set]; simp [← rl.len, hl], trivial, fun q2 ds2 as2 f2 e => ?_⟩)⟩
  · rw [List.getElem?_set_ne ne] at e ⊢
    rw [e1] at e
    cases e
    exact ⟨p, xs', e2, g2, k2⟩
theorem st_aapl {r : Nat} {x : Str} {px ap cp pos : Pos} {e : Expr} {ie : E} (sx : SS X ca zc m c n W) (h1 : nameAt m.N r x = true) (h2 : visB m.sc x = true) (h3 : noDbg x = true) (hl : (ap.endLine == cp.line) = true) (hm : mE m ie e = true) (he : ∀ U F B, PE X e (rdE (gOf X ca zc) U F B W c ie)) (U F B) :
    PS X (.Expr (.Call (.Attribute (.Name x px) "append" ap) [e] [] cp) pos) (rdSt (gOf X ca zc) U F B W c (.aapl r ie)) := by
  have hs := star_cons hm [] X.env
  refine PS.imp (ps_expr (pe_bm PySem.F.plainAttrs_list PySem.F.slot_list_append PySem.F.type_list_append mt_append (pe_nm sx h1 h2 h3) (pa_cons (he U F B) pa_nil hs) rfl (by rw [hs]; rfl) hl hs rfl)) fun Dd σ H ⟨env, K, rl, w, ok⟩ => ?_
  obtain ⟨i, mm, d, v, e1, e2, ha, w⟩ := als_at rl w
  obtain ⟨q2, ds, as, fr, p, xs, k1, k2, k3, k4, es, k5, w⟩ := nst_at rl w
  obtain ⟨a, u, l1, l2, l3⟩ := k4.at k5
  obtain ⟨p', xs', g1, g2, g3⟩ := ha _ _ _ _ k1
  rw [k2] at g1
  cases g1
  rw [k3] at g2
  cases g2
  rw [l2] at g3
  cases g3
  cases q2 with
  | some q2 =>
    obtain ⟨_, _, _, _, _, e, _⟩ := l3
    cases e
  | none =>
    obtain ⟨es', ys, e, rfl, m5, m6⟩ := l3
    cases e
    refine ⟨_, e2, .inl ⟨rfl, ys, .of m5⟩, env, _, _, rl, w, fun d2 i2 v2 H2 w s2 z2 => ?_, ok.exW rl⟩
    obtain ⟨⟨_, q1, q3⟩, q4⟩ := w
    have r2 := RelW.frz i2.all (rl.ext s2)
    have ni := not_mem_of q3
    have f5 : (frz i2.all env)[i]? = some (.nst none ds as fr) := by rw [frz_at ni]; exact k1
    obtain ⟨p3, xs3, f1, f2, f3, f4, f6⟩ := r2.slot i _ f5
    rw [k2] at f1
    cases f1
    obtain ⟨a3, u3, o1, o2, o3⟩ := f6.at k5
    rw [l1] at o1
    cases o1
    obtain ⟨es3, ys3, e, rfl, la, ll⟩ := o3
    cases e
    refine ⟨a, ys3, v2, rfl, rfl, la, by rw [ll.len]; exact q1, ok.nx _ _ _ q4 (nst_write r2 f5 k2 f2 l1 o2 la (fun t => (ba2 t).1) ⟨es ++ [d2], ys3 ++ [v2], rfl, rfl, upd_same, ?_⟩)⟩
    have ex : Ex (frz i2.all env) σ a := ⟨i, _, _, f5, k2, .inr (List.mem_of_getElem? l1)⟩
    refine RepL.upd la trivial (fun b z e => z.1.2 (by rw [e]; exact ex)) (RepL.app (ll.mono fun b y => ⟨y.1, fun t => y.2 (ba2 t).1⟩) (RepL.one ((z2.low rl).mono fun b y => ?_)))
    have y2 : Ok1 U F (frz i2.all env) σ i2.fr b := y.ok (rl.ext s2) fun i q => q
    exact ⟨y2.1, fun t => y2.2 (ba2 t).2⟩
theorem st_ninQ {i q : Nat} {x : Str} {px p2 p3 p4 ap cp pos : Pos} {zi : Int} {kk : Nat} {y e : Expr} {ik ie : E} (sx : SS X ca zc m c n W) (h1 : nameAt m.N i x = true) (h2 : visB m.sc x = true) (h3 : noDbg x = true) (hp : plainIx y = true) (hz : (q : Int) = zi) (hl : (ap.endLine == cp.line) = true) (hm : mE m ie e = true) (hk : ∀ U F B, PE X y (rdE (gOf X ca zc) U F B W c ik)) (he : ∀ U F B, PE X e (rdE (gOf X ca zc) U F B W c ie)) (U F B) :
    PS X (.Expr (.Call (.Attribute (.Subscript (.Subscript (.Name x px) y p2) (.Constant (.int zi) kk p3) p4) "append" ap) [e] [] cp) pos) (rdSt (gOf X ca zc) U F B W c (.ninQ i q ik ie)) := by
  subst hz
  have hs := star_cons hm [] X.env
  refine PS.imp (ps_expr (pe_bm PySem.F.plainAttrs_list PySem.F.slot_list_append PySem.F.type_list_append mt_append (pe_ix ix_seq (pe_ix ix_seq (pe_nm sx h1 h2 h3) (hk U F B) (plain_ix hp)) pe_int (plain_ix (b := .Constant (.int q) kk p3) rfl)) (pa_cons (he U F B) pa_nil hs) rfl (by rw [hs]; rfl) hl hs rfl)) fun Dd σ H ⟨env, K, rl, w, ok⟩ => ?_
  obtain ⟨q2, ds, as, fr, p, xs, k1, k2, k3, k4, w⟩ := nst_at rl w
  refine ⟨.ref p, k2, env, _, _, rl, w, fun d inf v H1 w s z => ?_, ok.exW rl⟩
  cases d <;> first | exact w.elim | skip
  rename_i j
  obtain rfl := z.int
  obtain ⟨mm, hmm, ts, es, k5, k6, w⟩ := w
  have r1 := rl.ext s
  obtain ⟨p', xs', g1, g2, g3, g4, g6⟩ := r1.slot i _ k1
  rw [k2] at g1
  cases g1
  obtain ⟨a, u, l1, l2, l3⟩ := g6.at k5
  cases q2 with
  | none =>
    obtain ⟨_, _, e, _⟩ := l3
    cases e
  | some q2 =>
    obtain ⟨t, ts', vs, es', ys, e, rfl, m2, m3, m4, m5, m6, m7⟩ := l3
    cases e
    refine .inl ⟨p, xs', j, .ref t, rfl, rfl, .of g2, atI_of (k := 0) g6.len.1 hmm l2, ?_⟩
    by_cases hq : q2 = q
    · subst hq
      have hvl : q2 < vs.length := (List.getElem?_eq_some_iff.mp m4).1
      refine .inr (.inl ⟨t, vs, _, .ref a, rfl, rfl, .of m2, ?_, .inl ⟨rfl, ys, .of m5⟩, env, _, _, r1, w, fun d2 i2 v2 H2 w s2 z2 => ?_, (ok.exW rl).more s⟩)
      · exact atI_nat m4
      · obtain ⟨⟨_, q1, q3⟩, q4⟩ := w
        obtain ⟨ys2, o1, o2, o3⟩ := app_item (p := p) (t := t) (v := .ref t) (xs := xs) (vs := vs) (ys := ys) (ie := ie) (R := fun _ => True) r1 ok s2 k1 k2 k5 k6 z2 ⟨⟨q1, q3⟩, q4⟩ l1
        exact ⟨a, ys2, v2, rfl, rfl, o1, o2, o3⟩
    · have hvl : ts.length = vs.length := by
        have := m7.len
        rw [List.length_set] at this
        exact this.symm
      have hlt : q < ts.length := (List.getElem?_eq_some_iff.mp k6).1
      obtain ⟨v', o1, r2⟩ := m7.get (i := q) (d := .lst es) (by rw [List.getElem?_set_ne hq]; exact k6)
      obtain ⟨b, zs, rfl, _, r3, _⟩ := r2
      refine .inr (.inl ⟨t, vs, _, .ref b, rfl, rfl, .of m2, ?_, .inl ⟨rfl, zs, .of r3⟩, env, _, _, r1, w, fun d2 i2 v2 H2 w s2 z2 => ?_, (ok.exW rl).more s⟩)
      · exact atI_nat o1
      · obtain ⟨⟨e, _⟩, _⟩ := w
        exact absurd (Option.some.inj e) hq
/-! ### a list of new empty lists -/
/-- [] in a block -/
def tE0 : TE := fun _ H Q => ∀ p, H p = none → Q (.ref p) (L2.upd H p (.lst []))
theorem pe_e0 {X : Cx} {p : Pos} : PE X (.List [] p) tE0 := PE.imp (pe_lst pa_nil) fun _ _ _ q => ⟨by decide, fun a ha => q a ha⟩
theorem nlc_core {t : Tg} {it : It} {σ : L2.St} {H : Hp} {Q : VK} {env : List Sl} {i : Nat} {R : Exn} {k : List Sl → Prop} (rl : RelW g U F B env σ H) (x : exW g W σ H R)
    (w : wpI c it env (fun xs inf => (xs.length ≤ sizeLine ∧ inf.al = [] ∧ ownFree t.ns env = true) ∧ (∀ x ∈ xs, bindT inf.fr env (fun _ => True) t x) ∧ noAls i (frz inf.all env) = true ∧ ∀ as : List Addr, as.length = xs.length → k ((frz inf.all env).set i (.nst none (xs.map fun _ => .lst []) as true))) R)
    (q : ∀ env' v H', k env' → RelW g U F B env' (σ.set i (some v)) H' → Q v H') : tLc (rdI g U F B W c it) (rdG g.K t) (ttX g c .tru) tE0 t.ns σ H Q := by
  refine ⟨env, _, R, rl, w, fun xs inf J H1 ww s1 itk P hP => ?_, x⟩
  obtain ⟨⟨g1, g2, g3⟩, wb, wn, wk⟩ := ww
  have r1 := rl.ext s1
  refine ⟨fun i mm H2 => mm = xs.length - i ∧ i ≤ xs.length ∧ ∃ as : List Addr, H2 P = some (.lst (as.map V.ref)) ∧ Same H1 H2 ∧ as.length = i ∧ as.Nodup ∧ P ∉ as ∧ ∀ a, a ∈ as → H1 a = none ∧ H2 a = some (.lst []),
    ⟨xs.length, by simp, Nat.zero_le _, [], upd_same, same_new hP, rfl, by simp, by simp, by simp⟩, fun i2 mm H2 ⟨e1, e2, as, hv, s2, hlen, nd, nP, hn⟩ => ?_⟩
  have sc : Same (cutH env σ inf.all H1) H2 := cutH_sub.trans s2
  obtain ⟨go, stop⟩ := itk H2 sc
  by_cases hi : i2 < xs.length
  · obtain ⟨d, hd⟩ : ∃ d, xs[i2]? = some d := ⟨xs[i2], by simp [hi]⟩
    obtain ⟨hgo, hy⟩ := go i2 d hd
    refine .inr ⟨hgo, fun H3 => ∃ as : List Addr, H3 P = some (.lst (as.map V.ref)) ∧ Same H1 H3 ∧ as.length = i2 + 1 ∧ as.Nodup ∧ P ∉ as ∧ ∀ a, a ∈ as → H1 a = none ∧ H3 a = some (.lst []),
      fun H3 z => ⟨xs.length - (i2 + 1), by omega, rfl, hi, z⟩, fun v H3 y => ?_⟩
    obtain ⟨s3, hr⟩ := hy v H3 y
    have hP3 : H3 P = some (.lst (as.map V.ref)) := s3 _ _ hv
    have ra : RelW g (fun a => U a ∧ a ≠ P) F B env σ H3 := r1.avoid hP (s2.trans s3) (by rw [hP3]; intro z; cases z)
    have rw' := ra.wipe t.ns
    have vr : Rep g (Ok1 (fun a => U a ∧ a ≠ P) F (wipeE env t.ns) (L2.wipe σ t.ns) inf.fr) H3 d v := by
      refine (hr.mono fun a z => ?_)
      refine ⟨⟨⟨z.1.1, fun e => ?_⟩, fun ⟨b, ow⟩ => ?_⟩, z.1.2.2⟩
      · subst e
        refine z.2 ?_
        cases q6 : cutH env σ inf.all H1 a with
        | none => rfl
        | some o =>
          have q7 := cutH_raw q6
          rw [hP] at q7
          cases q7
      · obtain ⟨i0, h1, _⟩ := z.1.2.1 ⟨b, (wipe_ow ow)⟩
        rw [g2] at h1
        cases h1
    refine bind_ok rw' vr (bindT_wipe (wb d (List.mem_of_getElem? hd))) fun env' σ' w1 r' bd hw => ⟨?_, ?_⟩
    · rw [hw t.ns fun _ z => z]
      apply List.ext_getElem?
      intro j
      simp only [wipe_get, wipe_length]
      split <;> rfl
    · refine ⟨_, F, B, env', fun b => b = true, fun _ => False, r', rfl, fun b H4 q4 s4 => ?_, fun _ _ z => z.elim⟩
      subst q4
      rw [if_pos rfl]
      intro a ha
      have hP4 : H4 P = some (.lst (as.map V.ref)) := s4 _ _ hP3
      have ne : a ≠ P := fun e => by rw [e, hP4] at ha; cases ha
      have s14 := (s2.trans s3).trans s4
      have s15 := s14.trans (same_new (o := .lst []) ha)
      have hP5 : (L2.upd H4 a (.lst [])) P = some (.lst (as.map V.ref)) := by rw [upd_ne (Ne.symm ne)]; exact hP4
      have nas : a ∉ as := fun z => by
        have := (s3.trans s4) _ _ (hn a z).2
        rw [ha] at this
        cases this
      refine ⟨as.map V.ref, hP5, by rw [List.length_map]; omega, as ++ [a], ?_, s15.over hP hP5 trivial trivial, by rw [List.length_append]; simp [hlen], ?_, ?_, fun b hb => ?_⟩
      · rw [upd_same, List.map_append]
        rfl
      · rw [List.nodup_append]
        refine ⟨nd, by simp, fun b hb c hc => ?_⟩
        rw [List.mem_singleton.mp hc]
        exact fun e => nas (by rw [← e]; exact hb)
      · intro z
        rcases List.mem_append.mp z with z | z
        · exact nP z
        · exact ne (List.mem_singleton.mp z).symm
      · rcases List.mem_append.mp hb with hb | hb
        · refine ⟨(hn b hb).1, ?_⟩
          rw [upd_ne (fun e => nP (by rw [← e]; exact hb)), upd_ne (fun e => nas (by rw [← e]; exact hb))]
          exact (s3.trans s4) _ _ (hn b hb).2
        · have e := List.mem_singleton.mp hb
          subst e
          refine ⟨s14.free ha, ?_⟩
          rw [upd_ne ne, upd_same]
  · have e : i2 = xs.length := by omega
    subst e
    refine .inl ⟨stop _ (Nat.le_refl _), q _ _ _ (wk as hlen) ?_⟩
    have r2 := RelW.frz inf.all r1
    refine r2.setNew s2 (fun a z => ?_) (.inr wn) fun hl => ⟨P, as.map V.ref, by rw [List.getElem?_set]; simp [← r2.len, hl], hv, ⟨r2.bh.free hP, r2.uf P hP⟩, ⟨nd, nP, fun a z => ⟨r2.bh.free (hn a z).1, r2.uf a (hn a z).1⟩⟩, ?_⟩
    · rcases z with z | z
      · cases z
        exact hP
      · exact (hn a z).1
    · have key : ∀ (xs : List D) (as : List Addr), as.length = xs.length → (∀ a, a ∈ as → H2 a = some (.lst [])) → NstL g (Ok1 U F ((frz inf.all env).set i (.nst none (xs.map fun _ => .lst []) as true)) (σ.set i (some (.ref P))) true) H2 none (xs.map fun _ => .lst []) as (as.map V.ref) → True := fun _ _ _ _ _ => trivial
      clear key
      have key : ∀ {A : Addr → Prop} (xs : List D) (as : List Addr), as.length = xs.length → (∀ a, a ∈ as → H2 a = some (.lst [])) → NstL g A H2 none (xs.map fun _ => .lst []) as (as.map V.ref) := by
        intro A xs
        induction xs with
        | nil =>
          intro as h1 _
          cases as with
          | nil => exact rfl
          | cons a r => simp at h1
        | cons x xs ih =>
          intro as h1 h2
          cases as with
          | nil => simp at h1
          | cons a r => exact ⟨.ref a, _, rfl, ⟨[], [], rfl, rfl, h2 a List.mem_cons_self, rfl⟩, ih r (by simpa using h1) fun b z => h2 b (List.mem_cons_of_mem _ z)⟩
      exact key xs as hlen fun a z => (hn a z).2
theorem st_nlc {i : Nat} {x : Str} {px pe ps pos : Pos} {tg iter : Expr} {scope : Scope} {t : Tg} {it : It} (sx : SS X ca zc m c n W) (hk : X.env.scope.kind = .function) (h1 : nameAt m.N i x = true) (h2 : locB m.sc x = true) (hi : ∀ U F B, PI X tg iter (rdI (gOf X ca zc) U F B W c it)) (hb : blkC m.N m.sc scope (ownN m.N t.ns) = true) (ht : mT m.N scope t tg = true) (hf : ∀ y, foldedSetIterable iter X.env y = pure y) (U F B) :
    PS X (.Assign [.Name x px] (.ListComp (.List [] pe) [⟨tg, iter, [], 0⟩] scope ps) pos) (rdSt (gOf X ca zc) U F B W c (.nlc i t it)) := by
  have core : ∀ {Dd : Ends} {σ : L2.St} {H : Hp}, rdSt (gOf X ca zc) U F B W c (.nlc i t it) Dd σ H → tLc (rdI (gOf X ca zc) U F B W c it) (rdG X.K t) (ttX (gOf X ca zc) c .tru) tE0 t.ns σ H (fun v H1 => Dd.nx (σ.set i (some v)) H1) := fun {Dd σ H} ⟨env, K, rl, w, ok⟩ => nlc_core rl (ok.exW rl) w fun env' v H' q r => ok.nx _ _ _ q r
  cases hw : swB X.env.scope x px (.ListComp (.List [] pe) [⟨tg, iter, [], 0⟩] scope ps) with
  | false =>
    have hl := pe_lc (X := X) (elt := .List [] pe) (tg := tg) (iter := iter) (ifs := []) (scope := scope) (own := ownN m.N t.ns) (pos := ps) sx.calm sx.nd (hi U F B) (by rw [sx.N, sx.sc]; exact blkOk_by hb)
      (g := rdG X.K t) (tt := ttX (gOf X ca zc) c .tru) (te := tE0)
      (fun s H C cl fp => g_ok (sx_blk sx.toSX s H scope cl C fp) (fun x hx => blk_loc x hx) ht)
      (fun s H C cl fp => soundC .tru (sx_blk sx.toSX s H scope cl C fp) (ifs := []) rfl)
      (fun s H C cl fp => pe_e0) hf
    rw [own_ns] at hl
    exact PS.imp (ps_set sx.nd (by rw [sx.N]; exact of_decide_eq_true h1) (by rw [sx.sc]; exact loc_of h2) hl (by rw [swaps_lc hk, hw]) (sx.ft x (by rw [sx.sc]; exact loc_of h2))) fun Dd σ H q => core q
  | true =>
    have hy : X.env.scope.names.lookup x = some .local := by
      obtain ⟨h, _⟩ := ba2 hw
      obtain ⟨h, _⟩ := ba2 h
      exact of_decide_eq_true (ba2 h).2
    have hl := ps_setLc (X := X) (i := i) (y := x) (py := px) (spos := pos) (elt := .List [] pe) (tg := tg) (iter := iter) (ifs := []) (scope := scope) (own := ownN m.N t.ns) (pos := ps) sx.calm sx.nd (by rw [sx.N]; exact of_decide_eq_true h1) hy (by rw [swaps_lc hk, hw]) (hi U F B) (by rw [sx.N, sx.sc]; exact blkOk_by hb)
      (g := rdG X.K t) (tt := ttX (gOf X ca zc) c .tru) (te := tE0)
      (fun s H C cl fp => g_ok (sx_blk sx.toSX s H scope cl C fp) (fun x hx => blk_loc x hx) ht)
      (fun s H C cl fp => soundC .tru (sx_blk sx.toSX s H scope cl C fp) (ifs := []) rfl)
      (fun s H C cl fp => pe_e0) hf
    rw [own_ns] at hl
    exact PS.imp hl fun Dd σ H q => core q
end
end Rj

namespace Rj
open PySem PySem.Spec PyProof.Rows L2
/-! ### a def within a def -/
/-- what is known of the def's own code object -/
structure ST [Nm] (X : Cx) (ca : Ca) (m : MC) : Prop where
  cd : m.dn ∈ m.mkd → X.env.code = .ref (He.cT X.K m.dn).1
  ql : X.env.qual = m.ql
  tabs : ∀ p ∈ m.mkd, LamX.TabB X.base X.mg (He.cT X.K p).1 (He.cT X.K p).2
  tbq : ca.tb = m.mkd.map (He.cT X.K)
section
variable [Nm] {X : Cx} {ca : Ca} {zc : List (Str × Addr)} {U : Addr → Prop} {F B : Hp} {W : WX} {c : Cl} {m : MC} {n : Nat}
open Classical in
theorem st_ndef {i k : Nat} {st : Stmt} {f : Fn} {fv : List Str} (sx : SS X ca zc m c n W) (stt : ST X ca m) (hnb : m.nb = true) (hk : m.fs.nds[k]? = some (f, fv)) (h0 : m.dn ∈ m.mkd) (h1 : nameAt m.N i f.name = true) (h2 : locB m.sc f.name = true) (h3 : f.qual = m.ql ++ f.name) (h4 : NdefX.ndefB m.sc (C8.fnScope (m.nst k)) fv = true) (hn : NdOk m k st) (U F B) :
    PS X st (rdSt (gOf X ca zc) U F B W c (.ndef i k)) := by
  obtain ⟨est, name, pos, e1, e2, e3, e4, e5, e6⟩ := hn
  obtain rfl := e2 _ hk
  refine ⟨fun pins s σ H D I ⟨env, K, rl, w, ok⟩ => ?_⟩
  have hT0 : TabG (He.cT X.K m.dn).2 H := rl.tb _ (by show _ ∈ ca.tb; rw [stt.tbq]; exact List.mem_map.mpr ⟨_, h0, rfl⟩)
  obtain ⟨T, eT⟩ : ∃ T : List NdefX.NTab, T = ((List.range s.heap.objs.size).filter fun P => decide (TabG P H)).map fun P => (P, Nm.nm) := ⟨_, rfl⟩
  have memT : ∀ P, TabG P H → (P, Nm.nm) ∈ T := fun P t => by
    rw [eT]
    obtain ⟨ps, h, _⟩ := id t
    exact List.mem_map.mpr ⟨P, List.mem_filter.mpr ⟨List.mem_range.mpr (I.hok _ _ h).lt, decide_eq_true t⟩, rfl⟩
  have ofT : ∀ p ∈ T, TabG p.1 H ∧ p.2 = Nm.nm := fun p hp => by
    rw [eT] at hp
    obtain ⟨P, hP, e⟩ := List.mem_map.mp hp
    subst e
    exact ⟨of_decide_eq_true (List.mem_filter.mp hP).2, rfl⟩
  have loc : L2.Loc X.env.scope f.name := by rw [sx.sc]; exact loc_of h2
  have ps := NdefX.ps_ndefMS (X := X) (st := st) (T := T) (nm := Nm.nm) (i := i) (name := f.name) (pos := pos) e1 (stt.tabs _ h0) (stt.cd h0) (memT _ hT0) (by rw [e3, stt.ql]) (fun p hp _ => (ofT p hp).2) (fun y hy e => by rw [sx.sc]; exact NdefX.ndef_free h4 y (by rw [← est]; exact hy) e) e4 e5 (e6 X.env) sx.nd (by rw [sx.N]; exact of_decide_eq_true h1) loc (sx.ft _ loc)
  refine ps.run pins s σ H D I ⟨fun p hp => by rw [(ofT p hp).2]; exact (ofT p hp).1, fun f' c' H1 eN nn T1 f0 f1 c1 => ?_⟩
  have sm : Same H H1 := ⟨fun b o e nt => eN b o e (fun ps z => by rw [z] at nt; exact nt), fun b ps e z => (by rw [nn b z] at e; cases e), fun {P} t => T1 _ (memT P t)⟩
  have eF : ∀ cc, NdefX.NF.of st f.name (X.env.qual ++ f.name) (cloFrom X.env.cells (C8.fnScope st).names []) cc = ca.nf k zc cc := fun cc => by
    rw [(sx.nfo k f fv hk).2, est, stt.ql, ← h3, sx.zq hnb]
  rw [eF] at f1 c1
  refine ok.nx _ _ _ w (rl.setNew sm (fun _ z => z.elim) (.inl fun _ _ _ _ e => nomatch e) fun hl => ?_)
  refine ⟨f', c', by rw [List.getElem?_set]; simp [← rl.len, hl], f1, ?_, c1⟩
  show (ca.nf k zc c').c = c'
  rw [(sx.nfo k f fv hk).2]
  rfl
theorem mTop_s {m : MC} {a : S} {b : Ss} {x : Stmt} {y : List Stmt} (h : ∀ i k, a ≠ .ndef i k) : mTop m (.cons a b) (x :: y) = (mS m a x && mTop m b y) := by
  cases a <;> first | rfl | exact absurd rfl (h _ _)
theorem ndTop_s {m : MC} {a : S} {b : Ss} {x : Stmt} {y : List Stmt} (h : ∀ i k, a ≠ .ndef i k) : ndTop m (.cons a b) (x :: y) = ndTop m b y := by
  cases a <;> first | rfl | exact absurd rfl (h _ _)
end
end Rj

namespace Rj
open PySem PySem.Spec PyProof.Rows L2
section
variable [Nm] {c : Cl} {n : Nat}
mutual
theorem soundS : ∀ (ir : S) {X : Cx} {ca : Ca} {zc : List (Str × Addr)} {m : MC} {W : WX} (sx : SS X ca zc m c n W) (hk : X.env.scope.kind = .function) {st : Stmt}, mS m ir st = true → ∀ (U : Addr → Prop) (F B : Hp), PS X st (rdSt (gOf X ca zc) U F B W c ir)
  | .asg i e, X, ca, zc, m, W, sx, hk, st, h, U, F, B => by
    replace h : q_asg m i e st = true := h
    unfold q_asg at h
    split at h
    · rename_i x px v p
      obtain ⟨h, h4⟩ := ba2 h
      obtain ⟨h, h3⟩ := ba2 h
      obtain ⟨h1, h2⟩ := ba2 h
      exact st_asgAny sx hk h1 h2 h4 U F B
    · exact absurd h Bool.false_ne_true
  | .unp is e, X, ca, zc, m, W, sx, hk, st, h, U, F, B => by
    replace h : q_unp m is e st = true := h
    unfold q_unp at h
    split at h
    · rename_i es k px v p
      obtain ⟨h, h3⟩ := ba2 h
      obtain ⟨h1, h2⟩ := ba2 h
      exact st_unp sx h1 h2 (soundE e sx.toSX h3) U F B
    · exact absurd h Bool.false_ne_true
  | .aug i op e, X, ca, zc, m, W, sx, hk, st, h, U, F, B => by
    replace h : q_aug m i op e st = true := h
    cases st <;> first | (exfalso; exact Bool.false_ne_true h) | skip
    rename_i tg o v p
    cases tg <;> first | (exfalso; exact Bool.false_ne_true h) | skip
    obtain ⟨h, h6⟩ := ba2 h
    obtain ⟨h, h5⟩ := ba2 h
    obtain ⟨h, h4⟩ := ba2 h
    obtain ⟨h, h3⟩ := ba2 h
    obtain ⟨h1, h2⟩ := ba2 h
    exact st_aug sx h1 h2 h4 h5 (soundE e sx.toSX h6) U F B
  | .app i e, X, ca, zc, m, W, sx, hk, st, h, U, F, B => by
    replace h : q_app m i e st = true := h
    unfold q_app at h
    split at h
    · rename_i x px f ap a cp p
      obtain ⟨h, h6⟩ := ba2 h
      obtain ⟨h, h5⟩ := ba2 h
      obtain ⟨h, h4⟩ := ba2 h
      obtain ⟨h, h3⟩ := ba2 h
      obtain ⟨h1, h2⟩ := ba2 h
      obtain rfl := of_decide_eq_true h4
      exact st_app sx h1 h2 h3 h5 h6 (soundE e sx.toSX h6) U F B
    · exact absurd h Bool.false_ne_true
  | .ext i e, X, ca, zc, m, W, sx, hk, st, h, U, F, B => by
    replace h : q_ext m i e st = true := h
    unfold q_ext at h
    split at h
    · rename_i x px f ap a cp p
      obtain ⟨h, h6⟩ := ba2 h
      obtain ⟨h, h5⟩ := ba2 h
      obtain ⟨h, h4⟩ := ba2 h
      obtain ⟨h, h3⟩ := ba2 h
      obtain ⟨h1, h2⟩ := ba2 h
      obtain rfl := of_decide_eq_true h4
      exact st_ext sx h1 h2 h3 h5 h6 (soundE e sx.toSX h6) U F B
    · exact absurd h Bool.false_ne_true
  | .setix i k e, X, ca, zc, m, W, sx, hk, st, h, U, F, B => by
    replace h : q_setix m i k e st = true := h
    unfold q_setix at h
    split at h
    · rename_i x px y p2 v p
      obtain ⟨h, h7⟩ := ba2 h
      obtain ⟨h, h6⟩ := ba2 h
      obtain ⟨h, h5⟩ := ba2 h
      obtain ⟨h, h4⟩ := ba2 h
      obtain ⟨h, h3⟩ := ba2 h
      obtain ⟨h1, h2⟩ := ba2 h
      exact st_setix sx h1 h2 h3 h4 h5 (soundE k sx.toSX h6) (soundE e sx.toSX h7) U F B
    · exact absurd h Bool.false_ne_true
  | .expr e, X, ca, zc, m, W, sx, hk, st, h, U, F, B => by
    replace h : q_expr m e st = true := h
    cases st <;> first | (exfalso; exact Bool.false_ne_true h) | skip
    obtain ⟨h1, h2⟩ := ba2 h
    exact st_expr h1 (soundE e sx.toSX h2) U F B
  | .ite t a b, X, ca, zc, m, W, sx, hk, st, h, U, F, B => by
    replace h : q_ite m t (mSs m a) (mSs m b) st = true := h
    cases st <;> first | (exfalso; exact Bool.false_ne_true h) | skip
    obtain ⟨h, h3⟩ := ba2 h
    obtain ⟨h1, h2⟩ := ba2 h
    exact st_ite (fun U F B => (soundB t sx.toSX h1 U F B).1) (soundSs a sx hk h2) (soundSs b sx hk h3) U F B
  | .for t it body, X, ca, zc, m, W, sx, hk, st, h, U, F, B => by
    replace h : q_for m t it (mSs m body) st = true := h
    cases st <;> first | (exfalso; exact Bool.false_ne_true h) | skip
    rename_i tg iter x oe p
    cases oe <;> first | (exfalso; exact Bool.false_ne_true h) | skip
    obtain ⟨h, h4⟩ := ba2 h
    obtain ⟨h, h3⟩ := ba2 h
    obtain ⟨h1, h2⟩ := ba2 h
    exact st_for sx (soundI it sx.toSX h1 h2) (g_ok (sc := m.sc) sx.toSX (fun x hx => ⟨by rw [sx.sc]; exact loc_of hx, sx.ft x (by rw [sx.sc]; exact loc_of hx)⟩) h3) (fold_it h1 X.env) (soundSs body sx hk h4) U F B
  | .whl t body, X, ca, zc, m, W, sx, hk, st, h, U, F, B => by
    replace h : q_whl m t (mSs m body) st = true := h
    cases st <;> first | (exfalso; exact Bool.false_ne_true h) | skip
    rename_i v x oe p
    cases oe <;> first | (exfalso; exact Bool.false_ne_true h) | skip
    obtain ⟨h1, h2⟩ := ba2 h
    exact st_whl sx (fun U F B => (soundB t sx.toSX h1 U F B).1) (soundSs body sx hk h2) U F B
  | .ret e, X, ca, zc, m, W, sx, hk, st, h, U, F, B => by
    replace h : q_ret m e st = true := h
    cases st <;> first | (exfalso; exact Bool.false_ne_true h) | skip
    rename_i v p
    cases v <;> first | (exfalso; exact Bool.false_ne_true h) | skip
    exact st_ret (soundE e sx.toSX h) U F B
  | .retN, X, ca, zc, m, W, sx, hk, st, h, U, F, B => by
    replace h : q_retN m st = true := h
    cases st <;> first | (exfalso; exact Bool.false_ne_true h) | skip
    rename_i v p
    cases v <;> first | (exfalso; exact Bool.false_ne_true h) | skip
    exact st_retN U F B
  | .brk, X, ca, zc, m, W, sx, hk, st, h, U, F, B => by
    replace h : q_brk m st = true := h
    cases st <;> first | (exfalso; exact Bool.false_ne_true h) | skip
    exact st_brk U F B
  | .cnt, X, ca, zc, m, W, sx, hk, st, h, U, F, B => by
    replace h : q_cnt m st = true := h
    cases st <;> first | (exfalso; exact Bool.false_ne_true h) | skip
    exact st_cnt U F B
  | .pass, X, ca, zc, m, W, sx, hk, st, h, U, F, B => by
    replace h : q_pass m st = true := h
    cases st <;> first | (exfalso; exact Bool.false_ne_true h) | skip
    exact st_pass U F B
  | .raise x, X, ca, zc, m, W, sx, hk, st, h, U, F, B => by
    replace h : q_raise m x st = true := h
    unfold q_raise at h
    split at h
    · rename_i y p1 s k p2 p3 p
      obtain ⟨h, h4⟩ := ba2 h
      obtain ⟨h, h3⟩ := ba2 h
      obtain ⟨h1, h2⟩ := ba2 h
      obtain rfl := of_decide_eq_true h1
      exact st_raise sx h2 h3 (of_decide_eq_true h4) U F B
    · exact absurd h Bool.false_ne_true
  | .setf x e, X, ca, zc, m, W, sx, hk, st, h, U, F, B => by
    replace h : q_setf m x e st = true := h
    unfold q_setf at h
    split at h
    · rename_i y py z pz v p
      obtain ⟨h, h6⟩ := ba2 h
      obtain ⟨h, h5⟩ := ba2 h
      obtain ⟨h, h4⟩ := ba2 h
      obtain ⟨h, h3⟩ := ba2 h
      obtain ⟨h1, h2⟩ := ba2 h
      obtain rfl := of_decide_eq_true h4
      exact st_setf sx h1 h2 h3 h5 (soundE e sx.toSX h6) U F B
    · exact absurd h Bool.false_ne_true
  | .sup x i es, X, ca, zc, m, W, sx, hk, st, h, U, F, B => by
    replace h : q_sup m x i es st = true := h
    unfold q_sup at h
    split at h
    · rename_i y py f ap z pz ys cp p
      obtain ⟨h, h11⟩ := ba2 h
      obtain ⟨h, h10⟩ := ba2 h
      obtain ⟨h, h9⟩ := ba2 h
      obtain ⟨h, h8⟩ := ba2 h
      obtain ⟨h, h7⟩ := ba2 h
      obtain ⟨h, h6⟩ := ba2 h
      obtain ⟨h, h5⟩ := ba2 h
      obtain ⟨h, h4⟩ := ba2 h
      obtain ⟨h, h3⟩ := ba2 h
      obtain ⟨h1, h2⟩ := ba2 h
      obtain ⟨h1, hq⟩ := ba2 h1
      obtain rfl := of_decide_eq_true h1
      obtain rfl := of_decide_eq_true h4
      exact st_sup sx (by simpa using hq) h2 (of_decide_eq_true h3) h5 h6 h7 h8 h9 (of_decide_eq_true h10) h11 (soundA es sx.toSX h11) U F B
    · exact absurd h Bool.false_ne_true
  | .pop i j, X, ca, zc, m, W, sx, hk, st, h, U, F, B => by
    replace h : q_pop m i j st = true := h
    unfold q_pop at h
    split at h
    · rename_i x px y py f ap cp p
      obtain ⟨h, h9⟩ := ba2 h
      obtain ⟨h, h8⟩ := ba2 h
      obtain ⟨h, h7⟩ := ba2 h
      obtain ⟨h, h6⟩ := ba2 h
      obtain ⟨h, h5⟩ := ba2 h
      obtain ⟨h, h4⟩ := ba2 h
      obtain ⟨h, h3⟩ := ba2 h
      obtain ⟨h1, h2⟩ := ba2 h
      obtain rfl := of_decide_eq_true h7
      exact st_pop sx h1 h2 h4 h5 h6 h8 (of_decide_eq_true h9) U F B
    · exact absurd h Bool.false_ne_true
  | .rev i, X, ca, zc, m, W, sx, hk, st, h, U, F, B => by
    replace h : q_rev m i st = true := h
    unfold q_rev at h
    split at h
    · rename_i x px f ap cp p
      obtain ⟨h, h5⟩ := ba2 h
      obtain ⟨h, h4⟩ := ba2 h
      obtain ⟨h, h3⟩ := ba2 h
      obtain ⟨h1, h2⟩ := ba2 h
      obtain rfl := of_decide_eq_true h4
      exact st_rev sx h1 h2 h3 h5 U F B
    · exact absurd h Bool.false_ne_true
  | .clr i, X, ca, zc, m, W, sx, hk, st, h, U, F, B => by
    replace h : q_clr m i st = true := h
    unfold q_clr at h
    split at h
    · rename_i x px f ap cp p
      obtain ⟨h, h5⟩ := ba2 h
      obtain ⟨h, h4⟩ := ba2 h
      obtain ⟨h, h3⟩ := ba2 h
      obtain ⟨h1, h2⟩ := ba2 h
      obtain rfl := of_decide_eq_true h4
      exact st_clr sx h1 h2 h3 h5 U F B
    · exact absurd h Bool.false_ne_true
  | .ins i k e, X, ca, zc, m, W, sx, hk, st, h, U, F, B => by
    replace h : q_ins m i k e st = true := h
    unfold q_ins at h
    split at h
    · rename_i x px f ap u v cp p
      obtain ⟨h, h7⟩ := ba2 h
      obtain ⟨h, h6⟩ := ba2 h
      obtain ⟨h, h5⟩ := ba2 h
      obtain ⟨h, h4⟩ := ba2 h
      obtain ⟨h, h3⟩ := ba2 h
      obtain ⟨h1, h2⟩ := ba2 h
      obtain rfl := of_decide_eq_true h4
      exact st_ins sx h1 h2 h3 h5 h6 h7 (soundE k sx.toSX h6) (soundE e sx.toSX h7) U F B
    · exact absurd h Bool.false_ne_true
  | .try body x e hd, X, ca, zc, m, W, sx, hk, st, h, U, F, B => by
    replace h : q_try m (mSs (m.tr hd.isR) body) x e hd st = true := h
    unfold q_try at h
    split at h
    · rename_i b y py nm suite p2 p
      obtain ⟨h, h7⟩ := ba2 h
      obtain ⟨h, h6⟩ := ba2 h
      obtain ⟨h, h5⟩ := ba2 h
      obtain ⟨h, h4⟩ := ba2 h
      obtain ⟨h, h3⟩ := ba2 h
      obtain ⟨h1, h2⟩ := ba2 h
      obtain ⟨h1, hq⟩ := ba2 h1
      obtain rfl := of_decide_eq_true h1
      exact st_try sx (by simpa using hq) h2 h3 (of_decide_eq_true h4) h6 h7 (fun W' pn xe sx' => soundSs body sx' hk h5) U F B
    · exact absurd h Bool.false_ne_true
  | .dset i k e, X, ca, zc, m, W, sx, hk, st, h, U, F, B => by
    replace h : q_dset m i k e st = true := h
    unfold q_dset at h
    split at h
    · rename_i x px y p2 v p
      obtain ⟨h, h7⟩ := ba2 h
      obtain ⟨h, h6⟩ := ba2 h
      obtain ⟨h, h5⟩ := ba2 h
      obtain ⟨h, h4⟩ := ba2 h
      obtain ⟨h, h3⟩ := ba2 h
      obtain ⟨h1, h2⟩ := ba2 h
      exact st_dset sx h1 h2 h3 h4 h5 (soundE k sx.toSX h6) (soundE e sx.toSX h7) U F B
    · exact absurd h Bool.false_ne_true
  | .dnw i, X, ca, zc, m, W, sx, hk, st, h, U, F, B => by
    replace h : q_dnw m i st = true := h
    unfold q_dnw at h
    split at h
    · rename_i x px pd p
      obtain ⟨h, h3⟩ := ba2 h
      obtain ⟨h1, h2⟩ := ba2 h
      exact st_dnw sx h1 h2 U F B
    · exact absurd h Bool.false_ne_true
  | .nnw i q, X, ca, zc, m, W, sx, hk, st, h, U, F, B => by
    replace h : q_nnw m i q st = true := h
    unfold q_nnw at h
    split at h
    · rename_i x px pd p
      obtain ⟨h, h3⟩ := ba2 h
      obtain ⟨h1, h2⟩ := ba2 h
      exact st_nnw sx h1 h2 U F B
    · exact absurd h Bool.false_ne_true
  | .nlc i t it, X, ca, zc, m, W, sx, hk, st, h, U, F, B => by
    replace h : q_nlc m i t it st = true := h
    unfold q_nlc at h
    split at h
    · rename_i x px pe tg iter scope ps p
      obtain ⟨h, h7⟩ := ba2 h
      obtain ⟨h, h6⟩ := ba2 h
      obtain ⟨h, h5⟩ := ba2 h
      obtain ⟨h, h4⟩ := ba2 h
      obtain ⟨h, h3⟩ := ba2 h
      obtain ⟨h1, h2⟩ := ba2 h
      exact st_nlc sx hk h1 h2 (soundI it sx.toSX h4 h5) h6 h7 (fold_it h4 X.env) U F B
    · exact absurd h Bool.false_ne_true
  | .napp1 i a, X, ca, zc, m, W, sx, hk, st, h, U, F, B => by
    replace h : q_napp1 m i a st = true := h
    unfold q_napp1 at h
    split at h
    · rename_i x px f ap u pl kk pt cp p
      obtain ⟨h, h6⟩ := ba2 h
      obtain ⟨h, h5⟩ := ba2 h
      obtain ⟨h, h4⟩ := ba2 h
      obtain ⟨h, h3⟩ := ba2 h
      obtain ⟨h1, h2⟩ := ba2 h
      obtain rfl := of_decide_eq_true h4
      exact st_napp1 sx h1 h2 h3 h5 h6 (soundE a sx.toSX h6) U F B
    · exact absurd h Bool.false_ne_true
  | .napp2 i a b, X, ca, zc, m, W, sx, hk, st, h, U, F, B => by
    replace h : q_napp2 m i a b st = true := h
    unfold q_napp2 at h
    split at h
    · rename_i x px f ap u u2 pl kk pt cp p
      obtain ⟨h, h7⟩ := ba2 h
      obtain ⟨h, h6⟩ := ba2 h
      obtain ⟨h, h5⟩ := ba2 h
      obtain ⟨h, h4⟩ := ba2 h
      obtain ⟨h, h3⟩ := ba2 h
      obtain ⟨h1, h2⟩ := ba2 h
      obtain rfl := of_decide_eq_true h4
      exact st_napp2 sx h1 h2 h3 h5 h6 h7 (soundE a sx.toSX h6) (soundE b sx.toSX h7) U F B
    · exact absurd h Bool.false_ne_true
  | .ninA i k e, X, ca, zc, m, W, sx, hk, st, h, U, F, B => by
    replace h : q_ninA m i k e st = true := h
    unfold q_ninA at h
    split at h
    · rename_i x px y p2 f ap u cp p
      obtain ⟨h, h8⟩ := ba2 h
      obtain ⟨h, h7⟩ := ba2 h
      obtain ⟨h, h6⟩ := ba2 h
      obtain ⟨h, h5⟩ := ba2 h
      obtain ⟨h, h4⟩ := ba2 h
      obtain ⟨h, h3⟩ := ba2 h
      obtain ⟨h1, h2⟩ := ba2 h
      obtain rfl := of_decide_eq_true h5
      exact st_ninA sx h1 h2 h3 h4 h6 h8 (soundE k sx.toSX h7) (soundE e sx.toSX h8) U F B
    · exact absurd h Bool.false_ne_true
  | .ninE i k e, X, ca, zc, m, W, sx, hk, st, h, U, F, B => by
    replace h : q_ninE m i k e st = true := h
    unfold q_ninE at h
    split at h
    · rename_i x px y p2 f ap u cp p
      obtain ⟨h, h8⟩ := ba2 h
      obtain ⟨h, h7⟩ := ba2 h
      obtain ⟨h, h6⟩ := ba2 h
      obtain ⟨h, h5⟩ := ba2 h
      obtain ⟨h, h4⟩ := ba2 h
      obtain ⟨h, h3⟩ := ba2 h
      obtain ⟨h1, h2⟩ := ba2 h
      obtain rfl := of_decide_eq_true h5
      exact st_ninE sx h1 h2 h3 h4 h6 h8 (soundE k sx.toSX h7) (soundE e sx.toSX h8) U F B
    · exact absurd h Bool.false_ne_true
  | .ninQ i q k e, X, ca, zc, m, W, sx, hk, st, h, U, F, B => by
    replace h : q_ninQ m i q k e st = true := h
    unfold q_ninQ at h
    split at h
    · rename_i x px y p2 z kk p3 p4 f ap u cp p
      obtain ⟨h, h9⟩ := ba2 h
      obtain ⟨h, h8⟩ := ba2 h
      obtain ⟨h, h7⟩ := ba2 h
      obtain ⟨h, h6⟩ := ba2 h
      obtain ⟨h, h5⟩ := ba2 h
      obtain ⟨h, h4⟩ := ba2 h
      obtain ⟨h, h3⟩ := ba2 h
      obtain ⟨h1, h2⟩ := ba2 h
      obtain rfl := of_decide_eq_true h6
      exact st_ninQ sx h1 h2 h3 h4 (of_decide_eq_true h5) h7 h9 (soundE k sx.toSX h8) (soundE e sx.toSX h9) U F B
    · exact absurd h Bool.false_ne_true
  | .als s i k, X, ca, zc, m, W, sx, hk, st, h, U, F, B => by
    replace h : q_als m s i k st = true := h
    unfold q_als at h
    split at h
    · rename_i z pz x px y p2 p
      obtain ⟨h, h8⟩ := ba2 h
      obtain ⟨h, h7⟩ := ba2 h
      obtain ⟨h, h6⟩ := ba2 h
      obtain ⟨h, h5⟩ := ba2 h
      obtain ⟨h, h4⟩ := ba2 h
      obtain ⟨h, h3⟩ := ba2 h
      obtain ⟨h1, h2⟩ := ba2 h
      exact st_als sx h1 h2 h4 h5 h6 h7 (soundE k sx.toSX h8) U F B
    · exact absurd h Bool.false_ne_true
  | .aapp s q e, X, ca, zc, m, W, sx, hk, st, h, U, F, B => by
    replace h : q_aapp m s q e st = true := h
    unfold q_aapp at h
    split at h
    · rename_i x px z kk p3 p2 f ap u cp p
      obtain ⟨h, h7⟩ := ba2 h
      obtain ⟨h, h6⟩ := ba2 h
      obtain ⟨h, h5⟩ := ba2 h
      obtain ⟨h, h4⟩ := ba2 h
      obtain ⟨h, h3⟩ := ba2 h
      obtain ⟨h1, h2⟩ := ba2 h
      obtain rfl := of_decide_eq_true h5
      exact st_aapp sx h1 h2 h3 (of_decide_eq_true h4) h6 h7 (soundE e sx.toSX h7) U F B
    · exact absurd h Bool.false_ne_true
  | .alsl s i k, X, ca, zc, m, W, sx, hk, st, h, U, F, B => by
    replace h : q_alsl m s i k st = true := h
    unfold q_alsl at h
    split at h
    · rename_i z pz x px y p2 p
      obtain ⟨h, h8⟩ := ba2 h
      obtain ⟨h, h7⟩ := ba2 h
      obtain ⟨h, h6⟩ := ba2 h
      obtain ⟨h, h5⟩ := ba2 h
      obtain ⟨h, h4⟩ := ba2 h
      obtain ⟨h, h3⟩ := ba2 h
      obtain ⟨h1, h2⟩ := ba2 h
      exact st_alsl sx h1 h2 h4 h5 h6 h7 (soundE k sx.toSX h8) U F B
    · exact absurd h Bool.false_ne_true
  | .aapl s e, X, ca, zc, m, W, sx, hk, st, h, U, F, B => by
    replace h : q_aapl m s e st = true := h
    unfold q_aapl at h
    split at h
    · rename_i x px f ap u cp p
      obtain ⟨h, h6⟩ := ba2 h
      obtain ⟨h, h5⟩ := ba2 h
      obtain ⟨h, h4⟩ := ba2 h
      obtain ⟨h, h3⟩ := ba2 h
      obtain ⟨h1, h2⟩ := ba2 h
      obtain rfl := of_decide_eq_true h4
      exact st_aapl sx h1 h2 h3 h5 h6 (soundE e sx.toSX h6) U F B
    · exact absurd h Bool.false_ne_true
  | .ndef i k, X, ca, zc, m, W, sx, hk, st, h, U, F, B => by
    exfalso
    cases st <;> exact Bool.false_ne_true h
  | .forO t i body, X, ca, zc, m, W, sx, hk, st, h, U, F, B => by
    replace h : q_forO m t i (mSs m body) st = true := h
    cases st <;> first | (exfalso; exact Bool.false_ne_true h) | skip
    rename_i tg iter x oe p
    cases oe <;> first | (exfalso; exact Bool.false_ne_true h) | skip
    obtain ⟨h, h4⟩ := ba2 h
    obtain ⟨h1, h3⟩ := ba2 h
    exact st_forO sx (soundI (.e (.var i)) sx.toSX h1 rfl) (g_ok (sc := m.sc) sx.toSX (fun x hx => ⟨by rw [sx.sc]; exact loc_of hx, sx.ft x (by rw [sx.sc]; exact loc_of hx)⟩) h3) (fold_it (it := .e (.var i)) h1 X.env) (soundSs body sx hk h4) U F B
  | .fz is s, X, ca, zc, m, W, sx, hk, st, h, U, F, B => by
    have h : mS m s st = true := by
      cases st <;> exact h
    exact PS.imp (soundS s sx hk h U F B) fun Dd σ H ⟨env, K, rl, w, ok⟩ => ⟨_, K, RelW.frz is rl, w, ok⟩
theorem soundSs : ∀ (ir : Ss) {X : Cx} {ca : Ca} {zc : List (Str × Addr)} {m : MC} {W : WX} (sx : SS X ca zc m c n W) (hk : X.env.scope.kind = .function) {st : List Stmt}, mSs m ir st = true → ∀ (U : Addr → Prop) (F B : Hp), PSs X st (rdSs (gOf X ca zc) U F B W c ir)
  | .nil, X, ca, zc, m, W, sx, hk, st, h, U, F, B => by
    cases st with
    | nil => exact PSs.imp pss_nil fun Dd σ H ⟨env, K, rl, w, ok⟩ => ok.nx _ _ _ w rl
    | cons => cases h
  | .cons a b, X, ca, zc, m, W, sx, hk, st, h, U, F, B => by
    cases st with
    | nil => cases h
    | cons x y =>
      obtain ⟨h1, h2⟩ := ba2 h
      refine PSs.imp (pss_cons (soundS a sx hk h1 U F B) (soundSs b sx hk h2 U F B)) fun Dd σ H ⟨env, K, rl, w, ok⟩ => ?_
      exact ⟨env, _, rl, w, fun env' σ' H' q r => ⟨env', K, r, q, ok⟩, ok.rt, ok.bk, ok.ct, ok.ex⟩
end
end
end Rj

namespace Rj
open PySem PySem.Spec PyProof.Rows L2
theorem soundTop [Nm] {c : Cl} {n : Nat} : ∀ (ir : Ss) {X : Cx} {ca : Ca} {zc : List (Str × Addr)} {m : MC} {W : WX} (sx : SS X ca zc m c n W) (stt : ST X ca m) (hnb : m.nb = true) (hk : X.env.scope.kind = .function) {st : List Stmt}, mTop m ir st = true → ndTop m ir st → ∀ (U : Addr → Prop) (F B : Hp), PSs X st (rdSs (gOf X ca zc) U F B W c ir)
  | .nil, X, ca, zc, m, W, sx, stt, hnb, hk, st, h, hn, U, F, B => by
    cases st with
    | nil => exact PSs.imp pss_nil fun Dd σ H ⟨env, K, rl, w, ok⟩ => ok.nx _ _ _ w rl
    | cons => cases h
  | .cons a b, X, ca, zc, m, W, sx, stt, hnb, hk, st, h, hn, U, F, B => by
    cases st with
    | nil => cases a <;> cases h
    | cons x y =>
      have both : (PS X x (rdSt (gOf X ca zc) U F B W c a)) ∧ mTop m b y = true ∧ ndTop m b y := by
        by_cases hc : ∃ i k, a = .ndef i k
        · obtain ⟨i, k, rfl⟩ := hc
          obtain ⟨n1, n2⟩ := hn
          obtain ⟨h1, h2⟩ := ba2 h
          refine ⟨?_, h2, n2⟩
          cases q : m.fs.nds[k]? with
          | none => rw [q] at h1; cases h1
          | some p =>
            rw [q] at h1
            obtain ⟨h1, g5⟩ := ba2 h1
            obtain ⟨h1, g4⟩ := ba2 h1
            obtain ⟨h1, g3⟩ := ba2 h1
            obtain ⟨g1, g2⟩ := ba2 h1
            exact st_ndef sx stt hnb (f := p.1) (fv := p.2) q (of_decide_eq_true g1) g2 g3 (of_decide_eq_true g4) g5 n1 U F B
        · have hc : ∀ i k, a ≠ .ndef i k := fun i k e => hc ⟨i, k, e⟩
          rw [mTop_s hc] at h
          rw [ndTop_s hc] at hn
          obtain ⟨h1, h2⟩ := ba2 h
          exact ⟨soundS a sx hk h1 U F B, h2, hn⟩
      refine PSs.imp (pss_cons both.1 (soundTop b sx stt hnb hk both.2.1 both.2.2 U F B)) fun Dd σ H ⟨env, K, rl, w, ok⟩ => ?_
      exact ⟨env, _, rl, w, fun env' σ' H' q r => ⟨env', K, r, q, ok⟩, ok.rt, ok.bk, ok.ct, ok.ex⟩
end Rj

namespace Rj
open PySem PySem.Spec PyProof.Rows L2
/-! ### defs -/
/-- the words of a def's text -/
def MC.def_ (m0 : MC) (f : Fn) (st : Stmt) (q : Bool) : MC := { m0 with N := f.N, sc := defScope st, q := q, tp := true, nb := true, tl := true, dn := f.at, ql := f.qual ++ ".<locals>." }
/-- .. of the text of the def k within a def -/
def MC.ndef_ (m0 : MC) (k : Nat) (f : Fn) : MC := { m0 with N := f.N, sc := C8.fnScope (m0.nst k), q := false, tp := true, nb := true, tl := false }
/-- a def of the text: where it stands, what it is reckoned as -/
structure DefOk [Nm] (m0 : MC) (f : Fn) (st : Stmt) : Prop where
  np : f.np ≤ f.N.length
  sc : FnScope f.N (f.N.take f.np) (defScope st)
  body : mTop (m0.def_ f st false) f.body (defBody st) = true
  calm : (!m0.fs.cm.contains f.name || mTop (m0.def_ f st true) f.body (defBody st)) = true
  nd : ∀ q, ndTop (m0.def_ f st q) f.body (defBody st)
/-- a def within a def -/
structure NDefOk (m0 : MC) (k : Nat) (f : Fn) (fv : List Str) : Prop where
  np : f.np ≤ f.N.length
  sc : NdefX.NScope f.N (f.N.take f.np) fv (C8.fnScope (m0.nst k))
  body : mSs (m0.ndef_ k f) f.body (C8.fnBody (m0.nst k)) = true
  bd : ∀ (cl : List (Str × Addr)) (cc : Addr) (doc pm ctv : Value) (us : List Value), us.length = (f.N.take f.np).length → bindArgs ((NdefX.NF.of (m0.nst k) f.name f.qual cl cc).fd doc pm ctv) ⟨us, []⟩ = pure ((f.N.take f.np).zip us)
def NOks (m : MC) : Nat → List (Fn × List Str) → Prop
  | _, [] => True
  | k, p :: r => NDefOk m k p.1 p.2 ∧ NOks m (k + 1) r
theorem NOks.at {m : MC} : ∀ {l : List (Fn × List Str)} {n : Nat}, NOks m n l → ∀ (k : Nat) (f : Fn) (fv : List Str), l[k]? = some (f, fv) → NDefOk m (n + k) f fv
  | [], _, _, k, f, fv, e => by cases e
  | p :: r, n, h, 0, f, fv, e => by
    cases e
    exact h.1
  | p :: r, n, h, k + 1, f, fv, e => by
    have := NOks.at h.2 k f fv (by simpa using e)
    rwa [show n + 1 + k = n + (k + 1) by omega] at this
theorem env0_at {N : Nat} {ds : List D} {i : Nat} {s : Sl} (e : (env0 N ds)[i]? = some s) : (∃ d, ds[i]? = some d ∧ s = .val d false) ∨ s = .un := by
  unfold env0 at e
  by_cases hi : i < (ds.map fun d => Sl.val d false).length
  · rw [List.getElem?_append_left hi, List.getElem?_map] at e
    cases q : ds[i]? with
    | none => rw [q] at e; cases e
    | some d =>
      rw [q] at e
      cases e
      exact .inl ⟨d, rfl, rfl⟩
  · rw [List.getElem?_append_right (by omega), List.getElem?_replicate] at e
    split at e
    · cases e
      exact .inr rfl
    · cases e
theorem env0_nex {N : Nat} {ds : List D} {σ : L2.St} {a : Addr} : ¬ Ex (env0 N ds) σ a := fun ⟨i, s, v, e1, _, e3⟩ => by
  rcases env0_at e1 with ⟨d, _, e⟩ | e <;> subst e <;> exact e3
theorem start_rel [Nm] {g : GZ} {A : Addr → Prop} {H : Hp} {N : List Str} {ds : List D} {vs : List V} {σ : L2.St} (hσ : σ.length = N.length) (hv : ∀ (i : Nat) (v : V), vs[i]? = some v → σ[i]? = some (some v)) (hl : ds.length ≤ N.length) (h : RepL g A H ds vs) (tb : TbOk g.ca H) : RelW g (fun a => A a ∨ H a = none) H H (env0 N.length ds) σ H := by
  refine ⟨?_, fun a h => .inr h, Same.refl _, Same.refl _, fun i s e => ?_, fun i j a w _ => (env0_nex ⟨i, w⟩).elim, tb⟩
  · unfold env0
    simp only [List.length_append, List.length_map, List.length_replicate, hσ]
    omega
  · rcases env0_at e with ⟨d, e1, e2⟩ | e2
    · subst e2
      obtain ⟨v, h1, h2⟩ := h.get e1
      exact ⟨v, hv i v h1, h2.mono fun a z => ⟨⟨.inl z, env0_nex⟩, fun z => by cases z⟩⟩
    · subst e2
      trivial
theorem start_at {N : List Str} {vs : List V} (hl : vs.length ≤ N.length) : (L2.start N vs).length = N.length ∧ ∀ (i : Nat) (v : V), vs[i]? = some v → (L2.start N vs)[i]? = some (some v) := by
  unfold L2.start
  refine ⟨by simp; omega, fun i v e => ?_⟩
  have hi : i < vs.length := (List.getElem?_eq_some_iff.mp e).1
  rw [List.getElem?_append_left (by rw [List.length_map]; exact hi), List.getElem?_map, e]
  rfl
/-- what stands the same for all defs of the text -/
structure Mo (K : PySem.W.Frag) (mg : Str → Option Value) (ca : Ca) (m : MC) : Prop where
  bl : ∀ x, x ∈ m.bl → mg x = none
  gi : ∀ p, p ∈ m.gi → ∃ t, mg p.1 = some (.int p.2 t)
  gs : ∀ p, p ∈ m.gs → ∃ t, mg p.1 = some (.str p.2 t)
  ex : ∀ x, x ∈ m.ex → mg x = some (.ref (ca x)) ∧ PySem.W.excIn K (ca x) He.veBase "ValueError.__new__" = true ∧ PySem.W.keepIn K (.ref (ca x)) = true ∧ PySem.W.subIn K (.ref (ca x)) (.type "BaseException") = some true ∧ PySem.W.typeIn K (.ref (ca x)) = some (.type "type")
  cf : Cf K mg ca m
/-- where a def stands, how its arguments are bound -/
structure FnAt (K : PySem.W.Frag) (mg : Str → Option Value) (f : Fn) (st : Stmt) (fd : FuncData) : Prop where
  mg : f.own = none → mg f.name = some (.ref (adr K f))
  fn : FunD K f.name f.qual (defArgs st) (defBody st) (defScope st) (List.replicate f.dv .non) [] (adr K f) fd
  bd : L2.Binds K fd (f.N.take f.np) []
  bdd : f.dv = 1 → L2.Binds K fd (f.N.take f.np) [.none]
/-- a def's rule, its code object known -/
theorem fund_at {P : Program} {w : World} {K : PySem.W.Frag} {mg : Str → Option Value} {base : Heap} {x qual : Str} {params : Arguments} {body : List Stmt} {scope : Scope} {dvs : List V} {kws : List (Str × V)} {p : Str × Option Str} {fd : FuncData} {CX : CXT} {N ps : List Str} {k : Nat} {sp : Sp}
    (F : FunD K x qual params body scope dvs kws (He.fAd K p) fd) (S : FnScope N ps scope) (len : ∀ vs H Q E, sp vs H Q E → vs.length = ps.length)
    (h : ∀ (cdv : Value), cdv = .ref (He.cT K p).1 → ∀ (A : Around) (outer : List Env) (s : Shared) (H : Hp) (vs : List V) (Q : VK) (E : XK), Room k (A.deeper (envOfC qual scope s.heap.objs.size (He.fAd K p) cdv)) → sp vs H Q E →
      ∃ t, PSs (cxOf CX P w K mg base N qual scope (He.fAd K p) cdv A outer s H E) body t ∧ t { nx := fun _ H' => Q .non H', rt := Q } (L2.start N vs) H) : FnOk P w K mg base CX (k + 1) (He.fAd K p) fd ps sp := by
  obtain ⟨oc, od, dV, kV, doc, pm, an, cdv, ct, osl, e, lk, hcd, _⟩ := F.ex
  subst e
  obtain ⟨cc, ecc⟩ := He.codeIn_ref hcd
  exact fn_of lk hcd S len fun A outer s H vs Q E => h cdv (by
    rw [ecc]
    exact congrArg Value.ref (He.codeOf_eq lk ecc).symm) A outer s H vs Q E
/-- without the thing at x -/
def hideX (x : Addr) (H : Hp) : Hp := fun a => if a = x then none else H a
theorem hide_raw {x a : Addr} {H : Hp} {o : HO} (e : hideX x H a = some o) : H a = some o := by
  unfold hideX at e
  split at e
  · cases e
  · exact e
theorem hide_at {x a : Addr} {H : Hp} (ne : a ≠ x) : hideX x H a = H a := by
  unfold hideX
  rw [if_neg ne]
theorem hide_sub [Nm] {x C dx : Addr} {fs : List (Str × V)} {H : Hp} (hx : H x = some (.ins C dx fs)) : Same (hideX x H) H := by
  refine .of (fun b o e => hide_raw e) fun b ps e => ?_
  rw [hide_at fun z => by rw [z, hx] at e; cases e]
  exact e
theorem hide_tab [Nm] {x C dx P : Addr} {fs : List (Str × V)} {H : Hp} (hx : H x = some (.ins C dx fs)) (g : TabG P H) : TabG P (hideX x H) := by
  have at_ : ∀ {a : Addr} {o : HO}, H a = some o → (∀ C dx fs, o ≠ .ins C dx fs) → hideX x H a = some o := fun {a o} e n => by
    rw [hide_at fun z => by rw [z, hx] at e; exact n _ _ _ (Option.some.inj e).symm]
    exact e
  obtain ⟨ps, h1, h2, h3⟩ := g
  refine ⟨ps, at_ h1 (fun _ _ _ z => nomatch z), h2, fun pos cv hc => ?_⟩
  obtain ⟨c, e1, e2⟩ := h3 pos cv hc
  exact ⟨c, e1, at_ e2 (fun _ _ _ z => nomatch z)⟩
theorem init_nex {N : Nat} {ds : List D} {σ : L2.St} {a : Addr} {C : Str} : ¬ Ex (.slf C [] [] true :: env0 N ds) σ a := fun ⟨i, s, v, e1, _, e3⟩ => by
  cases i with
  | zero =>
    cases e1
    exact e3
  | succ i =>
    rcases env0_at (show (env0 N ds)[i]? = some s by simpa using e1) with ⟨d, _, e⟩ | e <;> subst e <;> exact e3
/-- an __init__ begins -/
theorem init_rel [Nm] {g : GZ} {A : Addr → Prop} {H : Hp} {N : List Str} {ds : List D} {vs : List V} {x dx : Addr} {C : Str} (hl : ds.length + 1 ≤ N.length) (hx : H x = some (.ins (g.ca C) dx [])) (nx : ¬ A x) (h : RepL g A H ds vs) (tb : TbOk g.ca H) :
    RelW g (fun a => (A a ∨ H a = none) ∧ a ≠ x) (hideX x H) (hideX x H) (.slf C [] [] true :: env0 (N.length - 1) ds) (L2.start N (.ref x :: vs)) H := by
  have hlen := h.len
  have nA : ∀ a, A a → a ≠ x := fun a z e => nx (by rw [← e]; exact z)
  obtain ⟨l1, l2⟩ := start_at (N := N) (vs := .ref x :: vs) (by simp [hlen]; exact hl)
  refine ⟨?_, fun a h => ⟨.inr h, fun e => by rw [e, hx] at h; cases h⟩, Same.refl _, hide_sub hx, fun i s e => ?_, fun i j a w _ => (init_nex ⟨i, w⟩).elim, tb⟩
  · unfold env0
    rw [l1]
    simp only [List.length_append, List.length_map, List.length_replicate, List.length_cons]
    omega
  · cases i with
    | zero =>
      cases e
      refine ⟨rfl, x, dx, [], l2 0 _ rfl, hx, rfl, ⟨?_, fun z => z.2 rfl⟩, rfl⟩
      unfold hideX
      rw [if_pos rfl]
    | succ i =>
      rcases env0_at (show (env0 (N.length - 1) ds)[i]? = some s by simpa using e) with ⟨d, e1, e2⟩ | e2
      · subst e2
        obtain ⟨v, h1, h2⟩ := h.get e1
        exact ⟨v, l2 (i + 1) v (by simpa using h1), h2.mono fun a z => ⟨⟨⟨.inl z, nA a z⟩, init_nex⟩, fun z => by cases z⟩⟩
      · subst e2
        trivial
section
variable [Nm] {P : Program} {w : World} {K : PySem.W.Frag} {mg : Str → Option Value} {base : Heap} {ca : Ca} {m : MC}
theorem cl_len {p : Prg} : ∀ (n : Nat) (i : Nat) (f : Fn) (ds : List D) (Q : D → Prop) (R : Exn), p.fns[i]? = some f → (clo p n).call i ds Q R → ds.length = f.np
  | 0, i, f, ds, Q, R, e, h => h.elim
  | n + 1, i, f, ds, Q, R, e, h => by
    have h : (match p.fns[i]? with
      | some f => wpF (clo p n) f ds Q R
      | none => False) := h
    rw [e] at h
    exact h.1
theorem ini_len {p : Prg} : ∀ (n : Nat) (i : Nat) (f : Fn) (C : Str) (ds : List D) (Q : List Str → List D → Prop) (R : Exn), p.fns[i]? = some f → (clo p n).init i C ds Q R → ds.length + 1 = f.np
  | 0, i, f, C, ds, Q, R, e, h => h.elim
  | n + 1, i, f, C, ds, Q, R, e, h => by
    have h : (match p.fns[i]? with
      | some f => wpN (clo p n) f C ds Q R
      | none => False) := h
    rw [e] at h
    exact h.1
/-- what is known of a def at a level -/
def Known (P : Program) (w : World) (K : PySem.W.Frag) (mg : Str → Option Value) (base : Heap) (ca : Ca) (m : MC) (n : Nat) : Prop :=
  ∀ (j : Nat) (f : Fn), m.fs.fns[j]? = some f → ∃ (fd : FuncData), (f.own = none → mg f.name = some (.ref (adr K f))) ∧ PySem.W.keepIn K (.ref (adr K f)) = true ∧ L2.Binds K fd (f.N.take f.np) [] ∧ (f.dv = 1 → L2.Binds K fd (f.N.take f.np) [.none]) ∧ FnOk P w K mg base (L2.CX P w) n (adr K f) fd (f.N.take f.np) (spS ⟨K, ca⟩ (clo m.fs n) j f) ∧ (m.fs.cm.contains f.name = true → FnOk P w K mg base (L2N.CX P w) n (adr K f) fd (f.N.take f.np) (spS ⟨K, ca⟩ (clo m.fs n) j f))
/-- .. of a def within a def -/
def KnownN (P : Program) (w : World) (K : PySem.W.Frag) (mg : Str → Option Value) (base : Heap) (ca : Ca) (m : MC) (n : Nat) : Prop :=
  ∀ (k : Nat) (f : Fn) (fv : List Str), m.fs.nds[k]? = some (f, fv) → ∀ cl cc a, NdefX.NOk P w K mg base (L2.CX P w) n a (ca.nf k cl cc) (f.N.take f.np) fv (spN ⟨K, ca⟩ (clo m.fs n) k f)
/-- what stands in ca -/
structure CaOk (K : PySem.W.Frag) (ca : Ca) (m : MC) : Prop where
  nf : ∀ (k : Nat) (f : Fn) (fv : List Str), m.fs.nds[k]? = some (f, fv) → ca.fv k = fv ∧ ∀ cl cc, ca.nf k cl cc = NdefX.NF.of (m.nst k) f.name f.qual (cloFrom cl (C8.fnScope (m.nst k)).names []) cc
  tb : ca.tb = m.mkd.map (He.cT K)
theorem fnc_at {p : Prg} : ∀ (n : Nat) (k : Nat) (ds cs : List D) (Q : D → Prop), (clo p n).fnc k ds cs Q → ∃ f fv, p.nds[k]? = some (f, fv) ∧ ds.length = f.np ∧ cs.length = fv.length
  | 0, k, ds, cs, Q, h => h.elim
  | n + 1, k, ds, cs, Q, h => by
    have h : (match p.nds[k]? with
      | some f => wpD (clo p n) f.1 f.2 ds cs Q
      | none => False) := h
    cases q : p.nds[k]? with
    | none => rw [q] at h; exact h.elim
    | some f =>
      rw [q] at h
      exact ⟨f.1, f.2, rfl, h.1.1, h.1.2⟩
theorem mkr_known {n : Nat} {A : Around} (hr : Room n A) (kn : ∀ k, k + 1 = n → Known P w K mg base ca m k) (i : Nat) (f : Fn) (C : Str) (ds : List D) (Q : List Str → List D → Prop) (R : Exn) (hf : m.fs.fns[i]? = some f) (hi : f.ini = true) (h : (clo m.fs n).mkr i C ds Q R) :
    ∃ (k : Nat) (fd : FuncData) (c' : Cl), c'.init i C ds Q R ∧ Room (k + 1) A ∧ L2.Binds K fd (f.N.take f.np) [] ∧ FnOk P w K mg base (L2.CX P w) k (adr K f) fd (f.N.take f.np) (spI ⟨K, ca⟩ c' i f) ∧ ds.length + 1 = f.np := by
  cases n with
  | zero => exact h.elim
  | succ n =>
    obtain ⟨fd, _, _, bd, _, hok, _⟩ := kn n rfl i f hf
    have h : (clo m.fs n).init i C ds Q R := h
    have e : spS ⟨K, ca⟩ (clo m.fs n) i f = spI ⟨K, ca⟩ (clo m.fs n) i f := if_pos hi
    rw [e] at hok
    exact ⟨n, fd, clo m.fs n, h, hr, bd, hok, ini_len n i f C ds Q R hf h⟩
/-- what a def lets out: any exception, or such without a context -/
def CXq (q : Bool) (P : Program) (w : World) : CXT := match q with
  | false => L2.CX P w
  | true => L2N.CX P w
theorem ss_of {n : Nat} {f : Fn} {st : Stmt} {q : Bool} {cdv : Value} {A : Around} {outer : List Env} {s : Shared} {H : Hp} {E : XK} (mo : Mo K mg ca m) (co : CaOk K ca m) (ok : DefOk m f st) (ih : Known P w K mg base ca m n) (ihN : KnownN P w K mg base ca m n) (ih2 : ∀ k, k + 1 = n → Known P w K mg base ca m k) (hr : Room n (A.deeper (envOfC f.qual (defScope st) s.heap.objs.size (adr K f) cdv))) :
    SS (cxOf (CXq q P w) P w K mg base f.N f.qual (defScope st) (adr K f) cdv A outer s H E) ca (cxOf (CXq q P w) P w K mg base f.N f.qual (defScope st) (adr K f) cdv A outer s H E).env.cells (m.def_ f st q) (clo m.fs n) n (fun cls d _ H => E cls d H) :=
  { N := rfl, sc := rfl, nd := ok.sc.nd, calm := rfl, room := hr, tk := fun e => (by cases q <;> first | exact takes_of rfl rfl rfl rfl | (cases e)), tkN := fun e => (by cases q <;> first | exact L2N.takes_of rfl rfl rfl rfl | (cases e)), pa := fun _ hd => (by cases q <;> exact L2H.passesAt_of rfl hd), prg := clo_prg,
    fn := fun j f h => let ⟨fd, a, b, c, _, d⟩ := ih j f h; ⟨fd, a, b, c, d⟩, fnd := fun j f h e => let ⟨fd, a, b, _, c, d⟩ := ih j f h; ⟨fd, a, b, c e, d⟩, nst := ihN, nfo := co.nf, ncl := fnc_at n, zq := fun _ => rfl, ft0 := fun _ _ _ => rfl,
    mkr := mkr_known hr ih2, cf := ⟨mo.cf.me, mo.cf.mks, mo.cf.su, mo.cf.at_, mo.cf.sb, mo.cf.ty, mo.cf.xs, mo.cf.xv⟩, po := passes_of rfl, ex := mo.ex, cl := cl_len n, ini := ini_len n, bl := mo.bl, gi := mo.gi, gs := mo.gs, ft := fun _ _ => .inl rfl, hs := rfl, hf := rfl }
theorem st_of {f : Fn} {st : Stmt} {q : Bool} {cdv : Value} {A : Around} {outer : List Env} {s : Shared} {H : Hp} {E : XK} (co : CaOk K ca m) (tabs : ∀ p ∈ m.mkd, LamX.TabB base mg (He.cT K p).1 (He.cT K p).2) (hc : cdv = .ref (He.cT K f.at).1) :
    ST (cxOf (CXq q P w) P w K mg base f.N f.qual (defScope st) (adr K f) cdv A outer s H E) ca (m.def_ f st q) := ⟨fun _ => hc, rfl, tabs, co.tb⟩
theorem startF_at {N : List Str} {vs us : List V} (h : (vs ++ us).length ≤ N.length) : (NdefX.startF N vs (us.map some)).length = N.length ∧ ∀ (i : Nat) (v : V), (vs ++ us)[i]? = some v → (NdefX.startF N vs (us.map some))[i]? = some (some v) := by
  unfold NdefX.startF
  rw [List.length_append] at h
  refine ⟨by simp; omega, fun i v e => ?_⟩
  have e2 : List.map some vs ++ (List.map some us ++ List.replicate (N.length - vs.length - (List.map some us).length) none) = List.map some (vs ++ us) ++ List.replicate (N.length - vs.length - (List.map some us).length) none := by rw [List.map_append, List.append_assoc]
  have hi : i < (vs ++ us).length := (List.getElem?_eq_some_iff.mp e).1
  rw [e2, List.getElem?_append_left (by rw [List.length_map]; exact hi), List.getElem?_map, e]
  rfl
/-- a nested def's body keeps its promise -/
theorem nd_sound {n k : Nat} {f : Fn} {fv : List Str} (mo : Mo K mg ca m) (co : CaOk K ca m) (hk : m.fs.nds[k]? = some (f, fv)) (ok : NDefOk m k f fv) (ih : Known P w K mg base ca m n) (ihN : KnownN P w K mg base ca m n) (ih2 : ∀ k, k + 1 = n → Known P w K mg base ca m k) (cl : List (Str × Addr)) (cc a : Addr) :
    NdefX.NOk P w K mg base (L2.CX P w) (n + 1) a (ca.nf k cl cc) (f.N.take f.np) fv (spN ⟨K, ca⟩ (clo m.fs (n + 1)) k f) := by
  have enf := (co.nf k f fv hk).2 cl cc
  rw [enf]
  have hnp : (f.N.take f.np).length = f.np := by
    rw [List.length_take]
    have := ok.np
    omega
  refine NdefX.nok_of (N := f.N) ok.sc (fun doc pm ctv us hl => ok.bd _ _ doc pm ctv us hl) (fun ws vs H Q E h => ?_) fun A outer s H vs ws Q E hr _ _ hl h => ?_
  · obtain ⟨A', ds, cs, us, Qd, _, h1, h2, _⟩ := h
    rw [h2.len, h1, hnp]
  · obtain ⟨A', ds, cs, us, Qd, rfl, h1, h2, h3, tb, hq, hQ⟩ := h
    have hq : wpD (clo m.fs n) f fv ds cs Qd := by
      have h : (match m.fs.nds[k]? with
        | some f => wpD (clo m.fs n) f.1 f.2 ds cs Qd
        | none => False) := hq
      rw [hk] at h
      exact h
    obtain ⟨⟨l1, l2⟩, hw⟩ := hq
    have sx : SS (NdefX.ncx (L2.CX P w) P w K mg base f.N (NdefX.NF.of (m.nst k) f.name f.qual (cloFrom cl (C8.fnScope (m.nst k)).names []) cc) a A outer s H E) ca (NdefX.ncx (L2.CX P w) P w K mg base f.N (NdefX.NF.of (m.nst k) f.name f.qual (cloFrom cl (C8.fnScope (m.nst k)).names []) cc) a A outer s H E).env.cells (m.ndef_ k f) (clo m.fs n) n (fun cls d _ H => E cls d H) :=
      { N := rfl, sc := rfl, nd := ok.sc.nd, calm := rfl, room := hr, tk := fun _ => takes_of rfl rfl rfl rfl, tkN := fun e => (by cases e), pa := fun _ hd => L2H.passesAt_of rfl hd, prg := clo_prg,
        fn := fun j f h => let ⟨fd, a, b, c, _, d⟩ := ih j f h; ⟨fd, a, b, c, d⟩, fnd := fun j f h e => let ⟨fd, a, b, _, c, d⟩ := ih j f h; ⟨fd, a, b, c e, d⟩, nst := ihN, nfo := co.nf, ncl := fnc_at n, zq := fun _ => rfl, ft0 := fun _ e => (by cases e),
        mkr := mkr_known hr ih2, cf := ⟨mo.cf.me, mo.cf.mks, mo.cf.su, mo.cf.at_, mo.cf.sb, mo.cf.ty, mo.cf.xs, mo.cf.xv⟩, po := passes_of rfl, ex := mo.ex, cl := cl_len n, ini := ini_len n, bl := mo.bl, gi := mo.gi, gs := mo.gs, ft := fun x hx => hx.elim .inr fun z => absurd rfl (ok.sc.nocell _ (PySem.mem_of_lookup z)), hs := rfl, hf := rfl }
    refine ⟨_, soundSs f.body sx ok.sc.kind ok.body (fun a => A' a ∨ H a = none) H H, ?_⟩
    have hlen : (vs ++ us).length ≤ f.N.length := by
      have q := congrArg List.length ok.sc.pre
      rw [List.length_take, List.length_append, hnp] at q
      have := h2.len
      have := h3.len
      rw [List.length_append]
      omega
    have hl2 : (ds ++ cs).length ≤ f.N.length := by
      have := h2.len
      have := h3.len
      rw [List.length_append] at hlen ⊢
      omega
    exact ⟨env0 f.N.length (ds ++ cs), _, start_rel (startF_at hlen).1 (startF_at hlen).2 hl2 (h2.app h3) tb, hw, fun env' σ' H' q r => q.elim, fun d inf v H' ⟨di, dq⟩ z => hQ d v H' dq z.1 fun _ => Rep.imm di z.2.1, fun _ _ _ q _ => q.elim, fun _ _ _ q _ => q.elim, fun _ _ _ _ q _ => q.elim⟩
/-- a def's body keeps the def's promise -/
theorem fn_sound {q : Bool} {n i : Nat} {f : Fn} {st : Stmt} {fd : FuncData} (mo : Mo K mg ca m) (co : CaOk K ca m) (tabs : ∀ p ∈ m.mkd, LamX.TabB base mg (He.cT K p).1 (He.cT K p).2) (at_ : FnAt K mg f st fd) (ok : DefOk m f st) (hi : m.fs.fns[i]? = some f)
    (hbody : mTop (m.def_ f st q) f.body (defBody st) = true) (ih : Known P w K mg base ca m n) (ihN : KnownN P w K mg base ca m n) (ih2 : ∀ k, k + 1 = n → Known P w K mg base ca m k) :
    FnOk P w K mg base (CXq q P w) (n + 1) (adr K f) fd (f.N.take f.np) (spS ⟨K, ca⟩ (clo m.fs (n + 1)) i f) := by
  have hnp : (f.N.take f.np).length ≤ f.N.length := by rw [List.length_take]; omega
  by_cases hini : f.ini = true
  · have es : spS ⟨K, ca⟩ (clo m.fs (n + 1)) i f = spI ⟨K, ca⟩ (clo m.fs (n + 1)) i f := if_pos hini
    rw [es]
    refine fund_at (p := f.at) at_.fn ok.sc (fun vs H Q E h => ?_) fun cdv hcd A outer s H vs Q E hr h => ?_
    · obtain ⟨A, x, dx, C, us, ds, Qd, R, rfl, h1, h2, h3, h4, _⟩ := h
      have := ok.np
      have := h4.len
      rw [List.length_take, List.length_cons]
      omega
    · obtain ⟨A', x, dx, C, us, ds, Qd, R, rfl, h1, h2, h3, h4, tb, h5, hQ, hE⟩ := h
      have h5 : wpN (clo m.fs n) f C ds Qd R := by
        have h : (match m.fs.fns[i]? with
          | some f => wpN (clo m.fs n) f C ds Qd R
          | none => False) := h5
        rw [hi] at h
        exact h
      have sx := ss_of (q := q) (cdv := cdv) (outer := outer) (E := E) (H := H) mo co ok ih ihN ih2 hr
      have stt := st_of (P := P) (w := w) (base := base) (mg := mg) (st := st) (q := q) (A := A) (outer := outer) (s := s) (H := H) (E := E) co tabs hcd
      refine ⟨_, soundTop f.body sx stt rfl ok.sc.kind hbody (ok.nd q) (fun a => (A' a ∨ H a = none) ∧ a ≠ x) (hideX x H) (hideX x H), ?_⟩
      have hl : ds.length + 1 ≤ f.N.length := by
        have := ok.np
        rw [h1]; exact this
      have sameX : ∀ {H' : Hp}, Same (hideX x H) H' → SameX x H H' := fun z => ⟨fun a o ne e n => z.k a o (by rw [hide_at ne]; exact e) n, fun a ps e => z.tt a ps (by rw [hide_at fun q => by rw [q, h2] at e; cases e]; exact e), fun t => z.t (hide_tab h2 t)⟩
      refine ⟨.slf C [] [] true :: env0 (f.N.length - 1) ds, _, init_rel hl h2 h3 h4 tb, h5.2, fun env' σ' H' q r => ?_, fun d inf v H' q z => q.elim, fun _ _ _ q _ => q.elim, fun _ _ _ q _ => q.elim, fun y env' σ' H' q r => hE y H' q (sameX r.bh)⟩
      obtain ⟨C', ks, es, fr, y, dy, fs, e1, e2, e3, e4, ⟨e5, e6⟩, e7, ⟨e8, en⟩, e9⟩ := slf_at r q
      subst e8
      -- there is one such thing alone
      have hy : y = x := by
        refine Classical.byContradiction fun ne => e6 ⟨.inr ?_, ne⟩
        have : hideX x H y = none := e5
        unfold hideX at this
        rw [if_neg ne] at this
        exact this
      subst hy
      refine hQ ks es H' dy fs e9 (sameX r.bh) e3 e4 (e7.mono fun a z => z.1.1) fun hf => e7.mono fun a z => ?_
      have w := z.2 (en hf)
      unfold hideX at w
      rwa [if_neg z.1.1.2] at w
  · have es : spS ⟨K, ca⟩ (clo m.fs (n + 1)) i f = spF ⟨K, ca⟩ (clo m.fs (n + 1)) i f := if_neg hini
    rw [es]
    refine fund_at (p := f.at) at_.fn ok.sc (fun vs H Q E h => ?_) fun cdv hcd A outer s H vs Q E hr h => ?_
    · obtain ⟨A, ds, Qd, R, h1, h2, h3, _⟩ := h
      have := ok.np
      have := h2.len
      rw [List.length_take]
      omega
    · obtain ⟨A', ds, Qd, R, h1, h2, tb, h3, hQ, hE⟩ := h
      have h3 : wpF (clo m.fs n) f ds Qd R := by
        have h : (match m.fs.fns[i]? with
          | some f => wpF (clo m.fs n) f ds Qd R
          | none => False) := h3
        rw [hi] at h
        exact h
      have sx := ss_of (q := q) (cdv := cdv) (outer := outer) (E := E) (H := H) mo co ok ih ihN ih2 hr
      have stt := st_of (P := P) (w := w) (base := base) (mg := mg) (st := st) (q := q) (A := A) (outer := outer) (s := s) (H := H) (E := E) co tabs hcd
      refine ⟨_, soundTop f.body sx stt rfl ok.sc.kind hbody (ok.nd q) (fun a => A' a ∨ H a = none) H H, ?_⟩
      have hl : ds.length ≤ f.N.length := by
        have := ok.np
        rw [h1]; exact this
      refine ⟨env0 f.N.length ds, _, start_rel (start_at (by rw [h2.len]; exact hl)).1 (start_at (by rw [h2.len]; exact hl)).2 hl h2 tb, h3.2, fun env' σ' H' q r => ?_, fun d inf v H' q z => ?_, fun _ _ _ q _ => q.elim, fun _ _ _ q _ => q.elim, fun x env' σ' H' q r => hE x H' q r.bh⟩
      · exact hQ .non .non H' q r.bh ⟨rfl, fun _ => ⟨rfl, fun ds z => by cases z⟩⟩
      · obtain ⟨q1, q2⟩ := q
        obtain ⟨z1, z2, z3⟩ := z
        refine hQ d v H' q2 z1 ⟨z2.mono fun a y => y.1, fun hf => ?_⟩
        unfold chk at q1
        rw [hf] at q1
        by_cases hi : d.imm = true
        · refine ⟨Rep.imm hi z2, fun es e => ?_⟩
          subst e
          simp [D.imm] at hi
        · have hi' : d.imm = false := by simpa using hi
          rw [hi'] at q1
          obtain ⟨q3, q4⟩ := ba2 (show (inf.fr && (!isL d || inf.top)) = true by simpa using q1)
          refine ⟨z2.mono fun a y => y.2 q3, fun es e => ?_⟩
          subst e
          have ht : inf.top = true := by simpa [isL] using q4
          obtain ⟨p, xs, es', e1, e2, e3, e4, e5⟩ := z3 ht
          cases e1
          exact ⟨p, xs, e2, e3, e4 q3, e5.mono fun a y => ⟨y.1 q3, y.2⟩⟩
end
end Rj

namespace Rj
open PySem PySem.Spec PyProof.Rows L2
/-! ### the nested defs' words -/
def nfO (m : MC) (k : Nat) (cl : List (Str × Addr)) (c : Addr) : NdefX.NF := match m.fs.nds[k]? with
  | some p => NdefX.NF.of (m.nst k) p.1.name p.1.qual (cloFrom cl (C8.fnScope (m.nst k)).names []) c
  | none => NdefX.NF.of (.Pass ⟨0, 0, 0, 0⟩) "" "" cl c
def fvO (m : MC) (k : Nat) : List Str := match m.fs.nds[k]? with
  | some p => p.2
  | none => []
def caOf (m : MC) (K : PySem.W.Frag) : Ca := ⟨He.ga K, nfO m, fvO m, m.mkd.map (He.cT K)⟩
/-! ### all defs of a text -/
def BindOk (f : Fn) (st : Stmt) : Prop := match f.dv with
  | 0 => ∀ (kV doc pm : Value) (an : Option Addr) (cdv ct : Value) (us : List Value), us.length = (f.N.take f.np).length →
    bindArgs (PySem.W.fnOf f.name f.qual (defArgs st) (defBody st) (defScope st) .none kV doc pm an cdv ct) ⟨us, []⟩ = pure ((f.N.take f.np).zip us)
  | 1 => (f.N.take f.np).length ≠ 0 ∧ ∀ (T : Addr) (kV doc pm : Value) (an : Option Addr) (cdv ct : Value) (us : List Value) (d : Value),
    (us.length = (f.N.take f.np).length → ∃ k, bindArgs (PySem.W.fnOf f.name f.qual (defArgs st) (defBody st) (defScope st) (.ref T) kV doc pm an cdv ct) ⟨us, []⟩ = seqItems? (.ref T) >>= k ∧ k (some [d].toArray) = pure ((f.N.take f.np).zip us)) ∧
    (us.length + 1 = (f.N.take f.np).length → ∃ k, bindArgs (PySem.W.fnOf f.name f.qual (defArgs st) (defBody st) (defScope st) (.ref T) kV doc pm an cdv ct) ⟨us, []⟩ = seqItems? (.ref T) >>= k ∧ k (some [d].toArray) = pure ((f.N.take f.np).zip (us ++ [d])))
  | _ => False
inductive Oks [Nm] (m : MC) : List Fn → List Stmt → Prop
  | nil : Oks m [] []
  | cons {f : Fn} {st : Stmt} {fs : List Fn} {sts : List Stmt} : DefOk m f st → BindOk f st → Oks m fs sts → Oks m (f :: fs) (st :: sts)
theorem Oks.at [Nm] {m : MC} : ∀ {fs : List Fn} {sts : List Stmt}, Oks m fs sts → ∀ (i : Nat) (f : Fn), fs[i]? = some f → ∃ st, (fnsOf fs sts)[i]? = some (dOf f st) ∧ DefOk m f st ∧ BindOk f st
  | _, _, .nil, i, f, h => by cases h
  | _, _, .cons (st := st) a b r, 0, f, h => by
    cases h
    exact ⟨st, rfl, a, b⟩
  | _, _, .cons a b r, i + 1, f, h => r.at i f h
theorem lookup_in {α β : Type} [BEq α] [LawfulBEq α] {a : α} {b : β} : ∀ {l : List (α × β)}, l.lookup a = some b → (a, b) ∈ l
  | [], h => by cases h
  | (x, y) :: l, h => by
    rw [List.lookup] at h
    split at h
    · rename_i q
      cases h
      have := eq_of_beq q
      subst this
      exact List.mem_cons_self
    · exact List.mem_cons_of_mem _ (lookup_in h)
theorem own_of {fs : List Fn} {i : Nat} {C x : Str} (h : ownB fs i C x = true) : ∃ f, fs[i]? = some f ∧ f.own = some C ∧ f.name = x := by
  unfold ownB at h
  cases q : fs[i]? with
  | none => rw [q] at h; cases h
  | some f =>
    rw [q] at h
    obtain ⟨h1, h2⟩ := ba2 h
    exact ⟨f, rfl, of_decide_eq_true h1, of_decide_eq_true h2⟩
theorem adr_own {K : PySem.W.Frag} {f : Fn} {C : Str} (h : f.own = some C) : adr K f = He.ma K (He.ga K C) f.name := by
  unfold adr Fn.at
  rw [h]
  rfl
theorem tyc_of {K : PySem.W.Frag} {C : Addr} (cl : Cls K C) (h : tycB K C = true) : TyC K C := by
  obtain ⟨h1, h⟩ := ba2 h
  obtain ⟨h2, h⟩ := ba2 h
  obtain ⟨h3, h4⟩ := ba2 h
  exact ⟨cl, He.eqO_ok h1, He.eqO_ok h2, of_decide_eq_true h3, of_decide_eq_true h4⟩
theorem exc_of {K : PySem.W.Frag} {D : Addr} (h : excB K D = true) : ExcC K D := by
  obtain ⟨h1, h⟩ := ba2 h
  obtain ⟨h2, h⟩ := ba2 h
  obtain ⟨h3, h⟩ := ba2 h
  obtain ⟨h4, h⟩ := ba2 h
  obtain ⟨h5, h⟩ := ba2 h
  obtain ⟨h6, h⟩ := ba2 h
  obtain ⟨h7, h8⟩ := ba2 h
  exact ⟨He.eqO_ok h1, He.eqO_ok h2, of_decide_eq_true h3, h4, He.eqO_ok h5, He.eqO_ok h6, of_decide_eq_true h7, of_decide_eq_true h8⟩
section
variable [Nm] {P : Program} {w : World} {K : PySem.W.Frag} {mg : Str → Option Value} {h : Heap} {m : MC} {sts : List Stmt}
theorem cf_of (X : K.In h) (G : h.Ns mainGlobals mg) (c : facB m K = true) : Cf K mg (caOf m K) m := by
  unfold facB at c
  obtain ⟨c1, c⟩ := ba2 c
  obtain ⟨c2, c⟩ := ba2 c
  obtain ⟨c3, c⟩ := ba2 c
  obtain ⟨c4, c⟩ := ba2 c
  obtain ⟨c5, c⟩ := ba2 c
  obtain ⟨c6, c⟩ := ba2 c
  obtain ⟨c7, c8⟩ := ba2 c
  refine ⟨fun C x i e => ?_, fun C i e => ?_, fun C i e => ?_, fun C x e => ?_, fun C T b e => ?_, fun T e => ?_, fun x T b e => ?_, fun x e => ?_⟩
  · obtain ⟨d1, d⟩ := ba2 (List.all_eq_true.mp c1 _ (lookup_in e))
    obtain ⟨d2, d⟩ := ba2 d
    obtain ⟨d3, d4⟩ := ba2 d
    obtain ⟨f, h1, h2, h3⟩ := own_of d1
    refine ⟨f, h1, ?_, h3, He.cls_ok d3, ?_⟩
    · unfold Fn.ini
      rw [h3]
      have d2 : (!decide (x = "__init__")) = true := d2
      rw [Bool.and_eq_false_iff]
      exact .inr (by simpa using d2)
    · rw [adr_own h2, h3]
      exact He.meth_ok d4
  · obtain ⟨d1, d⟩ := ba2 (List.all_eq_true.mp c2 _ e)
    obtain ⟨d2, d3⟩ := ba2 d
    obtain ⟨f, h1, h2, h3⟩ := own_of d1
    refine ⟨f, h1, ?_, ?_, He.glo_ok X G d3⟩
    · unfold Fn.ini
      rw [h2, h3]
      rfl
    · rw [adr_own h2, h3]
      exact He.mkr_ok d2
  · obtain ⟨d1, d⟩ := ba2 (List.all_eq_true.mp c3 _ e)
    obtain ⟨d2, d⟩ := ba2 d
    obtain ⟨d3, d⟩ := ba2 d
    obtain ⟨d4, d5⟩ := ba2 d
    obtain ⟨f, h1, h2, h3⟩ := own_of d1
    refine ⟨f, h1, ?_, He.glo_ok X G d2, ⟨d3, He.eqO_ok d4⟩, ?_⟩
    · unfold Fn.ini
      rw [h2, h3]
      rfl
    · rw [adr_own h2, h3]
      unfold initB at d5
      split at d5
      · rename_i a q
        have := of_decide_eq_true d5
        rw [this] at q
        exact ⟨q, rfl⟩
      · cases d5
  · have e : m.fs.at_.contains (C, x) = true := e
    obtain ⟨d1, d2⟩ := ba2 (List.all_eq_true.mp c4 _ (List.contains_iff_mem.mp e))
    exact ⟨He.cls_ok d1, He.noat_ok d2⟩
  · obtain ⟨d1, d⟩ := ba2 (List.all_eq_true.mp c5 _ (lookup_in e))
    obtain ⟨d2, d3⟩ := ba2 d
    exact ⟨tyc_of (He.cls_ok d1) d2, of_decide_eq_true d3⟩
  · obtain ⟨d1, d2⟩ := ba2 (List.all_eq_true.mp c6 _ e)
    exact ⟨He.glo_ok X G d1, fun s hs => of_decide_eq_true (List.all_eq_true.mp d2 s hs)⟩
  · obtain ⟨d1, d⟩ := ba2 (List.all_eq_true.mp c7 _ (lookup_in e))
    obtain ⟨d2, d3⟩ := ba2 d
    exact ⟨of_decide_eq_true d1, of_decide_eq_true d2, of_decide_eq_true d3⟩
  · obtain ⟨d1, d2⟩ := ba2 (List.all_eq_true.mp c8 _ e)
    exact ⟨of_decide_eq_true d1, exc_of d2⟩
theorem says {fa : List He.Fa} {fn : List He.DefD} (c : He.SaysD fa fn K) {f : He.Fa} (q : f ∈ fa) : f.ok K = true := by
  obtain ⟨i, hi, e⟩ := List.mem_iff_getElem.mp q
  exact c.fact i (f := f) (by rw [List.getElem?_eq_getElem hi, e])
theorem mo_of (X : K.In h) (G : h.Ns mainGlobals mg) {fn : List He.DefD} (c : He.SaysD (faOf m) fn K) (cb : facB m K = true) : Mo K mg (caOf m K) m where
  bl := fun x hx => He.free_ok X G (says c (List.mem_append_right _ (List.mem_append_left _ (List.mem_map.mpr ⟨x, hx, rfl⟩))))
  gi := fun p hp => He.int_ok X G (says c (List.mem_append_right _ (List.mem_append_right _ (List.mem_append_left _ (List.mem_map.mpr ⟨p, hp, rfl⟩)))))
  gs := fun p hp => He.str_ok X G (says c (List.mem_append_right _ (List.mem_append_right _ (List.mem_append_right _ (List.mem_append_left _ (List.mem_map.mpr ⟨p, hp, rfl⟩))))))
  ex := fun x hx => by
    have q := says c (f := .exc x) (List.mem_append_right _ (List.mem_append_right _ (List.mem_append_right _ (List.mem_append_right _ (List.mem_append_left _ (List.mem_map.mpr ⟨x, hx, rfl⟩))))))
    have q2 := says c (f := .glo x) (List.mem_append_right _ (List.mem_append_right _ (List.mem_append_right _ (List.mem_append_right _ (List.mem_append_right _ (List.mem_map.mpr ⟨x, hx, rfl⟩))))))
    exact ⟨He.glo_ok X G q2, He.exc_ok q⟩
  cf := cf_of X G cb
theorem vals_non {ds : List Value} (r : Vals [V.non] ds) : ds = [Value.none] := by
  cases r with
  | cons a q =>
    cases q
    obtain rfl := a
    rfl
theorem at_of (X : K.In h) (G : h.Ns mainGlobals mg) (oks : Oks m m.fs.fns sts) (c : He.SaysD (faOf m) (fnsOf m.fs.fns sts) K) (i : Nat) (f : Fn) (hi : m.fs.fns[i]? = some f) :
    ∃ st fd, FnAt K mg f st fd ∧ DefOk m f st ∧ (f.dv = 0 → ∀ (s : Shared) (us : List Value), us.length = (f.N.take f.np).length → BindsTo s fd ⟨us, []⟩ ((f.N.take f.np).zip us)) := by
  obtain ⟨st, h1, h2, h3⟩ := oks.at i f hi
  obtain ⟨fd, F⟩ := c.def_ i h1
  have F : FunD K f.name f.qual (defArgs st) (defBody st) (defScope st) (List.replicate f.dv .non) [] (adr K f) fd := by
    have e : (dOf f st).dvs K = List.replicate f.dv .non := by
      show List.map (He.Dv.v K) (List.replicate f.dv .non) = _
      rw [List.map_replicate]
      rfl
    rw [← e]
    exact F
  have own : f.own = none → mg f.name = some (.ref (adr K f)) := fun ho => by
    have e : adr K f = He.ga K f.name := by
      unfold adr Fn.at
      rw [ho]
      rfl
    rw [e]
    exact He.glo_ok X G (says c (f := .glo f.name) (List.mem_append_left _ (List.mem_map.mpr ⟨f, List.mem_filter.mpr ⟨List.mem_of_getElem? hi, by rw [ho]; rfl⟩, rfl⟩)))
  unfold BindOk at h3
  have F0 := F
  split at h3
  · rename_i e
    rw [e] at F
    exact ⟨st, fd, ⟨own, F0, FunD.bindsN F h3, fun z => by rw [e] at z; cases z⟩, h2, fun _ s us hl => FunD.bindsA F h3 s us hl⟩
  · rename_i e
    rw [e] at F
    obtain ⟨h4, h5⟩ := h3
    have one : ∀ its : List Value, its.length = ([V.non] : List V).length → ∃ d, its = [d] := fun its hl => by
      match its, hl with
      | [d], _ => exact ⟨d, rfl⟩
    refine ⟨st, fd, ⟨own, F0, ?_, fun _ => ?_⟩, h2, fun z => by rw [e] at z; cases z⟩
    · obtain ⟨ds, r, b⟩ := F.binds1 (ps := f.N.take f.np) (f.N.take f.np).length 1 (by simp) (by simp) fun T kV doc pm an cdv ct us its hu hl => by
        obtain ⟨d, rfl⟩ := one its hl
        obtain ⟨k, e1, e2⟩ := (h5 T kV doc pm an cdv ct us d).1 hu
        exact ⟨k, e1, by rw [e2]; simp⟩
      cases r
      exact b
    · obtain ⟨ds, r, b⟩ := F.binds1 (ps := f.N.take f.np) ((f.N.take f.np).length - 1) 0 (by simp) (by show (f.N.take f.np).length - 1 + 1 = (f.N.take f.np).length; omega) fun T kV doc pm an cdv ct us its hu hl => by
        obtain ⟨d, rfl⟩ := one its hl
        obtain ⟨k, e1, e2⟩ := (h5 T kV doc pm an cdv ct us d).2 (by omega)
        exact ⟨k, e1, by rw [e2]; simp⟩
      rw [vals_non r] at b
      exact b
  · exact h3.elim
theorem co_of : CaOk K (caOf m K) m := by
  refine ⟨fun k f fv e => ⟨?_, fun cl cc => ?_⟩, rfl⟩
  · show fvO m k = fv
    unfold fvO
    rw [e]
  · show nfO m k cl cc = _
    unfold nfO
    rw [e]
theorem all_sound (X : K.In h) (G : h.Ns mainGlobals mg) (oks : Oks m m.fs.fns sts) (nks : NOks m 0 m.fs.nds) (c : He.SaysD (faOf m) (fnsOf m.fs.fns sts) K) (cb : facB m K = true) (base : Heap) (tabs : ∀ p ∈ m.mkd, LamX.TabB base mg (He.cT K p).1 (He.cT K p).2) : ∀ (n : Nat), Known P w K mg base (caOf m K) m n ∧ KnownN P w K mg base (caOf m K) m n ∧ ∀ k, k + 1 = n → Known P w K mg base (caOf m K) m k
  | 0 => by
    refine ⟨fun j f hj => ?_, fun k f fv hk cl cc a => ?_, fun k e => by cases e⟩
    · obtain ⟨st, fd, at_, ok, bd⟩ := at_of X G oks c j f hj
      refine ⟨fd, at_.mg, at_.fn.kp, at_.bd, at_.bdd, ?_⟩
      have no : ∀ (vs : List V) (H : Hp) (Q : VK) (E : XK), spS ⟨K, caOf m K⟩ (clo m.fs 0) j f vs H Q E → False := fun vs H Q E z => by
        unfold spS at z
        split at z
        · obtain ⟨_, _, _, _, _, _, _, _, _, _, _, _, _, _, z, _⟩ := z
          exact z
        · obtain ⟨_, _, _, _, _, _, _, z, _⟩ := z
          exact z
      exact ⟨⟨fun vs H Q E z => (no vs H Q E z).elim, fun A outer s H args us vs Q E _ _ _ _ z => (no vs H Q E z).elim⟩, fun _ => ⟨fun vs H Q E z => (no vs H Q E z).elim, fun A outer s H args us vs Q E _ _ _ _ z => (no vs H Q E z).elim⟩⟩
    · have no : ∀ (ws : List (Option V)) (vs : List V) (H : Hp) (Q : VK) (E : XK), spN ⟨K, caOf m K⟩ (clo m.fs 0) k f ws vs H Q E → False := fun ws vs H Q E z => by
        obtain ⟨_, _, _, _, _, _, _, _, _, _, z, _⟩ := z
        exact z
      exact ⟨fun ws vs H Q E z => (no ws vs H Q E z).elim, fun A outer s H us vs ws Q E _ _ _ _ _ _ z => (no ws vs H Q E z).elim⟩
  | n + 1 => by
    obtain ⟨i1, iN, i2⟩ := all_sound X G oks nks c cb base tabs n
    refine ⟨fun j f hj => ?_, fun k f fv hk cl cc a => ?_, fun k e => by cases e; exact i1⟩
    · obtain ⟨st, fd, at_, ok, bd⟩ := at_of X G oks c j f hj
      exact ⟨fd, at_.mg, at_.fn.kp, at_.bd, at_.bdd, fn_sound (q := false) (mo_of X G c cb) co_of tabs at_ ok hj ok.body i1 iN i2, fun hc => fn_sound (q := true) (mo_of X G c cb) co_of tabs at_ ok hj (by have := ok.calm; rw [hc] at this; exact this) i1 iN i2⟩
    · exact nd_sound (mo_of X G c cb) co_of hk (by have := nks.at k f fv hk; rwa [Nat.zero_add] at this) i1 iN i2 cl cc a
/-- how a def's arguments are bound -/
theorem binds_at (X : K.In h) (G : h.Ns mainGlobals mg) (oks : Oks m m.fs.fns sts) (nks : NOks m 0 m.fs.nds) (c : He.SaysD (faOf m) (fnsOf m.fs.fns sts) K) (i : Nat) (f : Fn) (hi : m.fs.fns[i]? = some f) (ho : f.own = none) (hdv : f.dv = 0) :
    ∃ fd, mg f.name = some (.ref (adr K f)) ∧ (∀ (s : Shared) (us : List Value), us.length = (f.N.take f.np).length → BindsTo s fd ⟨us, []⟩ ((f.N.take f.np).zip us)) ∧ ∀ (P : Program) (w : World) (base : Heap) (n : Nat), facB m K = true → (∀ p ∈ m.mkd, LamX.TabB base mg (He.cT K p).1 (He.cT K p).2) → FnOk P w K mg base (L2.CX P w) n (adr K f) fd (f.N.take f.np) (spF ⟨K, caOf m K⟩ (clo m.fs n) i f) := by
  obtain ⟨st, fd, at_, ok, bd⟩ := at_of X G oks c i f hi
  refine ⟨fd, at_.mg ho, fun s us hl => bd hdv s us hl, fun P w base n cb tabs => ?_⟩
  have es : spS ⟨K, caOf m K⟩ (clo m.fs n) i f = spF ⟨K, caOf m K⟩ (clo m.fs n) i f := if_neg (by unfold Fn.ini; rw [ho]; exact Bool.false_ne_true)
  rw [← es]
  cases n with
  | zero =>
    have no : ∀ (vs : List V) (H : Hp) (Q : VK) (E : XK), spS ⟨K, caOf m K⟩ (clo m.fs 0) i f vs H Q E → False := fun vs H Q E z => by
      rw [es] at z
      obtain ⟨_, _, _, _, _, _, _, z, _⟩ := z
      exact z
    exact ⟨fun vs H Q E z => (no vs H Q E z).elim, fun A outer s H args us vs Q E _ _ _ _ z => (no vs H Q E z).elim⟩
  | succ n =>
    obtain ⟨i1, iN, i2⟩ := all_sound (P := P) (w := w) X G oks nks c cb base tabs n
    exact fn_sound (q := false) (mo_of X G c cb) co_of tabs at_ ok hi ok.body i1 iN i2
end
/-! ### the law's end -/
theorem walk_ofEB {l : PySem.W.OpenLaw} {n k : Nat} {q : Program} {loose : List Str} {XP : (Str → Option Value) → Heap → Prop} {YP : World → Heap → Prop} {d : DefRec} {CX : World → CXT} {x : Str}
    (hn : l.most = some n) (hn2 : n ≤ sizeLine) (hdf : d.params.defaults = []) (hr : Room k callerA)
    (F : ∀ (w : World) (mg : Str → Option Value) (fa : Addr) (h : Heap), YP w h → h.Ns mainGlobals mg → mg d.name = some (.ref fa) →
      ∃ (K : PySem.W.Frag) (fd : FuncData) (sp : Sp), K.In h ∧ (∀ (s : Shared) (u : Value), BindsTo s fd ⟨[u], []⟩ [(x, u)]) ∧
        (∀ (H : Hp) (a : Addr) (ns : List Int), ns.length ≤ n → (∀ z ∈ ns, Builtin.Int.intBits z ≤ 1048576) → Only H → SqL K H a (ns.map V.int) → sp [.ref a] H (fun v _ => v = .bl true) fun _ _ _ => False) ∧
        ∀ base : Heap, K.In base → base.Ns mainGlobals mg → FnOk l.prog w K mg base (CX w) k fa fd [x] sp)
    (hCX : ∀ (w : World) (H : Hp) (s : Shared) (e : Value) (s' : Shared), CX w [] H s (fun _ _ _ => False) e s' → False) :
    PySem.W.WalkO q loose XP YP l.row.toRowW d [] (fun f vs => PySem.call f vs) := by
  refine Att.attach_callB hn hdf fun w s₀ s₁ mg mb fa o pm cd doc a vs ns G Y ho hd hcd hmg hobj hints hlen hbits hg => ?_
  obtain ⟨K, fd, sp, KX, hb, hsp, hF⟩ := F w mg fa _ Y G.T.g hmg
  exact law_call KX G.T.g G.T.b G.T.builtins G.T.nolimit hg hobj hints (Nat.le_trans hlen hn2) hr hF hb (fun H hO hS => hsp H a ns hlen hbits hO hS) fun H e s' => hCX w H s₁ e s'
theorem fz_of {K : PySem.W.Frag} {H : Hp} {a : Addr} {xs : List V} (hO : Only H) (h : SqL K H a xs) : Fz K H a xs := by
  refine h.imp_left fun r => ?_
  rcases hO a with e | ⟨o, ys, e⟩
  · rcases r with r | ⟨o, r⟩ <;> rw [e] at r <;> cases r
  · rcases r with r | ⟨o, r⟩ <;> rw [e] at r <;> cases r
    exact ⟨o, e⟩
/-- what is left of a law: the text's own law, at a script -/
theorem law_spT [Nm] {m : MC} {K : PySem.W.Frag} {c : Cl} {i : Nat} {f : Fn} (hnp : f.np = 1) {H : Hp} {a : Addr} {ns : List Int} (h : Fz K H a (ns.map V.int)) (tb : TbOk (caOf m K) H) (hc : c.call i [.scr ns] (fun d => d = .bl true) fun _ => False) :
    spF ⟨K, caOf m K⟩ c i f [.ref a] H (fun v _ => v = .bl true) fun _ _ _ => False := by
  refine ⟨fun _ => False, [.scr ns], _, _, by rw [hnp]; rfl, ?r, tb, hc, fun d v H' e _ r => ?_, fun x H' z => z.elim⟩
  · exact ⟨_, _, rfl, ⟨a, rfl, h⟩, rfl⟩
  · subst e
    exact r.1
theorem law_sp [Nm] {m : MC} {K : PySem.W.Frag} {c : Cl} {i : Nat} {f : Fn} (hnp : f.np = 1) {H : Hp} {a : Addr} {ns : List Int} (hO : Only H) (hmk : m.mkd = []) (h : SqL K H a (ns.map V.int)) (hc : c.call i [.scr ns] (fun d => d = .bl true) fun _ => False) :
    spF ⟨K, caOf m K⟩ c i f [.ref a] H (fun v _ => v = .bl true) fun _ _ _ => False :=
  law_spT hnp (fz_of hO h) (fun p hp => by
    have hp : p ∈ m.mkd.map (He.cT K) := hp
    rw [hmk] at hp
    cases hp) hc
theorem cx_none {P : Program} {w : World} {H : Hp} {s : Shared} {e : Value} {s' : Shared} (h : L2.CX P w [] H s (fun _ _ _ => False) e s') : False := by
  obtain ⟨_, _, _, _, _, _, _, _, _, _, _, _, z⟩ := h
  exact z
/-- a law's promise, its script as a thing that is never written -/
def spZ (K : PySem.W.Frag) (tb : List (Addr × Addr)) (sp : Sp) : Sp := fun vs H Q E => (Q = fun v _ => v = .bl true) ∧ (E = fun _ _ _ => False) ∧ ∃ (a : Addr) (ns : List Int), vs = [.ref a] ∧ SqL K H a (ns.map V.int) ∧ (∀ p ∈ tb, H p.2 = some (.tbl #[])) ∧
  ∀ H', Fz K H' a (ns.map V.int) → (∀ p ∈ tb, H' p.2 = some (.tbl #[])) → sp vs H' Q E
theorem fnok_z {P : Program} {w : World} {K : PySem.W.Frag} {mg : Str → Option Value} {base : Heap} {k : Nat} {f : Addr} {fd : FuncData} {x : Str} {sp : Sp} (ok : FnOk P w K mg base (L2.CX P w) k f fd [x] sp) (tb : List (Addr × Addr)) : FnOk P w K mg base (L2.CX P w) k f fd [x] (spZ K tb sp) := by
  refine ⟨fun vs H Q E ⟨_, _, a, ns, e, _⟩ => by rw [e]; rfl, fun A outer s H args us vs Q E hr e0 hb r ⟨hQ, hE, a, ns, ev, hS, hT, h⟩ => ?_⟩
  rcases hS with (h1 | ⟨o, h1⟩) | h1
  · obtain ⟨z, its, n, rv, e⟩ := e0.hok a _ h1
    obtain ⟨o, ho⟩ : ∃ o : Obj, o = { cls := .type "list", data := .seq its.toArray n } := ⟨_, rfl⟩
    have ne : ∀ b u, H b = some u → (∀ xs, u ≠ .lst xs) → L2.upd H a (.frz o (.lst (ns.map V.int))) b = some u := fun b u q nl => by
      rw [upd_ne fun e2 => by rw [e2, h1] at q; exact nl _ (Option.some.inj q).symm]
      exact q
    have nn : ∀ b, H b = none → L2.upd H a (.frz o (.lst (ns.map V.int))) b = none := fun b q => by
      rw [upd_ne fun e2 => by rw [e2, h1] at q; cases q]
      exact q
    have hok : HOk P w (L2.upd H a (.frz o (.lst (ns.map V.int)))) s.heap := fun b u q => by
      by_cases hba : b = a
      · rw [hba, upd_same] at q
        cases q
        rw [hba, ho]
        exact ⟨e, z, its, n, rv, e⟩
      · rw [upd_ne hba] at q
        exact (e0.hok b u q).stay (fun _ _ _ q => q) (fun b q => ne b _ q fun _ z => nomatch z) fun b xs q => ne b _ q fun _ z => nomatch z
    have e1 : Env0 P w K mg base A outer s (L2.upd H a (.frz o (.lst (ns.map V.int)))) := ⟨e0.frames, e0.mod, fun b u q => ⟨(e0.bs b u q).1, nn b (e0.bs b u q).2⟩, e0.bsz, e0.funs, fun b q => nn b (e0.frf b q), hok, e0.bare⟩
    have q0 := h (L2.upd H a (.frz o (.lst (ns.map V.int)))) (.inl ⟨o, upd_same⟩) fun p hp => ne _ _ (hT p hp) fun _ z => nomatch z
    subst hQ
    subst hE
    refine codeAny_mono (ok.run A outer s _ args us vs _ _ hr e1 hb r q0) fun rr s' hq => ?_
    cases rr with
    | error e =>
      obtain ⟨_, _, _, _, _, _, _, _, _, _, _, _, z⟩ := hq
      exact z.elim
    | ok fl =>
      cases fl with
      | ret u =>
        obtain ⟨v, H', os, bare, un, hk, rv, q⟩ := hq
        exact ⟨v, H', os, bare, ⟨fun b o q n => un.keep b o q (nn b n), fun b o q n => un.slot b o q (nn b n), fun b o q n => un.free b o q (nn b n), un.there, fun b xs q => un.tups b xs (ne b _ q fun _ z => nomatch z), fun b o x q => un.frzs b o x (ne b _ q fun _ z => nomatch z), fun b ps q => un.tbls b ps (ne b _ q fun _ z => nomatch z)⟩, hk, rv, q⟩
      | next => exact False.elim hq
      | brk => exact False.elim hq
      | cont => exact False.elim hq
  · exact ok.run A outer s H args us vs Q E hr e0 hb r (h H (.inl ⟨o, h1⟩) hT)
  · exact ok.run A outer s H args us vs Q E hr e0 hb r (h H (.inr h1) hT)
/-- the law's promise where defs are made within defs -/
theorem lawAt_of [Nm] {l : PySem.W.OpenLaw} {w : World} {K : PySem.W.Frag} {mg : Str → Option Value} {h : Heap} {m : MC} {sts : List Stmt} {fa : Addr} {n k i : Nat} {f : Fn} {x : Str} (X : K.In h) (G : h.Ns mainGlobals mg) (oks : Oks m m.fs.fns sts) (nks : NOks m 0 m.fs.nds) (c : SaysY (faOf m) (fnsOf m.fs.fns sts) m.mkd (facB m) h K)
    (hi : m.fs.fns[i]? = some f) (ho : f.own = none) (hdv : f.dv = 0) (hnp : f.np = 1) (hN : f.N.take f.np = [x]) (hfa : mg f.name = some (.ref fa))
    (goal : ∀ ns : List Int, ns.length ≤ n → (∀ z ∈ ns, Builtin.Int.intBits z ≤ 1048576) → (clo m.fs k).call i [.scr ns] (fun d => d = .bl true) fun _ => False) : LamX.LawAtS l w K (L2.CX l.prog w) k n x mg fa h := by
  obtain ⟨fd, h1, h4, h5⟩ := binds_at X G oks nks c.d i f hi ho hdv
  rw [hfa] at h1
  cases h1
  rw [hN] at h4 h5
  have tm : ∀ p ∈ m.mkd.map (He.cT K), ∃ q ∈ m.mkd, p = He.cT K q := fun p hp => by
    obtain ⟨q, hq, e⟩ := List.mem_map.mp hp
    exact ⟨q, hq, e.symm⟩
  refine ⟨fd, m.mkd.map (He.cT K), spZ K (m.mkd.map (He.cT K)) (spF ⟨K, caOf m K⟩ (clo m.fs k) i f), fun p hp => ?_, fun p hp => ?_, fun p hp => ?_, fun s v => h4 s [v] rfl, fun H a ns hl hb hT hS => ⟨rfl, rfl, a, ns, rfl, hS, hT, fun H' hz hT' => law_spT hnp hz (fun p hp => NdefX.TabN.nil (hT' p hp)) (goal ns hl hb)⟩, fun base hK hG hT => fnok_z (h5 l.prog w base k c.x fun p hp => hT _ (List.mem_map.mpr ⟨p, hp, rfl⟩)) _⟩
  · obtain ⟨q, hq, rfl⟩ := tm p hp
    exact c.em q hq
  · obtain ⟨q, hq, rfl⟩ := tm p hp
    exact c.no q hq
  · obtain ⟨q, hq, rfl⟩ := tm p hp
    exact PySem.W.codeHd_of_K X (c.hd q hq)
end Rj

namespace Rj
open PySem PySem.Spec PyProof.Rows L2
/-! ### reckoning: the equations -/
def En.cat (K : En) (f : Str → List Sl → Prop) : En := { K with ex := f }
def En.thn (K : En) (f : List Sl → Prop) : En := { K with nx := f }
/-- simp does not look into what it stands for -/
inductive Wit {α : Sort u} (a : α) : Type
  | mk
def Run (c : Cl) (i : Nat) (ds : List D) (Q : D → Prop) (R : Exn) (_ : Wit Q) (_ : Wit R) : Prop := c.call i ds Q R
def Ini (c : Cl) (i : Nat) (C : Str) (ds : List D) (Q : List Str → List D → Prop) (R : Exn) (_ : Wit Q) (_ : Wit R) : Prop := c.init i C ds Q R
def Mkr (c : Cl) (i : Nat) (C : Str) (ds : List D) (Q : List Str → List D → Prop) (R : Exn) (_ : Wit Q) (_ : Wit R) : Prop := c.mkr i C ds Q R
def LW (tst : List Sl → (Bool → Prop) → Prop) (f : List Sl → En → Prop) (K : En) (n : Nat) (env : List Sl) (_ : Wit tst) (_ : Wit f) (_ : Wit K) : Prop := loopW tst f K n env
def LC (f : D → Post → Prop → Prop) (xs acc : List D) (i : Inf) (Q : List D → Inf → Prop) (_ : Wit f) (_ : Wit Q) : Prop := loopC f xs acc i Q
def LF (t : Tg) (fr : Bool) (f : List Sl → En → Prop) (K : En) (xs : List D) (env : List Sl) (_ : Wit f) (_ : Wit K) : Prop := loopF t fr f K xs env
mutual
def S.end1 : S → Bool
  | .ret _ => true
  | .retN => true
  | .brk => true
  | .cnt => true
  | .raise _ => true
  | .ite _ a b => a.ends && b.ends
  | .fz _ s => s.end1
  | _ => false
def Ss.ends : Ss → Bool
  | .nil => false
  | .cons s ss => s.end1 || ss.ends
end
@[simp] theorem ends_nil : Ss.nil.ends = false := id rfl
@[simp] theorem ends_cons {s : S} {ss : Ss} : (Ss.cons s ss).ends = (s.end1 || ss.ends) := id rfl
@[simp] theorem end_ret {e : E} : (S.ret e).end1 = true := id rfl
@[simp] theorem end_retN : S.retN.end1 = true := id rfl
@[simp] theorem end_brk : S.brk.end1 = true := id rfl
@[simp] theorem end_cnt : S.cnt.end1 = true := id rfl
@[simp] theorem end_raise {x : Str} : (S.raise x).end1 = true := id rfl
@[simp] theorem end_ite {t : T} {a b : Ss} : (S.ite t a b).end1 = (a.ends && b.ends) := id rfl
@[simp] theorem end_asg {i : Nat} {e : E} : (S.asg i e).end1 = false := id rfl
@[simp] theorem end_unp {i : List Nat} {e : E} : (S.unp i e).end1 = false := id rfl
@[simp] theorem end_aug {i : Nat} {o : BOp} {e : E} : (S.aug i o e).end1 = false := id rfl
@[simp] theorem end_app {i : Nat} {e : E} : (S.app i e).end1 = false := id rfl
@[simp] theorem end_ext {i : Nat} {e : E} : (S.ext i e).end1 = false := id rfl
@[simp] theorem end_setix {i : Nat} {k e : E} : (S.setix i k e).end1 = false := id rfl
@[simp] theorem end_expr {e : E} : (S.expr e).end1 = false := id rfl
@[simp] theorem end_for {t : Tg} {it : It} {b : Ss} : (S.for t it b).end1 = false := id rfl
@[simp] theorem end_whl {t : T} {b : Ss} : (S.whl t b).end1 = false := id rfl
@[simp] theorem end_pass : S.pass.end1 = false := id rfl
@[simp] theorem end_dset {i : Nat} {k e : E} : (S.dset i k e).end1 = false := id rfl
@[simp] theorem end_dnw {i : Nat} : (S.dnw i).end1 = false := id rfl
@[simp] theorem end_nnw {i q : Nat} : (S.nnw i q).end1 = false := id rfl
@[simp] theorem end_rev {i : Nat} : (S.rev i).end1 = false := id rfl
@[simp] theorem end_clr {i : Nat} : (S.clr i).end1 = false := id rfl
@[simp] theorem end_pop {i j : Nat} : (S.pop i j).end1 = false := id rfl
@[simp] theorem end_ins {i : Nat} {k e : E} : (S.ins i k e).end1 = false := id rfl
@[simp] theorem end_ndef {i k : Nat} : (S.ndef i k).end1 = false := id rfl
@[simp] theorem end_nlc {i : Nat} {t : Tg} {it : It} : (S.nlc i t it).end1 = false := id rfl
@[simp] theorem end_napp1 {i : Nat} {a : E} : (S.napp1 i a).end1 = false := id rfl
@[simp] theorem end_napp2 {i : Nat} {a b : E} : (S.napp2 i a b).end1 = false := id rfl
@[simp] theorem end_ninA {i : Nat} {k e : E} : (S.ninA i k e).end1 = false := id rfl
@[simp] theorem end_ninE {i : Nat} {k e : E} : (S.ninE i k e).end1 = false := id rfl
@[simp] theorem end_ninQ {i q : Nat} {k e : E} : (S.ninQ i q k e).end1 = false := id rfl
@[simp] theorem end_als {s i : Nat} {k : E} : (S.als s i k).end1 = false := id rfl
@[simp] theorem end_alsl {s i : Nat} {k : E} : (S.alsl s i k).end1 = false := id rfl
@[simp] theorem end_aapl {s : Nat} {e : E} : (S.aapl s e).end1 = false := id rfl
@[simp] theorem end_forO {t : Tg} {i : Nat} {b : Ss} : (S.forO t i b).end1 = false := id rfl
@[simp] theorem end_fz {is : List Nat} {s : S} : (S.fz is s).end1 = s.end1 := id rfl
@[simp] theorem end_aapp {s q : Nat} {e : E} : (S.aapp s q e).end1 = false := id rfl
/-- an if, and what comes behind it: two ways may meet -/
def Jn (F : (List Sl → Prop) → Prop) (g : List Sl → Prop) (_ : Wit F) (_ : Wit g) : Prop := F g
theorem Jn_go {F : (List Sl → Prop) → Prop} {g : List Sl → Prop} (h : F g) : Jn F g .mk .mk := h
theorem Jn_join {F : (List Sl → Prop) → Prop} {g : List Sl → Prop} (I : List Sl → Prop) (h1 : ∀ P : List Sl → Prop, (∀ e, I e → P e) → F P) (h2 : ∀ e, I e → g e) : Jn F g .mk .mk := h1 g h2
def If (k : Bool) (A B : Prop) (_ : Wit A) (_ : Wit B) : Prop := if k = true then A else B
def AtD (xs : List D) (i : Int) (Q : D → Prop) (_ : Wit Q) : Prop := atD xs i Q
def AtS (ns : List Int) (i : Int) (Q : Int → Prop) (_ : Wit Q) : Prop := ∃ n, atI ns i = some n ∧ Q n
def Rd (s : Sl) (i : Nat) (Q : Post) (_ : Wit Q) : Prop := rdS s i Q
def Own (env : List Sl) (i : Nat) (k : List D → Bool → Prop) (_ : Wit k) : Prop := ownS env i k
@[simp ↓, simp] theorem Rd_val {d : D} {fr : Bool} {i : Nat} {Q : Post} {w : Wit Q} : Rd (.val d fr) i Q w = Q d ⟨[], [], d.imm || fr, false⟩ := id rfl
@[simp ↓, simp] theorem Rd_own {ds : List D} {fr : Bool} {i : Nat} {Q : Post} {w : Wit Q} : Rd (.own ds fr) i Q w = Q (.lst ds) ⟨[], [i], fr, true⟩ := id rfl
@[simp ↓, simp] theorem Rd_nst {q : Option Nat} {ds : List D} {as : List Addr} {fr : Bool} {i : Nat} {Q : Post} {w : Wit Q} : Rd (.nst q ds as fr) i Q w = Q (.lst ds) ⟨[i], [i], fr, true⟩ := id rfl
@[simp ↓, simp] theorem Rd_dic {ks : List Key} {ds : List D} {fr : Bool} {i : Nat} {Q : Post} {w : Wit Q} : Rd (.dic ks ds fr) i Q w = Q (.dic ks ds) ⟨[i], [], fr, false⟩ := id rfl
@[simp ↓, simp] theorem Rd_als {j k : Nat} {d : D} {i : Nat} {Q : Post} {w : Wit Q} : Rd (.als j k d) i Q w = Q d ⟨[], [], false, false⟩ := id rfl
def Own1 (s : Sl) (k : List D → Bool → Prop) (_ : Wit k) : Prop := match s with
  | .own ds fr => k ds fr
  | _ => False
@[simp ↓, simp] theorem Own_eq {env : List Sl} {i : Nat} {k : List D → Bool → Prop} {w : Wit k} : Own env i k w = Own1 (env.getD i .un) k .mk := id rfl
@[simp ↓, simp] theorem Own1_eq {ds : List D} {fr : Bool} {k : List D → Bool → Prop} {w : Wit k} : Own1 (.own ds fr) k w = k ds fr := id rfl
def Slf1 (s : Sl) (k : Str → List Str → List D → Bool → Prop) (_ : Wit k) : Prop := match s with
  | .slf C ks ds fr => k C ks ds fr
  | _ => False
def Slf (env : List Sl) (k : Str → List Str → List D → Bool → Prop) (_ : Wit k) : Prop := slfS env k
@[simp ↓, simp] theorem Slf_eq {env : List Sl} {k : Str → List Str → List D → Bool → Prop} {w : Wit k} : Slf env k w = Slf1 (env.getD 0 .un) k .mk := id rfl
@[simp ↓, simp] theorem Slf1_eq {C : Str} {ks : List Str} {ds : List D} {fr : Bool} {k : Str → List Str → List D → Bool → Prop} {w : Wit k} : Slf1 (.slf C ks ds fr) k w = k C ks ds fr := id rfl
@[simp ↓, simp] theorem slfS_eq {C : Str} {ks : List Str} {ds : List D} {fr : Bool} {env : List Sl} {k : Str → List Str → List D → Bool → Prop} : slfS (.slf C ks ds fr :: env) k = k C ks ds fr := id rfl
def Pop (ds : List D) (k : List D → D → Prop) (_ : Wit k) : Prop := popS ds k
@[simp ↓, simp] theorem Pop_eq {ds : List D} {d : D} {k : List D → D → Prop} {w : Wit k} : Pop (ds ++ [d]) k w = k ds d := by
  apply propext
  constructor
  · rintro ⟨es, e, h, q⟩
    obtain ⟨h1, h2⟩ := List.append_inj' h rfl
    have h3 : d = e := (List.cons.inj h2).1
    subst h1 h3
    exact q
  · exact fun q => ⟨ds, d, rfl, q⟩
def FnS (s : Sl) (k : Nat → List D → Prop) (_ : Wit k) : Prop := fnS s k
@[simp ↓, simp] theorem FnS_eq {i : Nat} {cs : List D} {fr : Bool} {k : Nat → List D → Prop} {w : Wit k} : FnS (.val (.fn i cs) fr) k w = k i cs := id rfl
def FnvS (s : Sl) (k : Nat → Prop) (_ : Wit k) : Prop := fnvS s k
@[simp ↓, simp] theorem FnvS_eq {i : Nat} {k : Nat → Prop} {w : Wit k} : FnvS (.fnv i) k w = k i := id rfl
def CapS (o : Option (List D)) (k : List D → Prop) (_ : Wit k) : Prop := capS o k
@[simp ↓, simp] theorem CapS_eq {cs : List D} {k : List D → Prop} {w : Wit k} : CapS (some cs) k w = k cs := id rfl
def DicS (s : Sl) (k : List Key → List D → Bool → Prop) (_ : Wit k) : Prop := dicS s k
@[simp ↓, simp] theorem DicS_eq {ks : List Key} {ds : List D} {fr : Bool} {k : List Key → List D → Bool → Prop} {w : Wit k} : DicS (.dic ks ds fr) k w = k ks ds fr := id rfl
def NstS (s : Sl) (k : Option Nat → List D → List Addr → Bool → Prop) (_ : Wit k) : Prop := nstS s k
@[simp ↓, simp] theorem NstS_eq {q : Option Nat} {ds : List D} {as : List Addr} {fr : Bool} {k : Option Nat → List D → List Addr → Bool → Prop} {w : Wit k} : NstS (.nst q ds as fr) k w = k q ds as fr := id rfl
def AlsS (s : Sl) (k : Nat → Nat → D → Prop) (_ : Wit k) : Prop := alsS s k
@[simp ↓, simp] theorem AlsS_eq {i j : Nat} {d : D} {k : Nat → Nat → D → Prop} {w : Wit k} : AlsS (.als i j d) k w = k i j d := id rfl
def NinS (ds : List D) (m : Nat) (k : List D → Prop) (_ : Wit k) : Prop := ninS ds m k
def NinT (ds : List D) (m q : Nat) (k : List D → List D → Prop) (_ : Wit k) : Prop := ninT ds m q k
def IdxS (n : Nat) (j : Int) (k : Nat → Prop) (_ : Wit k) : Prop := idxS n j k
theorem ninS_of {ds es : List D} {m : Nat} {k : List D → Prop} {w : Wit k} (h : ds[m]? = some (.lst es)) (q : k es) : NinS ds m k w := ⟨es, h, q⟩
theorem ninT_of {ds ts es : List D} {m n : Nat} {k : List D → List D → Prop} {w : Wit k} (h : ds[m]? = some (.tup ts)) (h2 : ts[n]? = some (.lst es)) (q : k ts es) : NinT ds m n k w := ⟨ts, es, h, h2, q⟩
theorem idxS_nn {n : Nat} {j : Int} {k : Nat → Prop} {w : Wit k} (h0 : 0 ≤ j) (h1 : j < n) (q : k j.toNat) : IdxS n j k w := ⟨j.toNat, by unfold ixN; simp [h0, h1], q⟩
theorem idxS_last {n : Nat} {k : Nat → Prop} {w : Wit k} (h : 0 < n) (q : k (n - 1)) : IdxS n (-1) k w := ⟨n - 1, by
  unfold ixN
  have : ¬ (0 : Int) ≤ -1 := by omega
  have : -(n : Int) ≤ -1 := by omega
  simp [this]
  omega, q⟩
def DixD (a b : D) (Q : D → Prop) (_ : Wit Q) : Prop := dixD a b Q
def DinD (a b : D) (Q : Bool → Prop) (_ : Wit Q) : Prop := dinD a b Q
@[simp ↓, simp] theorem DinD_s {x : Str} {ks : List Key} {ds : List D} {Q : Bool → Prop} {w : Wit Q} : DinD (.str x) (.dic ks ds) Q w = Q (hasK ks (.inr x)) := id rfl
theorem dixD_s {x : Str} {ks : List Key} {ds : List D} {Q : D → Prop} {w : Wit Q} {d : D} (h : dicGet (.inr x) ks ds = some d) (q : Q d) : DixD (.dic ks ds) (.str x) Q w := ⟨d, h, q⟩
def Fnc (c : Cl) (k : Nat) (ds cs : List D) (Q : D → Prop) (_ : Wit Q) : Prop := c.fnc k ds cs Q
@[simp] theorem capsOf_nil {env : List Sl} : capsOf env [] = some [] := id rfl
@[simp] theorem capsOf_cons {env : List Sl} {j : Nat} {js : List Nat} : capsOf env (j :: js) = (match capOf (env.getD j .un), capsOf env js with
    | some d, some ds => some (d :: ds)
    | _, _ => none) := id rfl
@[simp] theorem capOf_val {d : D} {b : Bool} : capOf (.val d b) = some d := id rfl
@[simp] theorem capOf_own {d : List D} {b : Bool} : capOf (.own d b) = some (.lst d) := id rfl
@[simp] theorem capOf_dic {k : List Key} {d : List D} {b : Bool} : capOf (.dic k d b) = some (.dic k d) := id rfl
@[simp] theorem capOf_nst {q : Option Nat} {d : List D} {as : List Addr} {b : Bool} : capOf (.nst q d as b) = some (.lst d) := id rfl
@[simp] theorem noAls_nil {i : Nat} : noAls i [] = true := id rfl
@[simp] theorem noAls_un {i : Nat} {e : List Sl} : noAls i (.un :: e) = noAls i e := by simp [noAls]
@[simp] theorem noAls_val {i : Nat} {e : List Sl} {d : D} {b : Bool} : noAls i (.val d b :: e) = noAls i e := by simp [noAls]
@[simp] theorem noAls_own {i : Nat} {e : List Sl} {d : List D} {b : Bool} : noAls i (.own d b :: e) = noAls i e := by simp [noAls]
@[simp] theorem noAls_dic {i : Nat} {e : List Sl} {k : List Key} {d : List D} {b : Bool} : noAls i (.dic k d b :: e) = noAls i e := by simp [noAls]
@[simp] theorem noAls_nst {i : Nat} {e : List Sl} {q : Option Nat} {d : List D} {a : List Addr} {b : Bool} : noAls i (.nst q d a b :: e) = noAls i e := by simp [noAls]
@[simp] theorem noAls_als {i j k : Nat} {e : List Sl} {d : D} : noAls i (.als j k d :: e) = (!decide (j = i) && noAls i e) := by simp [noAls]
@[simp] theorem noAls_pin {i : Nat} {p : Addr} {e : List Sl} : noAls i (.pin p :: e) = noAls i e := by simp [noAls]
@[simp] theorem noAls_fnv {i j : Nat} {e : List Sl} : noAls i (.fnv j :: e) = noAls i e := by simp [noAls]
@[simp] theorem imm_any : D.imm .any = false := id rfl
@[simp] theorem nf_non : D.nf .non = true := by simp [D.nf]
@[simp] theorem nf_bl {b : Bool} : D.nf (.bl b) = true := by simp [D.nf]
@[simp] theorem nf_int {b : Int} : D.nf (.int b) = true := by simp [D.nf]
@[simp] theorem nf_str {b : Str} : D.nf (.str b) = true := by simp [D.nf]
@[simp] theorem nf_scr {b : List Int} : D.nf (.scr b) = true := by simp [D.nf]
@[simp] theorem nf_lst {b : List D} : D.nf (.lst b) = nfL b := by simp [D.nf]
@[simp] theorem nf_tup {b : List D} : D.nf (.tup b) = nfL b := by simp [D.nf]
@[simp] theorem nf_ins {c : Str} {ks : List Str} {b : List D} : D.nf (.ins c ks b) = nfL b := by simp [D.nf]
@[simp] theorem nf_dic {ks : List Key} {b : List D} : D.nf (.dic ks b) = nfL b := by simp [D.nf]
@[simp] theorem nfL_nil : nfL [] = true := by simp [nfL]
@[simp] theorem nfL_cons {d : D} {b : List D} : nfL (d :: b) = (d.nf && nfL b) := by simp [nfL]
theorem nfL_map {α : Type} (g : α → D) (xs : List α) (h : ∀ x ∈ xs, (g x).nf = true) : nfL (xs.map g) = true := by
  induction xs with
  | nil => simp
  | cons x r ih =>
    rw [List.map_cons, nfL_cons, h x List.mem_cons_self, ih fun y hy => h y (List.mem_cons_of_mem _ hy)]
    rfl
@[simp] theorem nfL_ints (xs : List Int) : nfL (xs.map .int) = true := nfL_map _ _ fun _ _ => by simp
@[simp] theorem nfL_strs {xs : List Str} : nfL (xs.map .str) = true := nfL_map _ _ fun _ _ => rfl
@[simp] theorem nfL_pairs {xs : List (Int × Int)} : nfL (xs.map pairD) = true := nfL_map _ _ fun _ _ => rfl
theorem nfL_app {xs ys : List D} : nfL (xs ++ ys) = (nfL xs && nfL ys) := by
  induction xs with
  | nil => simp
  | cons x r ih => simp [ih, Bool.and_assoc]
def SetD (xs : List D) (k : List Int → Prop) (_ : Wit k) : Prop := setD xs k
theorem intsOf_map : ∀ ns : List Int, intsOf (ns.map .int) = some ns
  | [] => rfl
  | a :: r => by
    show (intsOf (r.map .int)).map (a :: ·) = _
    rw [intsOf_map r]
    rfl
theorem setD_ints {ns : List Int} {k : List Int → Prop} (h4 : ns.length ≤ 4000) (B : List Int) (hB : B.length < 64) (hm : ∀ z ∈ ns, z ∈ B) (h : ∀ ms : List Int, ms.Pairwise (· < ·) → (∀ z, z ∈ ms ↔ z ∈ ns) → k ms) : SetD (ns.map .int) k .mk := ⟨ns, intsOf_map ns, ⟨h4, B, hB, hm⟩, h⟩
def Hold (A : Prop) (_ : Wit A) : Prop := A
@[simp] theorem bmO_j {x : Str} : bmO .join (.str x) = true := id rfl
@[simp] theorem bmO_s {x : Str} : bmO .split (.str x) = true := id rfl
@[simp] theorem bmO_p {x : Str} : bmO .partition (.str x) = true := id rfl
@[simp] theorem bmO_w {x : Str} : bmO .startswith (.str x) = true := id rfl
@[simp] theorem bmO_f {x : Str} : bmO .find (.str x) = true := id rfl
@[simp] theorem bmO_i {x : List D} : bmO .index (.lst x) = true := id rfl
@[simp] theorem str_lit (a b : String) : (Str.ofString a = Str.ofString b) = (a = b) := by
  apply propext
  constructor
  · intro h
    rw [Str.ofString_eq_byList] at h
    unfold Str.ofStringByList at h
    have h2 := congrArg (fun s : Str => s.cps.toList) h
    simp at h2
    have h3 : a.toList = b.toList := List.map_inj_right (fun x y h => Char.ext (UInt32.toNat_inj.mp h)) |>.mp h2
    exact String.toList_inj.mp h3
  · intro h
    rw [h]
theorem If_i {k : Bool} {A B : Prop} (h1 : k = true → A) (h2 : k = false → B) : If k A B .mk .mk := by
  unfold If
  cases k
  · exact h2 rfl
  · exact h1 rfl
@[simp ↓, simp] theorem If_t {A B : Prop} {w : Wit A} {w2 : Wit B} : If true A B w w2 = A := id rfl
@[simp ↓, simp] theorem If_f {A B : Prop} {w : Wit A} {w2 : Wit B} : If false A B w w2 = B := id rfl
section
variable {c : Cl} {lo hi : Eo} {K : En}
@[simp ↓, simp] theorem wpE_0 : wpE c (.var i) env Q u1 = (Rd (env.getD i .un) i Q .mk) := id rfl
@[simp ↓, simp] theorem wpE_1 : wpE c (.cint n) u1 Q u2 = (Q (.int n) ci) := id rfl
@[simp ↓, simp] theorem wpE_2 : wpE c (.cbl b) u1 Q u2 = (Q (.bl b) ci) := id rfl
@[simp ↓, simp] theorem wpE_3 : wpE c (.cstr x) u1 Q u2 = (Q (.str x) ci) := id rfl
@[simp ↓, simp] theorem wpE_4 : wpE c (.cnon) u1 Q u2 = (Q .non ci) := id rfl
@[simp ↓, simp] theorem wpE_5 : wpE c (.gint u1 n) u2 Q u3 = (Q (.int n) ci) := id rfl
@[simp ↓, simp] theorem wpE_6 : wpE c (.gstr u1 z) u2 Q u3 = (Q (.str z) ci) := id rfl
@[simp ↓, simp] theorem wpE_7 : wpE c (.bin op a b) env Q R = (wpE c a env (fun x i => wpE c b env (fun y j => binD op x i y j Q) R) R) := id rfl
@[simp ↓, simp] theorem wpE_8 : wpE c (.neg a) env Q R = (wpE c a env (fun x _ => match x with
    | .int i => Q (.int (-i)) ci
    | _ => False) R) := id rfl
@[simp ↓, simp] theorem wpE_9 : wpE c (.not a) env Q R = (wpE c a env (fun x _ => truD x fun k => Q (.bl (!k)) ci) R) := id rfl
@[simp ↓, simp] theorem wpE_10 : wpE c (.cmp op a b) env Q R = (wpE c a env (fun x _ => wpE c b env (fun y _ => cmpD op x y fun k => Q (.bl k) ci) R) R) := id rfl
@[simp ↓, simp] theorem wpE_11 : wpE c (.chain op op' a b e) env Q R = (wpE c a env (fun x _ => wpE c b env (fun y _ => cmpD op x y fun k => If k (wpE c e env (fun z _ => cmpD op' y z fun k' => Q (.bl k') ci) R) (Q (.bl false) ci) .mk .mk) R) R) := id rfl
@[simp ↓, simp] theorem wpE_12 : wpE c (.and a b) env Q R = (wpE c a env (fun x _ => match x with
    | .bl k => If k (wpE c b env Q R) (Q (.bl false) ci) .mk .mk
    | _ => False) R) := id rfl
@[simp ↓, simp] theorem wpE_13 : wpE c (.or a b) env Q R = (wpE c a env (fun x _ => match x with
    | .bl k => If k (Q (.bl true) ci) (wpE c b env Q R) .mk .mk
    | _ => False) R) := id rfl
@[simp ↓, simp] theorem wpE_14 : wpE c (.tup es) env Q R = (wpEs c es env (fun ds inf => ds.length ≤ sizeLine ∧ Q (.tup ds) inf.h) R) := id rfl
@[simp ↓, simp] theorem wpE_15 : wpE c (.lst es) env Q R = (wpEs c es env (fun ds inf => ds.length ≤ sizeLine ∧ Q (.lst ds) inf.nw) R) := id rfl
@[simp ↓, simp] theorem wpE_16 : wpE c (.ix a b) env Q R = (wpE c a env (fun x i => wpE c b env (fun y _ => ixD x y fun d => Q d (Inf.n d i)) R) R) := id rfl
@[simp ↓, simp] theorem wpE_17 : wpE c (.sl a lo hi) env Q R = (wpE c a env (fun x i => wpO c lo env (fun l => wpO c hi env (fun h => slD x l h i Q) R) R) R) := id rfl
@[simp ↓, simp] theorem wpE_18 : wpE c (.call f fr es) env Q R = (wpEs c es env (fun ds inf => Run c f ds (fun d => Q d (bif fr then ⟨[], [], true, isL d⟩ else bif d.imm then ci else inf.h)) R .mk .mk) R) := id rfl
@[simp ↓, simp] theorem wpE_19 : wpE c (.blt b es) env Q R = (wpEs1 c es env (fun ds inf => bltD b ds inf Q) R) := id rfl
@[simp ↓, simp] theorem wpE_20 : wpE c (.isi a t) env Q R = (wpE c a env (fun d _ => isiD d t fun b => Q (.bl b) ci) R) := id rfl
@[simp ↓, simp] theorem wpE_21 : wpE c (.comp elt t it cd) env Q R = (wpI c it env (fun xs inf => (xs.length ≤ sizeLine ∧ inf.al = [] ∧ ownFree t.ns env = true) ∧
      LC (fun x k skip => bindT inf.fr env (fun env1 => wpT c cd env1 (fun b => If b (wpE c elt env1 k (fun _ => False)) (skip) .mk .mk) (fun _ => False)) t x) xs [] ci (fun ds i => Q (.lst ds) i.nw) .mk .mk) R) := id rfl
@[simp ↓, simp] theorem wpE_22 : wpE c (.fld a x) env Q R = (wpE c a env (fun d i => match d with
    | .ins C ks vs => c.prg.ok C x = true ∧ fldD x ks vs fun e => Q e (Inf.n e i)
    | _ => False) R) := id rfl
@[simp ↓, simp] theorem wpE_23 : wpE c (.meth a x fr es) env Q R = (wpE c a env (fun d i => match d with
    | .ins C ks vs => (match c.prg.mi C x with
      | some f => ks.contains x = false ∧ wpEs c es env (fun ds j => Run c f (.ins C ks vs :: ds) (fun d => Q d (bif fr then ⟨[], [], true, isL d⟩ else bif d.imm then ci else (i.j j).h)) R .mk .mk) R
      | none => False)
    | _ => False) R) := id rfl
@[simp ↓, simp] theorem wpE_24 : wpE c (.make x f es) env Q R = (wpEs c es env (fun ds inf => Mkr c f x ds (fun ks vs => Q (.ins x ks vs) (mkI (nwB c.prg f) inf)) R .mk .mk) R) := id rfl
@[simp ↓, simp] theorem wpE_25 : wpE c (.isc a x) env Q R = (wpE c a env (fun d _ => iscD c.prg x d fun b => Q (.bl b) ci) R) := id rfl
@[simp ↓, simp] theorem wpE_26 : wpE c (.ife t a b) env Q R = (wpT c t env (fun k => If k (wpE c a env Q R) (wpE c b env Q R) .mk .mk) R) := id rfl
@[simp ↓, simp] theorem wpE_27 : wpE c (.bm op a b) env Q R = (wpE c a env (fun x _ => bmO op x = true ∧ wpE c b env (fun y _ => bmD op x y Q) R) R) := id rfl
@[simp ↓, simp] theorem wpE_28 : wpE c (.upper a) env Q R = (wpE c a env (fun x _ => match x with
    | .str z => z.length ≤ 5592405 ∧ Q (.str (Txt.upper z)) ci
    | _ => False) R) := id rfl
@[simp ↓, simp] theorem wpE_29 : wpE c (.lrev a) env Q R = (wpE c a env (fun x i => match x with
    | .lst xs => Q (.lst xs.reverse) ⟨i.al, [], i.fr || immL xs, true⟩
    | _ => False) R) := id rfl
@[simp ↓, simp] theorem wpE_30 : wpE c (.sset a) env Q R = (wpE c a env (fun x _ => match x with
    | .lst xs => SetD xs (fun ms => Q (.lst (ms.map .int)) ⟨[], [], true, true⟩) .mk
    | _ => False) R) := id rfl
@[simp ↓, simp] theorem wpE_31 : wpE c (.lrng a) env Q R = (wpE c a env (fun x _ => match x with
    | .int n => (SmallI n ∧ n ≤ 16777216) ∧ Q (.lst (rngD n.toNat 0)) ⟨[], [], true, true⟩
    | _ => False) R) := id rfl
@[simp ↓, simp] theorem wpE_32 : wpE c (.lrr a) env Q R = (wpE c a env (fun x _ => match x with
    | .int n => (SmallI n ∧ n ≤ 16777216) ∧ Q (.lst (rngD n.toNat 0).reverse) ⟨[], [], true, true⟩
    | _ => False) R) := id rfl
@[simp ↓, simp] theorem wpE_33 : wpE c (.callv i es) env Q R = (FnS (env.getD i .un) (fun k cs => wpEs c es env (fun ds _ => (nfL ds = true ∧ nfL cs = true) ∧ Fnc c k ds cs (fun d => d.imm = true ∧ Q d ci) .mk) R) .mk) := id rfl
@[simp ↓, simp] theorem wpE_34 : wpE c (.calln i k js es) env Q R = (FnvS (env.getD i .un) (fun k' => k' = k ∧ wpEs c es env (fun ds _ => CapS (capsOf env js) (fun cs => (nfL ds = true ∧ nfL cs = true) ∧ Fnc c k ds cs (fun d => d.imm = true ∧ Q d ci) .mk) .mk) R) .mk) := id rfl
@[simp ↓, simp] theorem wpE_35 : wpE c (.alv s) env Q u1 = (AlsS (env.getD s .un) (fun i m _ => NstS (env.getD i .un) (fun q ds _ fr => NinS ds m (fun es => q = none ∧ Q (.lst es) ⟨[i], [], fr, false⟩) .mk) .mk) .mk) := id rfl
@[simp ↓, simp] theorem wpE_36 : wpE c (.calld f fr es) env Q R = (wpEs c es env (fun ds inf => Run c f (ds ++ [.non]) (fun d => Q d (bif fr then ⟨[], [], true, isL d⟩ else bif d.imm then ci else inf.h)) R .mk .mk) R) := id rfl
@[simp ↓, simp] theorem wpE_37 : wpE c (.callc f es i k js) env Q R = (FnvS (env.getD i .un) (fun k' => k' = k ∧ wpEs c es env (fun ds _ => CapS (capsOf env js) (fun cs => Run c f (ds ++ [.fn k cs]) (fun d => d.imm = true ∧ Q d ci) R .mk .mk) .mk) R) .mk) := id rfl
@[simp ↓, simp] theorem wpE_38 : wpE c (.dix a b) env Q R = (wpE c a env (fun x i => wpE c b env (fun y _ => DixD x y (fun d => Q d (Inf.n d i)) .mk) R) R) := id rfl
@[simp ↓, simp] theorem wpEs_0 : wpEs c (.nil) u1 Q u2 = (Q [] ci) := id rfl
@[simp ↓, simp] theorem wpEs_1 : wpEs c (.cons e es) env Q R = (wpE c e env (fun d i => wpEs c es env (fun ds j => Q (d :: ds) (i.j j)) R) R) := id rfl
@[simp ↓, simp] theorem wpEs1_0 : wpEs1 c (.nil) u1 Q u2 = (Q [] ci) := id rfl
@[simp ↓, simp] theorem wpEs1_1 : wpEs1 c (.cons e .nil) env Q R = (wpE c e env (fun d i => Q [d] i) R) := id rfl
@[simp ↓, simp] theorem wpEs1_2 : wpEs1 c (.cons e (.cons e2 es)) env Q R = (wpE c e env (fun d i => wpE c e2 env (fun d2 i2 => wpEs c es env (fun ds j => Q (d :: d2 :: ds) ((i.j i2).j j)) R) R) R) := id rfl
@[simp ↓, simp] theorem wpO_0 : wpO c (.none) u1 Q u2 = (Q none) := id rfl
@[simp ↓, simp] theorem wpO_1 : wpO c (.some e) env Q R = (wpE c e env (fun d _ => match d with
    | .int i => Q (some i)
    | _ => False) R) := id rfl
@[simp ↓, simp] theorem wpI_0 : wpI c (.e a) env Q R = (wpE c a env (fun d i => match d with
    | .lst ds => Q ds i
    | .tup ds => Q ds i
    | .scr ns => Q (ns.map .int) ci
    | .str x => Q (x.cps.toList.map fun ch => .str ⟨#[ch]⟩) ci
    | _ => False) R) := id rfl
@[simp ↓, simp] theorem wpI_1 : wpI c (.rng1 a) env Q R = (wpE c a env (fun d _ => match d with
    | .int n => SmallI n ∧ Q (rngD n.toNat 0) ci
    | _ => False) R) := id rfl
@[simp ↓, simp] theorem wpI_2 : wpI c (.rng2 a b) env Q R = (wpE c a env (fun d _ => wpE c b env (fun e _ => match d, e with
    | .int i, .int j => (SmallI i ∧ SmallI j) ∧ Q (rngD (j - i).toNat i) ci
    | _, _ => False) R) R) := id rfl
@[simp ↓, simp] theorem wpI_3 : wpI c (.rng3 a b s) env Q R = (wpE c a env (fun d _ => wpE c b env (fun e _ => wpE c s env (fun f _ => match d, e, f with
    | .int i, .int j, .int k => ∃ n : Nat, L2.RgC i j k n ∧ Q (rngC n i k) ci
    | _, _, _ => False) R) R) R) := id rfl
@[simp ↓, simp] theorem wpI_4 : wpI c (.zip a b) env Q R = (wpE c a env (fun d i => wpE c b env (fun e j => match d, e with
    | .lst xs, .lst ys => Q (xs.zipWith (fun x y => D.tup [x, y]) ys) ⟨i.al ++ j.al, i.me ++ j.me, i.fr && j.fr, false⟩
    | .lst xs, .tup ys => Q (xs.zipWith (fun x y => D.tup [x, y]) ys) ⟨i.al ++ j.al, i.me ++ j.me, i.fr && j.fr, false⟩
    | _, _ => False) R) R) := id rfl
@[simp ↓, simp] theorem wpI_5 : wpI c (.enum a) env Q R = (wpE c a env (fun d i => match d with
    | .lst xs => Q (enumD xs) i
    | _ => False) R) := id rfl
@[simp ↓, simp] theorem wpT_0 : wpT c (.tru) u1 Q u2 = (Q true) := id rfl
@[simp ↓, simp] theorem wpT_1 : wpT c (.e a) env Q R = (wpE c a env (fun x _ => truD x Q) R) := id rfl
@[simp ↓, simp] theorem wpT_2 : wpT c (.not a) env Q R = (wpT c a env (fun k => Q (!k)) R) := id rfl
@[simp ↓, simp] theorem wpT_3 : wpT c (.and a b) env Q R = (wpT c a env (fun k => If k (wpT c b env Q R) (Q false) .mk .mk) R) := id rfl
@[simp ↓, simp] theorem wpT_4 : wpT c (.or a b) env Q R = (wpT c a env (fun k => If k (Q true) (wpT c b env Q R) .mk .mk) R) := id rfl
@[simp ↓, simp] theorem wpT_5 : wpT c (.cmp op a b) env Q R = (wpE c a env (fun x _ => wpE c b env (fun y _ => cmpD op x y Q) R) R) := id rfl
@[simp ↓, simp] theorem wpT_6 : wpT c (.chain op op' a b e) env Q R = (wpE c a env (fun x _ => wpE c b env (fun y _ => cmpD op x y fun k => If k (wpE c e env (fun z _ => cmpD op' y z Q) R) (Q false) .mk .mk) R) R) := id rfl
@[simp ↓, simp] theorem wpT_7 : wpT c (.din neg a b) env Q R = (wpE c a env (fun x _ => wpE c b env (fun y _ => DinD x y (fun k => Q (bif neg then !k else k)) .mk) R) R) := id rfl
@[simp ↓, simp] theorem wpS_0 : wpS c (.asg i e) env K = (wpE c e env (fun d inf => K.nx ((frz inf.all env).set i (slOf d inf))) (fun x => K.ex x env)) := id rfl
@[simp ↓, simp] theorem wpS_1 : wpS c (.unp is e) env K = (wpE c e env (fun d inf => bindT inf.fr (frz inf.all env) K.nx (.tup is) d) (fun x => K.ex x env)) := id rfl
@[simp ↓, simp] theorem wpS_2 : wpS c (.aug i op e) env K = (Rd (env.getD i .un) i (fun x _ => wpE c e env (fun y _ => match x, y with
    | .int a, .int b => binI op a b fun r => K.nx (env.set i (.val (.int r) true))
    | _, _ => False) (fun x => K.ex x env)) .mk) := id rfl
@[simp ↓, simp] theorem wpS_3 : wpS c (.app i e) env K = (Own env i (fun ds fr => wpE c e env (fun d inf => (ds.length < sizeLine ∧ inf.all.contains i = false) ∧ K.nx ((frz inf.all env).set i (.own (ds ++ [d]) (fr && inf.fr)))) (fun x => K.ex x env)) .mk) := id rfl
@[simp ↓, simp] theorem wpS_4 : wpS c (.ext i e) env K = (Own env i (fun ds fr => wpE c e env (fun d inf => match d with
    | .lst es => (ds.length + es.length ≤ sizeLine ∧ inf.al.contains i = false) ∧ K.nx ((frz inf.al env).set i (.own (ds ++ es) (fr && inf.fr)))
    | _ => False) (fun x => K.ex x env)) .mk) := id rfl
@[simp ↓, simp] theorem wpS_5 : wpS c (.setix i k e) env K = (Own env i (fun ds fr => wpE c e env (fun d inf => wpE c k env (fun y _ => match y with
    | .int j => inf.all.contains i = false ∧ ∃ m, ixN ds.length j = some m ∧ K.nx ((frz inf.all env).set i (.own (ds.set m d) (fr && inf.fr)))
    | _ => False) (fun x => K.ex x env)) (fun x => K.ex x env)) .mk) := id rfl
@[simp ↓, simp] theorem wpS_6 : wpS c (.expr e) env K = (wpE c e env (fun _ _ => K.nx env) (fun x => K.ex x env)) := id rfl
@[simp ↓, simp] theorem wpS_7 : wpS c (.ite t a b) env K = (wpT c t env (fun k => If k (wpSs c a env K) (wpSs c b env K) .mk .mk) (fun x => K.ex x env)) := id rfl
@[simp ↓, simp] theorem wpS_8 : wpS c (.for t it body) env K = (wpI c it env (fun xs inf => LF t inf.fr (fun env1 K1 => wpSs c body env1 K1) K xs (frz inf.all env) .mk .mk) (fun x => K.ex x env)) := id rfl
@[simp ↓, simp] theorem wpS_9 : wpS c (.whl t body) env K = (∃ n, LW (fun env1 k => wpT c t env1 k (fun x => K.ex x env1)) (fun env1 K1 => wpSs c body env1 K1) K n env .mk .mk .mk) := id rfl
@[simp ↓, simp] theorem wpS_10 : wpS c (.ret e) env K = (wpE c e env K.rt (fun x => K.ex x env)) := id rfl
@[simp ↓, simp] theorem wpS_11 : wpS c (.retN) u1 K = (K.rt .non ci) := id rfl
@[simp ↓, simp] theorem wpS_12 : wpS c (.brk) env K = (K.bk env) := id rfl
@[simp ↓, simp] theorem wpS_13 : wpS c (.cnt) env K = (K.ct env) := id rfl
@[simp ↓, simp] theorem wpS_14 : wpS c (.pass) env K = (K.nx env) := id rfl
@[simp ↓, simp] theorem wpS_15 : wpS c (.raise x) env K = (K.ex x env) := id rfl
@[simp ↓, simp] theorem wpS_16 : wpS c (.setf x e) env K = (Slf env (fun C ks ds fr => wpE c e env (fun d inf => (ks.contains x = false ∧ c.prg.ok C x = true ∧ ks.length < 100) ∧ K.nx ((frz inf.all env).set 0 (.slf C (ks ++ [x]) (ds ++ [d]) (fr && inf.fr)))) (fun x => K.ex x env)) .mk) := id rfl
@[simp ↓, simp] theorem wpS_17 : wpS c (.sup x i es) env K = (Slf env (fun C ks ds fr => wpEs c es env (fun as inf => ks = [] ∧ Ini c i C as (fun ks vs => K.nx ((frz inf.all env).set 0 (.slf C ks vs (fr && inf.fr)))) (fun _ => False) .mk .mk) (fun x => K.ex x env)) .mk) := id rfl
@[simp ↓, simp] theorem wpS_18 : wpS c (.pop i j) env K = (Own env j (fun ds fr => Pop ds (fun es d => K.nx ((env.set j (.own es fr)).set i (.val d fr))) .mk) .mk) := id rfl
@[simp ↓, simp] theorem wpS_19 : wpS c (.rev i) env K = (Own env i (fun ds fr => K.nx (env.set i (.own ds.reverse fr))) .mk) := id rfl
@[simp ↓, simp] theorem wpS_20 : wpS c (.clr i) env K = (Own env i (fun _ fr => K.nx (env.set i (.own [] fr))) .mk) := id rfl
@[simp ↓, simp] theorem wpS_21 : wpS c (.ins i k e) env K = (Own env i (fun ds fr => wpE c k env (fun y _ => match y with
    | .int j => wpE c e env (fun d inf => ((0 ≤ j ∧ j < 2 ^ 63) ∧ ds.length < sizeLine ∧ inf.all.contains i = false) ∧ K.nx ((frz inf.all env).set i (.own (ds.take j.toNat ++ [d] ++ ds.drop j.toNat) (fr && inf.fr)))) (fun x => K.ex x env)
    | _ => False) (fun x => K.ex x env)) .mk) := id rfl
@[simp ↓, simp] theorem wpS_22 : wpS c (.dset i k e) env K = (DicS (env.getD i .un) (fun ks ds fr => wpE c e env (fun d inf => wpE c k env (fun y _ => keyD y fun z => (ks.length < sizeLine ∧ inf.all.contains i = false) ∧ K.nx ((frz inf.all env).set i (.dic (dicPut ks ds z d).1 (dicPut ks ds z d).2 (fr && inf.fr)))) (fun x => K.ex x env)) (fun x => K.ex x env)) .mk) := id rfl
@[simp ↓, simp] theorem wpS_23 : wpS c (.dnw i) env K = (K.nx (env.set i (.dic [] [] true))) := id rfl
@[simp ↓, simp] theorem wpS_24 : wpS c (.nnw i q) env K = (noAls i env = true ∧ K.nx (env.set i (.nst (some q) [] [] true))) := id rfl
@[simp ↓, simp] theorem wpS_25 : wpS c (.nlc i t it) env K = (wpI c it env (fun xs inf => (xs.length ≤ sizeLine ∧ inf.al = [] ∧ ownFree t.ns env = true) ∧ (∀ x ∈ xs, bindT inf.fr env (fun _ => True) t x) ∧ noAls i (frz inf.all env) = true ∧ ∀ as : List Addr, as.length = xs.length → K.nx ((frz inf.all env).set i (.nst none (xs.map fun _ => .lst []) as true))) (fun x => K.ex x env)) := id rfl
@[simp ↓, simp] theorem wpS_26 : wpS c (.napp1 i a) env K = (NstS (env.getD i .un) (fun q ds as fr => wpE c a env (fun d inf => (q = some 1 ∧ ds.length < sizeLine ∧ inf.all.contains i = false) ∧ ∀ p, K.nx ((frz inf.all env).set i (.nst q (ds ++ [.tup [d, .lst []]]) (as ++ [p]) (fr && inf.fr)))) (fun x => K.ex x env)) .mk) := id rfl
@[simp ↓, simp] theorem wpS_27 : wpS c (.napp2 i a b) env K = (NstS (env.getD i .un) (fun q ds as fr => wpE c a env (fun d inf => wpE c b env (fun e inf2 => (q = some 2 ∧ ds.length < sizeLine ∧ inf.all.contains i = false ∧ inf2.all.contains i = false) ∧ ∀ p, K.nx ((frz (inf.j inf2).all env).set i (.nst q (ds ++ [.tup [d, e, .lst []]]) (as ++ [p]) (fr && (inf.j inf2).fr)))) (fun x => K.ex x env)) (fun x => K.ex x env)) .mk) := id rfl
@[simp ↓, simp] theorem wpS_28 : wpS c (.ninA i k e) env K = (NstS (env.getD i .un) (fun q ds as fr => wpE c k env (fun y _ => match y with
    | .int j => IdxS ds.length j (fun m => NinS ds m (fun es => wpE c e env (fun d inf => (q = none ∧ es.length < sizeLine ∧ inf.all.contains i = false) ∧ K.nx ((frz inf.all env).set i (.nst q (ds.set m (.lst (es ++ [d]))) as (fr && inf.fr)))) (fun x => K.ex x env)) .mk) .mk
    | _ => False) (fun x => K.ex x env)) .mk) := id rfl
@[simp ↓, simp] theorem wpS_29 : wpS c (.ninE i k e) env K = (NstS (env.getD i .un) (fun q ds as fr => wpE c k env (fun y _ => match y with
    | .int j => IdxS ds.length j (fun m => NinS ds m (fun es => wpE c e env (fun d inf => match d with
      | .lst us => (q = none ∧ es.length + us.length ≤ sizeLine ∧ inf.al.contains i = false) ∧ K.nx ((frz inf.al env).set i (.nst q (ds.set m (.lst (es ++ us))) as (fr && inf.fr)))
      | _ => False) (fun x => K.ex x env)) .mk) .mk
    | _ => False) (fun x => K.ex x env)) .mk) := id rfl
@[simp ↓, simp] theorem wpS_30 : wpS c (.ninQ i q k e) env K = (NstS (env.getD i .un) (fun q2 ds as fr => wpE c k env (fun y _ => match y with
    | .int j => IdxS ds.length j (fun m => NinT ds m q (fun ts es => wpE c e env (fun d inf => (q2 = some q ∧ es.length < sizeLine ∧ inf.all.contains i = false) ∧ K.nx ((frz inf.all env).set i (.nst q2 (ds.set m (.tup (ts.set q (.lst (es ++ [d]))))) as (fr && inf.fr)))) (fun x => K.ex x env)) .mk) .mk
    | _ => False) (fun x => K.ex x env)) .mk) := id rfl
@[simp ↓, simp] theorem wpS_31 : wpS c (.als s i k) env K = (NstS (env.getD i .un) (fun q ds _ _ => wpE c k env (fun y _ => match y with
    | .int j => IdxS ds.length j (fun m => ∃ q1, q = some q1 ∧ s ≠ i ∧ K.nx (env.set s (.als i m (hole q1 (ds.getD m .any))))) .mk
    | _ => False) (fun x => K.ex x env)) .mk) := id rfl
@[simp ↓, simp] theorem wpS_32 : wpS c (.aapp s q e) env K = (AlsS (env.getD s .un) (fun i m _ => NstS (env.getD i .un) (fun q2 ds as fr => NinT ds m q (fun ts es => wpE c e env (fun d inf => (q2 = some q ∧ es.length < sizeLine ∧ inf.all.contains i = false) ∧ K.nx ((frz inf.all env).set i (.nst q2 (ds.set m (.tup (ts.set q (.lst (es ++ [d]))))) as (fr && inf.fr)))) (fun x => K.ex x env)) .mk) .mk) .mk) := id rfl
@[simp ↓, simp] theorem wpS_33 : wpS c (.alsl s i k) env K = (NstS (env.getD i .un) (fun q ds _ _ => wpE c k env (fun y _ => match y with
    | .int j => IdxS ds.length j (fun m => q = none ∧ s ≠ i ∧ K.nx (env.set s (.als i m .any))) .mk
    | _ => False) (fun x => K.ex x env)) .mk) := id rfl
@[simp ↓, simp] theorem wpS_34 : wpS c (.aapl s e) env K = (AlsS (env.getD s .un) (fun i m _ => NstS (env.getD i .un) (fun q2 ds as fr => NinS ds m (fun es => wpE c e env (fun d inf => (q2 = none ∧ es.length < sizeLine ∧ inf.all.contains i = false) ∧ K.nx ((frz inf.all env).set i (.nst q2 (ds.set m (.lst (es ++ [d]))) as (fr && inf.fr)))) (fun x => K.ex x env)) .mk) .mk) .mk) := id rfl
@[simp ↓, simp] theorem wpS_35 : wpS c (.ndef i k) env K = (K.nx (env.set i (.fnv k))) := id rfl
@[simp ↓, simp] theorem wpS_36 : wpS c (.forO t i body) env K = (Own env i (fun ds fr => ∀ p, LF t fr (fun env1 K1 => wpSs c body env1 K1) (K.pn i p ds fr) ds (env.set i (.pin p)) .mk .mk) .mk) := id rfl
@[simp ↓, simp] theorem wpS_37 : wpS c (.fz is s) env K = (wpS c s (frz is env) K) := id rfl
@[simp ↓, simp] theorem wpS_38 : wpS c (.try body x e h) env K = (wpSs c body env (K.cat (fun y env1 => match c.prg.xs y x with
    | some true => wpH c.prg e y env1 K h
    | some false => K.ex y env1
    | none => False))) := id rfl
@[simp ↓, simp] theorem wpSs_0 : wpSs c (.nil) env K = (K.nx env) := id rfl
@[simp ↓, simp] theorem wpSs_one : wpSs c (.cons s .nil) env K = wpS c s env K := id rfl
@[simp ↓, simp] theorem wpSs_asg : wpSs c (.cons (.asg i e) (.cons s ss)) env K = (wpS c (.asg i e) env (K.thn fun env1 => wpSs c (.cons s ss) env1 K)) := id rfl
@[simp ↓, simp] theorem wpSs_unp : wpSs c (.cons (.unp is e) (.cons s ss)) env K = (wpS c (.unp is e) env (K.thn fun env1 => wpSs c (.cons s ss) env1 K)) := id rfl
@[simp ↓, simp] theorem wpSs_aug : wpSs c (.cons (.aug i op e) (.cons s ss)) env K = (wpS c (.aug i op e) env (K.thn fun env1 => wpSs c (.cons s ss) env1 K)) := id rfl
@[simp ↓, simp] theorem wpSs_app : wpSs c (.cons (.app i e) (.cons s ss)) env K = (wpS c (.app i e) env (K.thn fun env1 => wpSs c (.cons s ss) env1 K)) := id rfl
@[simp ↓, simp] theorem wpSs_ext : wpSs c (.cons (.ext i e) (.cons s ss)) env K = (wpS c (.ext i e) env (K.thn fun env1 => wpSs c (.cons s ss) env1 K)) := id rfl
@[simp ↓, simp] theorem wpSs_setix : wpSs c (.cons (.setix i k e) (.cons s ss)) env K = (wpS c (.setix i k e) env (K.thn fun env1 => wpSs c (.cons s ss) env1 K)) := id rfl
@[simp ↓, simp] theorem wpSs_expr : wpSs c (.cons (.expr e) (.cons s ss)) env K = (wpS c (.expr e) env (K.thn fun env1 => wpSs c (.cons s ss) env1 K)) := id rfl
@[simp ↓, simp] theorem wpSs_for : wpSs c (.cons (.for t it body) (.cons s ss)) env K = (wpS c (.for t it body) env (K.thn fun env1 => wpSs c (.cons s ss) env1 K)) := id rfl
@[simp ↓, simp] theorem wpSs_whl : wpSs c (.cons (.whl t body) (.cons s ss)) env K = (wpS c (.whl t body) env (K.thn fun env1 => wpSs c (.cons s ss) env1 K)) := id rfl
@[simp ↓, simp] theorem wpSs_ret : wpSs c (.cons (.ret e) (.cons s ss)) env K = (wpS c (.ret e) env (K.thn fun env1 => wpSs c (.cons s ss) env1 K)) := id rfl
@[simp ↓, simp] theorem wpSs_retN : wpSs c (.cons (.retN) (.cons s ss)) env K = (wpS c (.retN) env (K.thn fun env1 => wpSs c (.cons s ss) env1 K)) := id rfl
@[simp ↓, simp] theorem wpSs_brk : wpSs c (.cons (.brk) (.cons s ss)) env K = (wpS c (.brk) env (K.thn fun env1 => wpSs c (.cons s ss) env1 K)) := id rfl
@[simp ↓, simp] theorem wpSs_cnt : wpSs c (.cons (.cnt) (.cons s ss)) env K = (wpS c (.cnt) env (K.thn fun env1 => wpSs c (.cons s ss) env1 K)) := id rfl
@[simp ↓, simp] theorem wpSs_pass : wpSs c (.cons (.pass) (.cons s ss)) env K = (wpS c (.pass) env (K.thn fun env1 => wpSs c (.cons s ss) env1 K)) := id rfl
@[simp ↓, simp] theorem wpSs_raise : wpSs c (.cons (.raise x) (.cons s ss)) env K = (wpS c (.raise x) env (K.thn fun env1 => wpSs c (.cons s ss) env1 K)) := id rfl
@[simp ↓, simp] theorem wpSs_setf : wpSs c (.cons (.setf x e) (.cons s ss)) env K = (wpS c (.setf x e) env (K.thn fun env1 => wpSs c (.cons s ss) env1 K)) := id rfl
@[simp ↓, simp] theorem wpSs_sup : wpSs c (.cons (.sup x i es) (.cons s ss)) env K = (wpS c (.sup x i es) env (K.thn fun env1 => wpSs c (.cons s ss) env1 K)) := id rfl
@[simp ↓, simp] theorem wpSs_pop : wpSs c (.cons (.pop i j) (.cons s ss)) env K = (wpS c (.pop i j) env (K.thn fun env1 => wpSs c (.cons s ss) env1 K)) := id rfl
@[simp ↓, simp] theorem wpSs_rev : wpSs c (.cons (.rev i) (.cons s ss)) env K = (wpS c (.rev i) env (K.thn fun env1 => wpSs c (.cons s ss) env1 K)) := id rfl
@[simp ↓, simp] theorem wpSs_clr : wpSs c (.cons (.clr i) (.cons s ss)) env K = (wpS c (.clr i) env (K.thn fun env1 => wpSs c (.cons s ss) env1 K)) := id rfl
@[simp ↓, simp] theorem wpSs_ins : wpSs c (.cons (.ins i k e) (.cons s ss)) env K = (wpS c (.ins i k e) env (K.thn fun env1 => wpSs c (.cons s ss) env1 K)) := id rfl
@[simp ↓, simp] theorem wpSs_try : wpSs c (.cons (.try bd x e h) (.cons s ss)) env K = (wpS c (.try bd x e h) env (K.thn fun env1 => wpSs c (.cons s ss) env1 K)) := id rfl
@[simp ↓, simp] theorem wpSs_dset : wpSs c (.cons (.dset i k e) (.cons s ss)) env K = (wpS c (.dset i k e) env (K.thn fun env1 => wpSs c (.cons s ss) env1 K)) := id rfl
@[simp ↓, simp] theorem wpSs_dnw : wpSs c (.cons (.dnw i) (.cons s ss)) env K = (wpS c (.dnw i) env (K.thn fun env1 => wpSs c (.cons s ss) env1 K)) := id rfl
@[simp ↓, simp] theorem wpSs_nnw : wpSs c (.cons (.nnw i q) (.cons s ss)) env K = (wpS c (.nnw i q) env (K.thn fun env1 => wpSs c (.cons s ss) env1 K)) := id rfl
@[simp ↓, simp] theorem wpSs_nlc : wpSs c (.cons (.nlc i t it) (.cons s ss)) env K = (wpS c (.nlc i t it) env (K.thn fun env1 => wpSs c (.cons s ss) env1 K)) := id rfl
@[simp ↓, simp] theorem wpSs_napp1 : wpSs c (.cons (.napp1 i a) (.cons s ss)) env K = (wpS c (.napp1 i a) env (K.thn fun env1 => wpSs c (.cons s ss) env1 K)) := id rfl
@[simp ↓, simp] theorem wpSs_napp2 : wpSs c (.cons (.napp2 i a b) (.cons s ss)) env K = (wpS c (.napp2 i a b) env (K.thn fun env1 => wpSs c (.cons s ss) env1 K)) := id rfl
@[simp ↓, simp] theorem wpSs_ninA : wpSs c (.cons (.ninA i k e) (.cons s ss)) env K = (wpS c (.ninA i k e) env (K.thn fun env1 => wpSs c (.cons s ss) env1 K)) := id rfl
@[simp ↓, simp] theorem wpSs_ninE : wpSs c (.cons (.ninE i k e) (.cons s ss)) env K = (wpS c (.ninE i k e) env (K.thn fun env1 => wpSs c (.cons s ss) env1 K)) := id rfl
@[simp ↓, simp] theorem wpSs_ninQ : wpSs c (.cons (.ninQ i q k e) (.cons s ss)) env K = (wpS c (.ninQ i q k e) env (K.thn fun env1 => wpSs c (.cons s ss) env1 K)) := id rfl
@[simp ↓, simp] theorem wpSs_als : wpSs c (.cons (.als r i k) (.cons s ss)) env K = (wpS c (.als r i k) env (K.thn fun env1 => wpSs c (.cons s ss) env1 K)) := id rfl
@[simp ↓, simp] theorem wpSs_aapp : wpSs c (.cons (.aapp r q e) (.cons s ss)) env K = (wpS c (.aapp r q e) env (K.thn fun env1 => wpSs c (.cons s ss) env1 K)) := id rfl
@[simp ↓, simp] theorem wpSs_alsl : wpSs c (.cons (.alsl r i k) (.cons s ss)) env K = (wpS c (.alsl r i k) env (K.thn fun env1 => wpSs c (.cons s ss) env1 K)) := id rfl
@[simp ↓, simp] theorem wpSs_aapl : wpSs c (.cons (.aapl r e) (.cons s ss)) env K = (wpS c (.aapl r e) env (K.thn fun env1 => wpSs c (.cons s ss) env1 K)) := id rfl
@[simp ↓, simp] theorem wpSs_ndef : wpSs c (.cons (.ndef i k) (.cons s ss)) env K = (wpS c (.ndef i k) env (K.thn fun env1 => wpSs c (.cons s ss) env1 K)) := id rfl
@[simp ↓, simp] theorem wpSs_forO : wpSs c (.cons (.forO t i body) (.cons s ss)) env K = (wpS c (.forO t i body) env (K.thn fun env1 => wpSs c (.cons s ss) env1 K)) := id rfl
@[simp ↓, simp] theorem wpSs_fz : wpSs c (.cons (.fz is s9) (.cons s ss)) env K = (wpS c (.fz is s9) env (K.thn fun env1 => wpSs c (.cons s ss) env1 K)) := id rfl
@[simp ↓, simp] theorem wpSs_iteE (h : (a.ends || b.ends) = true) : wpSs c (.cons (.ite t a b) (.cons s ss)) env K = (wpS c (.ite t a b) env (K.thn fun env1 => wpSs c (.cons s ss) env1 K)) := id rfl
@[simp ↓, simp] theorem wpSs_iteJ (h : (a.ends || b.ends) = false) : wpSs c (.cons (.ite t a b) (.cons s ss)) env K = Jn (fun g => wpS c (.ite t a b) env (K.thn g)) (fun env1 => wpSs c (.cons s ss) env1 K) .mk .mk := id rfl
end
section
variable {K : En} {lo hi : Option Int}
@[simp ↓, simp] theorem rdS_1 : rdS  (.val d fr) u1 Q = (Q d ⟨[], [], d.imm || fr, false⟩) := id rfl
@[simp ↓, simp] theorem rdS_2 : rdS  (.own ds fr) i Q = (Q (.lst ds) ⟨[], [i], fr, true⟩) := id rfl
@[simp ↓, simp] theorem rdS_4 : rdS  (.dic ks ds fr) i Q = (Q (.dic ks ds) ⟨[i], [], fr, false⟩) := id rfl
@[simp ↓, simp] theorem rdS_5 : rdS  (.nst u1 ds u2 fr) i Q = (Q (.lst ds) ⟨[i], [i], fr, true⟩) := id rfl
@[simp ↓, simp] theorem rdS_6 : rdS  (.als u1 u2 d) u3 Q = (Q d ⟨[], [], false, false⟩) := id rfl
@[simp ↓, simp] theorem frz1_0 : frz1  (.own ds fr) = (.val (.lst ds) fr) := id rfl
@[simp ↓, simp] theorem frz1_1 : frz1  (.val d fr) = (.val d fr) := id rfl
@[simp ↓, simp] theorem frz1_2 : frz1  (.un) = (.un) := id rfl
@[simp ↓, simp] theorem frz1_3 : frz1  (.slf C ks ds fr) = (.slf C ks ds fr) := id rfl
@[simp ↓, simp] theorem frz1_4 : frz1  (.dic ks ds fr) = (.val (.dic ks ds) fr) := id rfl
@[simp ↓, simp] theorem frz1_5 : frz1  (.nst u1 ds u2 fr) = (.val (.lst ds) fr) := id rfl
@[simp ↓, simp] theorem frz1_6 : frz1  (.als i j d) = (.als i j d) := id rfl
@[simp ↓, simp] theorem frz1_7 : frz1  (.fnv k) = (.fnv k) := id rfl
@[simp ↓, simp] theorem frz1_8 : frz1  (.pin p) = (.pin p) := id rfl
@[simp ↓, simp] theorem frz_0 : frz  [] env = (env) := id rfl
@[simp ↓, simp] theorem frz_1 : frz  (i :: l) env = (frz l (env.set i (frz1 (env.getD i .un)))) := id rfl
@[simp ↓, simp] theorem slOf_0 : slOf  (.lst ds) inf = (bif inf.top && inf.all.isEmpty then .own ds inf.fr else .val (.lst ds) inf.fr) := id rfl
@[simp ↓, simp] theorem setMany_0 : setMany fr (i :: is) (d :: ds) env = (setMany fr is ds (env.set i (.val d fr))) := id rfl
@[simp ↓, simp] theorem ownFree_0 : ownFree  [] u1 = (true) := id rfl
@[simp ↓, simp] theorem ownFree_1 : ownFree  (i :: l) env = ((match env.getD i .un with
    | .own _ _ => false
    | .dic _ _ _ => false
    | .nst _ _ _ _ => false
    | _ => true) && ownFree l env) := id rfl
@[simp ↓, simp] theorem bindT_0 : bindT fr env k (.name i) x = (k (env.set i (.val x fr))) := id rfl
@[simp ↓, simp] theorem bindT_1 : bindT fr env k (.tup is) (.tup ds) = (ds.length = is.length ∧ k (setMany fr is ds env)) := id rfl
@[simp ↓, simp] theorem binD_0 : binD  (.add) (.int i) u1 (.int j) u2 Q = (Q (.int (i + j)) ci) := id rfl
@[simp ↓, simp] theorem binD_1 : binD  (.add) (.str x) u1 (.str y) u2 Q = (x.length + y.length ≤ sizeLine ∧ Q (.str (x ++ y)) ci) := id rfl
@[simp ↓, simp] theorem binD_2 : binD  (.add) (.lst xs) i (.lst ys) j Q = (xs.length + ys.length ≤ sizeLine ∧ Q (.lst (xs ++ ys)) ⟨i.al ++ j.al, [], i.fr && j.fr, true⟩) := id rfl
@[simp ↓, simp] theorem binD_3 : binD  (.add) (.lst xs) i (.scr ns) j Q = (xs.length + ns.length ≤ sizeLine ∧ Q (.lst (xs ++ ns.map .int)) ⟨i.al, [], i.fr, true⟩) := id rfl
@[simp ↓, simp] theorem binD_4 : binD  (.add) (.scr ns) i (.lst ys) j Q = (ns.length + ys.length ≤ sizeLine ∧ Q (.lst (ns.map .int ++ ys)) ⟨j.al, [], j.fr, true⟩) := id rfl
@[simp ↓, simp] theorem binD_5 : binD  (.add) (.tup xs) i (.tup ys) j Q = (xs.length + ys.length ≤ sizeLine ∧ Q (.tup (xs ++ ys)) ⟨i.al ++ j.al, [], i.fr && j.fr, false⟩) := id rfl
@[simp ↓, simp] theorem binD_6 : binD  (.sub) (.int i) u1 (.int j) u2 Q = (Q (.int (i - j)) ci) := id rfl
@[simp ↓, simp] theorem binD_7 : binD  (.mul) (.int i) u1 (.int j) u2 Q = (MulOk i j ∧ Q (.int (i * j)) ci) := id rfl
@[simp ↓, simp] theorem binD_8 : binD  (.mul) (.str z) u1 (.int j) u2 Q = ((-(2 ^ 62) < j ∧ j < 2 ^ 62 ∧ z.length * j.toNat ≤ sizeLine) ∧ Q (.str (repS z j.toNat)) ci) := id rfl
@[simp ↓, simp] theorem binD_9 : binD  (.mul) (.lst xs) i (.int j) u1 Q = ((-(2 ^ 62) < j ∧ j < 2 ^ 62 ∧ xs.length * j.toNat ≤ sizeLine) ∧ Q (.lst (repL xs j.toNat)) ⟨i.al, [], i.fr, true⟩) := id rfl
@[simp ↓, simp] theorem binD_10 : binD  (.fdiv) (.int i) u1 (.int j) u2 Q = (DivOk j ∧ Q (.int (i / j)) ci) := id rfl
@[simp ↓, simp] theorem binD_11 : binD  (.mod) (.int i) u1 (.int j) u2 Q = (0 < j ∧ Q (.int (i % j)) ci) := id rfl
@[simp ↓, simp] theorem binD_12 : binD  (.pow) (.int i) u1 (.int j) u2 Q = ((0 ≤ j ∧ j ≤ 1000000 ∧ i.natAbs < 2 ^ 64) ∧ Q (.int (i ^ j.toNat)) ci) := id rfl
@[simp ↓, simp] theorem binD_13 : binD  (.shl) (.int i) u1 (.int j) u2 Q = ((0 ≤ j ∧ j ≤ 1000000 ∧ i.natAbs < 2 ^ 64) ∧ Q (.int (i * 2 ^ j.toNat)) ci) := id rfl
@[simp ↓, simp] theorem binD_14 : binD  (.shr) (.int i) u1 (.int j) u2 Q = (0 ≤ j ∧ Q (.int (i / 2 ^ j.toNat)) ci) := id rfl
@[simp ↓, simp] theorem binD_15 : binD  (.band) (.int i) u1 (.int j) u2 Q = (Q (.int (Builtin.bitAnd i j)) ci) := id rfl
@[simp ↓, simp] theorem binD_16 : binD  (.bor) (.int i) u1 (.int j) u2 Q = (Q (.int (Builtin.bitOr i j)) ci) := id rfl
@[simp ↓, simp] theorem binD_17 : binD  (.bxor) (.int i) u1 (.int j) u2 Q = (Q (.int (Builtin.bitXor i j)) ci) := id rfl
@[simp ↓, simp] theorem truD_0 : truD  (.non) k = (k false) := id rfl
@[simp ↓, simp] theorem truD_1 : truD  (.bl b) k = (k b) := id rfl
@[simp ↓, simp] theorem truD_2 : truD  (.int i) k = (k (i != 0)) := id rfl
@[simp ↓, simp] theorem truD_3 : truD  (.str x) k = (x.length ≤ sizeLine ∧ k ((x.length : Int) != 0)) := id rfl
@[simp ↓, simp] theorem truD_4 : truD  (.lst xs) k = (k (!xs.isEmpty)) := id rfl
@[simp ↓, simp] theorem truD_5 : truD  (.scr xs) k = (k (!xs.isEmpty)) := id rfl
@[simp ↓, simp] theorem truD_6 : truD  (.tup xs) k = (k (!xs.isEmpty)) := id rfl
@[simp ↓, simp] theorem eqD_0 : eqD  (.int i) (.int j) k = (k (decide (i = j))) := id rfl
@[simp ↓, simp] theorem eqD_1 : eqD  (.str x) (.str y) k = (k (decide (x = y))) := id rfl
@[simp ↓, simp] theorem eqD_2 : eqD  (.bl a) (.bl b) k = (k (decide (a = b))) := id rfl
@[simp ↓, simp] theorem eqD_3 : eqD  (.non) (.non) k = (k true) := id rfl
@[simp ↓, simp] theorem eqD_4 : eqD  (.non) (.int u1) k = (k false) := id rfl
@[simp ↓, simp] theorem eqD_5 : eqD  (.int u1) (.non) k = (k false) := id rfl
@[simp ↓, simp] theorem eqD_6 : eqD  (.non) (.str u1) k = (k false) := id rfl
@[simp ↓, simp] theorem eqD_7 : eqD  (.str u1) (.non) k = (k false) := id rfl
@[simp ↓, simp] theorem eqD_8 : eqD  (.non) (.bl u1) k = (k false) := id rfl
@[simp ↓, simp] theorem eqD_9 : eqD  (.bl u1) (.non) k = (k false) := id rfl
@[simp ↓, simp] theorem eqD_10 : eqD  (.int u1) (.str u2) k = (k false) := id rfl
@[simp ↓, simp] theorem eqD_11 : eqD  (.str u1) (.int u2) k = (k false) := id rfl
@[simp ↓, simp] theorem eqD_12 : eqD  (.bl u1) (.str u2) k = (k false) := id rfl
@[simp ↓, simp] theorem eqD_13 : eqD  (.str u1) (.bl u2) k = (k false) := id rfl
@[simp ↓, simp] theorem cmpD_0 : cmpD  (.eq) a b k = (eqD a b k) := id rfl
@[simp ↓, simp] theorem cmpD_1 : cmpD  (.ne) a b k = (eqD a b fun r => k (!r)) := id rfl
@[simp ↓, simp] theorem cmpD_2 : cmpD  (.lt) (.int i) (.int j) k = (k (decide (i < j))) := id rfl
@[simp ↓, simp] theorem cmpD_3 : cmpD  (.le) (.int i) (.int j) k = (k (decide (i ≤ j))) := id rfl
@[simp ↓, simp] theorem cmpD_4 : cmpD  (.gt) (.int i) (.int j) k = (k (decide (j < i))) := id rfl
@[simp ↓, simp] theorem cmpD_5 : cmpD  (.ge) (.int i) (.int j) k = (k (decide (j ≤ i))) := id rfl
@[simp ↓, simp] theorem cmpD_6 : cmpD  (.lt) (.str x) (.str y) k = (k (decide (x.cps.toList < y.cps.toList))) := id rfl
@[simp ↓, simp] theorem cmpD_7 : cmpD  (.isN) a (.non) k = ((match a with
    | .non => k true
    | .any => False
    | _ => k false)) := id rfl
@[simp ↓, simp] theorem cmpD_8 : cmpD  (.notN) a (.non) k = ((match a with
    | .non => k false
    | .any => False
    | _ => k true)) := id rfl
@[simp ↓, simp] theorem cmpD_9 : cmpD  (.isin) (.str x) (.str y) k = (k (!(Builtin.Str.occurrences y x 0 y.length 1).isEmpty)) := id rfl
@[simp ↓, simp] theorem cmpD_10 : cmpD  (.notin) (.str x) (.str y) k = (k (!(!(Builtin.Str.occurrences y x 0 y.length 1).isEmpty))) := id rfl
@[simp ↓, simp] theorem cmpD_11 : cmpD  (.isin) a (.lst ys) k = ((SeqAt.shaped a.py = true ∧ SeqAt.shaped (.list (pyL ys)) = true) ∧ k ((pyL ys).any fun z => PyData.eqv z a.py)) := by cases a <;> rfl
@[simp ↓, simp] theorem cmpD_12 : cmpD  (.notin) a (.lst ys) k = ((SeqAt.shaped a.py = true ∧ SeqAt.shaped (.list (pyL ys)) = true) ∧ k (!(pyL ys).any fun z => PyData.eqv z a.py)) := by cases a <;> rfl
@[simp ↓, simp] theorem cmpD_13 : cmpD  (.isin) a (.tup ys) k = ((SeqAt.shaped a.py = true ∧ SeqAt.shaped (.tuple (pyL ys)) = true) ∧ k ((pyL ys).any fun z => PyData.eqv z a.py)) := by cases a <;> rfl
@[simp ↓, simp] theorem cmpD_14 : cmpD  (.notin) a (.tup ys) k = ((SeqAt.shaped a.py = true ∧ SeqAt.shaped (.tuple (pyL ys)) = true) ∧ k (!(pyL ys).any fun z => PyData.eqv z a.py)) := by cases a <;> rfl
@[simp ↓, simp] theorem cmpD_15 : cmpD  (.lt) (.tup xs) (.tup ys) k = ((SeqAt.shaped (.tuple (pyL xs)) = true ∧ SeqAt.shaped (.tuple (pyL ys)) = true ∧ PySem.W.alike (.tuple (pyL xs)) (.tuple (pyL ys)) = true) ∧ k (PySem.W.dataLt (.tuple (pyL xs)) (.tuple (pyL ys)))) := id rfl
@[simp ↓, simp] theorem cmpD_16 : cmpD  (.ge) (.tup xs) (.tup ys) k = ((SeqAt.shaped (.tuple (pyL xs)) = true ∧ SeqAt.shaped (.tuple (pyL ys)) = true ∧ PySem.W.alike (.tuple (pyL xs)) (.tuple (pyL ys)) = true) ∧ k (!PySem.W.dataLt (.tuple (pyL xs)) (.tuple (pyL ys)))) := id rfl
@[simp ↓, simp] theorem cmpD_17 : cmpD  (.lt) (.lst xs) (.lst ys) k = (Hold (∃ ns ms, (intsOf xs = some ns ∧ intsOf ys = some ms) ∧ k (lexD ns ms)) .mk) := id rfl
@[simp ↓, simp] theorem cmpD_18 : cmpD  (.isN) (.bl a) (.bl b) k = (k (decide (a = b))) := id rfl
@[simp ↓, simp] theorem cmpD_19 : cmpD  (.notN) (.bl a) (.bl b) k = (k (!decide (a = b))) := id rfl
@[simp ↓, simp] theorem ixD_0 : ixD  (.scr ns) (.int i) Q = (AtS ns i (fun n => Q (.int n)) .mk) := id rfl
@[simp ↓, simp] theorem ixD_1 : ixD  (.lst xs) (.int i) Q = (AtD xs i Q .mk) := id rfl
@[simp ↓, simp] theorem ixD_2 : ixD  (.tup xs) (.int i) Q = (AtD xs i Q .mk) := id rfl
@[simp ↓, simp] theorem ixD_3 : ixD  (.str z) (.int i) Q = (z.length ≤ sizeLine ∧ ∃ c, atI z.cps.toList i = some c ∧ Q (.str ⟨#[c]⟩)) := id rfl
@[simp ↓, simp] theorem slD_0 : slD  (.scr ns) lo hi u1 Q = (Q (.lst ((cutI ns lo hi).map .int)) ⟨[], [], true, true⟩) := id rfl
@[simp ↓, simp] theorem slD_1 : slD  (.lst xs) lo hi i Q = (Q (.lst (cutD xs lo hi)) i.np) := id rfl
@[simp ↓, simp] theorem slD_2 : slD  (.tup xs) lo hi i Q = (Q (.tup (cutD xs lo hi)) ⟨i.al, [], i.fr, false⟩) := id rfl
@[simp ↓, simp] theorem slD_3 : slD  (.str z) lo hi u1 Q = (z.length ≤ sizeLine ∧ Q (.str (cutS z lo hi)) ci) := id rfl
@[simp ↓, simp] theorem bltD_0 : bltD  (.len) ([.lst xs]) u1 Q = (Q (.int xs.length) ci) := id rfl
@[simp ↓, simp] theorem bltD_1 : bltD  (.len) ([.scr xs]) u1 Q = (Q (.int xs.length) ci) := id rfl
@[simp ↓, simp] theorem bltD_2 : bltD  (.len) ([.tup xs]) u1 Q = (Q (.int xs.length) ci) := id rfl
@[simp ↓, simp] theorem bltD_3 : bltD  (.len) ([.str x]) u1 Q = (x.length ≤ sizeLine ∧ Q (.int x.length) ci) := id rfl
@[simp ↓, simp] theorem bltD_4 : bltD  (.list) ([.lst xs]) i Q = (Q (.lst xs) ⟨i.al, [], i.fr || immL xs, true⟩) := id rfl
@[simp ↓, simp] theorem bltD_5 : bltD  (.list) ([.scr ns]) u1 Q = (Q (.lst (ns.map .int)) ⟨[], [], true, true⟩) := id rfl
@[simp ↓, simp] theorem bltD_6 : bltD  (.list) ([.tup xs]) i Q = (Q (.lst xs) ⟨i.al, [], i.fr, true⟩) := id rfl
@[simp ↓, simp] theorem bltD_7 : bltD  (.tuple) ([.lst xs]) i Q = (Q (.tup xs) ⟨i.al, [], i.fr, false⟩) := id rfl
@[simp ↓, simp] theorem bltD_8 : bltD  (.tuple) ([.tup xs]) i Q = (Q (.tup xs) ⟨i.al, [], i.fr, false⟩) := id rfl
@[simp ↓, simp] theorem bltD_9 : bltD  (.all) ([.lst xs]) u1 Q = (Hold (∃ bs, boolsOf xs = some bs ∧ Q (.bl (bs.all id)) ci) .mk) := id rfl
@[simp ↓, simp] theorem bltD_10 : bltD  (.any) ([.lst xs]) u1 Q = (Hold (∃ bs, boolsOf xs = some bs ∧ Q (.bl (bs.any id)) ci) .mk) := id rfl
@[simp ↓, simp] theorem bltD_11 : bltD  (.divmod) ([.int i, .int j]) u1 Q = (CDivP i j ∧ Q (.tup [.int (i / j), .int (i % j)]) ci) := id rfl
@[simp ↓, simp] theorem bltD_12 : bltD  (.max) ([.lst xs]) u1 Q = (Hold (∃ ns, intsOf xs = some ns ∧ 0 < ns.length ∧ ∀ m, m ∈ ns → (∀ y, y ∈ ns → y ≤ m) → Q (.int m) ci) .mk) := id rfl
@[simp ↓, simp] theorem bltD_13 : bltD  (.min) ([.lst xs]) u1 Q = (Hold (∃ ns, intsOf xs = some ns ∧ 0 < ns.length ∧ ∀ m, m ∈ ns → (∀ y, y ∈ ns → m ≤ y) → Q (.int m) ci) .mk) := id rfl
@[simp ↓, simp] theorem bltD_14 : bltD  (.max) ([.int i, .int j]) u1 Q = (Q (.int (if j > i then j else i)) ci) := id rfl
@[simp ↓, simp] theorem bltD_15 : bltD  (.min) ([.int i, .int j]) u1 Q = (Q (.int (if j < i then j else i)) ci) := id rfl
@[simp ↓, simp] theorem bltD_16 : bltD  (.min) ([.int a, .int b, .int c, .int d, .int e]) u1 Q = (Q (.int (min (min (min (min a b) c) d) e)) ci) := id rfl
@[simp ↓, simp] theorem bltD_17 : bltD  (.abs) ([.int i]) u1 Q = (Q (.int (if i < 0 then -i else i)) ci) := id rfl
@[simp ↓, simp] theorem bltD_18 : bltD  (.sum) ([.scr ns]) u1 Q = (Q (.int ns.sum) ci) := id rfl
@[simp ↓, simp] theorem bltD_19 : bltD  (.sum) ([.lst xs]) u1 Q = (Hold (∃ ns, intsOf xs = some ns ∧ Q (.int ns.sum) ci) .mk) := id rfl
@[simp ↓, simp] theorem bltD_20 : bltD  (.sortedI) ([.lst xs]) u1 Q = (Hold (∃ ns, intsOf xs = some ns ∧ ∀ ms : List Int, ms.Perm ns → ms.Pairwise (· ≤ ·) → Q (.lst (ms.map .int)) ⟨[], [], true, true⟩) .mk) := id rfl
@[simp ↓, simp] theorem bltD_21 : bltD  (.sortedP) ([.lst xs]) i Q = (Hold (∃ ps, pairsOf' xs = some ps ∧ ∀ qs : List (Int × Int), qs.Perm ps → qs.Pairwise lexLe → Q (.lst (qs.map pairD)) ⟨[], [], true, true⟩) .mk) := id rfl
@[simp ↓, simp] theorem bltD_22 : bltD  (.str) ([.int i]) u1 Q = (i.natAbs.log2 < 1920 ∧ Q (.str (toString i)) ci) := id rfl
@[simp ↓, simp] theorem bltD_23 : bltD  (.str) ([.str x]) u1 Q = (Q (.str x) ci) := id rfl
@[simp ↓, simp] theorem bltD_24 : bltD  (.int) ([.str x]) u1 Q = (Hold (∃ n, intText? x = some n ∧ x.length ≤ 640 ∧ Q (.int n) ci) .mk) := id rfl
@[simp ↓, simp] theorem bltD_25 : bltD  (.int) ([.int i]) u1 Q = (Q (.int i) ci) := id rfl
@[simp ↓, simp] theorem bltD_26 : bltD  (.int) ([.bl b]) u1 Q = (Q (.int (if b then 1 else 0)) ci) := id rfl
@[simp ↓, simp] theorem bmD_0 : bmD  (.join) (.str a) (.lst xs) Q = (Hold (∃ ys, strsOf xs = some ys ∧ (ys.map (·.length)).sum + ys.length * a.length ≤ 16777216 ∧ Q (.str (Txt.join a ys)) ci) .mk) := id rfl
@[simp ↓, simp] theorem bmD_1 : bmD  (.split) (.str a) (.str b) Q = (((b.length == 0) = false ∧ a.length + 2 ≤ sizeLine) ∧ Q (.lst ((Txt.split a b).map .str)) ⟨[], [], true, true⟩) := id rfl
@[simp ↓, simp] theorem bmD_2 : bmD  (.partition) (.str a) (.str b) Q = (((b.length == 0) = false ∧ a.length ≤ sizeLine) ∧ Q (.tup [.str (Txt.partition a b).1, .str (Txt.partition a b).2.1, .str (Txt.partition a b).2.2]) ci) := id rfl
@[simp ↓, simp] theorem bmD_3 : bmD  (.startswith) (.str a) (.str b) Q = (Q (.bl (Txt.startswith a b)) ci) := id rfl
@[simp ↓, simp] theorem bmD_4 : bmD  (.find) (.str a) (.str b) Q = (Q (.int (Txt.find a b)) ci) := id rfl
@[simp ↓, simp] theorem bmD_5 : bmD  (.index) (.lst xs) (.str b) Q = (Hold (∃ ys, strsOf xs = some ys ∧ ∃ j : Nat, ys[j]? = some b ∧ (∀ m : Nat, m < j → ys[m]? ≠ some b) ∧ Q (.int j) ci) .mk) := id rfl
@[simp ↓, simp] theorem bmD_6 : bmD  (.index) (.lst xs) (.int b) Q = (Hold (∃ ys, intsOf xs = some ys ∧ ∃ j : Nat, ys[j]? = some b ∧ (∀ m : Nat, m < j → ys[m]? ≠ some b) ∧ Q (.int j) ci) .mk) := id rfl
@[simp ↓, simp] theorem fldD_0 : fldD x (k :: ks) (d :: ds) Q = (if k = x then Q d else fldD x ks ds Q) := id rfl
@[simp ↓, simp] theorem iscD_0 : iscD p x (.ins C u1 u2) k = (∃ b, p.sub C x = some b ∧ k b) := id rfl
@[simp ↓, simp] theorem un1_0 : un1  (some j) env = (env.set j .un) := id rfl
@[simp ↓, simp] theorem wpH_0 : wpH p e x env K (.asg i a) = ((match xeB (p.xs x) a with
    | some b => K.nx ((un1 e env).set i (.val (.bl b) true))
    | none => False)) := id rfl
@[simp ↓, simp] theorem wpH_1 : wpH p e x env K (.asgL i as) = ((match xesB (p.xs x) as with
    | some bs => K.nx ((un1 e env).set i (.own (bs.map .bl) true))
    | none => False)) := id rfl
@[simp ↓, simp] theorem wpH_2 : wpH p e x env K (.asgN i) = (K.nx ((un1 e env).set i (.val .non true))) := id rfl
@[simp ↓, simp] theorem wpH_3 : wpH p e x env K (.app i a) = ((match xeB (p.xs x) a with
    | some b => ownS (un1 e env) i fun ds fr => ds.length < sizeLine ∧ K.nx ((un1 e env).set i (.own (ds ++ [.bl b]) fr))
    | none => False)) := id rfl
@[simp ↓, simp] theorem wpH_4 : wpH p e x env K (.raise y) = (K.ex y env) := id rfl
@[simp ↓, simp] theorem wpH_5 : wpH p e x env K (.asgS i z) = (K.nx ((un1 e env).set i (.val (.str z) true))) := id rfl
@[simp ↓, simp] theorem wpH_6 : wpH p e x env K (.cat i as) = ((match xesB (p.xs x) as with
    | some bs => ownS (un1 e env) i fun ds _ => ∃ bs0, boolsOf ds = some bs0 ∧ bs0.length + bs.length ≤ sizeLine ∧ K.nx ((un1 e env).set i (.own ((bs0 ++ bs).map .bl) true))
    | none => False)) := id rfl
@[simp ↓, simp] theorem wpH_7 : wpH p e x env K (.seq a b) = (wpH p e x env { K with nx := fun env1 => wpH p none x env1 K b } a) := id rfl
@[simp ↓, simp] theorem wpH_8 {a b : XE} : wpH p e x env K (.sum2 i a b) = ((match xeB (p.xs x) a, xeB (p.xs x) b with
    | some k, some l => K.nx ((un1 e env).set i (.val (.int ((if k then 1 else 0) + 2 * if l then 1 else 0)) true))
    | _, _ => False)) := id rfl
@[simp ↓, simp] theorem wpH_9 {ss : List Str} {a : XE} {j i : Nat} : wpH p e x env K (.pick j ss i a) = ((match xeB (p.xs x) a with
    | some k => ∃ z u, (un1 e env)[i]? = some (.val (.int z) u) ∧ ∃ m y, ixN ss.length (z * if k then 1 else 0) = some m ∧ ss[m]? = some y ∧ K.nx ((un1 e env).set j (.val (.str y) true))
    | none => False)) := id rfl
@[simp ↓, simp] theorem boolsOf_0 : boolsOf  [] = (some []) := id rfl
@[simp ↓, simp] theorem boolsOf_1 : boolsOf  (.bl i :: r) = ((boolsOf r).map (i :: ·)) := id rfl
@[simp ↓, simp] theorem strsOf_0 : strsOf  [] = (some []) := id rfl
@[simp ↓, simp] theorem strsOf_1 : strsOf  (.str i :: r) = ((strsOf r).map (i :: ·)) := id rfl
@[simp ↓, simp] theorem isTB_0 : isTB is [] = (some false) := id rfl
@[simp ↓, simp] theorem isTB_1 : isTB is (x :: xs) = ((match is x, isTB is xs with
    | some a, some b => some (a || b)
    | _, _ => none)) := id rfl
@[simp ↓, simp] theorem xeB_0 : xeB is (.cbl b) = (some b) := id rfl
@[simp ↓, simp] theorem xeB_1 : xeB is (.is x) = (is x) := id rfl
@[simp ↓, simp] theorem xeB_2 : xeB is (.isv) = (some true) := id rfl
@[simp ↓, simp] theorem xeB_3 : xeB is (.isT xs) = (isTB is xs) := id rfl
@[simp ↓, simp] theorem xeB_4 : xeB is (.not a) = ((xeB is a).map (!·)) := id rfl
@[simp ↓, simp] theorem xeB_5 : xeB is (.and a b) = ((match xeB is a, xeB is b with
    | some x, some y => some (x && y)
    | _, _ => none)) := id rfl
@[simp ↓, simp] theorem xesB_0 : xesB is [] = (some []) := id rfl
@[simp ↓, simp] theorem xesB_1 : xesB is (x :: xs) = ((match xeB is x, xesB is xs with
    | some a, some b => some (a :: b)
    | _, _ => none)) := id rfl
@[simp ↓, simp] theorem isiD_0 : isiD  (.bl u1) (.bool) k = (k true) := id rfl
@[simp ↓, simp] theorem isiD_1 : isiD  (.bl u1) (.int) k = (k true) := id rfl
@[simp ↓, simp] theorem isiD_2 : isiD  (.int u1) (.int) k = (k true) := id rfl
@[simp ↓, simp] theorem isiD_3 : isiD  (.str u1) (.str) k = (k true) := id rfl
@[simp ↓, simp] theorem isiD_4 : isiD  (.lst u1) (.list) k = (k true) := id rfl
@[simp ↓, simp] theorem isiD_5 : isiD  (.scr u1) (.list) k = (k true) := id rfl
@[simp ↓, simp] theorem isiD_6 : isiD  (.tup u1) (.tuple) k = (k true) := id rfl
@[simp ↓, simp] theorem isiD_7 : isiD  (.dic u1 u2) (.dict) k = (k true) := id rfl
@[simp ↓, simp] theorem loopC_0 : loopC f [] acc inf Q = (Q acc inf) := id rfl
@[simp ↓, simp] theorem loopC_1 : loopC f (x :: r) acc inf Q = (f x (fun d i => loopC f r (acc ++ [d]) (inf.j i) Q) (loopC f r acc inf Q)) := id rfl
@[simp ↓, simp] theorem loopF_0 : loopF t fr f K [] env = (K.nx env) := id rfl
@[simp ↓, simp] theorem loopF_1 : loopF t fr f K (x :: r) env = (bindT fr env (fun env1 => f env1 (K.loop fun env2 => loopF t fr f K r env2)) t x) := id rfl
@[simp ↓, simp] theorem binI_0 : binI  (.add) i j k = (k (i + j)) := id rfl
@[simp ↓, simp] theorem binI_1 : binI  (.sub) i j k = (k (i - j)) := id rfl
@[simp ↓, simp] theorem isL_0 : isL  (.lst u1) = (true) := id rfl
@[simp ↓, simp] theorem intsOf_0 : intsOf  [] = (some []) := id rfl
@[simp ↓, simp] theorem intsOf_1 : intsOf  (.int i :: r) = ((intsOf r).map (i :: ·)) := id rfl
@[simp ↓, simp] theorem keyD_0 : keyD  (.int i) Q = (Q (.inl i)) := id rfl
@[simp ↓, simp] theorem keyD_1 : keyD  (.str x) Q = (Q (.inr x)) := id rfl
@[simp ↓, simp] theorem capOf_0 : capOf  (.val d u1) = (some d) := id rfl
@[simp ↓, simp] theorem capOf_1 : capOf  (.own ds u1) = (some (.lst ds)) := id rfl
@[simp ↓, simp] theorem capOf_2 : capOf  (.dic ks ds u1) = (some (.dic ks ds)) := id rfl
@[simp ↓, simp] theorem capOf_3 : capOf  (.nst u1 ds u2 u3) = (some (.lst ds)) := id rfl
@[simp ↓, simp] theorem hole_0 : hole q (.tup ds) = (.tup (ds.set q .any)) := id rfl
@[simp] theorem isiN_non_bool : isiD (.non) .bool k = k false := id rfl
@[simp] theorem isiN_non_int : isiD (.non) .int k = k false := id rfl
@[simp] theorem isiN_non_str : isiD (.non) .str k = k false := id rfl
@[simp] theorem isiN_non_list : isiD (.non) .list k = k false := id rfl
@[simp] theorem isiN_non_tuple : isiD (.non) .tuple k = k false := id rfl
@[simp] theorem isiN_non_dict : isiD (.non) .dict k = k false := id rfl
@[simp] theorem isiN_bl_str : isiD (.bl u) .str k = k false := id rfl
@[simp] theorem isiN_bl_list : isiD (.bl u) .list k = k false := id rfl
@[simp] theorem isiN_bl_tuple : isiD (.bl u) .tuple k = k false := id rfl
@[simp] theorem isiN_bl_dict : isiD (.bl u) .dict k = k false := id rfl
@[simp] theorem isiN_int_bool : isiD (.int u) .bool k = k false := id rfl
@[simp] theorem isiN_int_str : isiD (.int u) .str k = k false := id rfl
@[simp] theorem isiN_int_list : isiD (.int u) .list k = k false := id rfl
@[simp] theorem isiN_int_tuple : isiD (.int u) .tuple k = k false := id rfl
@[simp] theorem isiN_int_dict : isiD (.int u) .dict k = k false := id rfl
@[simp] theorem isiN_str_bool : isiD (.str u) .bool k = k false := id rfl
@[simp] theorem isiN_str_int : isiD (.str u) .int k = k false := id rfl
@[simp] theorem isiN_str_list : isiD (.str u) .list k = k false := id rfl
@[simp] theorem isiN_str_tuple : isiD (.str u) .tuple k = k false := id rfl
@[simp] theorem isiN_str_dict : isiD (.str u) .dict k = k false := id rfl
@[simp] theorem isiN_lst_bool : isiD (.lst u) .bool k = k false := id rfl
@[simp] theorem isiN_lst_int : isiD (.lst u) .int k = k false := id rfl
@[simp] theorem isiN_lst_str : isiD (.lst u) .str k = k false := id rfl
@[simp] theorem isiN_lst_tuple : isiD (.lst u) .tuple k = k false := id rfl
@[simp] theorem isiN_lst_dict : isiD (.lst u) .dict k = k false := id rfl
@[simp] theorem isiN_tup_bool : isiD (.tup u) .bool k = k false := id rfl
@[simp] theorem isiN_tup_int : isiD (.tup u) .int k = k false := id rfl
@[simp] theorem isiN_tup_str : isiD (.tup u) .str k = k false := id rfl
@[simp] theorem isiN_tup_list : isiD (.tup u) .list k = k false := id rfl
@[simp] theorem isiN_tup_dict : isiD (.tup u) .dict k = k false := id rfl
@[simp] theorem isiN_scr_bool : isiD (.scr u) .bool k = k false := id rfl
@[simp] theorem isiN_scr_int : isiD (.scr u) .int k = k false := id rfl
@[simp] theorem isiN_scr_str : isiD (.scr u) .str k = k false := id rfl
@[simp] theorem isiN_scr_tuple : isiD (.scr u) .tuple k = k false := id rfl
@[simp] theorem isiN_scr_dict : isiD (.scr u) .dict k = k false := id rfl
@[simp] theorem pn_nx {i : Nat} {p : Addr} {ds : List D} {fr : Bool} : (K.pn i p ds fr).nx = fun env => env.getD i .un = .pin p ∧ K.nx (env.set i (.own ds fr)) := id rfl
@[simp] theorem pn_rt {i : Nat} {p : Addr} {ds : List D} {fr : Bool} : (K.pn i p ds fr).rt = K.rt := id rfl
@[simp] theorem pn_ex {i : Nat} {p : Addr} {ds : List D} {fr : Bool} : (K.pn i p ds fr).ex = K.ex := id rfl
@[simp] theorem loop_nx {f : List Sl → Prop} : (K.loop f).nx = f := id rfl
@[simp] theorem loop_ct {f : List Sl → Prop} : (K.loop f).ct = f := id rfl
@[simp] theorem loop_bk {f : List Sl → Prop} : (K.loop f).bk = K.nx := id rfl
@[simp] theorem loop_rt {f : List Sl → Prop} : (K.loop f).rt = K.rt := id rfl
@[simp] theorem loop_ex {f : List Sl → Prop} : (K.loop f).ex = K.ex := id rfl
@[simp] theorem cat_nx {f : Str → List Sl → Prop} : (K.cat f).nx = K.nx := id rfl
@[simp] theorem cat_ct {f : Str → List Sl → Prop} : (K.cat f).ct = K.ct := id rfl
@[simp] theorem cat_bk {f : Str → List Sl → Prop} : (K.cat f).bk = K.bk := id rfl
@[simp] theorem cat_rt {f : Str → List Sl → Prop} : (K.cat f).rt = K.rt := id rfl
@[simp] theorem cat_ex {f : Str → List Sl → Prop} : (K.cat f).ex = f := id rfl
@[simp] theorem thn_nx {f : List Sl → Prop} : (K.thn f).nx = f := id rfl
@[simp] theorem thn_ct {f : List Sl → Prop} : (K.thn f).ct = K.ct := id rfl
@[simp] theorem thn_bk {f : List Sl → Prop} : (K.thn f).bk = K.bk := id rfl
@[simp] theorem thn_rt {f : List Sl → Prop} : (K.thn f).rt = K.rt := id rfl
@[simp] theorem thn_ex {f : List Sl → Prop} : (K.thn f).ex = K.ex := id rfl
theorem loopW_s {tst : List Sl → (Bool → Prop) → Prop} {f : List Sl → En → Prop} {n : Nat} {env : List Sl} : loopW tst f K (n + 1) env = (tst env fun b => if b = true then f env (K.loop fun env2 => loopW tst f K n env2) else K.nx env) := rfl
@[simp] theorem ci_eq : ci = ⟨[], [], true, false⟩ := id rfl
@[simp] theorem inf_all {a b : List Nat} {c d : Bool} : Inf.all ⟨a, b, c, d⟩ = b ++ a := id rfl
@[simp] theorem inf_j {a b a' b' : List Nat} {c d c' d' : Bool} : Inf.j ⟨a, b, c, d⟩ ⟨a', b', c', d'⟩ = ⟨(b ++ a) ++ (b' ++ a'), [], c && c', false⟩ := id rfl
@[simp] theorem inf_h {a b : List Nat} {c d : Bool} : Inf.h ⟨a, b, c, d⟩ = ⟨b ++ a, [], c, false⟩ := id rfl
@[simp] theorem mkI_t {i : Inf} : mkI true i = ⟨[], [], true, false⟩ := id rfl
@[simp] theorem mkI_f {a b : List Nat} {c d : Bool} : mkI false ⟨a, b, c, d⟩ = ⟨b ++ a, [], c, false⟩ := id rfl
@[simp] theorem inf_nw {a b : List Nat} {c d : Bool} : Inf.nw ⟨a, b, c, d⟩ = ⟨b ++ a, [], c, true⟩ := id rfl
@[simp] theorem inf_np {a b : List Nat} {c d : Bool} : Inf.np ⟨a, b, c, d⟩ = ⟨a, [], c, true⟩ := id rfl
@[simp] theorem inf_n {d : D} {i : Inf} : Inf.n d i = bif d.imm then ⟨[], [], true, false⟩ else ⟨i.al, [], i.fr, false⟩ := id rfl
@[simp] theorem imm_non : D.imm .non = true := id rfl
@[simp] theorem imm_bl {b : Bool} : D.imm (.bl b) = true := id rfl
@[simp] theorem imm_int {b : Int} : D.imm (.int b) = true := id rfl
@[simp] theorem imm_str {b : Str} : D.imm (.str b) = true := id rfl
@[simp] theorem imm_scr {b : List Int} : D.imm (.scr b) = true := id rfl
@[simp] theorem imm_lst {b : List D} : D.imm (.lst b) = false := by simp [D.imm]
@[simp] theorem imm_tup {b : List D} : D.imm (.tup b) = immL b := by simp [D.imm]
@[simp] theorem immL_nil : immL [] = true := by simp [immL]
@[simp] theorem immL_cons {d : D} {b : List D} : immL (d :: b) = (d.imm && immL b) := by simp [immL]
@[simp] theorem tgn_0 {i : Nat} : (Tg.name i).ns = [i] := id rfl
@[simp] theorem tgn_1 {i : List Nat} : (Tg.tup i).ns = i := id rfl
@[simp ↓, simp] theorem setMany_n {fr : Bool} {env : List Sl} : setMany fr [] [] env = env := id rfl
@[simp] theorem slO_non {i : Inf} : slOf .non i = .val .non i.fr := id rfl
@[simp] theorem slO_bl {b : Bool} {i : Inf} : slOf (.bl b) i = .val (.bl b) i.fr := id rfl
@[simp] theorem slO_int {b : Int} {i : Inf} : slOf (.int b) i = .val (.int b) i.fr := id rfl
@[simp] theorem slO_str {b : Str} {i : Inf} : slOf (.str b) i = .val (.str b) i.fr := id rfl
@[simp] theorem slO_tup {b : List D} {i : Inf} : slOf (.tup b) i = .val (.tup b) i.fr := id rfl
@[simp] theorem slO_scr {b : List Int} {i : Inf} : slOf (.scr b) i = .val (.scr b) i.fr := id rfl
@[simp] theorem slO_ins {c : Str} {ks : List Str} {b : List D} {i : Inf} : slOf (.ins c ks b) i = .val (.ins c ks b) i.fr := id rfl
@[simp] theorem isL_ins {c : Str} {ks : List Str} {b : List D} : isL (.ins c ks b) = false := id rfl
@[simp] theorem imm_ins {c : Str} {ks : List Str} {b : List D} : D.imm (.ins c ks b) = false := by simp [D.imm]
@[simp] theorem isL_non : isL .non = false := id rfl
@[simp] theorem isL_bl {b : Bool} : isL (.bl b) = false := id rfl
@[simp] theorem isL_int {b : Int} : isL (.int b) = false := id rfl
@[simp] theorem isL_str {b : Str} : isL (.str b) = false := id rfl
@[simp] theorem isL_tup {b : List D} : isL (.tup b) = false := id rfl
@[simp] theorem isL_scr {b : List Int} : isL (.scr b) = false := id rfl
@[simp] theorem chk_f {d : D} {i : Inf} : chk false d i = true := id rfl
@[simp] theorem chk_t {d : D} {i : Inf} : chk true d i = (d.imm || (i.fr && (!isL d || i.top))) := by simp [chk]
@[simp] theorem pw10 : (10 : Int) ^ (Int.toNat 1) = 10 := id rfl
end
section
/-- a def's body at its arguments -/
theorem run_def {fs : Prg} {n i : Nat} {f : Fn} {ds : List D} {Q : D → Prop} {R : Exn} (h : fs.fns[i]? = some f) (w : wpF (clo fs n) f ds Q R) : (clo fs (n + 1)).call i ds Q R := by
  show (match fs.fns[i]? with
    | some f => wpF (clo fs n) f ds Q R
    | none => False)
  rw [h]
  exact w
theorem run_init {fs : Prg} {n i : Nat} {f : Fn} {C : Str} {ds : List D} {Q : List Str → List D → Prop} {R : Exn} (h : fs.fns[i]? = some f) (w : wpN (clo fs n) f C ds Q R) : (clo fs (n + 1)).init i C ds Q R := by
  show (match fs.fns[i]? with
    | some f => wpN (clo fs n) f C ds Q R
    | none => False)
  rw [h]
  exact w
theorem run_fnc {fs : Prg} {n k : Nat} {f : Fn} {fv : List Str} {ds cs : List D} {Q : D → Prop} (h : fs.nds[k]? = some (f, fv)) (w : wpD (clo fs n) f fv ds cs Q) : (clo fs (n + 1)).fnc k ds cs Q := by
  show (match fs.nds[k]? with
    | some f => wpD (clo fs n) f.1 f.2 ds cs Q
    | none => False)
  rw [h]
  exact w
theorem run_mkr {fs : Prg} {n i : Nat} {f : Fn} {C : Str} {ds : List D} {Q : List Str → List D → Prop} {R : Exn} (h : fs.fns[i]? = some f) (w : wpN (clo fs n) f C ds Q R) : (clo fs (n + 2)).mkr i C ds Q R := run_init h w
end
/-! ### plain data -/
def pl : Nat → D → Bool
  | _, .non => true
  | _, .int _ => true
  | _, .str x => PyData.strOk x
  | n + 1, .lst xs => xs.all (pl n)
  | n + 1, .tup xs => xs.all (pl n)
  | _, _ => false
theorem pl_lay : ∀ (n : Nat) (d : D), pl n d = true → d.py.canLay0 = true ∧ d.py.depth ≤ n
  | n, .non, _ => by cases n <;> exact ⟨rfl, Nat.zero_le _⟩
  | n, .int _, _ => by cases n <;> exact ⟨rfl, Nat.zero_le _⟩
  | n, .str x, h => by cases n <;> exact ⟨h, Nat.zero_le _⟩
  | 0, .lst xs, h => by cases h
  | 0, .tup xs, h => by cases h
  | n + 1, .lst xs, h => by
    have z := lay_all n (fun d hd => pl_lay n d hd) xs h
    exact ⟨z.1, Nat.succ_le_succ z.2⟩
  | n + 1, .tup xs, h => by
    have z := lay_all n (fun d hd => pl_lay n d hd) xs h
    exact ⟨z.1, Nat.succ_le_succ z.2⟩
  | n, .bl _, h => by cases n <;> cases h
  | n, .ins _ _ _, h => by cases n <;> cases h
  | n, .dic _ _, h => by cases n <;> cases h
  | n, .scr _, h => by cases n <;> cases h
  | n, .any, h => by cases n <;> cases h
  | n, .fn _ _, h => by cases n <;> cases h
where
  lay_all (n : Nat) (ih : ∀ d, pl n d = true → d.py.canLay0 = true ∧ d.py.depth ≤ n) : ∀ xs : List D, xs.all (pl n) = true → PyData.canLayAll0 (pyL xs) = true ∧ PyData.depthAll (pyL xs) ≤ n
  | [], _ => ⟨rfl, Nat.zero_le _⟩
  | x :: xs, h => by
    rw [List.all_cons, Bool.and_eq_true] at h
    obtain ⟨a, b⟩ := ih x h.1
    obtain ⟨a', b'⟩ := lay_all n ih xs h.2
    refine ⟨?_, ?_⟩
    · show (x.py.canLay0 && PyData.canLayAll0 (pyL xs)) = true
      rw [a, a']
      rfl
    · show max x.py.depth (PyData.depthAll (pyL xs)) ≤ n
      omega
theorem pl_eqv : ∀ (n : Nat) (d e : D), pl n d = true → pl n e = true → (PyData.eqv d.py e.py = true ↔ d = e) := by
  intro n
  induction n with
  | zero =>
    intro d e h1 h2
    cases d <;> cases e <;> simp_all [pl, D.py, PyData.eqv]
  | succ n ih =>
    intro d e h1 h2
    have all : ∀ xs ys : List D, xs.all (pl n) = true → ys.all (pl n) = true → (PyData.eqvAll (pyL xs) (pyL ys) = true ↔ xs = ys) := by
      intro xs
      induction xs with
      | nil => intro ys _ _; cases ys <;> simp [pyL, PyData.eqvAll]
      | cons x xs ihx =>
        intro ys ha hb
        cases ys with
        | nil => simp [pyL, PyData.eqvAll]
        | cons y ys =>
          rw [List.all_cons, Bool.and_eq_true] at ha hb
          simp only [pyL, PyData.eqvAll, Bool.and_eq_true, ih x y ha.1 hb.1, ihx ys ha.2 hb.2, List.cons.injEq]
    cases d <;> cases e <;> simp_all [pl, D.py, PyData.eqv]
theorem shaped_of {n : Nat} {d : D} (hn : n ≤ 64) (h : pl n d = true) : SeqAt.shaped d.py = true := by
  obtain ⟨a, b⟩ := pl_lay n d h
  unfold SeqAt.shaped
  rw [a, decide_eq_true (Nat.le_trans b hn)]
  rfl
/-- two plain lists or tuples compared -/
theorem eqD_pl {n : Nat} {d e : D} {k : Bool → Prop} (hn : n ≤ 64) (h1 : pl n d = true) (h2 : pl n e = true) (hd : ∀ b : Bool, (b = true ↔ d = e) → k b) : eqD d e k := by
  have gen : (SeqAt.shaped d.py = true ∧ SeqAt.shaped e.py = true) ∧ k (PyData.eqv d.py e.py) := ⟨⟨shaped_of hn h1, shaped_of hn h2⟩, hd _ (pl_eqv n d e h1 h2)⟩
  cases d <;> cases e <;> first | exact gen | (simp only [eqD]; apply hd; simp)
end Rj

namespace Rj
open PySem PySem.Spec PyProof.Rows L2
/-! ### helps for the plain law -/
theorem atI_nn {α : Type} {xs : List α} {i : Int} (h0 : 0 ≤ i) : atI xs i = xs[i.toNat]? := by
  unfold atI ixN
  by_cases h1 : i < xs.length
  · simp [h0, h1]
  · have : xs.length ≤ i.toNat := by omega
    simp [h0, h1, List.getElem?_eq_none this]
theorem atI_neg {α : Type} {xs : List α} {i : Int} (h0 : i < 0) (h1 : -(xs.length : Int) ≤ i) : atI xs i = xs[(i + xs.length).toNat]? := by
  unfold atI ixN
  have : ¬ 0 ≤ i := by omega
  simp [this, h1]
theorem atI_map {α β : Type} {xs : List α} {g : α → β} {i : Int} : atI (xs.map g) i = (atI xs i).map g := by
  unfold atI
  rw [List.length_map]
  cases ixN xs.length i with
  | none => rfl
  | some j => simp
theorem atS_of {ns : List Int} {i : Int} {Q : Int → Prop} (h0 : 0 ≤ i) (h1 : i < ns.length) (h : ∀ d, ns[i.toNat]? = some d → Q d) : AtS ns i Q .mk := by
  have : i.toNat < ns.length := by omega
  exact ⟨ns[i.toNat], by rw [atI_nn h0, List.getElem?_eq_getElem this], h _ (List.getElem?_eq_getElem this)⟩
theorem atD_of {xs : List D} {i : Int} {Q : D → Prop} (h0 : 0 ≤ i) (h1 : i < xs.length) (h : ∀ d, xs[i.toNat]? = some d → Q d) : AtD xs i Q .mk := by
  have : i.toNat < xs.length := by omega
  exact ⟨xs[i.toNat], by rw [atI_nn h0, List.getElem?_eq_getElem this], h _ (List.getElem?_eq_getElem this)⟩
theorem atD_map {α : Type} {g : α → D} {xs : List α} {i : Int} {Q : D → Prop} (h0 : 0 ≤ i) (h1 : i < xs.length) (h : ∀ a, xs[i.toNat]? = some a → a ∈ xs → Q (g a)) : AtD (xs.map g) i Q .mk := by
  have : i.toNat < xs.length := by omega
  exact ⟨g xs[i.toNat], by rw [atI_map, atI_nn h0, List.getElem?_eq_getElem this]; rfl, h _ (List.getElem?_eq_getElem this) (List.getElem_mem this)⟩
theorem atD_last {α : Type} {g : α → D} {xs : List α} {Q : D → Prop} (ne : xs ≠ []) (h : ∀ a, xs.getLast? = some a → a ∈ xs → Q (g a)) : AtD (xs.map g) (-1) Q .mk := by
  have hp : 0 < xs.length := List.length_pos_iff.mpr ne
  have e : atI xs (-1) = xs.getLast? := by
    rw [atI_neg (by omega) (by omega), List.getLast?_eq_getElem?]
    congr 1
    omega
  have e2 : xs.getLast? = some (xs.getLast ne) := List.getLast?_eq_some_getLast ne
  exact ⟨g (xs.getLast ne), by rw [atI_map, e, e2]; rfl, h _ e2 (List.getLast_mem ne)⟩
/-- two ways that meet again -/
theorem If_join {c : Cl} {k : Bool} {a b : Ss} {env : List Sl} {K : En} {g : List Sl → Prop} (I : List Sl → Prop)
    (h1 : ∀ P : List Sl → Prop, (∀ e, I e → P e) → If k (wpSs c a env (K.thn P)) (wpSs c b env (K.thn P)) .mk .mk) (h2 : ∀ e, I e → g e) : If k (wpSs c a env (K.thn g)) (wpSs c b env (K.thn g)) .mk .mk := h1 g h2
theorem loopF_ind {α : Type} {t : Tg} {fr : Bool} {f : List Sl → En → Prop} {K : En} (g : α → D) (I : List α → List Sl → Prop) {xs : List α} {env : List Sl} (h0 : I xs env) (hn : ∀ env, I [] env → K.nx env)
    (hs : ∀ (x : α) (r : List α) (env : List Sl) (P : List Sl → Prop), I (x :: r) env → (∀ env2, I r env2 → P env2) → bindT fr env (fun env1 => f env1 (K.loop P)) t (g x)) : LF t fr f K (xs.map g) env .mk .mk := by
  show loopF t fr f K (xs.map g) env
  induction xs generalizing env with
  | nil => exact hn env h0
  | cons x r ih => exact hs x r env _ h0 fun env2 z => ih z
def En.loopB (K : En) (P B : List Sl → Prop) : En := { K with nx := P, ct := P, bk := B }
@[simp] theorem lb_nx {K : En} {P B : List Sl → Prop} : (K.loopB P B).nx = P := id rfl
@[simp] theorem lb_ct {K : En} {P B : List Sl → Prop} : (K.loopB P B).ct = P := id rfl
@[simp] theorem lb_bk {K : En} {P B : List Sl → Prop} : (K.loopB P B).bk = B := id rfl
@[simp] theorem lb_rt {K : En} {P B : List Sl → Prop} : (K.loopB P B).rt = K.rt := id rfl
@[simp] theorem lb_ex {K : En} {P B : List Sl → Prop} : (K.loopB P B).ex = K.ex := id rfl
/-- the same, with break: J holds behind the loop -/
theorem loopF_indB {α : Type} {t : Tg} {fr : Bool} {f : List Sl → En → Prop} {K : En} (g : α → D) (I : List α → List Sl → Prop) (J : List Sl → Prop) {xs : List α} {env : List Sl} (h0 : I xs env) (hJ : ∀ env, I [] env → J env) (hn : ∀ env, J env → K.nx env)
    (hs : ∀ (x : α) (r : List α) (env : List Sl) (P B : List Sl → Prop), I (x :: r) env → (∀ env2, I r env2 → P env2) → (∀ env2, J env2 → B env2) → bindT fr env (fun env1 => f env1 (K.loopB P B)) t (g x)) : LF t fr f K (xs.map g) env .mk .mk := by
  show loopF t fr f K (xs.map g) env
  induction xs generalizing env with
  | nil => exact hn env (hJ env h0)
  | cons x r ih => exact hs x r env _ K.nx h0 (fun env2 z => ih z) hn
theorem loopW_ind {tst : List Sl → (Bool → Prop) → Prop} {f : List Sl → En → Prop} {K : En} (I : Nat → List Sl → Prop) {m : Nat} {env : List Sl} (h0 : I m env)
    (hs : ∀ (m : Nat) (env : List Sl) (P : List Sl → Prop), I m env → (∀ m2 env2, m2 < m → I m2 env2 → P env2) → tst env fun b => If b (f env (K.loop P)) (K.nx env) .mk .mk) : ∃ n, LW tst f K n env .mk .mk .mk := by
  refine ⟨m + 1, ?_⟩
  have : ∀ n m env, m < n → I m env → loopW tst f K n env := by
    intro n
    induction n with
    | zero => intro m env h; omega
    | succ n ih =>
      intro m env hm hi
      exact hs m env _ hi fun m2 env2 h2 i2 => ih m2 env2 (by omega) i2
  exact this _ m env (by omega) h0
/-- a comprehension over plain things -/
theorem loopC_ind {α : Type} {f : D → Post → Prop → Prop} (g : α → D) (p : α → Bool) (w : α → D) {Q : List D → Inf → Prop} {xs : List α} {acc : List D} {b : Bool}
    (hs : ∀ (x : α) (k : Post) (skip : Prop), x ∈ xs → (p x = true → ∀ b t, k (w x) ⟨[], [], b, t⟩) → (p x = false → skip) → f (g x) k skip)
    (hQ : ∀ b, Q (acc ++ (xs.filter p).map w) ⟨[], [], b, false⟩) : LC f (xs.map g) acc ⟨[], [], b, false⟩ Q .mk .mk := by
  show loopC f (xs.map g) acc ⟨[], [], b, false⟩ Q
  induction xs generalizing acc b with
  | nil => simpa using hQ b
  | cons x r ih =>
    refine hs x _ _ List.mem_cons_self (fun hp b' t' => ?_) (fun hp => ?_)
    · refine ih (fun y k s hy => hs y k s (List.mem_cons_of_mem _ hy)) fun b2 => ?_
      have z := hQ b2
      rw [List.filter_cons, if_pos hp] at z
      simpa using z
    · refine ih (fun y k s hy => hs y k s (List.mem_cons_of_mem _ hy)) fun b2 => ?_
      have z := hQ b2
      rw [List.filter_cons, if_neg (by rw [hp]; exact Bool.false_ne_true)] at z
      exact z
@[simp] theorem pairD_mk {a b : Int} : pairD (a, b) = .tup [.int a, .int b] := id rfl
theorem pl_pairs {n : Nat} (ps : List (Int × Int)) : pl (n + 2) (.lst (ps.map pairD)) = true := by
  simp [pl, pairD]
theorem pl_ints {n : Nat} (ps : List Int) : pl (n + 1) (.lst (ps.map .int)) = true := by
  simp [pl]
theorem pairD_inj {p q : Int × Int} (h : pairD p = pairD q) : p = q := by
  simp [pairD] at h
  exact Prod.ext h.1 h.2
theorem map_pairD_inj {ps qs : List (Int × Int)} : ps.map pairD = qs.map pairD ↔ ps = qs :=
  ⟨fun h => List.map_inj_right (fun _ _ => pairD_inj) |>.mp h, fun h => by rw [h]⟩
theorem immL_map {α : Type} (g : α → D) (xs : List α) (h : ∀ x ∈ xs, (g x).imm = true) : immL (xs.map g) = true := by
  induction xs with
  | nil => rfl
  | cons a r ih =>
    rw [List.map_cons, immL, h a List.mem_cons_self, ih fun x hx => h x (List.mem_cons_of_mem _ hx)]
    rfl
@[simp] theorem immL_ints (xs : List Int) : immL (xs.map .int) = true := immL_map _ _ fun _ _ => rfl
@[simp] theorem immL_strs (xs : List Str) : immL (xs.map .str) = true := immL_map _ _ fun _ _ => rfl
@[simp] theorem immL_bls (xs : List Bool) : immL (xs.map .bl) = true := immL_map _ _ fun _ _ => rfl
@[simp] theorem immL_pairs (xs : List (Int × Int)) : immL (xs.map pairD) = true := immL_map _ _ fun _ _ => rfl
@[simp] theorem sizeLine_eq : sizeLine = 16777216 := by decide
@[simp ↓, simp] theorem atD_0 {a : D} {r : List D} {Q : D → Prop} {w : Wit Q} : AtD (a :: r) 0 Q w = Q a := by
  apply propext
  constructor
  · rintro ⟨d, e, h⟩
    rw [atI_nn (by omega)] at e
    cases e
    exact h
  · intro h
    exact ⟨a, by rw [atI_nn (by omega)]; rfl, h⟩
@[simp ↓, simp] theorem atD_1 {a b : D} {r : List D} {Q : D → Prop} {w : Wit Q} : AtD (a :: b :: r) 1 Q w = Q b := by
  apply propext
  constructor
  · rintro ⟨d, e, h⟩
    rw [atI_nn (by omega)] at e
    cases e
    exact h
  · intro h
    exact ⟨b, by rw [atI_nn (by omega)]; rfl, h⟩
@[simp ↓, simp] theorem atD_2 {a b c : D} {r : List D} {Q : D → Prop} {w : Wit Q} : AtD (a :: b :: c :: r) 2 Q w = Q c := by
  apply propext
  constructor
  · rintro ⟨d, e, h⟩
    rw [atI_nn (by omega)] at e
    cases e
    exact h
  · intro h
    exact ⟨c, by rw [atI_nn (by omega)]; rfl, h⟩
theorem atD_mod2 {a b : D} {x : Int} {Q : D → Prop} (h : Q a) (h2 : Q b) : AtD [a, b] (x % 2) Q .mk := by
  rcases (by omega : x % 2 = 0 ∨ x % 2 = 1) with e | e <;> rw [e] <;> simpa
@[simp] theorem atD_l {xs : List D} {d : D} {Q : D → Prop} {w : Wit Q} : AtD (xs ++ [d]) (-1) Q w = Q d := by
  apply propext
  have e : atI (xs ++ [d]) (-1) = some d := by
    rw [atI_neg (by omega) (by simp; omega)]
    have : ((-1 : Int) + ((xs ++ [d]).length : Nat)).toNat = xs.length := by simp; omega
    rw [this]
    simp
  constructor
  · rintro ⟨d', e', h⟩
    rw [e] at e'
    cases e'
    exact h
  · intro h
    exact ⟨d, e, h⟩
@[simp] theorem ixN_last {k : Nat} : ixN (k + 1) (-1) = some k := by
  unfold ixN
  simp
  omega
@[simp] theorem set_l {xs : List D} {d e : D} : (xs ++ [d]).set xs.length e = xs ++ [e] := by
  rw [List.set_append_right _ _ (Nat.le_refl _)]
  simp
@[simp] theorem set_lm {α : Type} {g : α → D} {xs : List α} {d e : D} : (xs.map g ++ [d]).set xs.length e = xs.map g ++ [e] := by
  have := set_l (xs := xs.map g) (d := d) (e := e)
  rwa [List.length_map] at this
theorem atD_k {α : Type} {g : α → D} {xs : List α} {k : Nat} {a : α} (h : xs[k]? = some a) {Q : D → Prop} {w : Wit Q} : AtD (xs.map g) (k : Int) Q w = Q (g a) := by
  apply propext
  have e : atI (xs.map g) (k : Int) = some (g a) := by
    rw [atI_map, atI_nn (by omega)]
    simp [h]
  constructor
  · rintro ⟨d', e', h⟩
    rw [e] at e'
    cases e'
    exact h
  · intro h
    exact ⟨_, e, h⟩
theorem atD_k1 {α : Type} {g : α → D} {xs : List α} {k : Nat} {a : α} (h : xs[k + 1]? = some a) {Q : D → Prop} {w : Wit Q} : AtD (xs.map g) ((k : Int) + 1) Q w = Q (g a) := atD_k (k := k + 1) h
theorem atD_k0 {α : Type} {g : α → D} {xs : List α} {a : α} (h : xs[0]? = some a) {Q : D → Prop} {w : Wit Q} : AtD (xs.map g) 0 Q w = Q (g a) := atD_k (k := 0) h
theorem any_eqv {x : Int} : ∀ ns : List Int, ((pyL (ns.map .int)).any fun z => PyData.eqv z (D.int x).py) = decide (x ∈ ns)
  | [] => by simp [pyL]
  | a :: r => by
    have ih := any_eqv (x := x) r
    have e : ((pyL ((a :: r).map .int)).any fun z => PyData.eqv z (D.int x).py) = (decide (a = x) || (pyL (r.map .int)).any fun z => PyData.eqv z (D.int x).py) := by
      show (_ || _) = _
      congr 1
    rw [e, ih, Bool.eq_iff_iff]
    simp only [Bool.or_eq_true, decide_eq_true_eq, List.mem_cons]
    exact ⟨fun z => z.imp_left Eq.symm, fun z => z.imp_left Eq.symm⟩
theorem sh_int {x : Int} : SeqAt.shaped (D.int x).py = true := rfl
theorem sh_ints {ns : List Int} : SeqAt.shaped (.list (pyL (ns.map .int))) = true := shaped_of (n := 1) (by decide) (d := .lst (ns.map .int)) (pl_ints ns)
@[simp ↓ high, simp high] theorem cmp_in_ints {x : Int} {ns : List Int} {k : Bool → Prop} : cmpD .isin (.int x) (.lst (ns.map .int)) k = k (decide (x ∈ ns)) := by
  rw [cmpD_11, any_eqv, sh_int, sh_ints]
  simp
@[simp ↓ high, simp high] theorem cmp_nin_ints {x : Int} {ns : List Int} {k : Bool → Prop} : cmpD .notin (.int x) (.lst (ns.map .int)) k = k (!decide (x ∈ ns)) := by
  rw [cmpD_12, any_eqv, sh_int, sh_ints]
  simp
theorem cutD_1 {xs : List D} : cutD xs (some 1) none = xs.tail := by
  cases xs with
  | nil => rfl
  | cons a r =>
    simp [cutD, HT.sIx]
theorem divOk_lit {j : Int} (h : 0 < j) (h2 : j.natAbs < 2 ^ 256) : DivOk j := ⟨h, Nat.lt_of_lt_of_le h2 (Nat.pow_le_pow_right (by decide) (by decide))⟩
@[simp] theorem divOk_s {j : Int} (h : 0 < j) (h2 : j.natAbs < 2 ^ 256) : DivOk j = True := eq_true (divOk_lit h h2)
theorem mulOk_r {i j : Int} (h : j.natAbs < 2 ^ 64) : MulOk i j := .inl h
theorem mulOk_l {i j : Int} (h : i.natAbs < 2 ^ 64) : MulOk i j := .inr (.inl h)
@[simp] theorem mulOk_rs {i j : Int} (h : j.natAbs < 2 ^ 64) : MulOk i j = True := eq_true (.inl h)
@[simp] theorem mulOk_ls {i j : Int} (h : i.natAbs < 2 ^ 64) : MulOk i j = True := eq_true (.inr (.inl h))
theorem cutI_len {ns : List Int} {lo hi : Option Int} : (cutI ns lo hi).length ≤ ns.length := by
  unfold cutI
  rw [List.length_take, List.length_drop]
  omega
theorem cutI_mem {ns : List Int} {lo hi : Option Int} {x : Int} (h : x ∈ cutI ns lo hi) : x ∈ ns := List.mem_of_mem_drop (List.mem_of_mem_take h)
end Rj

namespace Lw_k20_values
open PySem PySem.Spec PyProof.Rows L2 Rj
instance nmI : Nm := ⟨fun l _ => ""⟩
@[simp] theorem mi_Numbers_code : fs.mi "Numbers" "code" = some 18 := by decide +kernel
@[simp] theorem mi_Words_code : fs.mi "Words" "code" = some 19 := by decide +kernel
@[simp] theorem mi_Numbers_worth : fs.mi "Numbers" "worth" = some 20 := by decide +kernel
@[simp] theorem mi_Words_worth : fs.mi "Words" "worth" = some 21 := by decide +kernel
@[simp] theorem mi_Numbers_bears : fs.mi "Numbers" "bears" = some 22 := by decide +kernel
@[simp] theorem mi_Words_bears : fs.mi "Words" "bears" = some 23 := by decide +kernel
@[simp] theorem mi_Numbers_place : fs.mi "Numbers" "place" = some 24 := by decide +kernel
@[simp] theorem mi_Words_place : fs.mi "Words" "place" = some 25 := by decide +kernel
@[simp] theorem mi_Numbers_told : fs.mi "Numbers" "told" = some 26 := by decide +kernel
@[simp] theorem mi_Words_told : fs.mi "Words" "told" = some 27 := by decide +kernel
@[simp] theorem st_Numbers_Words : fs.sub "Numbers" "Words" = some false := by decide +kernel
@[simp] theorem st_Words_Words : fs.sub "Words" "Words" = some true := by decide +kernel
@[simp] theorem xt_BadDomain_BadNumber : fs.xs "BadDomain" "BadNumber" = some false := by decide +kernel
@[simp] theorem xt_BadDomain_Outside : fs.xs "BadDomain" "Outside" = some false := by decide +kernel
@[simp] theorem xt_BadDomain_TableError : fs.xs "BadDomain" "TableError" = some true := by decide +kernel
@[simp] theorem xt_BadNumber_BadNumber : fs.xs "BadNumber" "BadNumber" = some true := by decide +kernel
@[simp] theorem xt_BadNumber_Outside : fs.xs "BadNumber" "Outside" = some false := by decide +kernel
@[simp] theorem xt_BadNumber_TableError : fs.xs "BadNumber" "TableError" = some true := by decide +kernel
@[simp] theorem xt_Outside_BadNumber : fs.xs "Outside" "BadNumber" = some false := by decide +kernel
@[simp] theorem xt_Outside_Outside : fs.xs "Outside" "Outside" = some true := by decide +kernel
@[simp] theorem xt_Outside_TableError : fs.xs "Outside" "TableError" = some true := by decide +kernel
@[simp] theorem xt_TableError_BadNumber : fs.xs "TableError" "BadNumber" = some false := by decide +kernel
@[simp] theorem xt_TableError_Outside : fs.xs "TableError" "Outside" = some false := by decide +kernel
@[simp] theorem xt_TableError_TableError : fs.xs "TableError" "TableError" = some true := by decide +kernel
@[simp] theorem at_Numbers_high : fs.ok "Numbers" "high" = true := by decide +kernel
@[simp] theorem at_Numbers_low : fs.ok "Numbers" "low" = true := by decide +kernel
@[simp] theorem at_Numbers_words : fs.ok "Numbers" "words" = true := by decide +kernel
@[simp] theorem at_Words_high : fs.ok "Words" "high" = true := by decide +kernel
@[simp] theorem at_Words_low : fs.ok "Words" "low" = true := by decide +kernel
@[simp] theorem at_Words_words : fs.ok "Words" "words" = true := by decide +kernel
@[simp] theorem nw_16 : nwB fs 16 = false := by decide +kernel
@[simp] theorem nw_15 : nwB fs 15 = false := by decide +kernel
theorem o__wall : DefOk mc f__wall (top 0) := ⟨by decide, ⟨rfl, rfl, rfl, by decide +kernel, rfl, by decide +kernel, by decide +kernel⟩, by decide +kernel, by decide +kernel, fun _ => trivial⟩
theorem b__wall : BindOk f__wall (top 0) := fun _ _ _ _ _ _ us hl => match us, hl with | [_], _ => rfl
theorem o_is_word : DefOk mc f_is_word (top 12) := ⟨by decide, ⟨rfl, rfl, rfl, by decide +kernel, rfl, by decide +kernel, by decide +kernel⟩, by decide +kernel, by decide +kernel, fun _ => trivial⟩
theorem b_is_word : BindOk f_is_word (top 12) := fun _ _ _ _ _ _ us hl => match us, hl with | [_], _ => rfl
theorem o_number_of : DefOk mc f_number_of (top 13) := ⟨by decide, ⟨rfl, rfl, rfl, by decide +kernel, rfl, by decide +kernel, by decide +kernel⟩, by decide +kernel, by decide +kernel, fun _ => trivial⟩
theorem b_number_of : BindOk f_number_of (top 13) := fun _ _ _ _ _ _ us hl => match us, hl with | [_], _ => rfl
theorem o_number_text : DefOk mc f_number_text (top 14) := ⟨by decide, ⟨rfl, rfl, rfl, by decide +kernel, rfl, by decide +kernel, by decide +kernel⟩, by decide +kernel, by decide +kernel, fun _ => trivial⟩
theorem b_number_text : BindOk f_number_text (top 14) := fun _ _ _ _ _ _ us hl => match us, hl with | [_], _ => rfl
theorem o_read_value : DefOk mc f_read_value (top 19) := ⟨by decide, ⟨rfl, rfl, rfl, by decide +kernel, rfl, by decide +kernel, by decide +kernel⟩, by decide +kernel, by decide +kernel, fun _ => trivial⟩
theorem b_read_value : BindOk f_read_value (top 19) := fun _ _ _ _ _ _ us hl => match us, hl with | [_, _], _ => rfl
theorem o_show_value : DefOk mc f_show_value (top 20) := ⟨by decide, ⟨rfl, rfl, rfl, by decide +kernel, rfl, by decide +kernel, by decide +kernel⟩, by decide +kernel, by decide +kernel, fun _ => trivial⟩
theorem b_show_value : BindOk f_show_value (top 20) := fun _ _ _ _ _ _ us hl => match us, hl with | [_, _], _ => rfl
theorem o__law_cell_at : DefOk mc f__law_cell_at (top 22) := ⟨by decide, ⟨rfl, rfl, rfl, by decide +kernel, rfl, by decide +kernel, by decide +kernel⟩, by decide +kernel, by decide +kernel, fun _ => trivial⟩
theorem b__law_cell_at : BindOk f__law_cell_at (top 22) := fun _ _ _ _ _ _ us hl => match us, hl with | [_, _], _ => rfl
theorem o__law_low : DefOk mc f__law_low (top 23) := ⟨by decide, ⟨rfl, rfl, rfl, by decide +kernel, rfl, by decide +kernel, by decide +kernel⟩, by decide +kernel, by decide +kernel, fun _ => trivial⟩
theorem b__law_low : BindOk f__law_low (top 23) := fun _ _ _ _ _ _ us hl => match us, hl with | [_], _ => rfl
theorem o__law_high : DefOk mc f__law_high (top 24) := ⟨by decide, ⟨rfl, rfl, rfl, by decide +kernel, rfl, by decide +kernel, by decide +kernel⟩, by decide +kernel, by decide +kernel, fun _ => trivial⟩
theorem b__law_high : BindOk f__law_high (top 24) := fun _ _ _ _ _ _ us hl => match us, hl with | [_, _], _ => rfl
theorem o__law_whole : DefOk mc f__law_whole (top 25) := ⟨by decide, ⟨rfl, rfl, rfl, by decide +kernel, rfl, by decide +kernel, by decide +kernel⟩, by decide +kernel, by decide +kernel, fun _ => trivial⟩
theorem b__law_whole : BindOk f__law_whole (top 25) := fun _ _ _ _ _ _ us hl => match us, hl with | [_], _ => rfl
theorem o__law_read : DefOk mc f__law_read (top 26) := ⟨by decide, ⟨rfl, rfl, rfl, by decide +kernel, rfl, by decide +kernel, by decide +kernel⟩, by decide +kernel, by decide +kernel, fun _ => trivial⟩
theorem b__law_read : BindOk f__law_read (top 26) := fun _ _ _ _ _ _ us hl => match us, hl with | [_, _], _ => rfl
theorem o__law_said : DefOk mc f__law_said (top 27) := ⟨by decide, ⟨rfl, rfl, rfl, by decide +kernel, rfl, by decide +kernel, by decide +kernel⟩, by decide +kernel, by decide +kernel, fun _ => trivial⟩
theorem b__law_said : BindOk f__law_said (top 27) := fun _ _ _ _ _ _ us hl => match us, hl with | [_, _], _ => rfl
theorem o__law_numbers_right : DefOk mc f__law_numbers_right (top 28) := ⟨by decide, ⟨rfl, rfl, rfl, by decide +kernel, rfl, by decide +kernel, by decide +kernel⟩, by decide +kernel, by decide +kernel, fun _ => trivial⟩
theorem b__law_numbers_right : BindOk f__law_numbers_right (top 28) := fun _ _ _ _ _ _ us hl => match us, hl with | [_, _, _, _], _ => rfl
theorem o__law_words_right : DefOk mc f__law_words_right (top 29) := ⟨by decide, ⟨rfl, rfl, rfl, by decide +kernel, rfl, by decide +kernel, by decide +kernel⟩, by decide +kernel, by decide +kernel, fun _ => trivial⟩
theorem b__law_words_right : BindOk f__law_words_right (top 29) := fun _ _ _ _ _ _ us hl => match us, hl with | [_, _, _], _ => rfl
theorem o_law : DefOk mc f_law (top 30) := ⟨by decide, ⟨rfl, rfl, rfl, by decide +kernel, rfl, by decide +kernel, by decide +kernel⟩, by decide +kernel, by decide +kernel, fun _ => trivial⟩
theorem b_law : BindOk f_law (top 30) := fun _ _ _ _ _ _ us hl => match us, hl with | [_], _ => rfl
theorem o_Words___init__ : DefOk mc f_Words___init__ (sub 17 0) := ⟨by decide, ⟨rfl, rfl, rfl, by decide +kernel, rfl, by decide +kernel, by decide +kernel⟩, by decide +kernel, by decide +kernel, fun _ => trivial⟩
theorem b_Words___init__ : BindOk f_Words___init__ (sub 17 0) := fun _ _ _ _ _ _ us hl => match us, hl with | [_, _], _ => rfl
theorem o_Numbers___init__ : DefOk mc f_Numbers___init__ (sub 16 0) := ⟨by decide, ⟨rfl, rfl, rfl, by decide +kernel, rfl, by decide +kernel, by decide +kernel⟩, by decide +kernel, by decide +kernel, fun _ => trivial⟩
theorem b_Numbers___init__ : BindOk f_Numbers___init__ (sub 16 0) := fun _ _ _ _ _ _ us hl => match us, hl with | [_, _, _], _ => rfl
theorem o_Domain___init__ : DefOk mc f_Domain___init__ (sub 15 0) := ⟨by decide, ⟨rfl, rfl, rfl, by decide +kernel, rfl, by decide +kernel, by decide +kernel⟩, by decide +kernel, by decide +kernel, fun _ => trivial⟩
theorem b_Domain___init__ : BindOk f_Domain___init__ (sub 15 0) := fun _ _ _ _ _ _ us hl => match us, hl with | [_, _, _], _ => rfl
theorem o_Numbers_code : DefOk mc f_Numbers_code (sub 15 5) := ⟨by decide, ⟨rfl, rfl, rfl, by decide +kernel, rfl, by decide +kernel, by decide +kernel⟩, by decide +kernel, by decide +kernel, fun _ => trivial⟩
theorem b_Numbers_code : BindOk f_Numbers_code (sub 15 5) := fun _ _ _ _ _ _ us hl => match us, hl with | [_, _], _ => rfl
theorem o_Words_code : DefOk mc f_Words_code (sub 15 5) := ⟨by decide, ⟨rfl, rfl, rfl, by decide +kernel, rfl, by decide +kernel, by decide +kernel⟩, by decide +kernel, by decide +kernel, fun _ => trivial⟩
theorem b_Words_code : BindOk f_Words_code (sub 15 5) := fun _ _ _ _ _ _ us hl => match us, hl with | [_, _], _ => rfl
theorem o_Numbers_worth : DefOk mc f_Numbers_worth (sub 15 6) := ⟨by decide, ⟨rfl, rfl, rfl, by decide +kernel, rfl, by decide +kernel, by decide +kernel⟩, by decide +kernel, by decide +kernel, fun _ => trivial⟩
theorem b_Numbers_worth : BindOk f_Numbers_worth (sub 15 6) := fun _ _ _ _ _ _ us hl => match us, hl with | [_, _], _ => rfl
theorem o_Words_worth : DefOk mc f_Words_worth (sub 15 6) := ⟨by decide, ⟨rfl, rfl, rfl, by decide +kernel, rfl, by decide +kernel, by decide +kernel⟩, by decide +kernel, by decide +kernel, fun _ => trivial⟩
theorem b_Words_worth : BindOk f_Words_worth (sub 15 6) := fun _ _ _ _ _ _ us hl => match us, hl with | [_, _], _ => rfl
theorem o_Numbers_bears : DefOk mc f_Numbers_bears (sub 16 1) := ⟨by decide, ⟨rfl, rfl, rfl, by decide +kernel, rfl, by decide +kernel, by decide +kernel⟩, by decide +kernel, by decide +kernel, fun _ => trivial⟩
theorem b_Numbers_bears : BindOk f_Numbers_bears (sub 16 1) := fun _ _ _ _ _ _ us hl => match us, hl with | [_, _], _ => rfl
theorem o_Words_bears : DefOk mc f_Words_bears (sub 17 1) := ⟨by decide, ⟨rfl, rfl, rfl, by decide +kernel, rfl, by decide +kernel, by decide +kernel⟩, by decide +kernel, by decide +kernel, fun _ => trivial⟩
theorem b_Words_bears : BindOk f_Words_bears (sub 17 1) := fun _ _ _ _ _ _ us hl => match us, hl with | [_, _], _ => rfl
theorem o_Numbers_place : DefOk mc f_Numbers_place (sub 16 2) := ⟨by decide, ⟨rfl, rfl, rfl, by decide +kernel, rfl, by decide +kernel, by decide +kernel⟩, by decide +kernel, by decide +kernel, fun _ => trivial⟩
theorem b_Numbers_place : BindOk f_Numbers_place (sub 16 2) := fun _ _ _ _ _ _ us hl => match us, hl with | [_, _], _ => rfl
theorem o_Words_place : DefOk mc f_Words_place (sub 17 2) := ⟨by decide, ⟨rfl, rfl, rfl, by decide +kernel, rfl, by decide +kernel, by decide +kernel⟩, by decide +kernel, by decide +kernel, fun _ => trivial⟩
theorem b_Words_place : BindOk f_Words_place (sub 17 2) := fun _ _ _ _ _ _ us hl => match us, hl with | [_, _], _ => rfl
theorem o_Numbers_told : DefOk mc f_Numbers_told (sub 16 3) := ⟨by decide, ⟨rfl, rfl, rfl, by decide +kernel, rfl, by decide +kernel, by decide +kernel⟩, by decide +kernel, by decide +kernel, fun _ => trivial⟩
theorem b_Numbers_told : BindOk f_Numbers_told (sub 16 3) := fun _ _ _ _ _ _ us hl => match us, hl with | [_, _], _ => rfl
theorem o_Words_told : DefOk mc f_Words_told (sub 17 3) := ⟨by decide, ⟨rfl, rfl, rfl, by decide +kernel, rfl, by decide +kernel, by decide +kernel⟩, by decide +kernel, by decide +kernel, fun _ => trivial⟩
theorem b_Words_told : BindOk f_Words_told (sub 17 3) := fun _ _ _ _ _ _ us hl => match us, hl with | [_, _], _ => rfl
theorem oks : Oks mc mc.fs.fns sts := .cons o__wall b__wall (.cons o_is_word b_is_word (.cons o_number_of b_number_of (.cons o_number_text b_number_text (.cons o_read_value b_read_value (.cons o_show_value b_show_value (.cons o__law_cell_at b__law_cell_at (.cons o__law_low b__law_low (.cons o__law_high b__law_high (.cons o__law_whole b__law_whole (.cons o__law_read b__law_read (.cons o__law_said b__law_said (.cons o__law_numbers_right b__law_numbers_right (.cons o__law_words_right b__law_words_right (.cons o_law b_law (.cons o_Words___init__ b_Words___init__ (.cons o_Numbers___init__ b_Numbers___init__ (.cons o_Domain___init__ b_Domain___init__ (.cons o_Numbers_code b_Numbers_code (.cons o_Words_code b_Words_code (.cons o_Numbers_worth b_Numbers_worth (.cons o_Words_worth b_Words_worth (.cons o_Numbers_bears b_Numbers_bears (.cons o_Words_bears b_Words_bears (.cons o_Numbers_place b_Numbers_place (.cons o_Words_place b_Words_place (.cons o_Numbers_told b_Numbers_told (.cons o_Words_told b_Words_told (.nil))))))))))))))))))))))))))))
theorem noks : NOks mc 0 mc.fs.nds := trivial
def Fuel : Nat := 61
def Goal : Prop := ∀ ns : List Int, ns.length ≤ 63 → (∀ z ∈ ns, Builtin.Int.intBits z ≤ 1048576) → (clo fs Fuel).call 14 [.scr ns] (fun d => d = .bl true) fun _ => False
theorem facts (goal : Goal) {P : Program} {w : World} {K : PySem.W.Frag} {h : Heap} {mg : Str → Option Value} {f : Addr} (X : K.In h) (G : h.Ns mainGlobals mg) (hfa : mg ("law" : Str) = some (.ref f)) (c : He.SaysD fa fn K) (cb : facB mc K = true) :
    ∃ (K' : PySem.W.Frag) (fd : FuncData) (sp : Sp), K'.In h ∧ (∀ (s : Shared) (u : Value), BindsTo s fd ⟨[u], []⟩ [("script", u)]) ∧
      (∀ (H : Hp) (a : Addr) (ns : List Int), ns.length ≤ 63 → (∀ z ∈ ns, Builtin.Int.intBits z ≤ 1048576) → Only H → SqL K' H a (ns.map V.int) → sp [.ref a] H (fun v _ => v = .bl true) fun _ _ _ => False) ∧
      ∀ base : Heap, K'.In base → base.Ns mainGlobals mg → FnOk P w K' mg base (L2.CX P w) Fuel f fd ["script"] sp := by
  obtain ⟨fd, h1, h4, h5⟩ := binds_at X G oks noks c 14 f_law rfl rfl rfl
  have e := hfa.symm.trans h1
  cases e
  exact ⟨K, fd, spF ⟨K, caOf mc K⟩ (clo fs Fuel) 14 f_law, X, fun s v => h4 s [v] rfl, fun H a ns hl hb hO hS => law_sp (m := mc) rfl hO rfl hS (goal ns hl hb), fun base _ _ => h5 P w base Fuel cb (fun _ hp => nomatch hp)⟩
end Lw_k20_values
namespace Lw_k20_values
open PySem PySem.W PySem.Calls PyProof.Rows
theorem law_from (goal : Goal) : PySem.Challenge.rw_rowjudge_k20_values.Holds := by
  w_on; o_law
  refine HandSHeadRun.head_any (r := OpenLaw.row PySem.Challenge.rw_rowjudge_k20_values) (q := view (OpenLaw.row PySem.Challenge.rw_rowjudge_k20_values).prog [30]) (H := Lw_k20_values.hk) (ob := Lw_k20_values.ob) (M := 22060) (loose := [("_wall" : Str), ("TableError" : Str), ("BadNumber" : Str), ("BadDomain" : Str), ("Outside" : Str), ("LETTERS" : Str), ("FIGURES" : Str), ("MOST_FIGURES" : Str), ("MOST_SIGNS" : Str), ("MOST_WORDS" : Str), ("is_word" : Str), ("number_of" : Str), ("number_text" : Str), ("Domain" : Str), ("Numbers" : Str), ("Words" : Str), ("read_value" : Str), ("show_value" : Str), ("_law_cell_at" : Str), ("_law_low" : Str), ("_law_high" : Str), ("_law_whole" : Str), ("_law_read" : Str), ("_law_said" : Str), ("_law_numbers_right" : Str), ("_law_words_right" : Str)]) (d := HandSHeadRun.topDef (OpenLaw.row PySem.Challenge.rw_rowjudge_k20_values).prog 30) (kwd := []) Lw_k20_values.ob_eq
    (by kernel_rfl) (fun s => by kernel_rfl) Lw_k20_values.run (by kernel_rfl) (by kernel_rfl) (by kernel_rfl) (by rfl) (by first | assumption | decide +kernel) (by decide +kernel) ⟨rfl, rfl, rfl, rfl, rfl, by decide +kernel⟩ ?hw ?hc
  case hw => w_witness2
  case hc =>
    refine Rj.walk_ofEB (l := PySem.Challenge.rw_rowjudge_k20_values) (n := 63) (k := Lw_k20_values.Fuel) (x := "script") (CX := fun w => L2.CX PySem.Challenge.rw_rowjudge_k20_values.prog w) rfl (by decide) (by kernel_rfl) ⟨rfl, by decide, by decide⟩ ?F (fun _ _ _ _ _ z => Rj.cx_none z)
    intro w mg fa h Y G hmg0
    obtain ⟨K, KX, c, cb⟩ := Y
    have hmg : mg ("law" : PySem.Str) = some (.ref fa) := by
      have e : (HandSHeadRun.topDef (OpenLaw.row PySem.Challenge.rw_rowjudge_k20_values).prog 30).name = ("law" : PySem.Str) := by kernel_rfl
      rw [← e]
      exact hmg0
    exact Lw_k20_values.facts goal (P := (PySem.Challenge.rw_rowjudge_k20_values).prog) (w := w) KX G hmg c cb
end Lw_k20_values

namespace Lw_k20_values
open PySem PySem.Spec L2 Rj
open PyProof.Rows hiding pairD
variable {n : Nat} {Q : D → Prop} {R : Exn}
/-- a comprehension that tells ints -/
theorem loopC_int {α : Type} {f : D → Post → Prop → Prop} (g : α → D) (w : α → Int) {Q : List D → Inf → Prop} {xs : List α} {b : Bool}
    (hs : ∀ (x : α) (k : Post) (skip : Prop), x ∈ xs → (∀ b t, k (.int (w x)) ⟨[], [], b, t⟩) → f (g x) k skip)
    (hQ : ∀ (b : Bool) (cs : List Int), cs = xs.map w → Q (cs.map .int) ⟨[], [], b, false⟩) : LC f (xs.map g) [] ⟨[], [], b, false⟩ Q .mk .mk := by
  refine loopC_ind g (fun _ => true) (fun x => .int (w x)) (fun x k sk hx h1 _ => hs x k sk hx fun b t => h1 rfl b t) fun b => ?_
  have := hQ b _ rfl
  rw [List.map_map] at this
  rw [List.nil_append, List.filter_eq_self.mpr (fun _ _ => rfl)]
  exact this
/-- a comprehension that tells anything plain -/
theorem loopC_map {α : Type} {f : D → Post → Prop → Prop} (g : α → D) (w : α → D) {Q : List D → Inf → Prop} {xs : List α} {b : Bool}
    (hs : ∀ (x : α) (k : Post) (skip : Prop), x ∈ xs → (∀ b t, k (w x) ⟨[], [], b, t⟩) → f (g x) k skip)
    (hQ : ∀ (b : Bool), Q (xs.map w) ⟨[], [], b, false⟩) : LC f (xs.map g) [] ⟨[], [], b, false⟩ Q .mk .mk := by
  refine loopC_ind g (fun _ => true) w (fun x k sk hx h1 _ => hs x k sk hx fun b t => h1 rfl b t) fun b => ?_
  rw [List.nil_append, List.filter_eq_self.mpr (fun _ _ => rfl)]
  exact hQ b
theorem boolsOf_map (ns : List Bool) : boolsOf (ns.map .bl) = some ns := by
  induction ns with
  | nil => rfl
  | cons a r ih =>
    show (boolsOf (r.map .bl)).map (a :: ·) = _
    rw [ih]
    rfl
theorem strsOf_map (ns : List Str) : strsOf (ns.map .str) = some ns := by
  induction ns with
  | nil => rfl
  | cons a r ih =>
    show (strsOf (r.map .str)).map (a :: ·) = _
    rw [ih]
    rfl
/-- one sign -/
def sgD (ch : Nat) : D := .str ⟨#[ch]⟩
theorem loopC_sg {α : Type} {f : D → Post → Prop → Prop} (g : α → D) (w : α → Nat) {Q : List D → Inf → Prop} {xs : List α} {b : Bool}
    (hs : ∀ (x : α) (k : Post) (skip : Prop), x ∈ xs → (∀ b t, k (sgD (w x)) ⟨[], [], b, t⟩) → f (g x) k skip)
    (hQ : ∀ (b : Bool) (cs : List Nat), cs = xs.map w → Q (cs.map sgD) ⟨[], [], b, false⟩) : LC f (xs.map g) [] ⟨[], [], b, false⟩ Q .mk .mk :=
  loopC_map g (fun x => sgD (w x)) hs fun b => by
    have := hQ b _ rfl
    rw [List.map_map] at this
    exact this
theorem strs_sg (cs : List Nat) : strsOf (cs.map sgD) = some (cs.map fun ch => ⟨#[ch]⟩) := by
  have := strsOf_map (cs.map fun ch => ⟨#[ch]⟩)
  rw [List.map_map] at this
  exact this
theorem join_sg (cs : List Nat) : (Txt.join "" (cs.map fun ch => ⟨#[ch]⟩)).cps.toList = cs := by
  have e : TL.tl (Txt.join "" (cs.map fun ch => ⟨#[ch]⟩)) = cs := by
    rw [TL.join_eq, TL.tl_join]
    have e0 : TL.tl ("" : Str) = [] := by decide +kernel
    rw [e0, List.map_map]
    induction cs with
    | nil => rfl
    | cons a r ih =>
      cases r with
      | nil => rfl
      | cons b r => exact congrArg (a :: ·) ih
  exact e
theorem slf_sg (ch : Nat) (i : Inf) : slOf (sgD ch) i = .val (sgD ch) i.fr := rfl
theorem sg_sum (cs : List Nat) : ((cs.map fun ch => (⟨#[ch]⟩ : Str)).map (·.length)).sum + (cs.map fun ch => (⟨#[ch]⟩ : Str)).length * Str.length "" = cs.length := by
  have e0 : Str.length "" = 0 := by decide +kernel
  rw [e0, Nat.mul_zero, Nat.add_zero]
  induction cs with
  | nil => rfl
  | cons a r ih =>
    rw [List.map_cons, List.map_cons, List.sum_cons, ih, List.length_cons]
    show 1 + r.length = r.length + 1
    omega
theorem ixN_nn {n : Nat} {i : Int} (h0 : 0 ≤ i) (h1 : i < n) : ixN n i = some i.toNat := by
  unfold ixN
  simp [h0, h1]
/-- what is told is known by a property alone -/
theorem loopC_all {α : Type} {f : D → Post → Prop → Prop} (g : α → D) (P : D → Prop) {Q : List D → Inf → Prop} {xs : List α} {b : Bool}
    (hs : ∀ (x : α) (k : Post) (skip : Prop), x ∈ xs → (∀ d b t, P d → k d ⟨[], [], b, t⟩) → f (g x) k skip)
    (hQ : ∀ (b : Bool) (ds : List D), (∀ d ∈ ds, P d) → ds.length = xs.length → Q ds ⟨[], [], b, false⟩) : LC f (xs.map g) [] ⟨[], [], b, false⟩ Q .mk .mk := by
  show loopC f (xs.map g) [] ⟨[], [], b, false⟩ Q
  have key : ∀ (xs : List α) (acc : List D) (b : Bool), (∀ (x : α) (k : Post) (skip : Prop), x ∈ xs → (∀ d b t, P d → k d ⟨[], [], b, t⟩) → f (g x) k skip) → (∀ d ∈ acc, P d) →
      (∀ (b : Bool) (ds : List D), (∀ d ∈ ds, P d) → ds.length = acc.length + xs.length → Q ds ⟨[], [], b, false⟩) → loopC f (xs.map g) acc ⟨[], [], b, false⟩ Q := by
    intro xs
    induction xs with
    | nil => intro acc b _ ha hq; exact hq b acc ha (by simp)
    | cons x r ih =>
      intro acc b hs ha hq
      refine hs x _ _ List.mem_cons_self fun d b' t' hd => ?_
      refine ih (acc ++ [d]) _ (fun y k s hy => hs y k s (List.mem_cons_of_mem _ hy)) (fun e he => ?_) fun b2 ds h1 h2 => hq b2 ds h1 (by rw [h2]; simp; omega)
      rcases List.mem_append.mp he with he | he
      · exact ha e he
      · rw [List.mem_singleton.mp he]
        exact hd
  exact key xs [] b hs (by simp) fun b2 ds h1 h2 => hQ b2 ds h1 (by simpa using h2)
/-- a comprehension that tells things of a type -/
theorem loopC_g {α β : Type} {f : D → Post → Prop → Prop} (g : α → D) (dd : β → D) (w : α → β) {Q : List D → Inf → Prop} {xs : List α} {b : Bool}
    (hs : ∀ (x : α) (k : Post) (skip : Prop), x ∈ xs → (∀ b t, k (dd (w x)) ⟨[], [], b, t⟩) → f (g x) k skip)
    (hQ : ∀ (b : Bool) (cs : List β), cs = xs.map w → Q (cs.map dd) ⟨[], [], b, false⟩) : LC f (xs.map g) [] ⟨[], [], b, false⟩ Q .mk .mk :=
  loopC_map g (fun x => dd (w x)) hs fun b => by
    have := hQ b _ rfl
    rw [List.map_map] at this
    exact this
/-- what is told is known by a property of its values -/
theorem loopC_P {α β : Type} {f : D → Post → Prop → Prop} (g : α → D) (dd : β → D) (P : α → β → Prop) {Q : List D → Inf → Prop} {xs : List α} {b : Bool}
    (hs : ∀ (x : α) (k : Post) (skip : Prop), x ∈ xs → (∀ y b t, P x y → k (dd y) ⟨[], [], b, t⟩) → f (g x) k skip)
    (hQ : ∀ (b : Bool) (ys : List β), ys.length = xs.length → (∀ q ∈ xs.zip ys, P q.1 q.2) → Q (ys.map dd) ⟨[], [], b, false⟩) : LC f (xs.map g) [] ⟨[], [], b, false⟩ Q .mk .mk := by
  show loopC f (xs.map g) [] ⟨[], [], b, false⟩ Q
  have key : ∀ (dn xs : List α) (acc : List β) (b : Bool), acc.length = dn.length → (∀ q ∈ dn.zip acc, P q.1 q.2) → (∀ (x : α) (k : Post) (skip : Prop), x ∈ xs → (∀ y b t, P x y → k (dd y) ⟨[], [], b, t⟩) → f (g x) k skip) →
      (∀ (b : Bool) (ys : List β), ys.length = (dn ++ xs).length → (∀ q ∈ (dn ++ xs).zip ys, P q.1 q.2) → Q (ys.map dd) ⟨[], [], b, false⟩) → loopC f (xs.map g) (acc.map dd) ⟨[], [], b, false⟩ Q := by
    intro dn xs
    induction xs generalizing dn with
    | nil => intro acc b h1 h2 _ hq; exact hq b acc (by simpa using h1) (by simpa using h2)
    | cons x r ih =>
      intro acc b h1 h2 hs hq
      refine hs x _ _ List.mem_cons_self fun y b' t' hy => ?_
      have := ih (dn ++ [x]) (acc ++ [y]) (b && b') (by simp [h1]) (fun q hm => ?_) (fun z k s hz => hs z k s (List.mem_cons_of_mem _ hz)) (fun b ys h3 h4 => hq b ys (by simpa using h3) (by simpa using h4))
      · rw [List.map_append] at this
        exact this
      · rw [List.zip_append h1.symm] at hm
        rcases List.mem_append.mp hm with hm | hm
        · exact h2 q hm
        · simp at hm
          subst hm
          exact hy
  exact key [] xs [] b rfl (by simp) hs fun b ys h1 h2 => hQ b ys (by simpa using h1) (by simpa using h2)
/-- a comprehension over range(n), known by index -/
theorem loopC_r {β : Type} {f : D → Post → Prop → Prop} (dd : β → D) (P : Nat → β → Prop) {Q : List D → Inf → Prop} {m : Nat} {b : Bool}
    (hs : ∀ (x : Nat) (k : Post) (skip : Prop), x < m → (∀ y b t, P x y → k (dd y) ⟨[], [], b, t⟩) → f (.int (0 + (x : Int))) k skip)
    (hQ : ∀ (b : Bool) (ys : List β), ys.length = m → (∀ i y, ys[i]? = some y → P i y) → Q (ys.map dd) ⟨[], [], b, false⟩) : LC f (rngD m 0) [] ⟨[], [], b, false⟩ Q .mk .mk := by
  refine loopC_P (xs := List.range m) (fun k : Nat => D.int (0 + (k : Int))) dd P (fun x k sk hx hk => hs x k sk (by simpa using hx) hk) fun b ys h1 h2 => hQ b ys (by simpa using h1) fun i y hy => ?_
  have hi : i < ys.length := (List.getElem?_eq_some_iff.mp hy).1
  refine h2 (i, y) (List.mem_of_getElem? (i := i) ?_)
  rw [List.getElem?_zip_eq_some]
  exact ⟨by rw [List.getElem?_range (by simp at h1; omega)], hy⟩
/-- the same, all that is told is new -/
theorem loopT_P {α β : Type} {f : D → Post → Prop → Prop} (g : α → D) (dd : β → D) (P : α → β → Prop) {Q : List D → Inf → Prop} {xs : List α}
    (hs : ∀ (x : α) (k : Post) (skip : Prop), x ∈ xs → (∀ y t, P x y → k (dd y) ⟨[], [], true, t⟩) → f (g x) k skip)
    (hQ : ∀ (ys : List β), ys.length = xs.length → (∀ q ∈ xs.zip ys, P q.1 q.2) → Q (ys.map dd) ⟨[], [], true, false⟩) : LC f (xs.map g) [] ⟨[], [], true, false⟩ Q .mk .mk := by
  show loopC f (xs.map g) [] ⟨[], [], true, false⟩ Q
  have key : ∀ (dn xs : List α) (acc : List β), acc.length = dn.length → (∀ q ∈ dn.zip acc, P q.1 q.2) → (∀ (x : α) (k : Post) (skip : Prop), x ∈ xs → (∀ y t, P x y → k (dd y) ⟨[], [], true, t⟩) → f (g x) k skip) →
      (∀ (ys : List β), ys.length = (dn ++ xs).length → (∀ q ∈ (dn ++ xs).zip ys, P q.1 q.2) → Q (ys.map dd) ⟨[], [], true, false⟩) → loopC f (xs.map g) (acc.map dd) ⟨[], [], true, false⟩ Q := by
    intro dn xs
    induction xs generalizing dn with
    | nil => intro acc h1 h2 _ hq; exact hq acc (by simpa using h1) (by simpa using h2)
    | cons x r ih =>
      intro acc h1 h2 hs hq
      refine hs x _ _ List.mem_cons_self fun y t' hy => ?_
      have := ih (dn ++ [x]) (acc ++ [y]) (by simp [h1]) (fun q hm => ?_) (fun z k s hz => hs z k s (List.mem_cons_of_mem _ hz)) (fun ys h3 h4 => hq ys (by simpa using h3) (by simpa using h4))
      · rw [List.map_append] at this
        exact this
      · rw [List.zip_append h1.symm] at hm
        rcases List.mem_append.mp hm with hm | hm
        · exact h2 q hm
        · simp at hm
          subst hm
          exact hy
  exact key [] xs [] rfl (by simp) hs fun ys h1 h2 => hQ ys (by simpa using h1) (by simpa using h2)
theorem loopT_g {α β : Type} {f : D → Post → Prop → Prop} (g : α → D) (dd : β → D) (w : α → β) {Q : List D → Inf → Prop} {xs : List α}
    (hs : ∀ (x : α) (k : Post) (skip : Prop), x ∈ xs → (∀ t, k (dd (w x)) ⟨[], [], true, t⟩) → f (g x) k skip)
    (hQ : ∀ (cs : List β), cs = xs.map w → Q (cs.map dd) ⟨[], [], true, false⟩) : LC f (xs.map g) [] ⟨[], [], true, false⟩ Q .mk .mk := by
  refine loopT_P g dd (fun x y => y = w x) (fun x k s hx hk => hs x k s hx fun t => hk _ t rfl) fun ys h1 h2 => hQ ys ?_
  refine List.ext_getElem (by simpa using h1) fun i h3 h4 => ?_
  have := h2 (xs[i]'(by omega), ys[i]) (List.mem_of_getElem? (i := i) (by rw [List.getElem?_zip_eq_some]; exact ⟨List.getElem?_eq_getElem (by omega), List.getElem?_eq_getElem h3⟩))
  simpa using this
theorem loopT_r {β : Type} {f : D → Post → Prop → Prop} (dd : β → D) (P : Nat → β → Prop) {Q : List D → Inf → Prop} {m : Nat}
    (hs : ∀ (x : Nat) (k : Post) (skip : Prop), x < m → (∀ y t, P x y → k (dd y) ⟨[], [], true, t⟩) → f (.int (0 + (x : Int))) k skip)
    (hQ : ∀ (ys : List β), ys.length = m → (∀ i y, ys[i]? = some y → P i y) → Q (ys.map dd) ⟨[], [], true, false⟩) : LC f (rngD m 0) [] ⟨[], [], true, false⟩ Q .mk .mk := by
  refine loopT_P (xs := List.range m) (fun k : Nat => D.int (0 + (k : Int))) dd P (fun x k sk hx hk => hs x k sk (by simpa using hx) hk) fun ys h1 h2 => hQ ys (by simpa using h1) fun i y hy => ?_
  have hi : i < ys.length := (List.getElem?_eq_some_iff.mp hy).1
  refine h2 (i, y) (List.mem_of_getElem? (i := i) ?_)
  rw [List.getElem?_zip_eq_some]
  exact ⟨by rw [List.getElem?_range (by simp at h1; omega)], hy⟩
/-- two lists, by index and by pairs -/
theorem zip_idx {α β : Type} {xs : List α} {ys : List β} {S : α → β → Prop} (h : ∀ (i : Nat) (x : α) (y : β), xs[i]? = some x → ys[i]? = some y → S x y) : ∀ q ∈ xs.zip ys, S q.1 q.2 := by
  intro q hq
  obtain ⟨i, hi⟩ := List.mem_iff_getElem?.mp hq
  rw [List.getElem?_zip_eq_some] at hi
  exact h i _ _ hi.1 hi.2
theorem idx_zip {α β : Type} {xs : List α} {ys : List β} {S : α → β → Prop} (h : ∀ q ∈ xs.zip ys, S q.1 q.2) (i : Nat) (x : α) (y : β) (hx : xs[i]? = some x) (hy : ys[i]? = some y) : S x y := by
  refine h (x, y) (List.mem_of_getElem? (i := i) ?_)
  rw [List.getElem?_zip_eq_some]
  exact ⟨hx, hy⟩
theorem get_lt {α : Type} {xs : List α} {i : Nat} (h : i < xs.length) : ∃ x, xs[i]? = some x := ⟨_, List.getElem?_eq_getElem h⟩
theorem lt_get {α : Type} {xs : List α} {i : Nat} {x : α} (h : xs[i]? = some x) : i < xs.length := (List.getElem?_eq_some_iff.mp h).1
theorem loopF_D {t : Tg} {fr : Bool} {f : List Sl → En → Prop} {K : En} (I : List D → List Sl → Prop) {xs : List D} {env : List Sl} (h0 : I xs env) (hn : ∀ env, I [] env → K.nx env)
    (hs : ∀ (x : D) (r : List D) (env : List Sl) (P : List Sl → Prop), I (x :: r) env → (∀ env2, I r env2 → P env2) → bindT fr env (fun env1 => f env1 (K.loop P)) t x) : LF t fr f K xs env .mk .mk := by
  have := loopF_ind (t := t) (fr := fr) (f := f) (K := K) (id : D → D) I (xs := xs) (env := env) h0 hn hs
  rwa [List.map_id] at this
theorem cutD_tk {xs : List D} {k : Nat} : Rj.cutD xs none (some (k : Int)) = xs.take k := by
  unfold Rj.cutD
  have e1 : HT.sIx xs.length 0 none = 0 := rfl
  have e2 : HT.sIx xs.length xs.length (some (k : Int)) = min k xs.length := by
    have : ¬ ((k : Int) < 0) := by omega
    simp [HT.sIx, this]
  rw [e1, e2, List.drop_zero, Nat.sub_zero, ← List.take_eq_take_min]
theorem cutD_dr {xs : List D} {k : Nat} : Rj.cutD xs (some (k : Int)) none = xs.drop k := by
  unfold Rj.cutD
  have e1 : HT.sIx xs.length xs.length none = xs.length := rfl
  have e2 : HT.sIx xs.length 0 (some (k : Int)) = min k xs.length := by
    have : ¬ ((k : Int) < 0) := by omega
    simp [HT.sIx, this]
  rw [e1, e2]
  rcases Nat.le_total k xs.length with h | h
  · rw [Nat.min_eq_left h, List.take_of_length_le (by simp)]
  · rw [Nat.min_eq_right h, Nat.sub_self, List.take_zero, List.drop_of_length_le h]
theorem cutD_tkm {α : Type} {g : α → D} {xs : List α} {k : Nat} : Rj.cutD (xs.map g) none (some (k : Int)) = (xs.take k).map g := by rw [cutD_tk, List.map_take]
theorem cutD_drm {α : Type} {g : α → D} {xs : List α} {k : Nat} : Rj.cutD (xs.map g) (some (k : Int)) none = (xs.drop k).map g := by rw [cutD_dr, List.map_drop]
/-! texts as lists of signs -/
def ofL (l : List Nat) : Str := ⟨l.toArray⟩
@[simp] theorem ofL_cps (l : List Nat) : (ofL l).cps.toList = l := rfl
theorem ofL_len (l : List Nat) : (ofL l).length = l.length := rfl
theorem ofL_app (a b : List Nat) : ofL a ++ ofL b = ofL (a ++ b) := by
  show (⟨a.toArray ++ b.toArray⟩ : Str) = ⟨(a ++ b).toArray⟩
  simp
theorem ofL_inj {a b : List Nat} (h : ofL a = ofL b) : a = b := congrArg (fun s : Str => s.cps.toList) h
theorem repS_one (c : Nat) (n : Nat) : repS ⟨#[c]⟩ n = ofL (List.replicate n c) := by
  unfold repS ofL
  congr 2
  induction n with
  | zero => rfl
  | succ n ih => rw [List.replicate_succ, List.flatten_cons, ih, List.replicate_succ]; rfl
theorem one_ofL (c : Nat) : (⟨#[c]⟩ : Str) = ofL [c] := rfl
theorem ofL_ok {l : List Nat} (h : ∀ c ∈ l, c < 1114112) : PyData.strOk (ofL l) = true := by
  unfold PyData.strOk ofL
  simp only [Array.all_eq_true', List.mem_toArray]
  intro c hc
  exact decide_eq_true (h c hc)
theorem abc_at : ∀ k : Fin 26, (Str.cps "abcdefghijklmnopqrstuvwxyz").toList[k.val]? = some (97 + k.val) := by decide +kernel
theorem ag_at : ∀ k : Fin 7, (Str.cps "abcdefg").toList[k.val]? = some (97 + k.val) := by decide +kernel
theorem abc_i {i : Int} (h0 : 0 ≤ i) (h1 : i < 26) : atI (Str.cps "abcdefghijklmnopqrstuvwxyz").toList i = some (97 + i.toNat) := by
  rw [atI_nn h0]
  exact abc_at ⟨i.toNat, by omega⟩
theorem ag_i {i : Int} (h0 : 0 ≤ i) (h1 : i < 7) : atI (Str.cps "abcdefg").toList i = some (97 + i.toNat) := by
  rw [atI_nn h0]
  exact ag_at ⟨i.toNat, by omega⟩
/-- a letter -/
def ltr (ch : Nat) : Bool := !(Builtin.Str.occurrences "abcdefghijklmnopqrstuvwxyz" ⟨#[ch]⟩ 0 (Str.length "abcdefghijklmnopqrstuvwxyz") 1).isEmpty
def wd (t : Str) : Bool := !decide (t = "not") && (decide (1 ≤ (t.length : Int)) && decide ((t.length : Int) ≤ 12)) && t.cps.toList.all ltr
theorem w_is_word {t : Str} (hl : t.length ≤ 1000) (h : Q (.bl (wd t))) : (clo fs (n + 1)).call i_is_word [.str t] Q R := by
  refine run_def rfl ⟨rfl, ?_⟩
  by_cases h1 : t = "not"
  · have e : wd t = false := by simp [wd, h1]
    rw [e] at h
    simp [f_is_word, env0, h1]
    exact h
  · simp [f_is_word, env0, h1]
    refine ⟨by omega, ?_⟩
    have bad : ¬ (1 ≤ (t.length : Int) ∧ (t.length : Int) ≤ 12) → wd t = false := fun z => by
      unfold wd
      have : (decide (1 ≤ (t.length : Int)) && decide ((t.length : Int) ≤ 12)) = false := by simpa using z
      rw [this]
      simp
    refine If_i (fun h2 => ?_) (fun h2 => ?_) <;> simp at h2 ⊢
    · refine If_i (fun h3 => ?_) (fun h3 => ?_) <;> simp at h3 ⊢
      · rw [bad (by omega)] at h
        exact h
      · have hlen : t.cps.toList.length ≤ 1000 := hl
        refine ⟨by simpa using Nat.le_trans hlen (by decide), loopC_map (fun ch : Nat => D.str ⟨#[ch]⟩) (fun ch => .bl (ltr ch)) ?_ ?_⟩
        · intro x k sk _ hk
          simp
          exact hk _ _
        · intro b
          simp
          refine ⟨t.cps.toList.map ltr, ?_, ?_⟩
          · have z := boolsOf_map (t.cps.toList.map ltr)
            rw [List.map_map] at z
            exact z
          · have e : wd t = t.cps.toList.all ltr := by
              unfold wd
              have : (decide (1 ≤ (t.length : Int)) && decide ((t.length : Int) ≤ 12)) = true := by simp; omega
              rw [this]
              simp [h1]
            rw [e] at h
            simpa [List.all_map] using h
    · rw [bad (by omega)] at h
      exact h
theorem ltr_fin : ∀ k : Fin 26, ltr (97 + k.val) = true := by decide +kernel
theorem ltr_ok {c : Nat} (h1 : 97 ≤ c) (h2 : c ≤ 122) : ltr c = true := by
  have := ltr_fin ⟨c - 97, by omega⟩
  simp only at this
  rwa [show 97 + (c - 97) = c by omega] at this
theorem not_txt : ("not" : Str) = ofL [110, 111, 116] := by decide +kernel
theorem wd_ofL {l : List Nat} (h1 : 1 ≤ l.length) (h2 : l.length ≤ 12) (h3 : ∀ c ∈ l, 97 ≤ c ∧ c ≤ 122) (h4 : l ≠ [110, 111, 116]) : wd (ofL l) = true := by
  unfold wd
  have e1 : (decide (ofL l = "not")) = false := by
    rw [not_txt]
    exact decide_eq_false fun z => h4 (ofL_inj z)
  rw [e1, ofL_len, ofL_cps]
  have e2 : l.all ltr = true := List.all_eq_true.mpr fun c hc => ltr_ok (h3 c hc).1 (h3 c hc).2
  rw [e2]
  simp
  omega
/-- a word: its text and that it is good -/
def Wd (t : Str) : Prop := wd t = true ∧ PyData.strOk t = true
theorem Wd.len {t : Str} (h : Wd t) : t.length ≤ 12 := by
  have := h.1
  unfold wd at this
  simp at this
  omega
/-! texts in lists of texts -/
theorem pyL_strs (ns : List Str) : pyL (ns.map .str) = ns.map PyData.str := by
  induction ns with
  | nil => rfl
  | cons a r ih =>
    show (D.str a).py :: pyL (r.map .str) = _
    rw [ih]
    rfl
theorem any_strs {x : Str} : ∀ ns : List Str, ((pyL (ns.map .str)).any fun z => PyData.eqv z (D.str x).py) = decide (x ∈ ns) := by
  intro ns
  rw [pyL_strs]
  induction ns with
  | nil => simp
  | cons a r ih =>
    rw [List.map_cons, List.any_cons, ih, Bool.eq_iff_iff]
    show ((a == x) || decide (x ∈ r)) = true ↔ _
    simp only [Bool.or_eq_true, decide_eq_true_eq, List.mem_cons, beq_iff_eq]
    exact ⟨fun z => z.imp_left Eq.symm, fun z => z.imp_left Eq.symm⟩
theorem pl_strs {n : Nat} {ns : List Str} (h : ∀ x ∈ ns, PyData.strOk x = true) : pl (n + 1) (.lst (ns.map .str)) = true := by
  simp [pl]
  intro x hx
  cases n <;> exact h x hx
theorem sh_str {x : Str} (h : PyData.strOk x = true) : SeqAt.shaped (D.str x).py = true := shaped_of (n := 1) (by decide) (d := .str x) h
theorem sh_strs {ns : List Str} (h : ∀ y ∈ ns, PyData.strOk y = true) : SeqAt.shaped (.list (pyL (ns.map .str))) = true := shaped_of (n := 1) (by decide) (d := .lst (ns.map .str)) (pl_strs h)
theorem cmp_in_strs {x : Str} {ns : List Str} {k : Bool → Prop} (h1 : PyData.strOk x = true) (h2 : ∀ y ∈ ns, PyData.strOk y = true) (h : k (decide (x ∈ ns))) : cmpD .isin (.str x) (.lst (ns.map .str)) k := by
  rw [cmpD_11, any_strs]
  exact ⟨⟨shaped_of (n := 1) (by decide) (d := .str x) h1, shaped_of (n := 1) (by decide) (d := .lst (ns.map .str)) (pl_strs h2)⟩, h⟩
theorem cmp_nin_strs {x : Str} {ns : List Str} {k : Bool → Prop} (h1 : PyData.strOk x = true) (h2 : ∀ y ∈ ns, PyData.strOk y = true) (h : k (!decide (x ∈ ns))) : cmpD .notin (.str x) (.lst (ns.map .str)) k := by
  rw [cmpD_12, any_strs]
  exact ⟨⟨shaped_of (n := 1) (by decide) (d := .str x) h1, shaped_of (n := 1) (by decide) (d := .lst (ns.map .str)) (pl_strs h2)⟩, h⟩
/-! numbers as texts -/
theorem sg_in (c : Nat) (z : Str) : (!(Builtin.Str.occurrences z ⟨#[c]⟩ 0 z.length 1).isEmpty) = decide (c ∈ z.cps.toList) := PySem.StrLaws.found_one z c
theorem sg_no (c : Nat) (z : Str) : (Builtin.Str.occurrences z ⟨#[c]⟩ 0 z.length 1).isEmpty = !decide (c ∈ z.cps.toList) := by
  rw [← sg_in, Bool.not_not]
theorem fig_txt : (Str.cps "0123456789").toList = [48, 49, 50, 51, 52, 53, 54, 55, 56, 57] := by decide +kernel
theorem fig_mem (c : Nat) : c ∈ (Str.cps "0123456789").toList ↔ 48 ≤ c ∧ c ≤ 57 := by
  rw [fig_txt]
  simp
  omega
theorem fig_at {i : Int} (h0 : 0 ≤ i) (h1 : i < 10) : atI (Str.cps "0123456789").toList i = some (48 + i.toNat) := by
  rw [atI_nn h0, fig_txt]
  have : i.toNat < 10 := by omega
  match h : i.toNat, this with
  | 0, _ => rfl
  | 1, _ => rfl
  | 2, _ => rfl
  | 3, _ => rfl
  | 4, _ => rfl
  | 5, _ => rfl
  | 6, _ => rfl
  | 7, _ => rfl
  | 8, _ => rfl
  | 9, _ => rfl
theorem dash_txt : (Str.ofString "-" : Str) = ofL [45] := by decide +kernel
theorem nought_txt : (Str.ofString "0" : Str) = ofL [48] := by decide +kernel
@[simp] theorem ofL_ln (l : List Nat) : (ofL l).length = l.length := rfl
@[simp] theorem ofL_eq (a b : List Nat) : (ofL a = ofL b) = (a = b) := propext ⟨ofL_inj, congrArg ofL⟩
theorem cut_ofL (l : List Nat) (lo hi : Option Int) : L2.cutS (ofL l) lo hi = ofL ((l.drop (HT.sIx l.length 0 lo)).take (HT.sIx l.length l.length hi - HT.sIx l.length 0 lo)) := rfl
theorem cut_take (l : List Nat) (k : Nat) : L2.cutS (ofL l) none (some (k : Int)) = ofL (l.take k) := by
  rw [cut_ofL]
  have : ¬ ((k : Int) < 0) := by omega
  have e : HT.sIx l.length l.length (some (k : Int)) = min k l.length := by simp [HT.sIx, this]
  have e0 : HT.sIx l.length 0 none = 0 := rfl
  rw [e, e0, List.drop_zero, Nat.sub_zero]
  congr 1
  rw [Nat.min_comm, List.take_eq_take_iff]
  omega
theorem cut_drop (l : List Nat) (k : Nat) : L2.cutS (ofL l) (some (k : Int)) none = ofL (l.drop k) := by
  rw [cut_ofL]
  have : ¬ ((k : Int) < 0) := by omega
  have e : HT.sIx l.length 0 (some (k : Int)) = min k l.length := by simp [HT.sIx, this]
  have e0 : HT.sIx l.length l.length none = l.length := rfl
  rw [e, e0]
  congr 1
  by_cases hk : k ≤ l.length
  · rw [Nat.min_eq_left hk, List.take_of_length_le (by simp)]
  · rw [Nat.min_eq_right (by omega), List.drop_of_length_le (Nat.le_refl _), List.drop_of_length_le (by omega)]
    simp
theorem cut_t1 (l : List Nat) : L2.cutS (ofL l) none (some 1) = ofL (l.take 1) := cut_take l 1
theorem cut_d1 (l : List Nat) : L2.cutS (ofL l) (some 1) none = ofL (l.drop 1) := cut_drop l 1
def figs (l : List Nat) : List Nat := if l.take 1 = [45] then l.drop 1 else l
def goodN (l : List Nat) : Prop := 1 ≤ (figs l).length ∧ (figs l).length ≤ 60 ∧ (∀ c ∈ figs l, 48 ≤ c ∧ c ≤ 57) ∧ ¬ ((figs l).head? = some 48 ∧ l ≠ [48])
def valN (l : List Nat) : Int := if l.take 1 = [45] then -(NumText.digitsVal (figs l) : Int) else (NumText.digitsVal (figs l) : Int)
theorem int_good {l : List Nat} (h : goodN l) : intText? (ofL l) = some (valN l) := by
  obtain ⟨h1, h2, h3, h4⟩ := h
  unfold valN
  have hne : figs l ≠ [] := by intro e; rw [e] at h1; simp at h1
  by_cases hd : l.take 1 = [45]
  · have hf : figs l = l.drop 1 := if_pos hd
    rw [if_pos hd, hf]
    rw [hf] at h3 hne h2
    have e : l = 45 :: l.drop 1 := by
      cases l with
      | nil => cases hd
      | cons a r => simp at hd; rw [hd]; rfl
    refine intText_neg (x := ofL l) e h3 hne ?_
    have := congrArg List.length e
    have e2 : (l.drop 1).length = l.length - 1 := List.length_drop
    rw [e2] at h2
    rw [ofL_len]
    omega
  · have hf : figs l = l := if_neg hd
    rw [if_neg hd, hf]
    rw [hf] at h3 hne h2
    exact intText_digits (x := ofL l) h3 hne (by rw [ofL_len]; omega)
def digN (m : Nat) : List Nat := (Nat.toDigits 10 m).map Char.toNat
theorem digN_small {m : Nat} (h : m < 10) : digN m = [48 + m] := by
  unfold digN
  rw [Nat.toDigits_of_lt_base h]
  have : ∀ k : Fin 10, (Nat.digitChar k.val).toNat = 48 + k.val := by decide
  simpa using this ⟨m, h⟩
theorem digN_big {m : Nat} (h : 10 ≤ m) : digN m = digN (m / 10) ++ [48 + m % 10] := by
  have t : Nat.toDigits 10 (m / 10) ++ Nat.toDigits 10 (m % 10) = Nat.toDigits 10 (10 * (m / 10) + m % 10) := Nat.toDigits_append_toDigits (by decide) (by omega) (Nat.mod_lt _ (by decide))
  rw [Nat.div_add_mod] at t
  have s := digN_small (m := m % 10) (Nat.mod_lt _ (by decide))
  unfold digN at s ⊢
  rw [← t, List.map_append, s]
theorem digN_val (m : Nat) : NumText.digitsVal (digN m) = m := PySem.W.KIN.val_back m
theorem digN_fig (m : Nat) : ∀ c ∈ digN m, 48 ≤ c ∧ c ≤ 57 := by
  induction m using Nat.strongRecOn with
  | _ m ih =>
    by_cases h : m < 10
    · rw [digN_small h]
      simp
      omega
    · rw [digN_big (by omega)]
      intro c hc
      rcases List.mem_append.mp hc with hc | hc
      · exact ih (m / 10) (by omega) c hc
      · simp at hc
        omega
theorem digN_head (m : Nat) (h : 1 ≤ m) : (digN m).head? ≠ some 48 := by
  induction m using Nat.strongRecOn with
  | _ m ih =>
    by_cases h2 : m < 10
    · rw [digN_small h2]
      simp
      omega
    · rw [digN_big (by omega), List.head?_append]
      have := ih (m / 10) (by omega) (by omega)
      cases hd : (digN (m / 10)).head? with
      | none =>
        rw [List.head?_eq_none_iff] at hd
        have := digN_val (m / 10)
        rw [hd] at this
        have : 0 = m / 10 := this
        omega
      | some c =>
        rw [hd] at this
        simpa using this
theorem digN_len (k : Nat) : ∀ m : Nat, m < 10 ^ (k + 1) → (digN m).length ≤ k + 1 := by
  induction k with
  | zero =>
    intro m h
    rw [digN_small (by simpa using h)]
    simp
  | succ k ih =>
    intro m h
    by_cases h2 : m < 10
    · rw [digN_small h2]
      simp
    · rw [digN_big (by omega), List.length_append]
      have := ih (m / 10) (by rw [Nat.pow_succ] at h; omega)
      simp
      omega
theorem digN_pos (m : Nat) : 1 ≤ (digN m).length := by
  by_cases h2 : m < 10
  · rw [digN_small h2]; simp
  · rw [digN_big (by omega)]; simp
def digI (i : Int) : List Nat := if i < 0 then 45 :: digN i.natAbs else digN i.natAbs
theorem str_int (i : Int) : Str.ofString (toString i) = ofL (digI i) := by
  have e : ∀ x : Str, x = ofL x.cps.toList := fun x => by rcases x with ⟨a⟩; rfl
  rw [e (Str.ofString (toString i))]
  congr 1
  rcases Int.lt_or_le i 0 with h | h
  · obtain ⟨m, hm⟩ : ∃ m : Nat, i = Int.negSucc m := ⟨i.natAbs - 1, by omega⟩
    subst hm
    rw [digI, if_pos h]
    rw [signs_ofString]
    have e1 : (toString (Int.negSucc m)) = "-" ++ (m + 1).repr := rfl
    rw [e1, String.toList_append, Nat.toList_repr, List.map_append]
    rfl
  · obtain ⟨m, rfl⟩ : ∃ m : Nat, i = m := ⟨i.toNat, by omega⟩
    rw [digI, if_neg (by omega)]
    exact PySem.W.KIN.signs_num m
theorem str_repr (i : Int) : Str.ofString i.repr = ofL (digI i) := str_int i
theorem digI_good {i : Int} (h1 : -(1000000000000000000000000000000000000000000000000000000000000 : Int) < i) (h2 : i < 1000000000000000000000000000000000000000000000000000000000000) : goodN (digI i) ∧ valN (digI i) = i := by
  have hp := digN_pos i.natAbs
  have hl := digN_len 59 i.natAbs (by omega)
  have hf := digN_fig i.natAbs
  have hv := digN_val i.natAbs
  rcases Int.lt_or_le i 0 with h | h
  · have e : digI i = 45 :: digN i.natAbs := if_pos h
    have ef : figs (digI i) = digN i.natAbs := by rw [e]; rfl
    refine ⟨⟨by rw [ef]; exact hp, by rw [ef]; omega, by rw [ef]; exact hf, fun g => ?_⟩, ?_⟩
    · rw [ef] at g
      exact digN_head i.natAbs (by omega) g.1
    · unfold valN
      rw [ef, e, if_pos (by rfl), hv]
      omega
  · have e : digI i = digN i.natAbs := if_neg (by omega)
    have ne : ¬ (digN i.natAbs).take 1 = [45] := by
      intro z
      have : 45 ∈ digN i.natAbs := List.mem_of_mem_take (i := 1) (by rw [z]; simp)
      have := hf 45 this
      omega
    have ef : figs (digI i) = digN i.natAbs := by rw [e]; exact if_neg ne
    refine ⟨⟨by rw [ef]; exact hp, by rw [ef]; omega, by rw [ef]; exact hf, fun g => ?_⟩, ?_⟩
    · rw [ef] at g
      by_cases h0 : i.natAbs = 0
      · rw [e, h0] at g
        exact g.2 rfl
      · exact digN_head i.natAbs (by omega) g.1
    · unfold valN
      rw [ef, e, if_neg ne, hv]
      omega
theorem digI_len {i : Int} (h1 : -(1000000000000000000000000000000000000000000000000000000000000 : Int) < i) (h2 : i < 1000000000000000000000000000000000000000000000000000000000000) : (digI i).length ≤ 61 := by
  have hl := digN_len 59 i.natAbs (by omega)
  unfold digI
  split <;> simp <;> omega
theorem log_ok {i : Int} (h1 : -(1000000000000000000000000000000000000000000000000000000000000 : Int) < i) (h2 : i < 1000000000000000000000000000000000000000000000000000000000000) : i.natAbs.log2 < 1920 := by
  by_cases e : i.natAbs = 0
  · rw [e]; decide
  · have : i.natAbs.log2 < 200 := (Nat.log2_lt e).mpr (by omega)
    omega
theorem intBits_le {i : Int} {n : Nat} (h : i.natAbs < 2 ^ n) : Builtin.Int.intBits i ≤ n := by
  unfold Builtin.Int.intBits
  by_cases e : i = 0
  · simp [e]
  · have : (i == 0) = false := by simp [e]
    rw [this]
    have z : i.natAbs ≠ 0 := by omega
    have := (Nat.log2_lt z).mpr h
    simp
    omega
theorem mulOk_b {i j : Int} {m n : Nat} (h1 : Builtin.Int.intBits i ≤ m) (h2 : Builtin.Int.intBits j ≤ n) (h : m + n ≤ 134217728) : MulOk i j := .inr (.inr (by omega))
/-- two numbers below 2 ^ 600 -/
theorem mulOk_2 {i j : Int} (h1 : i.natAbs < 2 ^ 600) (h2 : j.natAbs < 2 ^ 600) : MulOk i j := mulOk_b (intBits_le h1) (intBits_le h2) (by decide)
def Bt (i : Int) : Prop := Builtin.Int.intBits i ≤ 1048576
theorem bt_0 : Bt 0 := by unfold Bt; decide
theorem bt_of {i : Int} {n : Nat} (h : i.natAbs < 2 ^ n) (h2 : n ≤ 1048576) : Bt i := Nat.le_trans (intBits_le h) h2
theorem mulOk_bt {i j : Int} (h1 : Bt i) (h2 : j.natAbs < 2 ^ 250) : MulOk i j := mulOk_b h1 (intBits_le h2) (by decide)
theorem atD_any {xs : List D} {i : Int} {P : D → Prop} {Q : D → Prop} (h0 : 0 ≤ i) (h1 : i < xs.length) (hP : ∀ d ∈ xs, P d) (h : ∀ d, P d → Q d) : AtD xs i Q .mk :=
  atD_of h0 h1 fun d e => h d (hP d (List.mem_of_getElem? e))
def isI (P : Int → Prop) (d : D) : Prop := ∃ x, d = .int x ∧ P x
theorem eqD_self {n : Nat} {d : D} {k : Bool → Prop} (hn : n ≤ 64) (hp : pl n d = true) (h : k true) : eqD d d k :=
  eqD_pl hn hp hp fun b hb => by rw [hb.mpr rfl]; exact h
theorem w_number_of {l : List Nat} (hl : l.length ≤ 1000) (h1 : goodN l → Q (.int (valN l))) (h2 : ¬ goodN l → R "BadNumber") : (clo fs (n + 1)).call i_number_of [.str (ofL l)] Q R := by
  refine run_def rfl ⟨rfl, ?_⟩
  simp [f_number_of, env0]
  refine Jn_join (fun e => ∃ (b1 : Bool), e = [.val (.str (ofL l)) false, .val (.str (ofL (figs l))) b1, .un]) (fun P hP => ?_) ?_
  · simp [cut_t1, cut_d1, dash_txt, ofL_len]
    refine ⟨by omega, If_i (fun h => ?_) (fun h => ?_)⟩ <;> simp at h ⊢
    · have e : figs l = l.drop 1 := if_pos h
      refine ⟨by omega, ?_⟩
      rw [cut_d1]
      exact hP _ ⟨_, by rw [e]⟩
    · have e : figs l = l := if_neg h
      exact hP _ ⟨_, by rw [e]⟩
  rintro _ ⟨b1, rfl⟩
  have hfl : (figs l).length ≤ 1000 := by
    unfold figs
    split
    · simp; omega
    · exact hl
  simp
  refine ⟨by omega, ?_⟩
  refine If_i (fun h3 => ?_) (fun h3 => ?_) <;> simp at h3 ⊢
  · refine If_i (fun h4 => ?_) (fun h4 => ?_) <;> simp at h4 ⊢
    · exact h2 fun g => by have := g.2.1; omega
    have ne : figs l ≠ [] := by intro e; rw [e] at h3; simp at h3
    refine loopF_ind (fun ch : Nat => D.str ⟨#[ch]⟩) (fun rest env => ∃ (dn : List Nat) (s2 : Sl), env = [.val (.str (ofL l)) false, .val (.str (ofL (figs l))) b1, s2] ∧ dn ++ rest = figs l ∧ ∀ c ∈ dn, 48 ≤ c ∧ c ≤ 57) ⟨[], _, rfl, rfl, by simp⟩ ?_ ?_
    · rintro _ ⟨dn, s2, rfl, e1, e2⟩
      simp at e1
      subst e1
      obtain ⟨c, r, hc⟩ := List.exists_cons_of_ne_nil ne
      have at0 : atI (figs l) 0 = some c := by rw [atI_nn (by omega), hc]; rfl
      have c1 : (⟨#[c]⟩ : Str) = ofL [c] := rfl
      simp [at0, c1, nought_txt]
      refine ⟨by omega, ?_⟩
      have fin : ¬ ((figs l).head? = some 48 ∧ l ≠ [48]) → l.length ≤ 640 ∧ ∃ m, intText? (ofL l) = some m ∧ Q (.int m) := fun g => by
        have gd : goodN l := ⟨by have := of_decide_eq_true h3; omega, by omega, e2, g⟩
        refine ⟨?_, valN l, int_good gd, h1 gd⟩
        have : l.length ≤ (figs l).length + 1 := by
          unfold figs
          split <;> simp <;> omega
        omega
      have hd : (figs l).head? = some c := by rw [hc]; rfl
      refine If_i (fun h5 => ?_) (fun h5 => ?_) <;> simp at h5 ⊢
      · refine If_i (fun h6 => ?_) (fun h6 => ?_) <;> simp [nought_txt] at h6 ⊢
        · exact h2 fun g => g.2.2.2 ⟨by rw [hd, h5], h6⟩
        · obtain ⟨a, m, b, q⟩ := fin fun g => g.2 h6
          exact ⟨m, b, a, q⟩
      · obtain ⟨a, m, b, q⟩ := fin fun g => by rw [hd] at g; exact h5 (Option.some.inj g.1)
        exact ⟨m, b, a, q⟩
    · rintro c rest _ P ⟨dn, s2, rfl, e1, e2⟩ hP
      simp
      rw [sg_no]
      have hm : c ∈ (Str.cps "0123456789") ↔ 48 ≤ c ∧ c ≤ 57 := by rw [← fig_mem, Array.mem_toList_iff]
      refine If_i (fun h5 => ?_) (fun h5 => ?_) <;> simp at h5 ⊢
      · exact h2 fun g => h5 (hm.mpr (g.2.2.1 c (by rw [← e1]; simp)))
      · refine hP _ ⟨dn ++ [c], _, rfl, by simpa using e1, fun d hd => ?_⟩
        rcases List.mem_append.mp hd with hd | hd
        · exact e2 d hd
        · rw [List.mem_singleton] at hd
          rw [hd]
          exact hm.mp h5
  · exact h2 fun g => by have := of_decide_eq_false h3; have := g.1; omega
def Nb (x : Int) : Prop := -(1000000000000000000000000000000000000000000000000000000000000 : Int) < x ∧ x < 1000000000000000000000000000000000000000000000000000000000000
theorem w_number_text {i : Int} (h1 : -(1000000000000000000000000000000000000000000000000000000000000 : Int) < i) (h2 : i < 1000000000000000000000000000000000000000000000000000000000000) (h : Q (.str (ofL (digI i)))) : (clo fs (n + 1)).call i_number_text [.int i] Q R := by
  refine run_def rfl ⟨rfl, ?_⟩
  simp [f_number_text, env0, str_repr]
  exact ⟨log_ok h1 h2, h⟩
/-! k17, k19: the ends drawn -/
theorem w_cellB {ns : List Int} {k : Int} (hk : 0 ≤ k) (hb : ∀ x ∈ ns, Bt x) (h : ∀ x : Int, Bt x → Q (.int x)) : (clo fs (n + 1)).call i__law_cell_at [.scr ns, .int k] Q R := by
  refine run_def rfl ⟨rfl, ?_⟩
  simp [f__law_cell_at, env0]
  refine If_i (fun h1 => ?_) (fun h1 => ?_) <;> simp at h1 ⊢
  · exact atS_of hk (by omega) fun d e => h d (hb d (List.mem_of_getElem? e))
  · exact h 0 bt_0
theorem w_low {c : Int} (hb : Bt c) (h : ∀ x : Int, Nb x → Q (.int x)) : (clo fs (n + 1)).call i__law_low [.int c] Q R := by
  refine run_def rfl ⟨rfl, ?_⟩
  simp [f__law_low, env0]
  refine If_i (fun h1 => ?_) (fun h1 => ?_) <;> simp at h1 ⊢
  · exact h _ (by unfold Nb; omega)
  · refine ⟨mulOk_bt hb (by decide +kernel), ?_⟩
    have a0 : 0 ≤ c * 160042582622774077931272282638733506491753459577065720641 % 1999999999999999999999999999999999999999999999999999999999999 := Int.emod_nonneg _ (by omega)
    have a1 : c * 160042582622774077931272282638733506491753459577065720641 % 1999999999999999999999999999999999999999999999999999999999999 < 1999999999999999999999999999999999999999999999999999999999999 := Int.emod_lt_of_pos _ (by omega)
    exact h _ (by unfold Nb; omega)
theorem w_high {lo c : Int} (hn : Nb lo) (hb : Bt c) (h : ∀ x : Int, Nb x → lo ≤ x → Q (.int x)) : (clo fs (n + 1)).call i__law_high [.int lo, .int c] Q R := by
  refine run_def rfl ⟨rfl, ?_⟩
  simp [f__law_high, env0]
  refine ⟨mulOk_bt hb (by decide +kernel), ?_⟩
  refine atD_any (P := isI fun x => 0 ≤ x) (Int.emod_nonneg _ (by omega)) (Int.emod_lt_of_pos _ (by simp)) ?_ ?_
  · intro d hd
    simp at hd
    rcases hd with rfl | rfl | rfl | rfl
    · exact ⟨_, rfl, by omega⟩
    · exact ⟨_, rfl, by omega⟩
    · exact ⟨_, rfl, by omega⟩
    · exact ⟨_, rfl, Int.emod_nonneg _ (by omega)⟩
  rintro _ ⟨x, rfl, hx⟩
  obtain ⟨n1, n2⟩ := hn
  simp
  refine h _ ?_ ?_
  · unfold Nb
    split <;> omega
  · split <;> omega
/-- good words -/
def Gd (ws : List Str) : Prop := (∀ w ∈ ws, wd w = true) ∧ ws.Nodup
theorem gd_take {ws : List Str} {k : Nat} (h : Gd ws) : Gd (ws.take k) := ⟨fun w hw => h.1 w (List.mem_of_mem_take hw), h.2.sublist (List.take_sublist _ _)⟩
theorem take_snoc1 {ws : List Str} {k : Nat} {w : Str} (h : ws[k]? = some w) : ws.take (k + 1) = ws.take k ++ [w] := by
  rw [List.take_add_one, h]
  rfl
theorem gd_next {ws : List Str} {k : Nat} {w : Str} (h : ws[k]? = some w) (hg : Gd (ws.take k)) (h1 : wd w = true) (h2 : w ∉ ws.take k) : Gd (ws.take (k + 1)) := by
  rw [take_snoc1 h]
  refine ⟨fun x hx => ?_, ?_⟩
  · rcases List.mem_append.mp hx with hx | hx
    · exact hg.1 x hx
    · rw [List.mem_singleton] at hx
      rw [hx]
      exact h1
  · refine List.nodup_append.mpr ⟨hg.2, by simp, fun a ha b hb e => ?_⟩
    rw [List.mem_singleton] at hb
    subst hb
    subst e
    exact h2 ha
theorem gd_bad {ws : List Str} {k : Nat} {w : Str} (h : ws[k]? = some w) (hb : wd w = false ∨ w ∈ ws.take k) : ¬ Gd ws := by
  intro hg
  have := gd_take (k := k + 1) hg
  rw [take_snoc1 h] at this
  rcases hb with hb | hb
  · rw [this.1 w (by simp)] at hb
    cases hb
  · exact (List.nodup_append.mp this.2).2.2 w hb w (by simp) rfl
theorem w_Domain {C : Str} {lo hi : Int} {Q : List Str → List D → Prop} (h1 : fs.ok C "low" = true) (h2 : fs.ok C "high" = true) (h : Q ["low", "high"] [.int lo, .int hi]) : (clo fs (n + 1)).init i_Domain___init__ C [.int lo, .int hi] Q R := by
  refine run_init rfl ⟨rfl, ?_⟩
  simp [f_Domain___init__, env0, h1, h2]
  exact h
theorem w_WordsG {ws : List Str} {Q : List Str → List D → Prop} (ht : ∀ w ∈ ws, PyData.strOk w = true ∧ w.length ≤ 1000) (hl : ws.length ≤ 1000) (h1 : 1 ≤ ws.length ∧ ws.length ≤ 40 ∧ Gd ws → Q ["low", "high", "words"] [.int 0, .int ((ws.length : Int) - 1), .lst (ws.map .str)]) (h2 : ¬ (1 ≤ ws.length ∧ ws.length ≤ 40 ∧ Gd ws) → R "BadDomain") : (clo fs (n + 3)).mkr i_Words___init__ "Words" [.lst (ws.map .str)] Q R := by
  refine run_mkr rfl ⟨rfl, ?_⟩
  simp [f_Words___init__, env0]
  refine If_i (fun h3 => ?_) (fun h3 => ?_) <;> simp at h3 ⊢
  · refine If_i (fun h4 => ?_) (fun h4 => ?_) <;> simp at h4 ⊢
    · exact h2 (by omega)
    refine ⟨⟨by omega, by omega⟩, loopF_ind (fun k : Nat => D.int (0 + (k : Int))) (fun rest env => ∃ (dn : Nat) (s2 : Sl) (b2 : Bool), env = [.slf "Words" [] [] true, .val (.lst (ws.map .str)) b2, s2] ∧ rest = List.range' dn (ws.length - dn) ∧ dn ≤ ws.length ∧ Gd (ws.take dn)) ⟨0, _, _, rfl, by simp [List.range_eq_range'], by omega, by simp [Gd]⟩ ?_ ?_⟩
    · rintro _ ⟨dn, s2, b2, rfl, e1, e2, e3⟩
      have e1 := congrArg List.length e1
      simp at e1
      obtain rfl : dn = ws.length := by omega
      rw [List.take_length] at e3
      simp
      refine w_Domain (by simp) (by simp) ?_
      simp
      exact h1 ⟨by omega, by omega, e3⟩
    · rintro k rest _ P ⟨dn, s2, b2, rfl, e1, e2, e3⟩ hP
      have hlt : dn < ws.length := by
        have e1 := congrArg List.length e1
        simp at e1
        omega
      have e6 : ws.length - dn = (ws.length - (dn + 1)) + 1 := by omega
      rw [e6, List.range'_succ] at e1
      simp at e1
      obtain ⟨rfl, hrest⟩ := e1
      obtain ⟨w, hw⟩ := get_lt hlt
      have hwt := ht w (List.mem_of_getElem? hw)
      simp [atD_k hw]
      refine w_is_word (by have := hwt.2; omega) ?_
      have bad : (wd w = false ∨ w ∈ ws.take k) → R "BadDomain" := fun hb => h2 fun z => gd_bad hw hb z.2.2
      cases hwd : wd w
      · simp
        exact bad (.inl hwd)
      · simp [atD_k hw]
        rw [cutD_tkm, any_strs]
        refine ⟨⟨sh_str hwt.1, sh_strs fun y hy => (ht y (List.mem_of_mem_take hy)).1⟩, ?_⟩
        refine If_i (fun h4 => ?_) (fun h4 => ?_) <;> simp at h4 ⊢
        · exact bad (.inr h4)
        · exact hP _ ⟨k + 1, _, _, rfl, hrest, by omega, gd_next hw e3 hwd h4⟩
  · exact h2 (by omega)
def nmD (lo hi : Int) : D := .ins "Numbers" ["low", "high"] [.int lo, .int hi]
def wrD (ws : List Str) : D := .ins "Words" ["low", "high", "words"] [.int 0, .int ((ws.length : Int) - 1), .lst (ws.map .str)]
structure WsD (ws : List Str) : Prop where
  ok : ∀ w ∈ ws, PyData.strOk w = true
  nd : ws.Nodup
  l1 : 1 ≤ ws.length
  l2 : ws.length ≤ 40
theorem w_bearsW {ws : List Str} {s : Str} (hd : WsD ws) (hs : PyData.strOk s = true) (h : Q (.bl (decide (s ∈ ws)))) : (clo fs (n + 1)).call i_Words_bears [wrD ws, .str s] Q R := by
  refine run_def rfl ⟨rfl, ?_⟩
  simp [f_Words_bears, env0, wrD]
  rw [any_strs]
  refine ⟨⟨sh_str hs, sh_strs hd.ok⟩, ?_⟩
  exact h
theorem w_codeW {ws : List Str} {s : Str} {k : Nat} (hd : WsD ws) (hs : PyData.strOk s = true) (hk : ws[k]? = some s) (h : Q (.int k)) : (clo fs (n + 2)).call i_Words_code [wrD ws, .str s] Q R := by
  have hm : decide (s ∈ ws) = true := decide_eq_true (List.mem_of_getElem? hk)
  refine run_def rfl ⟨rfl, ?_⟩
  simp [f_Words_code, env0, wrD]
  refine w_bearsW hd hs ?_
  rw [hm]
  simp
  refine run_def rfl ⟨rfl, ?_⟩
  simp [f_Words_place, env0]
  refine ⟨ws, strsOf_map ws, k, hk, fun m hm e => ?_, h⟩
  have := (List.getElem?_inj (lt_get e) hd.nd).mp (e.trans hk.symm)
  omega
theorem w_whole {x : Int} (h : Q (.bl true)) : (clo fs (n + 1)).call i__law_whole [.int x] Q R := by
  refine run_def rfl ⟨rfl, ?_⟩
  simp [f__law_whole, env0]
  exact h
/-! k20: values read and shown -/
inductive Oc where
  | said (x : Int)
  | num
  | out
def Oc.tup : Oc → D
  | .said x => .tup [.str "said", .int x]
  | .num => .tup [.str "number", .non]
  | .out => .tup [.str "outside", .non]
def Oc.Run : Oc → (D → Prop) → Exn → Prop
  | .said x, Q, _ => Q (.int x)
  | .num, _, R => R "BadNumber"
  | .out, _, R => R "Outside"
def ocN (lo hi : Int) (l : List Nat) [Decidable (goodN l)] : Oc := if goodN l then (if lo ≤ valN l ∧ valN l ≤ hi then .said (valN l) else .out) else .num
theorem w_codeN {lo hi v : Int} (h1 : lo ≤ v → v ≤ hi → Q (.int v)) (h2 : ¬ (lo ≤ v ∧ v ≤ hi) → R "Outside") : (clo fs (n + 2)).call i_Numbers_code [nmD lo hi, .int v] Q R := by
  refine run_def rfl ⟨rfl, ?_⟩
  simp [f_Numbers_code, env0, nmD]
  refine run_def rfl ⟨rfl, ?_⟩
  simp [f_Numbers_bears, env0]
  refine If_i (fun h3 => ?_) (fun h3 => ?_) <;> simp at h3 ⊢
  · refine If_i (fun h4 => ?_) (fun h4 => ?_) <;> simp at h4 ⊢
    · exact h2 (by omega)
    · refine run_def rfl ⟨rfl, ?_⟩
      simp [f_Numbers_place, env0]
      exact h1 (by omega) (by omega)
  · exact h2 (by omega)
theorem w_readN {lo hi : Int} {l : List Nat} {o : Oc} (hl : l.length ≤ 1000) (h1 : goodN l → lo ≤ valN l → valN l ≤ hi → o = .said (valN l)) (h2 : goodN l → ¬ (lo ≤ valN l ∧ valN l ≤ hi) → o = .out) (h3 : ¬ goodN l → o = .num) (h : o.Run Q R) : (clo fs (n + 3)).call i_read_value [nmD lo hi, .str (ofL l)] Q R := by
  refine run_def rfl ⟨rfl, ?_⟩
  simp [f_read_value, env0, nmD]
  refine w_number_of hl (fun g => ?_) fun g => ?_
  · simp
    refine w_codeN (n := n) (lo := lo) (hi := hi) (fun a b => ?_) fun a => ?_
    · rw [h1 g a b] at h
      exact h
    · rw [h2 g a] at h
      exact h
  · rw [h3 g] at h
    exact h
theorem w_codeNoW {ws : List Str} {s : Str} (hd : WsD ws) (hs : PyData.strOk s = true) (hm : s ∉ ws) (h : R "Outside") : (clo fs (n + 2)).call i_Words_code [wrD ws, .str s] Q R := by
  refine run_def rfl ⟨rfl, ?_⟩
  simp [f_Words_code, env0, wrD]
  refine w_bearsW hd hs ?_
  rw [decide_eq_false hm]
  simp
  exact h
theorem w_readW {ws : List Str} {s : Str} {o : Oc} (hd : WsD ws) (hs : PyData.strOk s = true) (h1 : ∀ k : Nat, ws[k]? = some s → o = .said k) (h2 : s ∉ ws → o = .out) (h : o.Run Q R) : (clo fs (n + 3)).call i_read_value [wrD ws, .str s] Q R := by
  refine run_def rfl ⟨rfl, ?_⟩
  simp [f_read_value, env0, wrD]
  by_cases hm : s ∈ ws
  · obtain ⟨k, hk⟩ := List.mem_iff_getElem?.mp hm
    rw [h1 k hk] at h
    refine w_codeW (n := n) hd hs hk ?_
    simp
    exact h
  · rw [h2 hm] at h
    refine w_codeNoW (n := n) hd hs hm ?_
    exact h
theorem xs20 : fs.xs "BadNumber" "TableError" = some true ∧ fs.xs "BadNumber" "BadNumber" = some true ∧ fs.xs "BadNumber" "Outside" = some false ∧ fs.xs "Outside" "TableError" = some true ∧ fs.xs "Outside" "BadNumber" = some false ∧ fs.xs "Outside" "Outside" = some true := by decide +kernel
theorem w_read {d : D} {s : Str} {o : Oc} (hc : ∀ {Q : D → Prop} {R : Exn}, o.Run Q R → (clo fs (n + 3)).call i_read_value [d, .str s] Q R) (h : Q o.tup) : (clo fs (n + 4)).call i__law_read [d, .str s] Q R := by
  obtain ⟨x1, x2, x3, x4, x5, x6⟩ := xs20
  refine run_def rfl ⟨rfl, ?_⟩
  simp [f__law_read, env0]
  refine hc ?_
  cases o with
  | said x =>
    show _
    unfold Oc.Run
    simp
    exact h
  | num =>
    unfold Oc.Run
    simp [x1, x2, x3]
    refine ⟨1, .inr rfl, 1, by decide, "number", rfl, ?_⟩
    simp [un1]
    exact h
  | out =>
    unfold Oc.Run
    simp [x4, x5, x6]
    refine ⟨2, .inr rfl, 2, by decide, "outside", rfl, ?_⟩
    simp [un1]
    exact h
theorem w_said {o : Oc} {c : Int} (ho : o = .said c) (h : Q (.bl true)) : (clo fs (n + 2)).call i__law_said [o.tup, .int c] Q R := by
  subst ho
  refine run_def rfl ⟨rfl, ?_⟩
  simp [f__law_said, env0, Oc.tup]
  refine w_whole ?_
  simp
  exact h
/-! k20: a domain of numbers -/
theorem w_showN {lo hi c : Int} (n1 : Nb c) (h0 : lo ≤ c) (h1 : c ≤ hi) (h : Q (.str (ofL (digI c)))) : (clo fs (n + 3)).call i_show_value [nmD lo hi, .int c] Q R := by
  refine run_def rfl ⟨rfl, ?_⟩
  simp [f_show_value, env0, nmD]
  refine w_number_text n1.1 n1.2 ?_
  exact h
theorem read_good {lo hi c : Int} (n1 : Nb c) {Q : D → Prop} (h : ∀ o : Oc, (lo ≤ c → c ≤ hi → o = .said c) → (¬ (lo ≤ c ∧ c ≤ hi) → o = .out) → Q o.tup) : (clo fs (n + 4)).call i__law_read [nmD lo hi, .str (ofL (digI c))] Q R := by
  obtain ⟨g1, g2⟩ := digI_good n1.1 n1.2
  have hl := digI_len n1.1 n1.2
  by_cases hin : lo ≤ c ∧ c ≤ hi
  · refine w_read (o := .said c) (fun {Q R} q => w_readN (n := n) (by omega) (fun _ _ _ => by rw [g2]) (fun _ z => absurd (by rw [g2]; exact hin) z) (fun z => absurd g1 z) q) (h _ (fun _ _ => rfl) fun z => absurd hin z)
  · refine w_read (o := .out) (fun {Q R} q => w_readN (n := n) (by omega) (fun _ a b => absurd (by rw [g2] at a b; exact ⟨a, b⟩) hin) (fun _ _ => rfl) (fun z => absurd g1 z) q) (h _ (fun a b => absurd ⟨a, b⟩ hin) fun _ => rfl)
theorem read_bad {lo hi : Int} {l : List Nat} (hl : l.length ≤ 1000) (g : ¬ goodN l) {Q : D → Prop} (h : Q Oc.num.tup) : (clo fs (n + 4)).call i__law_read [nmD lo hi, .str (ofL l)] Q R :=
  w_read (o := .num) (fun {Q R} q => w_readN (n := n) hl (fun z => absurd z g) (fun z => absurd z g) (fun _ => rfl) q) h
theorem tup_said {c : Int} : Oc.tup (.said c) = .tup [.str "said", .int c] := rfl
theorem ten60 : digI 1000000000000000000000000000000000000000000000000000000000000 = 49 :: List.replicate 60 48 := by decide +kernel
theorem not_good_sp {l : List Nat} {c : Nat} (hc : c < 48 ∨ 57 < c) (h45 : c ≠ 45) (hm : c ∈ l) : ¬ goodN l := fun g => by
  have hm2 : c ∈ figs l := by
    unfold figs
    split
    · rename_i e
      cases l with
      | nil => cases hm
      | cons a r =>
        simp at e
        rcases List.mem_cons.mp hm with rfl | z
        · exact absurd e h45
        · exact z
    · exact hm
  have := g.2.2.1 c hm2
  omega
theorem not_good_0 {l : List Nat} (hl : l ≠ []) : ¬ goodN (48 :: l) := fun g => by
  refine g.2.2.2 ⟨rfl, fun z => ?_⟩
  cases z
  exact hl rfl
theorem odd_no {c x : Int} (n1 : Nb c) {l : List Nat} (h : l ∈ [[], [45], 48 :: digI x, [43, 49], [32, 49], [111, 110, 101], [49, 46, 46, 50], digI c ++ [32], [45, 48], [49, 95, 48]]) : ¬ goodN l := by
  simp only [List.mem_cons, List.not_mem_nil, or_false] at h
  rcases h with rfl | rfl | rfl | rfl | rfl | rfl | rfl | rfl | rfl | rfl
  · exact fun g => by have := g.1; simp [figs] at this
  · exact fun g => by have := g.1; simp [figs] at this
  · refine not_good_0 fun z => ?_
    have : (digI x).length = 0 := by rw [z]; rfl
    unfold digI at this
    split at this
    · simp at this
    · have := digN_pos x.natAbs; omega
  · exact not_good_sp (c := 43) (by omega) (by omega) (by simp)
  · exact not_good_sp (c := 32) (by omega) (by omega) (by simp)
  · exact not_good_sp (c := 111) (by omega) (by omega) (by simp)
  · exact not_good_sp (c := 46) (by omega) (by omega) (by simp)
  · exact not_good_sp (c := 32) (by omega) (by omega) (by simp)
  · exact fun g => g.2.2.2 ⟨rfl, by decide⟩
  · exact not_good_sp (c := 95) (by omega) (by omega) (by simp)
theorem log_next {hi : Int} (n2 : Nb hi) : (hi + 1).natAbs.log2 < 1920 := by
  obtain ⟨b1, b2⟩ := n2
  by_cases h0 : (hi + 1).natAbs = 0
  · rw [h0]; decide
  · rw [Nat.log2_lt h0]
    exact Nat.lt_of_le_of_lt (m := 1000000000000000000000000000000000000000000000000000000000000) (by omega) (by decide +kernel)
theorem read_next {lo hi : Int} (n2 : Nb hi) (hle : lo ≤ hi) {Q : D → Prop} (h : ∀ o : Oc, (hi = 999999999999999999999999999999999999999999999999999999999999 → o = .num) → (hi ≠ 999999999999999999999999999999999999999999999999999999999999 → o = .out) → Q o.tup) : (clo fs (n + 4)).call i__law_read [nmD lo hi, .str (ofL (digI (hi + 1)))] Q R := by
  obtain ⟨b1, b2⟩ := n2
  by_cases hh : hi = 999999999999999999999999999999999999999999999999999999999999
  · have e : hi + 1 = 1000000000000000000000000000000000000000000000000000000000000 := by omega
    rw [e, ten60]
    refine read_bad (by decide +kernel) (fun g => ?_) (h .num (fun _ => rfl) fun z => absurd hh z)
    have := g.2.1
    revert this
    decide +kernel
  · exact read_good (n := n) (c := hi + 1) ⟨by omega, by omega⟩ fun o _ o2 => h o (fun z => absurd z hh) fun _ => o2 (by omega)
theorem w_numbers_right {lo hi c : Int} (hb : Bt c) (n1 : Nb lo) (n2 : Nb hi) (hle : lo ≤ hi) (h : Q (.bl true)) : (clo fs (n + 5)).call i__law_numbers_right [nmD lo hi, .int lo, .int hi, .int c] Q R := by
  obtain ⟨a1, a2⟩ := n1
  obtain ⟨b1, b2⟩ := n2
  refine run_def rfl ⟨rfl, ?_⟩
  simp [f__law_numbers_right, env0]
  refine ⟨mulOk_bt hb (by decide +kernel), ?_⟩
  have m0 := Int.emod_nonneg (c * 160042582622774077931272282638733506491753459577065720641) (show hi - lo + 1 ≠ 0 by omega)
  have m1 := Int.emod_lt_of_pos (c * 160042582622774077931272282638733506491753459577065720641) (show 0 < hi - lo + 1 by omega)
  generalize hcode : lo + c * 160042582622774077931272282638733506491753459577065720641 % (hi - lo + 1) = code
  have q1 : lo ≤ code := by omega
  have q2 : code ≤ hi := by omega
  have nc : Nb code := ⟨by omega, by omega⟩
  refine ⟨by omega, w_showN (n := n + 1) nc q1 q2 ?_⟩
  have lc := log_ok nc.1 nc.2
  simp [str_repr]
  refine ⟨lc, ?_⟩
  refine read_good (n := n) nc fun o o1 _ => ?_
  obtain rfl := o1 q1 q2
  simp
  refine w_said (n := n + 2) (o := .said code) rfl ?_
  simp [str_repr]
  refine ⟨log_next ⟨b1, b2⟩, read_next (n := n) ⟨b1, b2⟩ hle fun o o1 o2 => ?_⟩
  have fin : ∀ Q : Prop, Q → Q := fun _ q => q
  have lg : (lo - (10000000000000000000000000000000000000000000000000000000000 + c % 10000000000000000000000000000000000000000000000000000000000)).natAbs.log2 < 1920 ∨ ¬ (-900000000000000000000000000000000000000000000000000000000000 < lo) := by
    by_cases h3 : -900000000000000000000000000000000000000000000000000000000000 < lo
    · exact .inl (log_ok (by omega) (by omega))
    · exact .inr h3
  obtain ⟨ac, hac⟩ : ∃ ac, (if code < 0 then -code else code) = ac := ⟨_, rfl⟩
  have nac : Nb ac := by
    obtain ⟨y1, y2⟩ := nc
    rw [← hac]
    split
    · exact ⟨by omega, by omega⟩
    · exact ⟨by omega, by omega⟩
  have la := log_ok nac.1 nac.2
  have lac := digI_len nac.1 nac.2
  have lcc := digI_len nc.1 nc.2
  have z0 : (Str.ofString "0").length = 1 := rfl
  have z1 : (Str.ofString " ").length = 1 := rfl
  have hodd : ∀ d ∈ [D.str "", D.str "-", D.str ("0" ++ ofL (digI ac)), D.str "+1", D.str " 1", D.str "one", D.str "1..2", D.str (ofL (digI code) ++ " "), D.str "-0", D.str "1_0"], ∃ l, d = .str (ofL l) ∧ l.length ≤ 1000 ∧ ¬ goodN l := fun d hd => by
    simp only [List.mem_cons, List.not_mem_nil, or_false] at hd
    rcases hd with rfl | rfl | rfl | rfl | rfl | rfl | rfl | rfl | rfl | rfl
    · exact ⟨[], by rw [show Str.ofString "" = ofL [] by decide +kernel], by decide, odd_no nc (x := ac) (by simp)⟩
    · exact ⟨[45], by rw [dash_txt], by decide, odd_no nc (x := ac) (by simp)⟩
    · exact ⟨48 :: digI ac, by rw [nought_txt, ofL_app]; rfl, by simp; omega, odd_no nc (x := ac) (by simp)⟩
    · exact ⟨[43, 49], by rw [show Str.ofString "+1" = ofL [43, 49] by decide +kernel], by decide, odd_no nc (x := ac) (by simp)⟩
    · exact ⟨[32, 49], by rw [show Str.ofString " 1" = ofL [32, 49] by decide +kernel], by decide, odd_no nc (x := ac) (by simp)⟩
    · exact ⟨[111, 110, 101], by rw [show Str.ofString "one" = ofL [111, 110, 101] by decide +kernel], by decide, odd_no nc (x := ac) (by simp)⟩
    · exact ⟨[49, 46, 46, 50], by rw [show Str.ofString "1..2" = ofL [49, 46, 46, 50] by decide +kernel], by decide, odd_no nc (x := ac) (by simp)⟩
    · exact ⟨digI code ++ [32], by rw [show Str.ofString " " = ofL [32] by decide +kernel, ofL_app], by simp; omega, odd_no nc (x := ac) (by simp)⟩
    · exact ⟨[45, 48], by rw [show Str.ofString "-0" = ofL [45, 48] by decide +kernel], by decide, odd_no nc (x := ac) (by simp)⟩
    · exact ⟨[49, 95, 48], by rw [show Str.ofString "1_0" = ofL [49, 95, 48] by decide +kernel], by decide, odd_no nc (x := ac) (by simp)⟩
  by_cases hh : hi = 999999999999999999999999999999999999999999999999999999999999
  · obtain rfl := o1 hh
    simp [Oc.tup, hh]
    refine If_i (fun h3 => ?_) (fun h3 => ?_)
    · have h3 := of_decide_eq_true h3
      simp [str_repr]
      refine ⟨lg.resolve_right fun z => z h3, read_good (n := n) ⟨by omega, by omega⟩ fun o _ o2 => ?_⟩
      obtain rfl := o2 (by omega)
      simp [Oc.tup, str_repr]
      rw [hac]
      refine ⟨la, by rw [z0]; omega, lc, by rw [z1]; omega, atD_any (P := fun d => ∃ l, d = .str (ofL l) ∧ l.length ≤ 1000 ∧ ¬ goodN l) (Int.emod_nonneg _ (by omega)) (Int.emod_lt_of_pos _ (by simp)) hodd ?_⟩
      rintro _ ⟨l, rfl, hll, hg⟩
      simp
      refine read_bad (n := n) hll hg ?_
      simp [Oc.tup]
      exact h
    · simp [str_repr]
      rw [hac]
      refine ⟨la, by rw [z0]; omega, lc, by rw [z1]; omega, atD_any (P := fun d => ∃ l, d = .str (ofL l) ∧ l.length ≤ 1000 ∧ ¬ goodN l) (Int.emod_nonneg _ (by omega)) (Int.emod_lt_of_pos _ (by simp)) hodd ?_⟩
      rintro _ ⟨l, rfl, hll, hg⟩
      simp
      refine read_bad (n := n) hll hg ?_
      simp [Oc.tup]
      exact h
  · obtain rfl := o2 hh
    simp [Oc.tup, hh]
    refine If_i (fun h3 => ?_) (fun h3 => ?_)
    · have h3 := of_decide_eq_true h3
      simp [str_repr]
      refine ⟨lg.resolve_right fun z => z h3, read_good (n := n) ⟨by omega, by omega⟩ fun o _ o2 => ?_⟩
      obtain rfl := o2 (by omega)
      simp [Oc.tup, str_repr]
      rw [hac]
      refine ⟨la, by rw [z0]; omega, lc, by rw [z1]; omega, atD_any (P := fun d => ∃ l, d = .str (ofL l) ∧ l.length ≤ 1000 ∧ ¬ goodN l) (Int.emod_nonneg _ (by omega)) (Int.emod_lt_of_pos _ (by simp)) hodd ?_⟩
      rintro _ ⟨l, rfl, hll, hg⟩
      simp
      refine read_bad (n := n) hll hg ?_
      simp [Oc.tup]
      exact h
    · simp [str_repr]
      rw [hac]
      refine ⟨la, by rw [z0]; omega, lc, by rw [z1]; omega, atD_any (P := fun d => ∃ l, d = .str (ofL l) ∧ l.length ≤ 1000 ∧ ¬ goodN l) (Int.emod_nonneg _ (by omega)) (Int.emod_lt_of_pos _ (by simp)) hodd ?_⟩
      rintro _ ⟨l, rfl, hll, hg⟩
      simp
      refine read_bad (n := n) hll hg ?_
      simp [Oc.tup]
      exact h
/-! k20: a domain of words -/
def W8 : List Str := ["two", "one", "three", "oneone", "o", "zero", "on", "abcdefghijkl"]
theorem w8_ok : (∀ w ∈ W8, wd w = true ∧ PyData.strOk w = true ∧ w.length ≤ 12) ∧ W8.Nodup := by decide +kernel
theorem w8_wsd {k : Nat} (h1 : 1 ≤ k) (h2 : k ≤ 8) : WsD (W8.take k) := ⟨fun w hw => (w8_ok.1 w (List.mem_of_mem_take hw)).2.1, w8_ok.2.sublist (List.take_sublist _ _), by rw [List.length_take]; show 1 ≤ min k 8; omega, by rw [List.length_take]; show min k 8 ≤ 40; omega⟩
theorem w8_len {k : Nat} (h2 : k ≤ 8) : (W8.take k).length = k := by rw [List.length_take]; show min k 8 = k; omega
theorem w_showW {ws : List Str} {k : Nat} {w : Str} (hw : ws[k]? = some w) (h : Q (.str w)) : (clo fs (n + 3)).call i_show_value [wrD ws, .int (k : Int)] Q R := by
  have hk := lt_get hw
  refine run_def rfl ⟨rfl, ?_⟩
  simp [f_show_value, env0, wrD]
  refine run_def rfl ⟨rfl, ?_⟩
  have h0 : (0 : Int) ≤ k := by omega
  have h1 : (k : Int) ≤ (ws.length : Int) - 1 := by omega
  simp [f_Words_worth, env0, h0, h1]
  refine run_def rfl ⟨rfl, ?_⟩
  simp [f_Words_told, env0]
  rw [atD_k hw]
  exact h
theorem odd8 : ∀ w ∈ W8, w ++ "x" ∉ W8 ∧ " " ++ w ∉ W8 ∧ PyData.strOk (w ++ "x") = true ∧ PyData.strOk (" " ++ w) = true := by decide +kernel
theorem odd8c : ∀ w ∈ (["", "not", "One", "tw", "-", "oneoneone"] : List Str), w ∉ W8 ∧ PyData.strOk w = true := by decide +kernel
theorem odd8n : ∀ k : Fin 8, ofL (digI (k.val : Int)) ∉ W8 ∧ PyData.strOk (ofL (digI (k.val : Int))) = true := by decide +kernel
theorem w_words_right {k : Nat} {c : Int} (h1 : 1 ≤ k) (h2 : k ≤ 8) (h : Q (.bl true)) : (clo fs (n + 5)).call i__law_words_right [wrD (W8.take k), .lst ((W8.take k).map .str), .int c] Q R := by
  have hd := w8_wsd h1 h2
  have hl := w8_len h2
  obtain ⟨ws, hws⟩ : ∃ ws, ws = W8.take k := ⟨_, rfl⟩
  rw [← hws] at hd hl
  rw [← hws]
  have hin : ∀ w ∈ ws, w ∈ W8 := fun w hw => by rw [hws] at hw; exact List.mem_of_mem_take hw
  refine run_def rfl ⟨rfl, ?_⟩
  simp [f__law_words_right, env0]
  obtain ⟨j, hj⟩ : ∃ j : Nat, c % 10037 * 619 % 10037 % (ws.length : Int) = j := ⟨_, (Int.toNat_of_nonneg (Int.emod_nonneg _ (by omega))).symm⟩
  have hjl : j < ws.length := by have := Int.emod_lt_of_pos (c % 10037 * 619 % 10037) (show (0 : Int) < (ws.length : Int) by omega); omega
  obtain ⟨w, hw⟩ := get_lt hjl
  have hwm := List.mem_of_getElem? hw
  rw [hj]
  refine ⟨by omega, w_showW (n := n + 1) hw ?_⟩
  simp
  rw [atD_k hw]
  simp
  refine w_read (n := n) (o := .said j) (fun {Q R} q => w_readW (n := n) hd (hd.ok w hwm) (fun k' e => by rw [(List.getElem?_inj (lt_get e) hd.nd).mp (e.trans hw.symm)]) (fun z => absurd hwm z) q) ?_
  simp
  refine w_said (n := n + 2) (o := .said j) rfl ?_
  have lj := log_ok (i := (j : Int)) (by omega) (by omega)
  have w12 := (w8_ok.1 w (hin w hwm)).2.2
  have lx : (Str.ofString "x").length = 1 := rfl
  have ls : (Str.ofString " ").length = 1 := rfl
  have sj : Str.ofString (toString (j : Int)) = ofL (digI j) := str_int _
  simp
  refine ⟨by simpa using lj, ?_⟩
  rw [atD_k hw]
  simp
  refine ⟨by rw [lx]; omega, ?_⟩
  rw [atD_k hw]
  simp
  refine ⟨by rw [ls]; omega, ?_⟩
  have no : ∀ s, s ∉ W8 → s ∉ ws := fun s h z => h (hin s z)
  have oc := odd8 w (hin w hwm)
  have on := odd8n ⟨j, by omega⟩
  refine atD_any (P := fun d => ∃ s, d = .str s ∧ s ∉ ws ∧ PyData.strOk s = true) (Int.emod_nonneg _ (by omega)) (Int.emod_lt_of_pos _ (by simp)) ?_ ?_
  · intro d hd
    simp only [List.mem_cons, List.not_mem_nil, or_false] at hd
    rcases hd with rfl | rfl | rfl | rfl | rfl | rfl | rfl | rfl | rfl
    · exact ⟨_, rfl, no _ (odd8c _ (by simp)).1, (odd8c _ (by simp)).2⟩
    · exact ⟨_, rfl, by rw [str_repr]; exact no _ on.1, by rw [str_repr]; exact on.2⟩
    · exact ⟨_, rfl, no _ (odd8c _ (by simp)).1, (odd8c _ (by simp)).2⟩
    · exact ⟨_, rfl, no _ (odd8c _ (by simp)).1, (odd8c _ (by simp)).2⟩
    · exact ⟨_, rfl, no _ (odd8c _ (by simp)).1, (odd8c _ (by simp)).2⟩
    · exact ⟨_, rfl, no _ oc.1, oc.2.2.1⟩
    · exact ⟨_, rfl, no _ oc.2.1, oc.2.2.2⟩
    · exact ⟨_, rfl, no _ (odd8c _ (by simp)).1, (odd8c _ (by simp)).2⟩
    · exact ⟨_, rfl, no _ (odd8c _ (by simp)).1, (odd8c _ (by simp)).2⟩
  rintro _ ⟨s, rfl, hs1, hs2⟩
  simp
  refine w_read (n := n) (o := .out) (fun {Q R} q => w_readW (n := n) hd hs2 (fun k' e => absurd (List.mem_of_getElem? e) hs1) (fun _ => rfl) q) ?_
  simp [Oc.tup]
  exact h
theorem w_NumbersC {lo hi : Int} {Q : List Str → List D → Prop} (hl : lo ≤ hi) (h : Q ["low", "high"] [.int lo, .int hi]) : (clo fs (n + 3)).mkr i_Numbers___init__ "Numbers" [.int lo, .int hi] Q R := by
  refine run_mkr rfl ⟨rfl, ?_⟩
  have : ¬ hi < lo := by omega
  simp [f_Numbers___init__, env0, this]
  refine w_Domain (by simp) (by simp) ?_
  simp
  exact h
theorem law_n (n : Nat) (ns : List Int) (hl : ns.length ≤ 63) (hb : ∀ x ∈ ns, Bt x) : (clo fs (n + 7)).call i_law [.scr ns] (fun d => d = .bl true) (fun _ => False) := by
  refine run_def rfl ⟨rfl, ?_⟩
  simp [f_law, env0]
  refine w_cellB (by omega) hb fun c0 b0 => ?_
  simp
  refine w_low b0 fun lo nlo => ?_
  simp
  refine w_cellB (by omega) hb fun c1 b1 => ?_
  simp
  refine w_high nlo b1 fun hi nhi hle => ?_
  simp
  refine w_cellB (by omega) hb fun c2 b2 => ?_
  simp
  obtain ⟨j, hj⟩ : ∃ j : Nat, c2 % 10061 * 641 % 10061 % 8 = j := ⟨_, (Int.toNat_of_nonneg (Int.emod_nonneg _ (by omega))).symm⟩
  have hj8 : j < 8 := by have := Int.emod_lt_of_pos (c2 % 10061 * 641 % 10061) (show (0 : Int) < 8 by omega); omega
  rw [hj, show (1 : Int) + j = ((j + 1 : Nat) : Int) by omega]
  rw [show [D.str "two", D.str "one", D.str "three", D.str "oneone", D.str "o", D.str "zero", D.str "on", D.str "abcdefghijkl"] = W8.map D.str from rfl, cutD_tkm (g := D.str)]
  have hw8 : ∀ w ∈ W8.take (j + 1), wd w = true ∧ PyData.strOk w = true ∧ w.length ≤ 12 := fun w hw => w8_ok.1 w (List.mem_of_mem_take hw)
  have hwl := w8_len (k := j + 1) (by omega)
  refine w_NumbersC (n := n + 3) hle ?_
  simp [-List.map_take]
  refine w_WordsG (n := n + 3) (fun w hw => ⟨(hw8 w hw).2.1, by have := (hw8 w hw).2.2; omega⟩) (by rw [hwl]; omega) (fun _ => ?_) fun z => absurd ⟨by rw [hwl]; omega, by rw [hwl]; omega, fun w hw => (hw8 w hw).1, w8_ok.2.sublist (List.take_sublist _ _)⟩ z
  simp [-List.map_take]
  have hcl := cutI_len (ns := ns) (lo := some 2) (hi := none)
  refine ⟨by omega, ?_⟩
  rw [show D.ins "Numbers" ["low", "high"] [.int lo, .int hi] = nmD lo hi from rfl, show D.ins "Words" ["low", "high", "words"] [.int 0, .int (((min (j + 1) W8.length : Nat) : Int) - 1), .lst ((W8.take (j + 1)).map .str)] = wrD (W8.take (j + 1)) from by unfold wrD; rw [List.length_take]]
  rw [show D.int 0 :: (cutI ns (some 2) none).map D.int = (0 :: cutI ns (some 2) none).map D.int from rfl]
  refine loopF_ind D.int (fun rest env => ∃ s7 : Sl, env = [.val (.scr ns) false, .val (.int lo) true, .val (.int hi) true, .val (.int (j + 1)) true, .own ((W8.take (j + 1)).map .str) true, .val (nmD lo hi) true, .val (wrD (W8.take (j + 1))) true, s7] ∧ ∀ x ∈ rest, Bt x) ⟨_, rfl, fun x hx => ?_⟩ ?_ ?_
  · rcases List.mem_cons.mp hx with rfl | hx
    · exact bt_0
    · exact hb x (cutI_mem hx)
  · rintro _ ⟨s7, rfl, _⟩
    simp
  · rintro c rest _ P ⟨s7, rfl, hbt⟩ hP
    simp [-List.map_take]
    refine w_numbers_right (n := n + 1) (hbt c List.mem_cons_self) nlo nhi hle ?_
    simp [-List.map_take]
    refine w_words_right (n := n + 1) (k := j + 1) (by omega) (by omega) ?_
    simp [-List.map_take]
    exact hP _ ⟨_, rfl, fun x hx => hbt x (List.mem_cons_of_mem _ hx)⟩
theorem goal : Goal := fun ns hl hb => law_n 54 ns hl hb
end Lw_k20_values

theorem PySem.Challenge.cw_rowjudge_k20_values_holds : PySem.Challenge.rw_rowjudge_k20_values.Holds := by
  exact Lw_k20_values.law_from Lw_k20_values.goal
