import PyProof.Rows.All
import Wide.All
import OpenK.AllK
import Wide.FinOn
import KE.KStateDown
import HandS.ForMost
import HandS.Exc
import HandS.ExcOwn
import HandS.Head0
import HandS.Head1
import HandS.Head2
import HandS.HeadHook1
import HandS.WordsExc
import HandS.SetFor
import HandS.Strs
import HandS.Zip
import PyProof.StrBlockL
import HandS.TupAny
import HandS.IsInst
import HandS.Wide
import HandS.Style
import HandS.SortInts
import KE.SortData
import HandS.Deep
import KE.DataMinMax
import HandS.Iter
import HandS.More
import HandS.SortOrd
import HandS.WordsDict
import HandS.Conv
import HandS.Text
import HandS.Dict
import HandS.Small
import HandS.TryMany
import HandS.EndBits
import HandS.ExcIs
import KE.KxLen
import HandS.HeadEnd
import PySem.Challenge.RW_trussel_k30_coins_written
set_option Elab.async false
set_option linter.all false
set_option maxRecDepth 100000
/-! EvX: the small head's hook (Booleans of the fragment, the defs' functions). -/
noncomputable section
namespace Ev
open PySem L2
abbrev AlX : Type := Bool × List He.FnV
def obsX (bs : List (PySem.W.Frag → Bool)) (fn : List He.FnD) (K : PySem.W.Frag) : AlX := ((bs.all fun b => b K) && fn.all fun d => (He.Fa.code d.at_ d.qual).ok K, fn.map fun d => He.fnObs K d.at_)
def valX (fn : List He.FnD) : AlX := (true, fn.map He.FnD.val)
def SaysX (bs : List (PySem.W.Frag → Bool)) (fn : List He.FnD) (K : PySem.W.Frag) : Prop := obsX bs fn K = valX fn
/-- the objects that an object leads to: a dict's values, a function's code, a class's names -/
def refsX (o : Obj) : List Addr := match o.data with
  | .dict es _ => es.toList.flatMap fun e => He.refV e.val
  | .func fd => He.refV fd.code
  | .cls cd => [cd.ns]
  | _ => []
def nxtX (g : Addr → Option Obj) (as : List Addr) : List Addr := as.flatMap fun a => match g a with
  | some o => refsX o
  | none => []
/-- the module's names, their codes and classes' names, the methods, their codes -/
def asX (g : Addr → Option Obj) : List Addr :=
  let a1 := nxtX g [mainGlobals]
  let a2 := nxtX g a1
  let a3 := nxtX g a2
  mainGlobals :: (a1 ++ (a2 ++ (a3 ++ nxtX g a3)))
def obsXG (bs : List (PySem.W.Frag → Bool)) (fn : List He.FnD) (g : Addr → Option Obj) : AlX := obsX bs fn (He.frG g (asX g))
def hookX (bs : List (PySem.W.Frag → Bool)) (fn : List He.FnD) : PySem.W.Hook where
  α := AlX
  obs := fun s => obsXG bs fn s.heap.get?
  val := fun _ => valX fn
  says := fun _ h => ∃ K : PySem.W.Frag, K.In h ∧ SaysX bs fn K
  of := fun _ _ e => ⟨_, He.frG_in, e⟩
  keeps := fun _ _ _ ⟨K, hK, c⟩ k => ⟨K, PySem.W.Frag.In.keeps hK k, c⟩
theorem obsXG_eq {bs : List (PySem.W.Frag → Bool)} {fn : List He.FnD} {g : Addr → Option Obj} {s : Shared} (h : ∀ a, g a = s.heap.get? a) : obsXG bs fn g = (hookX bs fn).obs s := by
  have e : g = s.heap.get? := funext h
  rw [e] <;> rfl
/-- a name's whole number, its text, its pair of texts -/
def isI (x : Str) (i : Int) (K : PySem.W.Frag) : Bool := match PySem.W.nsIn K mainGlobals x with
  | some (some (.int j _)) => decide (j = i)
  | _ => false
theorem isI_ok {x : Str} {i : Int} {K : PySem.W.Frag} (h : isI x i K = true) : ∃ t, PySem.W.nsIn K mainGlobals x = some (some (.int i t)) := by
  unfold isI at h
  split at h
  · next j t e => rw [e, of_decide_eq_true h]; exact ⟨_, rfl⟩
  · cases h
def isS (x z : Str) (K : PySem.W.Frag) : Bool := match PySem.W.nsIn K mainGlobals x with
  | some (some (.str y _)) => decide (y = z)
  | _ => false
theorem isS_ok {x z : Str} {K : PySem.W.Frag} (h : isS x z K = true) : ∃ t, PySem.W.nsIn K mainGlobals x = some (some (.str z t)) := by
  unfold isS at h
  split at h
  · next j t e => rw [e, of_decide_eq_true h]; exact ⟨_, rfl⟩
  · cases h
def isT2 (x y z : Str) (K : PySem.W.Frag) : Bool := match K.lookup (He.ga K x) with
  | some ⟨.type c, _, .seq ⟨its⟩ _, _⟩ => decide (c = "tuple") && (match its with
    | [.str a _, .str b _] => decide (a = y) && decide (b = z)
    | _ => false)
  | _ => false
theorem isT2_ok {x y z : Str} {K : PySem.W.Frag} (h : isT2 x y z K = true) : ∃ (t u : Tok) (od : Option Addr) (n : Nat) (sl : Array (Option Value)), K.lookup (He.ga K x) = some ⟨.type "tuple", od, .seq #[.str y t, .str z u] n, sl⟩ := by
  unfold isT2 at h
  split at h
  · next c od its n sl e =>
    obtain ⟨h1, h2⟩ := He.ba h
    split at h2
    · next a t b u =>
      obtain ⟨h3, h4⟩ := He.ba h2
      rw [e, of_decide_eq_true h1, of_decide_eq_true h3, of_decide_eq_true h4]
      exact ⟨_, _, _, _, _, rfl⟩
    · cases h2
  · cases h
section
variable {bs : List (PySem.W.Frag → Bool)} {fn : List He.FnD} {K : PySem.W.Frag}
theorem SaysX.fact (c : SaysX bs fn K) (i : Nat) {b : PySem.W.Frag → Bool} (h : bs[i]? = some b) : b K = true := by
  have c1 := (He.ba (show ((bs.all fun b => b K) && fn.all fun d => (He.Fa.code d.at_ d.qual).ok K) = true from congrArg (fun z : AlX => z.1) c)).1
  exact List.all_eq_true.mp c1 b (List.mem_of_getElem? h)
theorem SaysX.def_ (c : SaysX bs fn K) (i : Nat) {d : He.FnD} (h : fn[i]? = some d) :
    ∃ oc od osl kV doc pm an cdv ct, K.lookup (He.fAd K d.at_) = some ⟨oc, od, .func (PySem.W.fnOf d.name d.qual d.params d.body d.scope .none kV doc pm an cdv ct), osl⟩ ∧ PySem.W.codeIn K cdv d.qual = true := by
  have c2 := (He.ba (show ((bs.all fun b => b K) && fn.all fun d => (He.Fa.code d.at_ d.qual).ok K) = true from congrArg (fun z : AlX => z.1) c)).2
  have e : fn.map (fun d => He.fnObs K d.at_) = fn.map He.FnD.val := congrArg (fun z : AlX => z.2) c
  have e2 : (fn.map fun d => He.fnObs K d.at_)[i]? = (fn.map He.FnD.val)[i]? := by rw [e]
  rw [List.getElem?_map, List.getElem?_map, h] at e2
  exact He.fn_ok (Option.some.inj e2) (List.all_eq_true.mp c2 d (List.mem_of_getElem? h))
end
end Ev
end
set_option Elab.async false
set_option linter.all false
set_option maxRecDepth 100000
set_option maxHeartbeats 0
noncomputable section
namespace Lw
open PySem PySem.W PySem.Calls PyProof.Rows L2 Ev
def top (i : Nat) : Stmt := PySem.Challenge.pw_trussel_k30_coins_written.main.body.getD i (.Pass ⟨0, 0, 0, 0⟩)
abbrev st_law_open : Stmt := top 15
abbrev st_law_pull : Stmt := top 16
abbrev st_law_far : Stmt := top 17
abbrev st_law_bent_coin : Stmt := top 23
abbrev st_law_some_marks : Stmt := top 22
abbrev st_law_drawn_coin : Stmt := top 24
abbrev st_law_marks_ok : Stmt := top 20
abbrev st_law_coin_ok : Stmt := top 21
abbrev st_law_coin_words : Stmt := top 25
abbrev st_law_num : Stmt := top 18
abbrev st_law_like : Stmt := top 19
abbrev st_good_marks : Stmt := top 5
abbrev st_good_coin : Stmt := top 9
abbrev st_marks_text : Stmt := top 11
abbrev st_side_text : Stmt := top 12
abbrev st_coin_text : Stmt := top 13
abbrev st_law_asked : Stmt := top 26
abbrev st_law : Stmt := top 27
abbrev HR : OpenRow := OpenLaw.row PySem.Challenge.rw_trussel_k30_coins_written
abbrev qv : Program := view HR.prog [27]
def hnm0 : List PySem.Str := [("MintError" : PySem.Str),
  ("BadCoin" : PySem.Str),
  ("SPOTS" : PySem.Str),
  ("good_marks" : PySem.Str),
  ("MOST_DIES" : PySem.Str),
  ("LAST_YEAR" : PySem.Str),
  ("good_coin" : PySem.Str),
  ("marks_text" : PySem.Str),
  ("side_text" : PySem.Str),
  ("coin_text" : PySem.Str),
  ("_law_open" : PySem.Str),
  ("_law_pull" : PySem.Str),
  ("_law_far" : PySem.Str),
  ("_law_num" : PySem.Str),
  ("_law_like" : PySem.Str),
  ("_law_marks_ok" : PySem.Str),
  ("_law_coin_ok" : PySem.Str),
  ("_law_some_marks" : PySem.Str),
  ("_law_bent_coin" : PySem.Str),
  ("_law_drawn_coin" : PySem.Str),
  ("_law_coin_words" : PySem.Str),
  ("_law_asked" : PySem.Str)]
def hnm : List PySem.Str := hnm0
def hbs0 : List (PySem.W.Frag → Bool) := [fun K => He.eqO (PySem.W.nsIn K mainGlobals "_law_open") (some (some (.ref (He.ga K "_law_open")))),
  fun K => PySem.W.keepIn K (.ref (He.ga K "_law_open")),
  fun K => He.eqO (PySem.W.nsIn K mainGlobals "_law_pull") (some (some (.ref (He.ga K "_law_pull")))),
  fun K => PySem.W.keepIn K (.ref (He.ga K "_law_pull")),
  fun K => He.eqO (PySem.W.nsIn K mainGlobals "_law_far") (some (some (.ref (He.ga K "_law_far")))),
  fun K => PySem.W.keepIn K (.ref (He.ga K "_law_far")),
  fun K => He.eqO (PySem.W.nsIn K mainGlobals "_law_bent_coin") (some (some (.ref (He.ga K "_law_bent_coin")))),
  fun K => PySem.W.keepIn K (.ref (He.ga K "_law_bent_coin")),
  fun K => He.eqO (PySem.W.nsIn K mainGlobals "_law_some_marks") (some (some (.ref (He.ga K "_law_some_marks")))),
  fun K => PySem.W.keepIn K (.ref (He.ga K "_law_some_marks")),
  fun K => He.eqO (PySem.W.nsIn K mainGlobals "_law_drawn_coin") (some (some (.ref (He.ga K "_law_drawn_coin")))),
  fun K => PySem.W.keepIn K (.ref (He.ga K "_law_drawn_coin")),
  fun K => He.eqO (PySem.W.nsIn K mainGlobals "_law_marks_ok") (some (some (.ref (He.ga K "_law_marks_ok")))),
  fun K => PySem.W.keepIn K (.ref (He.ga K "_law_marks_ok")),
  fun K => He.eqO (PySem.W.nsIn K mainGlobals "_law_coin_ok") (some (some (.ref (He.ga K "_law_coin_ok")))),
  fun K => PySem.W.keepIn K (.ref (He.ga K "_law_coin_ok")),
  fun K => He.eqO (PySem.W.nsIn K mainGlobals "_law_coin_words") (some (some (.ref (He.ga K "_law_coin_words")))),
  fun K => PySem.W.keepIn K (.ref (He.ga K "_law_coin_words")),
  fun K => He.eqO (PySem.W.nsIn K mainGlobals "_law_num") (some (some (.ref (He.ga K "_law_num")))),
  fun K => PySem.W.keepIn K (.ref (He.ga K "_law_num")),
  fun K => He.eqO (PySem.W.nsIn K mainGlobals "_law_like") (some (some (.ref (He.ga K "_law_like")))),
  fun K => PySem.W.keepIn K (.ref (He.ga K "_law_like")),
  fun K => He.eqO (PySem.W.nsIn K mainGlobals "good_marks") (some (some (.ref (He.ga K "good_marks")))),
  fun K => PySem.W.keepIn K (.ref (He.ga K "good_marks")),
  fun K => He.eqO (PySem.W.nsIn K mainGlobals "good_coin") (some (some (.ref (He.ga K "good_coin")))),
  fun K => PySem.W.keepIn K (.ref (He.ga K "good_coin")),
  fun K => He.eqO (PySem.W.nsIn K mainGlobals "marks_text") (some (some (.ref (He.ga K "marks_text")))),
  fun K => PySem.W.keepIn K (.ref (He.ga K "marks_text")),
  fun K => He.eqO (PySem.W.nsIn K mainGlobals "side_text") (some (some (.ref (He.ga K "side_text")))),
  fun K => PySem.W.keepIn K (.ref (He.ga K "side_text"))]
def hbs1 : List (PySem.W.Frag → Bool) := [fun K => He.eqO (PySem.W.nsIn K mainGlobals "coin_text") (some (some (.ref (He.ga K "coin_text")))),
  fun K => PySem.W.keepIn K (.ref (He.ga K "coin_text")),
  fun K => He.eqO (PySem.W.nsIn K mainGlobals "_law_asked") (some (some (.ref (He.ga K "_law_asked")))),
  fun K => PySem.W.keepIn K (.ref (He.ga K "_law_asked")),
  fun K => He.eqO (PySem.W.nsIn K mainGlobals "law") (some (some (.ref (He.ga K "law")))),
  fun K => PySem.W.keepIn K (.ref (He.ga K "law")),
  isI "SPOTS" 8,
  isI "MOST_DIES" 99,
  isI "LAST_YEAR" 9999,
  fun K => He.eqO (PySem.W.nsIn K mainGlobals "BadCoin") (some (some (.ref (He.ga K "BadCoin")))),
  fun K => PySem.W.keepIn K (.ref (He.ga K "BadCoin")),
  fun K => PySem.W.excIn K (He.ga K "BadCoin") [.type "ValueError", .type "Exception", .type "BaseException", .type "object"] "ValueError.__new__",
  fun K => decide (PySem.W.subIn K (.ref (He.ga K "BadCoin")) (.type "BaseException") = some true),
  fun K => decide (PySem.W.typeIn K (.ref (He.ga K "BadCoin")) = some (.type "type")),
  fun K => PySem.W.hasDictIn K (He.ga K "BadCoin"),
  fun K => decide (PySem.W.subIn K (.ref (He.ga K "BadCoin")) (.ref (He.ga K "BadCoin")) = some true),
  fun K => He.eqO (PySem.W.nsIn K mainGlobals "len") (some none),
  fun K => He.eqO (PySem.W.nsIn K mainGlobals "list") (some none),
  fun K => He.eqO (PySem.W.nsIn K mainGlobals "tuple") (some none),
  fun K => He.eqO (PySem.W.nsIn K mainGlobals "all") (some none),
  fun K => He.eqO (PySem.W.nsIn K mainGlobals "any") (some none),
  fun K => He.eqO (PySem.W.nsIn K mainGlobals "sum") (some none),
  fun K => He.eqO (PySem.W.nsIn K mainGlobals "sorted") (some none),
  fun K => He.eqO (PySem.W.nsIn K mainGlobals "min") (some none),
  fun K => He.eqO (PySem.W.nsIn K mainGlobals "max") (some none),
  fun K => He.eqO (PySem.W.nsIn K mainGlobals "int") (some none),
  fun K => He.eqO (PySem.W.nsIn K mainGlobals "str") (some none),
  fun K => He.eqO (PySem.W.nsIn K mainGlobals "bool") (some none),
  fun K => He.eqO (PySem.W.nsIn K mainGlobals "dict") (some none),
  fun K => He.eqO (PySem.W.nsIn K mainGlobals "isinstance") (some none)]
def hbs2 : List (PySem.W.Frag → Bool) := [fun K => He.eqO (PySem.W.nsIn K mainGlobals "range") (some none),
  fun K => He.eqO (PySem.W.nsIn K mainGlobals "enumerate") (some none),
  fun K => He.eqO (PySem.W.nsIn K mainGlobals "set") (some none)]
def hbs : List (PySem.W.Frag → Bool) := hbs0 ++ (hbs1 ++ (hbs2))
def hfn0 : List He.FnD := [⟨("_law_open", none), "_law_open", "_law_open", L2.defArgs st_law_open, L2.defBody st_law_open, L2.defScope st_law_open⟩,
  ⟨("_law_pull", none), "_law_pull", "_law_pull", L2.defArgs st_law_pull, L2.defBody st_law_pull, L2.defScope st_law_pull⟩,
  ⟨("_law_far", none), "_law_far", "_law_far", L2.defArgs st_law_far, L2.defBody st_law_far, L2.defScope st_law_far⟩,
  ⟨("_law_bent_coin", none), "_law_bent_coin", "_law_bent_coin", L2.defArgs st_law_bent_coin, L2.defBody st_law_bent_coin, L2.defScope st_law_bent_coin⟩,
  ⟨("_law_some_marks", none), "_law_some_marks", "_law_some_marks", L2.defArgs st_law_some_marks, L2.defBody st_law_some_marks, L2.defScope st_law_some_marks⟩,
  ⟨("_law_drawn_coin", none), "_law_drawn_coin", "_law_drawn_coin", L2.defArgs st_law_drawn_coin, L2.defBody st_law_drawn_coin, L2.defScope st_law_drawn_coin⟩,
  ⟨("_law_marks_ok", none), "_law_marks_ok", "_law_marks_ok", L2.defArgs st_law_marks_ok, L2.defBody st_law_marks_ok, L2.defScope st_law_marks_ok⟩,
  ⟨("_law_coin_ok", none), "_law_coin_ok", "_law_coin_ok", L2.defArgs st_law_coin_ok, L2.defBody st_law_coin_ok, L2.defScope st_law_coin_ok⟩,
  ⟨("_law_coin_words", none), "_law_coin_words", "_law_coin_words", L2.defArgs st_law_coin_words, L2.defBody st_law_coin_words, L2.defScope st_law_coin_words⟩,
  ⟨("_law_num", none), "_law_num", "_law_num", L2.defArgs st_law_num, L2.defBody st_law_num, L2.defScope st_law_num⟩,
  ⟨("_law_like", none), "_law_like", "_law_like", L2.defArgs st_law_like, L2.defBody st_law_like, L2.defScope st_law_like⟩,
  ⟨("good_marks", none), "good_marks", "good_marks", L2.defArgs st_good_marks, L2.defBody st_good_marks, L2.defScope st_good_marks⟩,
  ⟨("good_coin", none), "good_coin", "good_coin", L2.defArgs st_good_coin, L2.defBody st_good_coin, L2.defScope st_good_coin⟩,
  ⟨("marks_text", none), "marks_text", "marks_text", L2.defArgs st_marks_text, L2.defBody st_marks_text, L2.defScope st_marks_text⟩,
  ⟨("side_text", none), "side_text", "side_text", L2.defArgs st_side_text, L2.defBody st_side_text, L2.defScope st_side_text⟩,
  ⟨("coin_text", none), "coin_text", "coin_text", L2.defArgs st_coin_text, L2.defBody st_coin_text, L2.defScope st_coin_text⟩,
  ⟨("_law_asked", none), "_law_asked", "_law_asked", L2.defArgs st_law_asked, L2.defBody st_law_asked, L2.defScope st_law_asked⟩,
  ⟨("law", none), "law", "law", L2.defArgs st_law, L2.defBody st_law, L2.defScope st_law⟩]
def hfn : List He.FnD := hfn0
theorem hrun (w : World) : HandSHeadRun.RunEq HR qv (hookX hbs hfn) (fun s => obsXG hbs hfn (HandSHeadRun.getT s)) 14000 hnm w := by
  intro os
  kernel_rfl
theorem hopen : opening HR.prog = plainProg HR.prog.main.scope.names := by kernel_rfl
theorem hfence (s : Shared) : fenceModules? HR.prog s = some s := by kernel_rfl
theorem hdef : defOf qv HR.name = some (HandSHeadRun.topDef HR.prog 27, []) := by kernel_rfl
theorem hthe : HR.prog.theDef HR.name = some ((HandSHeadRun.topDef HR.prog 27).params, (HandSHeadRun.topDef HR.prog 27).body, (HandSHeadRun.topDef HR.prog 27).scope) := by kernel_rfl
theorem hkw : kwWritten? (HandSHeadRun.topDef HR.prog 27).params.kwonlyargs (HandSHeadRun.topDef HR.prog 27).params.kw_defaults = some [] := by kernel_rfl
theorem hnam : (HandSHeadRun.topDef HR.prog 27).name = ("law" : PySem.Str) := by kernel_rfl
theorem hdfl : (HandSHeadRun.topDef HR.prog 27).params.defaults = [] := by kernel_rfl
end Lw
end
set_option Elab.async false
set_option linter.all false
set_option maxRecDepth 100000
/-! EvA: values as data, the small store, and how both stand for HandS's heap. -/
namespace Ev
open PySem L2
/-- new: just made, known to none; frz: never changed from now on; bor: lent for this call; scr: the script -/
inductive Kd where
  | new | frz | bor | scr
  deriving DecidableEq
inductive PV where
  | non | bl (b : Bool) | int (i : Int) | str (x : Str)
  | tup (xs : List PV)
  | ref (l : Nat)
  | lst (k : Kd) (xs : List PV)
  | dK (k : Kd) (ks : List Key) (xs : List PV)
  | dT (k : Kd) (ks : List (List Key)) (xs : List PV)
inductive PO where
  | lst (xs : List PV)
  | dK (kvs : List (Key × PV))
  | dT (kvs : List (List Key × PV))
  | ins (C : Nat) (fs : List (Str × PV))
abbrev Store := List PO
abbrev Loc := List (Option PV)
inductive Res (α : Type) where
  | ok (a : α) (S : Store)
  | exc (c : Nat) (p : Option PV) (S : Store)
  | fail
namespace Res
def bind {α β : Type} (r : Res α) (f : α → Store → Res β) : Res β := match r with
  | ok a S => f a S
  | exc c p S => exc c p S
  | fail => fail
@[simp] theorem bind_ok {α β : Type} (a : α) (S : Store) (f : α → Store → Res β) : (ok a S).bind f = f a S := rfl
@[simp] theorem bind_exc {α β : Type} (c : Nat) (p : Option PV) (S : Store) (f : α → Store → Res β) : (exc c p S : Res α).bind f = exc c p S := rfl
@[simp] theorem bind_fail {α β : Type} (f : α → Store → Res β) : (fail : Res α).bind f = fail := rfl
end Res
/-! ### the relation -/
/-- what a value is told over: B the heap that is never touched, F what is never changed, m where the store's objects stand, C where the classes stand -/
structure Cn where
  K : PySem.W.Frag
  B : Hp
  F : Hp
  m : List Addr
  C : Nat → Addr
def LOk (c : Cn) (H : Hp) (a : Addr) (vs : List V) : Kd → Prop
  | .new => H a = some (.lst vs) ∧ c.F a = none ∧ c.B a = none ∧ a ∉ c.m
  | .frz => c.F a = some (.lst vs)
  | .bor => c.B a = some (.lst vs)
  | .scr => SqL c.K c.B a vs
def DKOk (c : Cn) (H : Hp) (a : Addr) (vs : List (Key × V)) : Kd → Prop
  | .new => H a = some (.dK vs) ∧ c.F a = none ∧ c.B a = none ∧ a ∉ c.m
  | .frz => c.F a = some (.dK vs)
  | .bor => c.B a = some (.dK vs)
  | .scr => False
def DTOk (c : Cn) (H : Hp) (a : Addr) (vs : List (List Key × V)) : Kd → Prop
  | .new => H a = some (.dT vs) ∧ c.F a = none ∧ c.B a = none ∧ a ∉ c.m
  | .frz => c.F a = some (.dT vs)
  | .bor => c.B a = some (.dT vs)
  | .scr => False
def own (k : Kd) (a : Addr) (fp : List Addr) : List Addr := if k = .new then a :: fp else fp
mutual
def RN (c : Cn) (H : Hp) : PV → V → List Addr → Prop
  | .non, v, fp => v = .non ∧ fp = []
  | .bl b, v, fp => v = .bl b ∧ fp = []
  | .int i, v, fp => v = .int i ∧ fp = []
  | .str x, v, fp => v = .str x ∧ fp = []
  | .tup xs, v, fp => ∃ a vs, v = .ref a ∧ SqT c.K H a vs ∧ RNs c H xs vs fp
  | .ref l, v, fp => ∃ a, c.m[l]? = some a ∧ v = .ref a ∧ fp = []
  | .lst k xs, v, fp => ∃ a vs fp', v = .ref a ∧ LOk c H a vs k ∧ RNs c H xs vs fp' ∧ fp = own k a fp' ∧ (k = .new ∨ fp' = [])
  | .dK k ks xs, v, fp => ∃ a vs fp', v = .ref a ∧ DKOk c H a (ks.zip vs) k ∧ ks.length = vs.length ∧ RNs c H xs vs fp' ∧ fp = own k a fp' ∧ (k = .new ∨ fp' = [])
  | .dT k ks xs, v, fp => ∃ a vs fp', v = .ref a ∧ DTOk c H a (ks.zip vs) k ∧ ks.length = vs.length ∧ RNs c H xs vs fp' ∧ fp = own k a fp' ∧ (k = .new ∨ fp' = [])
def RNs (c : Cn) (H : Hp) : List PV → List V → List Addr → Prop
  | [], vs, fp => vs = [] ∧ fp = []
  | x :: xs, vs, fp => ∃ v r f1 f2, vs = v :: r ∧ RN c H x v f1 ∧ RNs c H xs r f2 ∧ fp = f1 ++ f2
end
/-- a settled value: nothing new in it -/
abbrev RV (c : Cn) (H : Hp) (x : PV) (v : V) : Prop := RN c H x v []
abbrev RVs (c : Cn) (H : Hp) (xs : List PV) (vs : List V) : Prop := RNs c H xs vs []
def RVk {κ : Type} (c : Cn) (H : Hp) : List (κ × PV) → List (κ × V) → Prop := Paired fun p q => p.1 = q.1 ∧ RV c H p.2 q.2
def RO (c : Cn) (H : Hp) (a : Addr) : PO → Prop
  | .lst xs => ∃ vs, H a = some (.lst vs) ∧ RVs c H xs vs
  | .dK kvs => ∃ vs, H a = some (.dK vs) ∧ RVk c H kvs vs
  | .dT kvs => ∃ vs, H a = some (.dT vs) ∧ RVk c H kvs vs
  | .ins C fs => ∃ dx vs, H a = some (.ins (c.C C) dx vs) ∧ RVk c H fs vs
/-- a local's slot -/
def RL (c : Cn) (H : Hp) : Option PV → Option V → Prop
  | none, _ => True
  | some x, some v => RV c H x v
  | some _, none => False
abbrev RLs (c : Cn) (H : Hp) : Loc → St → Prop := Paired (RL c H)
/-- the store stands in the heap -/
structure Rel (c : Cn) (S : Store) (H : Hp) : Prop where
  len : c.m.length = S.length
  nd : c.m.Nodup
  obj : ∀ (i : Nat) (o : PO) (a : Addr), S[i]? = some o → c.m[i]? = some a → RO c H a o
  mB : ∀ a, a ∈ c.m → c.B a = none
  mF : ∀ a, a ∈ c.m → c.F a = none
  bh : ∀ a o, c.B a = some o → H a = some o
  fh : ∀ a o, c.F a = some o → H a = some o
/-- what is never changed, whoever holds it -/
def Imm : HO → Prop
  | .tup _ => True
  | .frz _ _ => True
  | _ => False
/-- one thing after the other -/
structure Tr (c : Cn) (H : Hp) (c' : Cn) (H' : Hp) : Prop where
  K : c'.K = c.K
  B : c'.B = c.B
  C : c'.C = c.C
  pre : c.m <+: c'.m
  mnew : ∀ a, a ∈ c'.m → a ∈ c.m ∨ H a = none
  fk : ∀ a o, c.F a = some o → c'.F a = some o
  fnew : ∀ a o, c'.F a = some o → c.F a = some o ∨ H a = none
  keep : ∀ a o, H a = some o → (a ∉ c.m ∨ Imm o) → H' a = some o
  there : ∀ a, H' a = none → H a = none
theorem Tr.refl (c : Cn) (H : Hp) : Tr c H c H := ⟨rfl, rfl, rfl, List.prefix_refl _, fun _ h => .inl h, fun _ _ h => h, fun _ _ h => .inl h, fun _ _ h _ => h, fun _ h => h⟩
theorem Tr.trans {c c1 c2 : Cn} {H H1 H2 : Hp} (a : Tr c H c1 H1) (b : Tr c1 H1 c2 H2) : Tr c H c2 H2 where
  K := b.K.trans a.K
  B := b.B.trans a.B
  C := b.C.trans a.C
  pre := a.pre.trans b.pre
  mnew := fun x hx => (b.mnew x hx).elim (a.mnew x) fun h => .inr (a.there x h)
  fk := fun x o h => b.fk x o (a.fk x o h)
  fnew := fun x o h => (b.fnew x o h).elim (a.fnew x o) fun h => .inr (a.there x h)
  keep := fun x o h hm => b.keep x o (a.keep x o h hm) (by
    rcases hm with hm | hi
    · refine .inl fun hx => ?_
      rcases a.mnew x hx with h' | h'
      · exact hm h'
      · rw [h] at h'; cases h'
    · exact .inr hi)
  there := fun x h => a.there x (b.there x h)
theorem Rel.alive {c : Cn} {S : Store} {H : Hp} (R : Rel c S H) {a : Addr} (h : a ∈ c.m) : ∃ o, H a = some o ∧ ¬ Imm o := by
  obtain ⟨i, hi⟩ := List.getElem?_of_mem h
  obtain ⟨o, ho⟩ : ∃ o, S[i]? = some o := by
    have hl : i < S.length := by rw [← R.len]; exact (List.getElem?_eq_some_iff.mp hi).1
    exact ⟨_, List.getElem?_eq_getElem hl⟩
  have h2 := R.obj i o a ho hi
  cases o with
  | lst xs => obtain ⟨vs, e, _⟩ := h2; exact ⟨_, e, id⟩
  | dK kvs => obtain ⟨vs, e, _⟩ := h2; exact ⟨_, e, id⟩
  | dT kvs => obtain ⟨vs, e, _⟩ := h2; exact ⟨_, e, id⟩
  | ins C fs => obtain ⟨dx, vs, e, _⟩ := h2; exact ⟨_, e, id⟩
/-! ### what is told stays told -/
theorem SqT.tr {c c' : Cn} {H H' : Hp} {a : Addr} {vs : List V} (t : Tr c H c' H') (h : SqT c.K H a vs) : SqT c'.K H' a vs := by
  rcases h with (h | ⟨o, h⟩) | h
  · exact .inl (.inl (t.keep a _ h (.inr trivial)))
  · exact .inl (.inr ⟨o, t.keep a _ h (.inr trivial)⟩)
  · exact .inr (by rw [t.K]; exact h)
theorem own_ne {k : Kd} {a : Addr} {fp : List Addr} (h : k ≠ .new) : own k a fp = fp := by unfold own; rw [if_neg h]
theorem own_new {a : Addr} {fp : List Addr} : own .new a fp = a :: fp := by unfold own; rw [if_pos rfl]
theorem new_tr {c c' : Cn} {H H' : Hp} {a : Addr} {o : HO} (t : Tr c H c' H') (h : H a = some o ∧ c.F a = none ∧ c.B a = none ∧ a ∉ c.m) : H' a = some o ∧ c'.F a = none ∧ c'.B a = none ∧ a ∉ c'.m := by
  obtain ⟨h1, h2, h3, h4⟩ := h
  refine ⟨t.keep a o h1 (.inl h4), ?_, by rw [t.B]; exact h3, fun hm => ?_⟩
  · cases e : c'.F a with
    | none => rfl
    | some u =>
      rcases t.fnew a u e with h | h
      · rw [h2] at h; cases h
      · rw [h1] at h; cases h
  · rcases t.mnew a hm with h | h
    · exact h4 h
    · rw [h1] at h; cases h
mutual
theorem RN.tr {c c' : Cn} {H H' : Hp} (t : Tr c H c' H') : ∀ {x : PV} {v : V} {fp : List Addr}, RN c H x v fp → RN c' H' x v fp
  | .non, _, _, h => by simpa [RN] using h
  | .bl _, _, _, h => by simpa [RN] using h
  | .int _, _, _, h => by simpa [RN] using h
  | .str _, _, _, h => by simpa [RN] using h
  | .tup _, _, _, h => by
    simp only [RN] at h ⊢
    obtain ⟨a, vs, e, s, r⟩ := h
    exact ⟨a, vs, e, SqT.tr t s, RNs.tr t r⟩
  | .ref _, _, _, h => by
    simp only [RN] at h ⊢
    obtain ⟨a, e, r⟩ := h
    refine ⟨a, ?_, r⟩
    obtain ⟨z, hz⟩ := t.pre
    rw [← hz, List.getElem?_append_left (List.getElem?_eq_some_iff.mp e).1]
    exact e
  | .lst k _, _, _, h => by
    simp only [RN] at h ⊢
    obtain ⟨a, vs, fp', e, l, r, q⟩ := h
    refine ⟨a, vs, fp', e, ?_, RNs.tr t r, q⟩
    cases k with
    | new => exact new_tr t l
    | frz => exact t.fk _ _ l
    | bor => unfold LOk; rw [t.B]; exact l
    | scr => unfold LOk; rw [t.K, t.B]; exact l
  | .dK k _ _, _, _, h => by
    simp only [RN] at h ⊢
    obtain ⟨a, vs, fp', e, l, hl, r, q⟩ := h
    refine ⟨a, vs, fp', e, ?_, hl, RNs.tr t r, q⟩
    cases k with
    | new => exact new_tr t l
    | frz => exact t.fk _ _ l
    | bor => unfold DKOk; rw [t.B]; exact l
    | scr => exact l.elim
  | .dT k _ _, _, _, h => by
    simp only [RN] at h ⊢
    obtain ⟨a, vs, fp', e, l, hl, r, q⟩ := h
    refine ⟨a, vs, fp', e, ?_, hl, RNs.tr t r, q⟩
    cases k with
    | new => exact new_tr t l
    | frz => exact t.fk _ _ l
    | bor => unfold DTOk; rw [t.B]; exact l
    | scr => exact l.elim
theorem RNs.tr {c c' : Cn} {H H' : Hp} (t : Tr c H c' H') : ∀ {xs : List PV} {vs : List V} {fp : List Addr}, RNs c H xs vs fp → RNs c' H' xs vs fp
  | [], _, _, h => by simpa [RNs] using h
  | _ :: _, _, _, h => by
    simp only [RNs] at h ⊢
    obtain ⟨v, r, f1, f2, e, h1, h2, q⟩ := h
    exact ⟨v, r, f1, f2, e, RN.tr t h1, RNs.tr t h2, q⟩
end
theorem RVk.tr {κ : Type} {c c' : Cn} {H H' : Hp} (t : Tr c H c' H') {xs : List (κ × PV)} {vs : List (κ × V)} (h : RVk c H xs vs) : RVk c' H' xs vs := Paired.mapP h fun _ _ q => ⟨q.1, q.2.tr t⟩
theorem RLs.tr {c c' : Cn} {H H' : Hp} (t : Tr c H c' H') {xs : Loc} {vs : St} (h : RLs c H xs vs) : RLs c' H' xs vs := Paired.mapP h fun a b q => by
  cases a with
  | none => exact trivial
  | some x => cases b with
    | none => exact q
    | some v => exact RN.tr t q
theorem RO.tr {c c' : Cn} {H H' : Hp} (t : Tr c H c' H') {a : Addr} {o : PO} (e : H' a = H a) (h : RO c H a o) : RO c' H' a o := by
  cases o with
  | lst xs => obtain ⟨vs, h1, h2⟩ := h; exact ⟨vs, e.trans h1, h2.tr t⟩
  | dK xs => obtain ⟨vs, h1, h2⟩ := h; exact ⟨vs, e.trans h1, h2.tr t⟩
  | dT xs => obtain ⟨vs, h1, h2⟩ := h; exact ⟨vs, e.trans h1, h2.tr t⟩
  | ins C xs => obtain ⟨dx, vs, h1, h2⟩ := h; exact ⟨dx, vs, by rw [t.C]; exact e.trans h1, h2.tr t⟩
end Ev
set_option Elab.async false
set_option linter.all false
set_option maxRecDepth 100000
/-! EvB: writing, adopting and freezing; what an expression, a statement is to leave. -/
namespace Ev
open PySem L2
/-! ### more is known of addresses in A -/
structure Ext (c c' : Cn) (A : List Addr) : Prop where
  K : c'.K = c.K
  B : c'.B = c.B
  C : c'.C = c.C
  pre : c.m <+: c'.m
  mnew : ∀ a, a ∈ c'.m → a ∈ c.m ∨ a ∈ A
  fk : ∀ a o, c.F a = some o → c'.F a = some o
  fnew : ∀ a o, c'.F a = some o → c.F a = some o ∨ a ∈ A
theorem Ext.refl (c : Cn) : Ext c c [] := ⟨rfl, rfl, rfl, List.prefix_refl _, fun _ h => .inl h, fun _ _ h => h, fun _ _ h => .inl h⟩
theorem Ext.trans {c c1 c2 : Cn} {A B : List Addr} (a : Ext c c1 A) (b : Ext c1 c2 B) : Ext c c2 (A ++ B) where
  K := b.K.trans a.K
  B := b.B.trans a.B
  C := b.C.trans a.C
  pre := a.pre.trans b.pre
  mnew := fun x hx => by
    rcases b.mnew x hx with h | h
    · rcases a.mnew x h with h | h
      · exact .inl h
      · exact .inr (List.mem_append_left _ h)
    · exact .inr (List.mem_append_right _ h)
  fk := fun x o h => b.fk x o (a.fk x o h)
  fnew := fun x o hx => by
    rcases b.fnew x o hx with h | h
    · rcases a.fnew x o h with h | h
      · exact .inl h
      · exact .inr (List.mem_append_left _ h)
    · exact .inr (List.mem_append_right _ h)
theorem Ext.mono {c c' : Cn} {A B : List Addr} (a : Ext c c' A) (h : ∀ x, x ∈ A → x ∈ B) : Ext c c' B :=
  ⟨a.K, a.B, a.C, a.pre, fun x hx => (a.mnew x hx).imp id (h x), a.fk, fun x o hx => (a.fnew x o hx).imp id (h x)⟩
theorem Tr.ext {c0 c c' : Cn} {H0 H : Hp} {A : List Addr} (t : Tr c0 H0 c H) (e : Ext c c' A) (h : ∀ a, a ∈ A → H0 a = none) : Tr c0 H0 c' H where
  K := e.K.trans t.K
  B := e.B.trans t.B
  C := e.C.trans t.C
  pre := t.pre.trans e.pre
  mnew := fun x hx => (e.mnew x hx).elim (t.mnew x) fun q => .inr (h x q)
  fk := fun x o q => e.fk x o (t.fk x o q)
  fnew := fun x o hx => (e.fnew x o hx).elim (t.fnew x o) fun q => .inr (h x q)
  keep := t.keep
  there := t.there
theorem new_ext {c c' : Cn} {H : Hp} {A : List Addr} {a : Addr} {o : HO} (t : Ext c c' A) (ha : a ∉ A) (h : H a = some o ∧ c.F a = none ∧ c.B a = none ∧ a ∉ c.m) : H a = some o ∧ c'.F a = none ∧ c'.B a = none ∧ a ∉ c'.m := by
  obtain ⟨h1, h2, h3, h4⟩ := h
  refine ⟨h1, ?_, by rw [t.B]; exact h3, fun hm => ?_⟩
  · cases e : c'.F a with
    | none => rfl
    | some u =>
      rcases t.fnew a u e with h | h
      · rw [h2] at h; cases h
      · exact absurd h ha
  · rcases t.mnew a hm with h | h
    · exact h4 h
    · exact ha h
theorem own_mem {k : Kd} {a x : Addr} {fp : List Addr} (h : x ∈ fp) : x ∈ own k a fp := by
  unfold own; split
  · exact List.mem_cons_of_mem _ h
  · exact h
mutual
theorem RN.ext {c c' : Cn} {H : Hp} {A : List Addr} (t : Ext c c' A) : ∀ {x : PV} {v : V} {fp : List Addr}, RN c H x v fp → (∀ a, a ∈ fp → a ∉ A) → RN c' H x v fp
  | .non, _, _, h, _ => by simpa [RN] using h
  | .bl _, _, _, h, _ => by simpa [RN] using h
  | .int _, _, _, h, _ => by simpa [RN] using h
  | .str _, _, _, h, _ => by simpa [RN] using h
  | .tup _, _, _, h, d => by
    simp only [RN] at h ⊢
    obtain ⟨a, vs, e, s, r⟩ := h
    exact ⟨a, vs, e, by rw [t.K]; exact s, RNs.ext t r d⟩
  | .ref _, _, _, h, _ => by
    simp only [RN] at h ⊢
    obtain ⟨a, e, r⟩ := h
    refine ⟨a, ?_, r⟩
    obtain ⟨z, hz⟩ := t.pre
    rw [← hz, List.getElem?_append_left (List.getElem?_eq_some_iff.mp e).1]
    exact e
  | .lst k _, _, _, h, d => by
    simp only [RN] at h ⊢
    obtain ⟨a, vs, fp', e, l, r, q, z⟩ := h
    subst q
    refine ⟨a, vs, fp', e, ?_, RNs.ext t r (fun x hx => d x (own_mem hx)), rfl, z⟩
    cases k with
    | new => exact new_ext t (d a (by rw [own_new]; exact List.mem_cons_self)) l
    | frz => exact t.fk _ _ l
    | bor => unfold LOk; rw [t.B]; exact l
    | scr => unfold LOk; rw [t.K, t.B]; exact l
  | .dK k _ _, _, _, h, d => by
    simp only [RN] at h ⊢
    obtain ⟨a, vs, fp', e, l, hl, r, q, z⟩ := h
    subst q
    refine ⟨a, vs, fp', e, ?_, hl, RNs.ext t r (fun x hx => d x (own_mem hx)), rfl, z⟩
    cases k with
    | new => exact new_ext t (d a (by rw [own_new]; exact List.mem_cons_self)) l
    | frz => exact t.fk _ _ l
    | bor => unfold DKOk; rw [t.B]; exact l
    | scr => exact l.elim
  | .dT k _ _, _, _, h, d => by
    simp only [RN] at h ⊢
    obtain ⟨a, vs, fp', e, l, hl, r, q, z⟩ := h
    subst q
    refine ⟨a, vs, fp', e, ?_, hl, RNs.ext t r (fun x hx => d x (own_mem hx)), rfl, z⟩
    cases k with
    | new => exact new_ext t (d a (by rw [own_new]; exact List.mem_cons_self)) l
    | frz => exact t.fk _ _ l
    | bor => unfold DTOk; rw [t.B]; exact l
    | scr => exact l.elim
theorem RNs.ext {c c' : Cn} {H : Hp} {A : List Addr} (t : Ext c c' A) : ∀ {xs : List PV} {vs : List V} {fp : List Addr}, RNs c H xs vs fp → (∀ a, a ∈ fp → a ∉ A) → RNs c' H xs vs fp
  | [], _, _, h, _ => by simpa [RNs] using h
  | _ :: _, _, _, h, d => by
    simp only [RNs] at h ⊢
    obtain ⟨v, r, f1, f2, e, h1, h2, q⟩ := h
    subst q
    exact ⟨v, r, f1, f2, e, RN.ext t h1 (fun a ha => d a (List.mem_append_left _ ha)), RNs.ext t h2 (fun a ha => d a (List.mem_append_right _ ha)), rfl⟩
end
theorem RV.ext {c c' : Cn} {H : Hp} {A : List Addr} (t : Ext c c' A) {x : PV} {v : V} (h : RV c H x v) : RV c' H x v := RN.ext t h (fun _ h => nomatch h)
theorem RVs.ext {c c' : Cn} {H : Hp} {A : List Addr} (t : Ext c c' A) {x : List PV} {v : List V} (h : RVs c H x v) : RVs c' H x v := RNs.ext t h (fun _ h => nomatch h)
theorem RVk.ext {κ : Type} {c c' : Cn} {H : Hp} {A : List Addr} (t : Ext c c' A) {xs : List (κ × PV)} {vs : List (κ × V)} (h : RVk c H xs vs) : RVk c' H xs vs := Paired.mapP h fun _ _ q => ⟨q.1, RV.ext t q.2⟩
theorem RO.ext {c c' : Cn} {H : Hp} {A : List Addr} (t : Ext c c' A) {a : Addr} {o : PO} (h : RO c H a o) : RO c' H a o := by
  cases o with
  | lst xs => obtain ⟨vs, h1, h2⟩ := h; exact ⟨vs, h1, RVs.ext t h2⟩
  | dK xs => obtain ⟨vs, h1, h2⟩ := h; exact ⟨vs, h1, h2.ext t⟩
  | dT xs => obtain ⟨vs, h1, h2⟩ := h; exact ⟨vs, h1, h2.ext t⟩
  | ins C xs => obtain ⟨dx, vs, h1, h2⟩ := h; exact ⟨dx, vs, by rw [t.C]; exact h1, h2.ext t⟩
/-- where new things stand -/
def NewAt (c : Cn) (H : Hp) (a : Addr) : Prop := (∃ o, H a = some o) ∧ c.F a = none ∧ c.B a = none ∧ a ∉ c.m
mutual
theorem RN.newAt {c : Cn} {H : Hp} : ∀ {x : PV} {v : V} {fp : List Addr}, RN c H x v fp → ∀ a, a ∈ fp → NewAt c H a
  | .non, _, _, h, _, q => by simp only [RN] at h; rw [h.2] at q; cases q
  | .bl _, _, _, h, _, q => by simp only [RN] at h; rw [h.2] at q; cases q
  | .int _, _, _, h, _, q => by simp only [RN] at h; rw [h.2] at q; cases q
  | .str _, _, _, h, _, q => by simp only [RN] at h; rw [h.2] at q; cases q
  | .tup _, _, _, h, a, q => by
    simp only [RN] at h
    obtain ⟨_, vs, e, s, r⟩ := h
    exact RNs.newAt r a q
  | .ref _, _, _, h, _, q => by
    simp only [RN] at h
    obtain ⟨a, e, _, r⟩ := h
    rw [r] at q; cases q
  | .lst k _, _, _, h, b, q => by
    simp only [RN] at h
    obtain ⟨a, vs, fp', e, l, r, rfl, z⟩ := h
    cases k with
    | new =>
      rw [own_new] at q
      rcases List.mem_cons.mp q with rfl | q
      · exact ⟨⟨_, l.1⟩, l.2⟩
      · exact RNs.newAt r b q
    | frz => rw [own_ne (by decide)] at q; exact RNs.newAt r b q
    | bor => rw [own_ne (by decide)] at q; exact RNs.newAt r b q
    | scr => rw [own_ne (by decide)] at q; exact RNs.newAt r b q
  | .dK k _ _, _, _, h, b, q => by
    simp only [RN] at h
    obtain ⟨a, vs, fp', e, l, _, r, rfl, z⟩ := h
    cases k with
    | new =>
      rw [own_new] at q
      rcases List.mem_cons.mp q with rfl | q
      · exact ⟨⟨_, l.1⟩, l.2⟩
      · exact RNs.newAt r b q
    | frz => rw [own_ne (by decide)] at q; exact RNs.newAt r b q
    | bor => rw [own_ne (by decide)] at q; exact RNs.newAt r b q
    | scr => rw [own_ne (by decide)] at q; exact RNs.newAt r b q
  | .dT k _ _, _, _, h, b, q => by
    simp only [RN] at h
    obtain ⟨a, vs, fp', e, l, _, r, rfl, z⟩ := h
    cases k with
    | new =>
      rw [own_new] at q
      rcases List.mem_cons.mp q with rfl | q
      · exact ⟨⟨_, l.1⟩, l.2⟩
      · exact RNs.newAt r b q
    | frz => rw [own_ne (by decide)] at q; exact RNs.newAt r b q
    | bor => rw [own_ne (by decide)] at q; exact RNs.newAt r b q
    | scr => rw [own_ne (by decide)] at q; exact RNs.newAt r b q
theorem RNs.newAt {c : Cn} {H : Hp} : ∀ {xs : List PV} {vs : List V} {fp : List Addr}, RNs c H xs vs fp → ∀ a, a ∈ fp → NewAt c H a
  | [], _, _, h, _, q => by simp only [RNs] at h; rw [h.2] at q; cases q
  | _ :: _, _, _, h, a, q => by
    simp only [RNs] at h
    obtain ⟨v, r, f1, f2, e, h1, h2, rfl⟩ := h
    rcases List.mem_append.mp q with q | q
    · exact RN.newAt h1 a q
    · exact RNs.newAt h2 a q
end
/-! ### freezing -/
mutual
def frz : PV → PV
  | .tup xs => .tup (frzs xs)
  | .lst .new xs => .lst .frz (frzs xs)
  | .dK .new ks xs => .dK .frz ks (frzs xs)
  | .dT .new ks xs => .dT .frz ks (frzs xs)
  | x => x
def frzs : List PV → List PV
  | [] => []
  | x :: xs => frz x :: frzs xs
end
def Cn.frz (c : Cn) (H : Hp) (fp : List Addr) : Cn := { c with F := fun b => if b ∈ fp then H b else c.F b }
theorem Cn.frz_ext {c : Cn} {H : Hp} {fp : List Addr} (h : ∀ a, a ∈ fp → NewAt c H a) : Ext c (c.frz H fp) fp where
  K := rfl
  B := rfl
  C := rfl
  pre := List.prefix_refl _
  mnew := fun _ h => .inl h
  fk := fun a o q => by
    show (if a ∈ fp then H a else c.F a) = some o
    rw [if_neg fun z => by rw [(h a z).2.1] at q; cases q]
    exact q
  fnew := fun a o q => by
    have q : (if a ∈ fp then H a else c.F a) = some o := q
    by_cases z : a ∈ fp
    · exact .inr z
    · rw [if_neg z] at q; exact .inl q
theorem Rel.frz {c : Cn} {S : Store} {H : Hp} {fp : List Addr} (R : Rel c S H) (h : ∀ a, a ∈ fp → NewAt c H a) : Rel (c.frz H fp) S H where
  len := R.len
  nd := R.nd
  obj := fun i o a e1 e2 => (R.obj i o a e1 e2).ext (Cn.frz_ext h)
  mB := R.mB
  mF := fun a ha => by
    show (if a ∈ fp then H a else c.F a) = none
    rw [if_neg fun z => (h a z).2.2.2 ha]
    exact R.mF a ha
  bh := R.bh
  fh := fun a o q => by
    have q : (if a ∈ fp then H a else c.F a) = some o := q
    by_cases z : a ∈ fp
    · rw [if_pos z] at q; exact q
    · rw [if_neg z] at q; exact R.fh a o q
theorem frz_F {c : Cn} {H : Hp} {fp : List Addr} {a : Addr} (h : a ∈ fp) : (c.frz H fp).F a = H a := by
  show (if a ∈ fp then H a else c.F a) = _
  rw [if_pos h]
mutual
theorem RN.frz {c : Cn} {H : Hp} {A : List Addr} (hA : ∀ a, a ∈ A → NewAt c H a) : ∀ {x : PV} {v : V} {fp : List Addr}, RN c H x v fp → (∀ a, a ∈ fp → a ∈ A) → RN (c.frz H A) H (Ev.frz x) v []
  | .non, _, _, h, _ => by simpa [RN, Ev.frz] using h.1
  | .bl _, _, _, h, _ => by simpa [RN, Ev.frz] using h.1
  | .int _, _, _, h, _ => by simpa [RN, Ev.frz] using h.1
  | .str _, _, _, h, _ => by simpa [RN, Ev.frz] using h.1
  | .tup _, _, _, h, d => by
    simp only [RN] at h
    obtain ⟨a, vs, e, s, r⟩ := h
    simp only [Ev.frz, RN]
    exact ⟨a, vs, e, s, RNs.frz hA r d⟩
  | .ref _, _, _, h, _ => by
    simp only [RN] at h
    obtain ⟨a, e, r, _⟩ := h
    simp only [Ev.frz, RN]
    exact ⟨a, e, r, trivial⟩
  | .lst .new _, _, _, h, d => by
    simp only [RN] at h
    obtain ⟨a, vs, fp', e, l, r, rfl, z⟩ := h
    simp only [Ev.frz, RN]
    rw [own_new] at d
    refine ⟨a, vs, [], e, ?_, RNs.frz hA r (fun x hx => d x (List.mem_cons_of_mem _ hx)), rfl, .inr rfl⟩
    show (c.frz H A).F a = _
    rw [frz_F (d a List.mem_cons_self)]
    exact l.1
  | .lst .frz _, _, _, h, d => by
    simp only [RN] at h
    obtain ⟨a, vs, fp', e, l, r, q, z⟩ := h
    have z : fp' = [] := z.resolve_left (by decide)
    subst z
    simp only [Ev.frz, RN]
    exact ⟨a, vs, [], e, (Cn.frz_ext hA).fk _ _ l, RVs.ext (Cn.frz_ext hA) r, rfl, .inr rfl⟩
  | .lst .bor _, _, _, h, d => by
    simp only [RN] at h
    obtain ⟨a, vs, fp', e, l, r, q, z⟩ := h
    have z : fp' = [] := z.resolve_left (by decide)
    subst z
    simp only [Ev.frz, RN]
    exact ⟨a, vs, [], e, l, RVs.ext (Cn.frz_ext hA) r, rfl, .inr rfl⟩
  | .lst .scr _, _, _, h, d => by
    simp only [RN] at h
    obtain ⟨a, vs, fp', e, l, r, q, z⟩ := h
    have z : fp' = [] := z.resolve_left (by decide)
    subst z
    simp only [Ev.frz, RN]
    exact ⟨a, vs, [], e, l, RVs.ext (Cn.frz_ext hA) r, rfl, .inr rfl⟩
  | .dK .new _ _, _, _, h, d => by
    simp only [RN] at h
    obtain ⟨a, vs, fp', e, l, hl, r, rfl, z⟩ := h
    simp only [Ev.frz, RN]
    rw [own_new] at d
    refine ⟨a, vs, [], e, ?_, hl, RNs.frz hA r (fun x hx => d x (List.mem_cons_of_mem _ hx)), rfl, .inr rfl⟩
    show (c.frz H A).F a = _
    rw [frz_F (d a List.mem_cons_self)]
    exact l.1
  | .dK .frz _ _, _, _, h, d => by
    simp only [RN] at h
    obtain ⟨a, vs, fp', e, l, hl, r, q, z⟩ := h
    have z : fp' = [] := z.resolve_left (by decide)
    subst z
    simp only [Ev.frz, RN]
    exact ⟨a, vs, [], e, (Cn.frz_ext hA).fk _ _ l, hl, RVs.ext (Cn.frz_ext hA) r, rfl, .inr rfl⟩
  | .dK .bor _ _, _, _, h, d => by
    simp only [RN] at h
    obtain ⟨a, vs, fp', e, l, hl, r, q, z⟩ := h
    have z : fp' = [] := z.resolve_left (by decide)
    subst z
    simp only [Ev.frz, RN]
    exact ⟨a, vs, [], e, l, hl, RVs.ext (Cn.frz_ext hA) r, rfl, .inr rfl⟩
  | .dK .scr _ _, _, _, h, d => by
    simp only [RN] at h
    obtain ⟨a, vs, fp', e, l, hl, r, q, z⟩ := h
    have z : fp' = [] := z.resolve_left (by decide)
    subst z
    simp only [Ev.frz, RN]
    exact ⟨a, vs, [], e, l, hl, RVs.ext (Cn.frz_ext hA) r, rfl, .inr rfl⟩
  | .dT .new _ _, _, _, h, d => by
    simp only [RN] at h
    obtain ⟨a, vs, fp', e, l, hl, r, rfl, z⟩ := h
    simp only [Ev.frz, RN]
    rw [own_new] at d
    refine ⟨a, vs, [], e, ?_, hl, RNs.frz hA r (fun x hx => d x (List.mem_cons_of_mem _ hx)), rfl, .inr rfl⟩
    show (c.frz H A).F a = _
    rw [frz_F (d a List.mem_cons_self)]
    exact l.1
  | .dT .frz _ _, _, _, h, d => by
    simp only [RN] at h
    obtain ⟨a, vs, fp', e, l, hl, r, q, z⟩ := h
    have z : fp' = [] := z.resolve_left (by decide)
    subst z
    simp only [Ev.frz, RN]
    exact ⟨a, vs, [], e, (Cn.frz_ext hA).fk _ _ l, hl, RVs.ext (Cn.frz_ext hA) r, rfl, .inr rfl⟩
  | .dT .bor _ _, _, _, h, d => by
    simp only [RN] at h
    obtain ⟨a, vs, fp', e, l, hl, r, q, z⟩ := h
    have z : fp' = [] := z.resolve_left (by decide)
    subst z
    simp only [Ev.frz, RN]
    exact ⟨a, vs, [], e, l, hl, RVs.ext (Cn.frz_ext hA) r, rfl, .inr rfl⟩
  | .dT .scr _ _, _, _, h, d => by
    simp only [RN] at h
    obtain ⟨a, vs, fp', e, l, hl, r, q, z⟩ := h
    have z : fp' = [] := z.resolve_left (by decide)
    subst z
    simp only [Ev.frz, RN]
    exact ⟨a, vs, [], e, l, hl, RVs.ext (Cn.frz_ext hA) r, rfl, .inr rfl⟩
theorem RNs.frz {c : Cn} {H : Hp} {A : List Addr} (hA : ∀ a, a ∈ A → NewAt c H a) : ∀ {xs : List PV} {vs : List V} {fp : List Addr}, RNs c H xs vs fp → (∀ a, a ∈ fp → a ∈ A) → RNs (c.frz H A) H (Ev.frzs xs) vs []
  | [], _, _, h, _ => by simpa [RNs, Ev.frzs] using h.1
  | _ :: _, _, _, h, d => by
    simp only [RNs] at h
    obtain ⟨v, r, f1, f2, e, h1, h2, rfl⟩ := h
    simp only [Ev.frzs, RNs]
    exact ⟨v, r, [], [], e, RN.frz hA h1 (fun a ha => d a (List.mem_append_left _ ha)), RNs.frz hA h2 (fun a ha => d a (List.mem_append_right _ ha)), rfl⟩
end
/-! ### writing -/
theorem Tr.write {c : Cn} {H : Hp} {a : Addr} {o u : HO} (ha : a ∈ c.m) (hu : H a = some u) (hi : ¬ Imm u) : Tr c H c (upd H a o) where
  K := rfl
  B := rfl
  C := rfl
  pre := List.prefix_refl _
  mnew := fun _ h => .inl h
  fk := fun _ _ h => h
  fnew := fun _ _ h => .inl h
  keep := fun b q h hb => by
    have n : b ≠ a := fun z => by
      subst z
      rcases hb with hb | hb
      · exact hb ha
      · rw [hu] at h; cases h; exact hi hb
    rw [upd_ne n]; exact h
  there := fun b h => by
    by_cases z : b = a
    · subst z; rw [upd_same] at h; cases h
    · rw [upd_ne z] at h; exact h
theorem Rel.write {c : Cn} {S : Store} {H : Hp} {l : Nat} {a : Addr} {o : HO} {po : PO} (R : Rel c S H) (hl : c.m[l]? = some a) (h : RO c (upd H a o) a po) : Rel c (S.set l po) (upd H a o) ∧ Tr c H c (upd H a o) := by
  have ha : a ∈ c.m := List.mem_of_getElem? hl
  obtain ⟨u, hu, hi⟩ := R.alive ha
  have t : Tr c H c (upd H a o) := Tr.write ha hu hi
  refine ⟨⟨by rw [List.length_set]; exact R.len, R.nd, fun i o' b e1 e2 => ?_, R.mB, R.mF, fun b q e => ?_, fun b q e => ?_⟩, t⟩
  · by_cases hi : l = i
    · subst hi
      rw [hl] at e2
      cases e2
      have hlt : l < S.length := by rw [← R.len]; exact (List.getElem?_eq_some_iff.mp hl).1
      rw [List.getElem?_set_self hlt] at e1
      cases e1
      exact h
    · rw [List.getElem?_set_ne hi] at e1
      have nb : b ≠ a := fun z => by
        subst z
        exact hi (nd_ix R.nd hl e2)
      exact (R.obj i o' b e1 e2).tr t (upd_ne nb)
  · rw [upd_ne fun z => by rw [z, R.mB a ha] at e; cases e]
    exact R.bh b q e
  · rw [upd_ne fun z => by rw [z, R.mF a ha] at e; cases e]
    exact R.fh b q e
/-! ### adopting: a new thing becomes one of the store's -/
def Cn.add (c : Cn) (a : Addr) : Cn := { c with m := c.m ++ [a] }
theorem Cn.add_ext {c : Cn} (a : Addr) : Ext c (c.add a) [a] where
  K := rfl
  B := rfl
  C := rfl
  pre := List.prefix_append _ _
  mnew := fun x hx => (List.mem_append.mp hx).imp id id
  fk := fun _ _ h => h
  fnew := fun _ _ h => .inl h
theorem Rel.add {c : Cn} {S : Store} {H : Hp} {a : Addr} {po : PO} (R : Rel c S H) (h : NewAt c H a) (q : RO c H a po) : Rel (c.add a) (S ++ [po]) H where
  len := by show (c.m ++ [a]).length = _; rw [List.length_append, List.length_append, R.len]; rfl
  nd := by
    show (c.m ++ [a]).Nodup
    rw [List.nodup_append]
    exact ⟨R.nd, by simp, fun x hx y hy e => by rw [List.mem_singleton.mp hy] at e; subst e; exact h.2.2.2 hx⟩
  obj := fun i o b e1 e2 => by
    have e2 : (c.m ++ [a])[i]? = some b := e2
    by_cases hi : i < S.length
    · rw [List.getElem?_append_left hi] at e1
      rw [List.getElem?_append_left (by rw [R.len]; exact hi)] at e2
      exact (R.obj i o b e1 e2).ext (Cn.add_ext a)
    · rw [List.getElem?_append_right (by omega)] at e1
      rw [List.getElem?_append_right (by rw [R.len]; omega), R.len] at e2
      have hz : i - S.length = 0 := by
        have := (List.getElem?_eq_some_iff.mp e1).1
        simp at this
        omega
      rw [hz] at e1 e2
      cases e1; cases e2
      exact q.ext (Cn.add_ext a)
  mB := fun x hx => by
    rcases List.mem_append.mp hx with hx | hx
    · exact R.mB x hx
    · rw [List.mem_singleton.mp hx]; exact h.2.2.1
  mF := fun x hx => by
    rcases List.mem_append.mp hx with hx | hx
    · exact R.mF x hx
    · rw [List.mem_singleton.mp hx]; exact h.2.1
  bh := R.bh
  fh := R.fh
end Ev
set_option Elab.async false
set_option linter.all false
set_option maxRecDepth 100000
/-! EvS: sorted(set(xs)). -/
noncomputable section
namespace Ev
open PySem PySem.Spec PyProof.Rows L2
/-- a set with nothing in it, as the model makes it -/
abbrev noSet (w : World) : Obj := { cls := .type "set", dict := none, data := .set #[] 0 (.fresh 0 0 (!w.params.followText "set-order")) }
section
variable {P : Program} {w : World} {A : Around} {E : Value → Shared → Prop} {s : Shared}
set_option maxHeartbeats 3200000 in
theorem set_of_ints {l : Addr} {xs : Array Value} (ns : List Int) {Q : Value → Shared → Prop} (quiet : A.handled = none) (is : s.heap.IsList l xs) (hin : IntsAre xs.toList ns) (few : ns.length + 1 < scanBound)
    (go : ∀ (g : Heap) (tk c : Nat), SetR w g s.heap.objs.size (fun j => decide (j ∈ ns)) c → c ≤ ns.length → (∀ b o, s.heap.get? b = some o → g.get? b = some o) → Q (.ref s.heap.objs.size) { s with heap := g, toks := tk }) :
    wpAny (model P w) A (call (.type "set") [.ref l]) Q E s := by
  have len : xs.size = ns.length := by
    rw [← Array.length_toList]
    exact IntsAre.length hin
  obtain ⟨_, _, m0⟩ := F.called_set.mro
  have m1 := F.called_set.made
  have m2 := F.called_set.sub
  have m3 := F.called_set.notType
  have m4 := F.called_set.canCreate
  have m5 := F.typeCall_set_1 (.ref l)
  refine wpAny_call (codeAny_of_tree (?_ : wpAny _ _ (callAny (.type "set") _) _ _ _))
  refine wpAny_pure ⟨Code.quiet_builtin _ (by decide +kernel), codeAny_builtin F.entry_type_call ?_⟩
  rw [Around.under_plain (weight_type_call_type "set" [.ref l] []) rfl]
  repeat (any_goals (first | assumption | wp_step))
  refine codeAny_mono (code_set_led1 (.ref l) (E := E) (Q₁ := fun v t => v = .ref s.heap.objs.size ∧ t = { s with heap := s.heap.push (noSet w) }) ⟨rfl, rfl⟩) fun r t hr => ?_
  match r, hr with
  | .error e, hr => exact hr
  | .ok (.ret v), ⟨e1, e2⟩ =>
    subst e1 e2
    have at0 : (s.heap.push (noSet w)).get? s.heap.objs.size = some (noSet w) := Heap.get?_push_size _ rfl
    have ty0 : Shared.TypeIs { s with heap := s.heap.push (noSet w) } (.ref s.heap.objs.size) "set" := ⟨_, at0, rfl⟩
    have m6 := F.called_set.init.lookup
    have m7 := F.called_set.init.bind (.ref s.heap.objs.size)
    repeat (any_goals (first | assumption | wp_step))
    refine codeAny_mono (codeAny_call_builtin (R := wants (fun v t => v = .none ∧ ∃ g tk c, t = { s with heap := g, toks := tk } ∧ SetR w g s.heap.objs.size (fun j => decide (j ∈ ns)) c ∧ c ≤ ns.length ∧ ∀ b o, s.heap.get? b = some o → g.get? b = some o) E) F.called_set.init.plain F.entry_set_init (check_set_init_1 ty0 ?inner)) ?outer
    case inner =>
      obtain ⟨⟨oc, od, odt, osl⟩, h0, c0, n0, d0⟩ := is
      dsimp only at c0 d0
      cases c0
      cases d0
      have below : l < s.heap.objs.size := Heap.lt_size h0
      have is1 : (s.heap.push (noSet w)).IsList l xs := ⟨_, Heap.get?_push_of_some _ h0, rfl, n0, rfl⟩
      have p1 := F.sub_list_set
      have p2 := F.sub_list_frozenset
      have p3 : (Value.type "list" == Value.type "dict") = false := by decide
      unfold Builtin.«set.__init__» noKeywords Builtin.Frozenset.updateFrom
      generalize z : pyIter = it
      wp_walk
      subst z
      refine wpAny_pyIter_list is1 (wpAny_bind (wpAny_runValue ?_))
      have quiet3 : A.in1.in1.in1.handled = none := by simp [quiet]
      have sz : (s.heap.push (noSet w)).objs.size = s.heap.objs.size + 1 := Heap.size_push ..
      have far : l ≠ (s.heap.push (noSet w)).objs.size := fun z => absurd (z.trans sz) (Nat.ne_of_lt (Nat.lt_succ_of_lt below))
      have out : s.heap.objs.size ∉ [(s.heap.push (noSet w)).objs.size, l] := by
        rw [sz]
        intro z
        rcases List.mem_cons.mp z with z | z
        · exact absurd z (Nat.ne_of_lt (Nat.lt_succ_self _))
        · exact absurd (List.mem_singleton.mp z) (Nat.ne_of_gt below)
      have each : ∀ (i : Nat) (v : Value), xs[i]? = some v → ∃ k t, ns[i]? = some k ∧ v = .int k t := fun i v hv => by
        have hi : i < ns.length := by rw [← len]; exact (Array.getElem?_eq_some_iff.mp hv).1
        obtain ⟨t, e⟩ := IntsAre.int_at hin i v (by rw [Array.getElem?_toList]; exact hv)
        exact ⟨ns[i], t, List.getElem?_eq_getElem hi, by rw [e, List.getD_eq_getElem?_getD, List.getElem?_eq_getElem hi]; rfl⟩
      refine set_update_ints ((Walks.list quiet3 _ l far xs).toS) s.heap.objs.size out ns len few each (xs.size - 0) 0 _ (by omega) (Nat.zero_le _) ⟨⟨_, Heap.get?_push_size _ rfl, rfl, rfl⟩, (is1.push _)⟩ ⟨0, Nat.le_refl 0, setR_new_at (Heap.get?_push_of_some _ at0)⟩ ?_
      rintro ⟨g, gs, dr, tk, os⟩ c mv hc R
      have q1 : gs = s.gens := mv.gens
      have q2 : dr = s.drawn := mv.drawn
      have q3 : os = s.os := mv.os
      subst q1 q2 q3
      show wpAny _ _ _ _ _ _
      refine wpAny_pure (?_ : wpAny _ _ (ret Value.none) _ _ _)
      refine wpAny_pure ⟨rfl, g, tk, c, rfl, R, by omega, fun b o e => ?_⟩
      have hb := Heap.lt_size e
      refine mv.heap b o (fun z => ?_) (Heap.get?_push_of_some _ (Heap.get?_push_of_some _ e))
      rcases List.mem_cons.mp z with z | z
      · exact absurd z (Nat.ne_of_lt hb)
      · exact absurd ((List.mem_singleton.mp z).trans sz) (Nat.ne_of_lt (Nat.lt_succ_of_lt hb))
    case outer =>
      intro r2 t2 h2
      match r2, h2 with
      | .error e, h2 => exact h2
      | .ok (.ret v), ⟨e1, g, tk, c, e2, R, hc, kp⟩ =>
        subst e1 e2
        repeat (any_goals (first | assumption | wp_step))
        exact go g tk c R hc kp
end
/-- whole numbers, ascending, each once -/
def putA (n : Int) : List Int → List Int
  | [] => [n]
  | m :: ms => if n < m then n :: m :: ms else if n = m then m :: ms else m :: putA n ms
def ascOf : List Int → List Int
  | [] => []
  | n :: ns => putA n (ascOf ns)
theorem putA_mem (n k : Int) : ∀ ms, k ∈ putA n ms ↔ k = n ∨ k ∈ ms
  | [] => by simp [putA]
  | m :: ms => by
    unfold putA
    split
    · simp
    · split
      · rename_i h
        subst h
        simp
      · rw [List.mem_cons, putA_mem n k ms, List.mem_cons]
        constructor
        · rintro (h | h | h)
          · exact .inr (.inl h)
          · exact .inl h
          · exact .inr (.inr h)
        · rintro (h | h | h)
          · exact .inr (.inl h)
          · exact .inl h
          · exact .inr (.inr h)
theorem putA_asc (n : Int) : ∀ ms : List Int, ms.Pairwise (· < ·) → (putA n ms).Pairwise (· < ·)
  | [], _ => by simp [putA]
  | m :: ms, h => by
    have h' := List.pairwise_cons.mp h
    unfold putA
    split
    · rename_i c
      refine List.pairwise_cons.mpr ⟨fun k hk => ?_, h⟩
      rcases List.mem_cons.mp hk with e | e
      · omega
      · have := h'.1 k e
        omega
    · split
      · exact h
      · refine List.pairwise_cons.mpr ⟨fun k hk => ?_, putA_asc n ms h'.2⟩
        rcases (putA_mem n k ms).mp hk with e | e
        · omega
        · exact h'.1 k e
theorem ascOf_mem (k : Int) : ∀ ns, k ∈ ascOf ns ↔ k ∈ ns
  | [] => by simp [ascOf]
  | n :: ns => by rw [ascOf, putA_mem, ascOf_mem k ns, List.mem_cons]
theorem ascOf_asc : ∀ ns, (ascOf ns).Pairwise (· < ·)
  | [] => List.Pairwise.nil
  | n :: ns => putA_asc n _ (ascOf_asc ns)
theorem asc_eq : ∀ {a b : List Int}, a.Pairwise (· < ·) → b.Pairwise (· < ·) → (∀ x, x ∈ a ↔ x ∈ b) → a = b
  | [], [], _, _, _ => rfl
  | [], y :: ys, _, _, h => by have := (h y).mpr List.mem_cons_self; cases this
  | x :: xs, [], _, _, h => by have := (h x).mp List.mem_cons_self; cases this
  | x :: xs, y :: ys, ha, hb, h => by
    have ha' := List.pairwise_cons.mp ha
    have hb' := List.pairwise_cons.mp hb
    have e : x = y := by
      rcases List.mem_cons.mp ((h x).mp List.mem_cons_self) with c | c
      · exact c
      · rcases List.mem_cons.mp ((h y).mpr List.mem_cons_self) with d | d
        · exact d.symm
        · have := hb'.1 x c
          have := ha'.1 y d
          omega
    subst e
    congr 1
    refine asc_eq ha'.2 hb'.2 fun z => ⟨fun hz => ?_, fun hz => ?_⟩
    · rcases List.mem_cons.mp ((h z).mp (List.mem_cons_of_mem _ hz)) with c | c
      · have := ha'.1 z hz
        omega
      · exact c
    · rcases List.mem_cons.mp ((h z).mpr (List.mem_cons_of_mem _ hz)) with c | c
      · have := hb'.1 z hz
        omega
      · exact c
end Ev
end
set_option Elab.async false
set_option linter.all false
set_option maxRecDepth 100000
/-! EvC: the small language and what it gives. -/
noncomputable section
namespace Ev
open PySem L2
open Classical
inductive B2 where
  | add | sub | mul | fdiv | mod | pow | lt | le | gt | ge | eq | ne | isin | notin | isN | notN
inductive Bi where
  | len | list | tuple | all | any | sum | sorted | min2 | max2 | intB | strI
inductive Ty where
  | int | bool | str | tuple | list | dict
/-- built-ins and methods of one, two, three things -/
inductive O1 where
  | pop | clear | asc | intB | lr1 | sortL | maxL | minL | sortD | lstD | lenD | dictD | lenS | dictP | sortT
inductive O2 where
  | append | popAt | get1 | lr2 | extend | index | popD | join
inductive O3 where
  | get2
/-- how a def is called: pure: it is lent all; full: over the caller's store; trunc: .. and what it made for itself is forgotten -/
inductive Md where
  | pure | full | trunc
inductive Tg where
  | name (i : Nat)
  | tup (is : List Nat)
mutual
inductive E where
  | var (i : Nat) | con (v : PV) | glob (j : Nat)
  | neg (a : E) | nt (a : E)
  | bin (o : B2) (a b : E)
  | chain (o1 o2 : B2) (a b c : E)
  | bop (k : Bool) (es : Es)
  | ite (c a b : E)
  | tup (es : Es) | lst (es : Es)
  | ix (a i : E)
  | slc (a : E) (lo hi : P)
  | rev (a : E)
  | call (m : Md) (f : Nat) (es : Es)
  | bi (b : Bi) (es : Es)
  | isi (t : Ty) (a : E)
  | comp (own : List (Str × Nat)) (tg : Tg) (it : It) (cs : Es) (e : E)
  | p1 (o : O1) (a : E) | p2 (o : O2) (a b : E) | p3 (o : O3) (a b c : E)
  | d0 (t : Bool)
  | own (e : E)
  | ad (e : E)
  | attr (ci : Nat) (a : E) (f : Str)
  | meth (ci f : Nat) (m : Str) (o : E) (es : Es)
  | make (ci f : Nat) (es : Es)
  | dsp (es : Es)
  | compD (own : List (Str × Nat)) (a e : E)
  | callx (fs : List (Md × Nat)) (i : E) (es : Es)
  | sIx (a i : E)
inductive Es where
  | nil | cons (e : E) (es : Es)
inductive P where
  | no | yes (e : E)
inductive It where
  | r1 (a : E) | r2 (a b : E) | seq (a : E) | enum (a : E)
end
/-- what an except clause does -/
inductive Su where
  | ret (v : PV) | retl (vs : List PV) | set (i : Nat) (v : PV) | app (i : Nat) (v : PV)
/-- an except clause: whom it takes, whom it lets pass, its class, its suite -/
structure Hd where
  yes : List Nat
  no : List Nat
  cls : Nat
  su : Su
inductive T where
  | skip
  | seq (a b : T)
  | ex (e : E)
  | set (i : Nat) (e : E)
  | unp (is : List Nat) (e : E)
  | setix (o i e : E)
  | aug (i : Nat) (o : B2) (e : E)
  | ret (e : E) | retn
  | ite (c : E) (a b : T)
  | for_ (tg : Tg) (it : It) (b : T)
  | while_ (n : Nat) (c : E) (b : T)
  | brk
  | raise (c : Nat)
  | try_ (b : T) (hs : List Hd)
  | par (i j : Nat) (a b : E)
  | setat (ci : Nat) (o : E) (f : Str) (e : E)
  | augat (ci : Nat) (o : E) (f : Str) (e : E)
  | swp (o i o2 j a b : E)
/-! ### values -/
def lstOf (S : Store) : PV → Option (List PV)
  | .ref l => match S[l]? with
    | some (.lst xs) => some xs
    | _ => none
  | .lst _ xs => some xs
  | _ => none
def tupOf : PV → Option (List PV)
  | .tup xs => some xs
  | _ => none
/-- a list that is no script -/
def catOf (S : Store) : PV → Option (List PV)
  | .lst .scr _ => none
  | x => lstOf S x
/-- a list or a tuple -/
def seqOf (S : Store) : PV → Option (List PV)
  | .tup xs => some xs
  | x => lstOf S x
def few (n : Nat) : Bool := decide (n ≤ 1000000)
def isFlat : PV → Bool
  | .non => true
  | .bl _ => true
  | .int _ => true
  | .str _ => true
  | _ => false
def isNewL : PV → Bool
  | .lst .new _ => true
  | _ => false
def isNon : PV → Bool
  | .non => true
  | _ => false
/-- == of flat things -/
def eqF : PV → PV → Bool
  | .non, .non => true
  | .bl a, .bl b => a == b
  | .bl a, .int b => (if a then 1 else 0) == b
  | .int a, .bl b => a == (if b then 1 else 0)
  | .int a, .int b => a == b
  | .str a, .str b => a == b
  | _, _ => false
def mapO {α β : Type} (f : α → Option β) : List α → Option (List β)
  | [] => some []
  | x :: xs => match f x, mapO f xs with
    | some y, some ys => some (y :: ys)
    | _, _ => none
/-- a value as the library's data -/
def dat (S : Store) : Nat → PV → Option PyData
  | _, .non => some .none
  | _, .bl b => some (.bool b)
  | _, .int i => some (.int i)
  | _, .str x => if PyData.canLay0 (.str x) then some (.str x) else none
  | n + 1, .tup xs => (mapO (dat S n) xs).map .tuple
  | n + 1, .lst _ xs => (mapO (dat S n) xs).map .list
  | n + 1, .ref l => match S[l]? with
    | some (.lst xs) => (mapO (dat S n) xs).map .list
    | _ => none
  | _, _ => none
def eqP (S : Store) (a b : PV) : Option Bool :=
  if isFlat a && isFlat b then some (eqF a b) else match dat S 9 a, dat S 9 b with
    | some d, some e => some (PyData.eqv d e)
    | _, _ => none
def dK_of (S : Store) : PV → Option (List (Key × PV))
  | .ref l => match S[l]? with
    | some (.dK kvs) => some kvs
    | _ => none
  | .dK .bor ks xs => some (ks.zip xs)
  | .dK .frz ks xs => some (ks.zip xs)
  | _ => none
def keyOf : PV → Option Key
  | .int i => some (Sum.inl i)
  | .str x => some (Sum.inr x)
  | _ => none
def valP {κ : Type} [DecidableEq κ] (kvs : List (κ × PV)) (k : κ) : Option PV := match kvs with
  | [] => none
  | p :: r => if p.1 = k then some p.2 else valP r k
def inP (S : Store) (x s : PV) : Option Bool := match seqOf S s with
  | some ys => if isFlat x && ys.all isFlat then some (ys.any fun y => eqF y x) else none
  | none => match dK_of S s, keyOf x with
    | some kvs, some k => some (valP kvs k).isSome
    | _, _ => none
def lexI : List PV → List PV → Option Bool
  | [], [] => some false
  | [], _ :: _ => some true
  | _ :: _, [] => some false
  | .int a :: xs, .int b :: ys => if a = b then lexI xs ys else some (decide (a < b))
  | _, _ => none
def intsOf : List PV → Option (List Int)
  | [] => some []
  | .int i :: xs => (intsOf xs).map (i :: ·)
  | _ => none
def ltL (S : Store) (a b : PV) : Option Bool := match lstOf S a, lstOf S b with
  | some xs, some ys => match intsOf xs, intsOf ys with
    | some ns, some ms => some (decide (ns < ms))
    | _, _ => none
  | _, _ => none
def op2 (o : B2) (a b : PV) (S : Store) : Option PV := match o with
  | .add => match a, b with
    | .int i, .int j => some (.int (i + j))
    | .str x, .str y => if few (x.length + y.length) then some (.str (x ++ y)) else none
    | .tup xs, .tup ys => if few (xs.length + ys.length) then some (.tup (xs ++ ys)) else none
    | a, b => match catOf S a, catOf S b with
      | some xs, some ys => if few (xs.length + ys.length) then some (.lst .new (xs ++ ys)) else none
      | _, _ => none
  | .sub => match a, b with
    | .int i, .int j => some (.int (i - j))
    | _, _ => none
  | .mul => match a, b with
    | .int i, .int j => if i.natAbs < 2 ^ 64 ∨ j.natAbs < 2 ^ 64 then some (.int (i * j)) else none
    | .int _, _ => none
    | x, .int j => if j < 1000000 ∧ -1000000 < j then match catOf S x with
      | some xs => if (!isNewL x || xs.all isFlat) && few (xs.length * j.toNat) then some (.lst .new (List.replicate j.toNat xs).flatten) else none
      | none => none
      else none
    | _, _ => none
  | .fdiv => match a, b with
    | .int i, .int j => if 0 < j ∧ j < 18446744073709551616 then some (.int (i / j)) else none
    | _, _ => none
  | .mod => match a, b with
    | .int i, .int j => if 0 < j then some (.int (i % j)) else none
    | _, _ => none
  | .pow => match a, b with
    | .int i, .int j => if 0 ≤ j ∧ j ≤ 1000000 ∧ i.natAbs < 2 ^ 64 then some (.int (i ^ j.toNat)) else none
    | _, _ => none
  | .lt => match a, b with
    | .int i, .int j => some (.bl (decide (i < j)))
    | a, b => (ltL S a b).map .bl
  | .le => match a, b with
    | .int i, .int j => some (.bl (decide (i ≤ j)))
    | _, _ => none
  | .gt => match a, b with
    | .int i, .int j => some (.bl (decide (j < i)))
    | _, _ => none
  | .ge => match a, b with
    | .int i, .int j => some (.bl (decide (j ≤ i)))
    | _, _ => none
  | .eq => (eqP S a b).map .bl
  | .ne => (eqP S a b).map fun k => .bl (!k)
  | .isin => (inP S a b).map .bl
  | .notin => (inP S a b).map fun k => .bl (!k)
  | .isN => match b with
    | .non => some (.bl (isNon a))
    | _ => none
  | .notN => match b with
    | .non => some (.bl (!isNon a))
    | _ => none
/-- o[i] -/
def ixP (o i : PV) (S : Store) : Option PV := match seqOf S o with
  | some xs => (match i with
    | .int k => atI xs k
    | _ => none)
  | none => match dK_of S o, keyOf i with
    | some kvs, some k => valP kvs k
    | _, _ => none
/-- o[lo:hi] -/
def cutP (xs : List PV) (lo hi : Option Int) : List PV := (xs.drop (HT.sIx xs.length 0 lo)).take (HT.sIx xs.length xs.length hi - HT.sIx xs.length 0 lo)
def slP (o : PV) (lo hi : Option Int) (S : Store) : Option PV := match o with
  | .tup xs => some (.tup (cutP xs lo hi))
  | o => match lstOf S o with
    | some xs => some (.lst .new (cutP xs lo hi))
    | none => none
def revP (o : PV) (S : Store) : Option PV := match o with
  | .tup xs => some (.tup xs.reverse)
  | o => match lstOf S o with
    | some xs => some (.lst .new xs.reverse)
    | none => none
def isTy (S : Store) (t : Ty) (x : PV) : Option Bool := match x with
  | .non => some false
  | .bl _ => some (match t with | .bool => true | .int => true | _ => false)
  | .int _ => some (match t with | .int => true | _ => false)
  | .str _ => some (match t with | .str => true | _ => false)
  | .tup _ => some (match t with | .tuple => true | _ => false)
  | .lst _ _ => some (match t with | .list => true | _ => false)
  | .dK _ _ _ => some (match t with | .dict => true | _ => false)
  | .dT _ _ _ => some (match t with | .dict => true | _ => false)
  | .ref l => match S[l]? with
    | some (.lst _) => some (match t with | .list => true | _ => false)
    | some (.dK _) => some (match t with | .dict => true | _ => false)
    | some (.dT _) => some (match t with | .dict => true | _ => false)
    | _ => none
def blsOf : List PV → Option (List Bool)
  | [] => some []
  | .bl i :: xs => (blsOf xs).map (i :: ·)
  | _ => none
def biP (b : Bi) (xs : List PV) (S : Store) : Option PV := match b, xs with
  | .len, [.str x] => if few x.length then some (.int x.length) else none
  | .len, [x] => (seqOf S x).map fun xs => .int xs.length
  | .list, [x] => (seqOf S x).map fun xs => .lst .new xs
  | .tuple, [x] => (seqOf S x).map .tup
  | .all, [x] => match lstOf S x with
    | some xs => (blsOf xs).map fun bs => .bl (bs.all id)
    | none => none
  | .any, [x] => match lstOf S x with
    | some xs => (blsOf xs).map fun bs => .bl (bs.any id)
    | none => none
  | .sum, [x] => match lstOf S x with
    | some xs => (intsOf xs).map fun is => .int is.sum
    | none => none
  | .min2, [.int i, .int j] => some (.int (if j < i then j else i))
  | .max2, [.int i, .int j] => some (.int (if j > i then j else i))
  | .min2, [x, y] => (ltL S y x).map fun b => if b then y else x
  | .strI, [.int i] => if i.natAbs.log2 < 1920 then some (.str (toString i)) else none
  | _, _ => none
def putP {κ : Type} [DecidableEq κ] (kvs : List (κ × PV)) (k : κ) (v : PV) : List (κ × PV) :=
  if (kvs.any fun kv => decide (kv.1 = k)) = true then kvs.map (fun kv => if kv.1 = k then (kv.1, v) else kv) else kvs ++ [(k, v)]
/-- dict(pairs): keys whole numbers, values flat -/
def pairsP : List PV → Option (List (Key × PV))
  | [] => some []
  | .tup [.int i, v] :: r => if isFlat v = true then (pairsP r).map ((Sum.inl i, v) :: ·) else none
  | _ => none
def mergeP (kvs : List (Key × PV)) : List (Key × PV) := kvs.foldl (fun acc kv => putP acc kv.1 kv.2) []
/-- o[i] = v -/
def setP (o i v : PV) (S : Store) : Option Store := match o with
  | .ref l => match S[l]? with
    | some (.lst xs) => (match i with
      | .int k => match ixN xs.length k with
        | some j => some (S.set l (.lst (xs.set j v)))
        | none => none
      | _ => none)
    | some (.dK kvs) => (match keyOf i with
      | some k => if few kvs.length then some (S.set l (.dK (putP kvs k v))) else none
      | none => none)
    | _ => none
  | _ => none
/-! ### instances -/
def attrP (ci : Nat) (f : Str) (x : PV) (S : Store) : Option PV := match x with
  | .ref l => match S[l]? with
    | some (.ins C fs) => if C = ci then fs.lookup f else none
    | _ => none
  | _ => none
def insP (ci : Nat) (m : Str) (x : PV) (S : Store) : Bool := match x with
  | .ref l => match S[l]? with
    | some (.ins C fs) => decide (C = ci) && (fs.lookup m).isNone
    | _ => false
  | _ => false
def putFP (f : Str) (v : PV) : List (Str × PV) → List (Str × PV)
  | [] => [(f, v)]
  | (g, x) :: r => if g = f then (g, v) :: r else (g, x) :: putFP f v r
def setatP (ci : Nat) (f : Str) (x v : PV) (S : Store) : Option Store := match x with
  | .ref l => match S[l]? with
    | some (.ins C fs) => if C = ci ∧ fs.length < 100 then some (S.set l (.ins ci (putFP f v fs))) else none
    | _ => none
  | _ => none
/-- a written dict: keys and values in turn -/
def dspP : List PV → Option (List Key × List PV)
  | [] => some ([], [])
  | [_] => none
  | k :: v :: r => match keyOf k, dspP r with
    | some k, some p => some (k :: p.1, v :: p.2)
    | _, _ => none
def dspV (vs : List PV) : Option PV := match dspP vs with
  | some p => if p.1.Nodup ∧ p.1.length ≤ 15 then some (.dK .new p.1 p.2) else none
  | none => none
/-! ### of one, two, three things -/
def insI (a : Int) : List Int → List Int
  | [] => [a]
  | b :: r => if a ≤ b then a :: b :: r else b :: insI a r
/-- whole numbers, sorted -/
def sortI : List Int → List Int
  | [] => []
  | a :: r => insI a (sortI r)
def rngP (lo hi : Int) (S : Store) : Option (PV × Store) := if -(2 ^ 62) ≤ lo ∧ lo < 2 ^ 62 ∧ -(2 ^ 62) ≤ hi ∧ hi < 2 ^ 62 ∧ (hi - lo).toNat ≤ 1000000 then some (.lst .new ((List.range (hi - lo).toNat).map fun (k : Nat) => .int (lo + (k : Int))), S) else none
def maxI : Int → List Int → Int
  | n, [] => n
  | n, m :: r => maxI (if n < m then m else n) r
def minI : Int → List Int → Int
  | n, [] => n
  | n, m :: r => minI (if m < n then m else n) r
def keyPV : Key → PV
  | .inl i => .int i
  | .inr x => .str x
def keysI : List (Key × PV) → Option (List Int)
  | [] => some []
  | (.inl i, _) :: r => (keysI r).map (i :: ·)
  | (.inr _, _) :: _ => none
def pr1 (o : O1) (x : PV) (S : Store) : Option (PV × Store) := match o with
  | .pop => match x with
    | .ref l => match S[l]? with
      | some (.lst xs) => (xs[xs.length - 1]?).map fun y => (y, S.set l (.lst xs.dropLast))
      | _ => none
    | _ => none
  | .clear => match x with
    | .ref l => match S[l]? with
      | some (.lst _) => some (.non, S.set l (.lst []))
      | _ => none
    | _ => none
  | .asc => match seqOf S x with
    | some xs => match intsOf xs with
      | some ns => if ns.length ≤ 1000 then some (.lst .new ((ascOf ns).map .int), S) else none
      | none => none
    | none => none
  | .intB => match x with
    | .bl b => some (.int (if b then 1 else 0), S)
    | _ => none
  | .lr1 => match x with
    | .int hi => rngP 0 hi S
    | _ => none
  | .sortL => match lstOf S x with
    | some xs => match intsOf xs with
      | some ns => if few ns.length then some (.lst .new ((sortI ns).map .int), S) else none
      | none => none
    | none => none
  | .sortT => match tupOf x with
    | some xs => match intsOf xs with
      | some ns => if few ns.length then some (.lst .new ((sortI ns).map .int), S) else none
      | none => none
    | none => none
  | .maxL => match lstOf S x with
    | some xs => match intsOf xs with
      | some (n :: ns) => some (.int (maxI n ns), S)
      | _ => none
    | none => none
  | .minL => match lstOf S x with
    | some xs => match intsOf xs with
      | some (n :: ns) => some (.int (minI n ns), S)
      | _ => none
    | none => none
  | .sortD => match dK_of S x with
    | some kvs => match keysI kvs with
      | some ns => if few ns.length then some (.lst .new ((sortI ns).map .int), S) else none
      | none => none
    | none => none
  | .lstD => match dK_of S x with
    | some kvs => if few kvs.length then some (.lst .new (kvs.map fun kv => keyPV kv.1), S) else none
    | none => none
  | .lenS => match seqOf S x with
    | some xs => match intsOf xs with
      | some ns => if ns.length ≤ 1000 then some (.int (ascOf ns).length, S) else none
      | none => none
    | none => none
  | .lenD => match dK_of S x with
    | some kvs => some (.int kvs.length, S)
    | none => none
  | .dictD => match dK_of S x with
    | some kvs => some (.dK .new (kvs.map (·.1)) (kvs.map (·.2)), S)
    | none => none
  | .dictP => match lstOf S x with
    | some xs => match pairsP xs with
      | some kvs => if kvs.length ≤ 1000 then some (.dK .new ((mergeP kvs).map (·.1)) ((mergeP kvs).map (·.2)), S) else none
      | none => none
    | none => none
def strsOf : List PV → Option (List Str)
  | [] => some []
  | .str x :: xs => (strsOf xs).map (x :: ·)
  | _ => none
def refL (S : Store) : PV → Bool
  | .ref l => match S[l]? with
    | some (.lst _) => true
    | _ => false
  | _ => false
def refD (S : Store) : PV → Bool
  | .ref l => match S[l]? with
    | some (.dK _) => true
    | _ => false
  | _ => false
def dropP {κ : Type} [DecidableEq κ] (kvs : List (κ × PV)) (k : κ) : List (κ × PV) := kvs.filter fun kv => decide (kv.1 ≠ k)
def ob2 (o : O2) (x : PV) (S : Store) : Bool := match o with
  | .append => refL S x
  | .popAt => refL S x
  | .get1 => (dK_of S x).isSome
  | .lr2 => true
  | .extend => refL S x
  | .popD => refD S x
  | .index => (lstOf S x).isSome
  | .join => match x with
    | .str _ => true
    | _ => false
def pr2 (o : O2) (x y : PV) (S : Store) : Option (PV × Store) := match o with
  | .append => match x with
    | .ref l => match S[l]? with
      | some (.lst xs) => if few xs.length then some (.non, S.set l (.lst (xs ++ [frz y]))) else none
      | _ => none
    | _ => none
  | .popAt => match x, y with
    | .ref l, .int i => match S[l]? with
      | some (.lst xs) => if few xs.length then match ixN xs.length i with
        | some j => (xs[j]?).map fun v => (v, S.set l (.lst (xs.eraseIdx j)))
        | none => none
        else none
      | _ => none
    | _, _ => none
  | .get1 => match dK_of S x, keyOf y with
    | some kvs, some k => some ((valP kvs k).getD .non, S)
    | _, _ => none
  | .lr2 => match x, y with
    | .int lo, .int hi => rngP lo hi S
    | _, _ => none
  | .popD => match x, keyOf y with
    | .ref l, some k => match S[l]? with
      | some (.dK kvs) => (valP kvs k).map fun v => (v, S.set l (.dK (dropP kvs k)))
      | _ => none
    | _, _ => none
  | .extend => match x, y with
    | .ref l, .ref l2 => match S[l]?, S[l2]? with
      | some (.lst xs), some (.lst ys) => if few (xs.length + ys.length) then some (.non, S.set l (.lst (xs ++ ys))) else none
      | _, _ => none
    | _, _ => none
  | .index => match lstOf S x with
    | some xs => if isFlat y && xs.all isFlat && xs.any (fun z => eqF z y) then some (.int (xs.findIdx fun z => eqF z y : Nat), S) else match mapO (dat S 8) xs, dat S 9 y with
      | some ds, some d => if ds.any (fun e => PyData.eqv e d) then some (.int (ds.findIdx fun e => PyData.eqv e d : Nat), S) else none
      | _, _ => none
    | none => none
  | .join => match x, lstOf S y with
    | .str a, some xs => match strsOf xs with
      | some ys => if (ys.map (·.length)).sum + ys.length * a.length ≤ 16777216 then some (.str (Txt.join a ys), S) else none
      | none => none
    | _, _ => none
def ob3 (o : O3) (x : PV) (S : Store) : Bool := match o with
  | .get2 => (dK_of S x).isSome
def pr3 (o : O3) (x y z : PV) (S : Store) : Option (PV × Store) := match o with
  | .get2 => match dK_of S x, keyOf y with
    | some kvs, some k => some ((valP kvs k).getD z, S)
    | _, _ => none
def ofP (o : Option (PV × Store)) : Res PV := match o with
  | some p => .ok p.1 p.2
  | none => .fail
/-! ### what is adopted, lent, given back -/
def adopt (v : PV) (S : Store) : PV × Store := match v with
  | .lst .new xs => (.ref S.length, S ++ [.lst (frzs xs)])
  | .dK .new ks xs => (.ref S.length, S ++ [.dK (ks.zip (frzs xs))])
  | .dT .new ks xs => (.ref S.length, S ++ [.dT (ks.zip (frzs xs))])
  | x => (frz x, S)
def adopts : List PV → Store → List PV × Store
  | [], S => ([], S)
  | x :: xs, S => let p := adopt x S; let q := adopts xs p.2; (p.1 :: q.1, q.2)
mutual
/-- new things become the store's, inner ones too -/
def dig : PV → Store → PV × Store
  | .tup xs, S => (.tup (digs xs S).1, (digs xs S).2)
  | .lst .new xs, S => (.ref (digs xs S).2.length, (digs xs S).2 ++ [.lst (digs xs S).1])
  | .dK .new ks xs, S => (.ref (digs xs S).2.length, (digs xs S).2 ++ [.dK (ks.zip (digs xs S).1)])
  | .dT .new ks xs, S => (.ref (digs xs S).2.length, (digs xs S).2 ++ [.dT (ks.zip (digs xs S).1)])
  | x, S => (x, S)
def digs : List PV → Store → List PV × Store
  | [], S => ([], S)
  | x :: xs, S => ((dig x S).1 :: (digs xs (dig x S).2).1, (digs xs (dig x S).2).2)
end
/-- lent for a call; the number bounds how deep -/
def lend (S : Store) : Nat → PV → Option PV
  | n + 1, .tup xs => (mapO (lend S n) xs).map .tup
  | n + 1, .lst k xs => (mapO (lend S n) xs).map (.lst (match k with | .scr => .scr | _ => .bor))
  | n + 1, .dK _ ks xs => (mapO (lend S n) xs).map (.dK .bor ks)
  | n + 1, .dT _ ks xs => (mapO (lend S n) xs).map (.dT .bor ks)
  | n + 1, .ref l => match S[l]? with
    | some (.lst xs) => (mapO (lend S n) xs).map (.lst .bor)
    | some (.dK kvs) => (mapO (lend S n) (kvs.map (·.2))).map (.dK .bor (kvs.map (·.1)))
    | some (.dT kvs) => (mapO (lend S n) (kvs.map (·.2))).map (.dT .bor (kvs.map (·.1)))
    | _ => none
  | 0, .tup _ => none
  | 0, .lst _ _ => none
  | 0, .dK _ _ _ => none
  | 0, .dT _ _ _ => none
  | 0, .ref _ => none
  | _, x => some x
mutual
/-- neither lent nor of the store -/
def clean : PV → Bool
  | .tup xs => cleans xs
  | .lst k xs => (match k with | .bor => false | .scr => false | _ => true) && cleans xs
  | .dK k _ xs => (match k with | .bor => false | .scr => false | _ => true) && cleans xs
  | .dT k _ xs => (match k with | .bor => false | .scr => false | _ => true) && cleans xs
  | .ref _ => false
  | _ => true
def cleans : List PV → Bool
  | [] => true
  | x :: xs => clean x && cleans xs
end
/-- what a call gives back: its own lists are new ones of the caller's; the second part: where they stood -/
def give (S : Store) : PV → Option (PV × List Nat)
  | .ref l => match S[l]? with
    | some (.lst xs) => if cleans xs then some (.lst .new xs, [l]) else none
    | some (.dK kvs) => if cleans (kvs.map (·.2)) then some (.dK .new (kvs.map (·.1)) (kvs.map (·.2)), [l]) else none
    | some (.dT kvs) => if cleans (kvs.map (·.2)) then some (.dT .new (kvs.map (·.1)) (kvs.map (·.2)), [l]) else none
    | _ => none
  | .tup xs => if cleans xs then some (.tup xs, []) else none
  | x => if clean x then some (x, []) else none
def ofO {α : Type} (o : Option α) (S : Store) : Res α := match o with
  | some v => .ok v S
  | none => .fail
def Gd (g : Option Nat) (all : List PV) (S : Store) : Prop := match g with
  | none => True
  | some l => S[l]? = some (.lst all)
/-- the defs, the module's constants -/
structure Cl where
  f : Nat → List PV → Store → Res PV
  g : Nat → PV
abbrev Call := Nat → List PV → Store → Res PV
def callP (ce : Call) (f : Nat) (vs : List PV) (S : Store) : Res PV := match mapO (lend S 9) vs with
  | none => .fail
  | some args => match ce f args [] with
    | .ok r S' => match give S' r with
      | some (r', _) => .ok r' S
      | none => .fail
    | .exc c p _ => match p with
      | none => .exc c none S
      | some p => if clean p then .exc c (some p) S else .fail
    | .fail => .fail
def callF (ce : Call) (f : Nat) (vs : List PV) (S : Store) : Res PV := let q := adopts vs S; ce f q.1 q.2
def wipeL (ρ : Loc) : List Nat → Loc
  | [] => ρ
  | v :: vs => (wipeL ρ vs).set v none
def setAll (ρ : Loc) : List Nat → List PV → Option Loc
  | [], [] => some ρ
  | i :: is, x :: xs => setAll (ρ.set i (some x)) is xs
  | _, _ => none
/-- a new instance -/
def makeF (ce : Call) (ci f : Nat) (vs : List PV) (S : Store) : Res PV := match ce f (.ref (adopts vs S).2.length :: (adopts vs S).1) ((adopts vs S).2 ++ [.ins ci []]) with
  | .ok .non S' => .ok (.ref (adopts vs S).2.length) S'
  | .ok _ _ => .fail
  | .exc c p S' => .exc c p S'
  | .fail => .fail
/-- a target is stored to -/
def bindT (tg : Tg) (x : PV) (ρ : Loc) : Option Loc := match tg with
  | .name i => some (ρ.set i (some x))
  | .tup is => match x with
    | .tup xs => setAll ρ is xs
    | _ => none
def asB : PV → Option Bool
  | .bl b => some b
  | _ => none
def compL (body : PV → Store → Res (Option PV)) (g : Option Nat) (all : List PV) : List PV → Store → Res (List PV)
  | [], S => if Gd g all S then .ok [] S else .fail
  | x :: r, S => if Gd g all S then
      match body x S with
      | .ok o S => (match compL body g all r S with
        | .ok vs S => .ok (o.toList ++ vs) S
        | _ => .fail)
      | _ => .fail
    else .fail
mutual
/-- nothing that changes, nothing that stands in the store -/
def immP : PV → Bool
  | .non => true
  | .bl _ => true
  | .int _ => true
  | .str _ => true
  | .tup xs => immPs xs
  | _ => false
def immPs : List PV → Bool
  | [] => true
  | x :: xs => immP x && immPs xs
end
/-- [f(o.fld[k], w) for k in o.fld]: class, o, fld, f, k, w -/
def shapeD : E → E → Option (Nat × Nat × Str × Nat × Nat × Nat)
  | .attr ci (.var s) fld, .call .pure f (.cons (.ix (.attr ci' (.var s') fld') (.var k)) (.cons (.var w) .nil)) => if ci' = ci ∧ s' = s ∧ fld' = fld ∧ k ≠ s ∧ k ≠ w then some (ci, s, fld, f, k, w) else none
  | _, _ => none
/-- f of each value and x: whole numbers -/
def cdL (ce : Call) (f : Nat) (x : Str) : List PV → Option (List Int)
  | [] => some []
  | v :: r => if immP v = true then (match ce f [v, .str x] [] with
    | .ok (.int i) _ => (cdL ce f x r).map (i :: ·)
    | _ => none) else none
def cdV (ce : Call) (ci s : Nat) (fld : Str) (f k w : Nat) (ρ : Loc) (S : Store) : Option PV := match ρ[s]?, ρ[w]? with
  | some (some o), some (some (.str x)) => (match attrP ci fld o S with
    | some (.ref l) => (match S[l]? with
      | some (.dK kvs) => if few kvs.length = true ∧ (kvs.map (·.1)).Nodup ∧ k < ρ.length then (cdL ce f x (kvs.map (·.2))).map fun is => .lst .new (is.map .int) else none
      | _ => none)
    | _ => none)
  | _, _ => none
/-- one of several defs, by its number -/
def pickF (fs : List (Md × Nat)) (k : Int) : Option (Md × Nat) := if 0 ≤ k then fs[k.toNat]? else none
/-- a sign of a text -/
def sixP : PV → PV → Option PV
  | .str z, .int i => if few z.length then (match atI z.cps.toList i with
    | some c => some (.str ⟨#[c]⟩)
    | none => none) else none
  | _, _ => none
def enumP : Nat → List PV → List PV
  | _, [] => []
  | n, x :: xs => .tup [.int n, x] :: enumP (n + 1) xs
section
variable (ce : Cl)
mutual
def evE : E → Loc → Store → Res PV
  | .var i, ρ, S => match ρ[i]? with
    | some (some v) => .ok v S
    | _ => .fail
  | .con v, _, S => .ok v S
  | .glob j, _, S => .ok (ce.g j) S
  | .neg a, ρ, S => (evE a ρ S).bind fun v S => match v with
    | .int i => .ok (.int (-i)) S
    | _ => .fail
  | .nt a, ρ, S => (evE a ρ S).bind fun v S => match v with
    | .bl b => .ok (.bl (!b)) S
    | _ => .fail
  | .bin o a b, ρ, S => (evE a ρ S).bind fun x S => (evE b ρ S).bind fun y S => ofO (op2 o x y S) S
  | .chain o1 o2 a b c, ρ, S => (evE a ρ S).bind fun x S => (evE b ρ S).bind fun y S => match op2 o1 x y S with
    | some (.bl true) => (evE c ρ S).bind fun z S => ofO (op2 o2 y z S) S
    | some (.bl false) => .ok (.bl false) S
    | _ => .fail
  | .bop k es, ρ, S => evBop k es ρ S
  | .ite c a b, ρ, S => (evE c ρ S).bind fun v S => match v with
    | .bl true => evE a ρ S
    | .bl false => evE b ρ S
    | _ => .fail
  | .tup es, ρ, S => (evEs es ρ S).bind fun vs S => .ok (.tup vs) S
  | .lst es, ρ, S => (evEs es ρ S).bind fun vs S => .ok (.lst .new vs) S
  | .ix a i, ρ, S => (evE a ρ S).bind fun x S => (evE i ρ S).bind fun y S => ofO (ixP x y S) S
  | .slc a lo hi, ρ, S => (evE a ρ S).bind fun x S => (evP lo ρ S).bind fun l S => (evP hi ρ S).bind fun h S => ofO (slP x l h S) S
  | .rev a, ρ, S => (evE a ρ S).bind fun x S => ofO (revP x S) S
  | .call m f es, ρ, S => (evEs es ρ S).bind fun vs S => match m with
    | .pure => callP ce.f f vs S
    | .full => callF ce.f f vs S
    | .trunc => .fail
  | .bi b es, ρ, S => (evEs es ρ S).bind fun vs S => ofO (biP b vs S) S
  | .isi t a, ρ, S => (evE a ρ S).bind fun x S => ofO ((isTy S t x).map .bl) S
  | .comp own tg it cs e, ρ, S => (evIt it ρ S).bind fun p S => if few p.1.length then
    (compL (fun x S => match bindT tg x (wipeL ρ (own.map (·.2))) with
      | none => .fail
      | some ρ' => (evBs cs ρ' S).bind fun k S => if k then (evE e ρ' S).bind fun v S => .ok (some v) S else .ok none S) p.2 p.1 p.1 S).bind fun vs S => .ok (.lst .new vs) S
    else .fail
  | .p1 o a, ρ, S => (evE a ρ S).bind fun x S => ofP (pr1 o x S)
  | .p2 o a b, ρ, S => (evE a ρ S).bind fun x S => if ob2 o x S then (evE b ρ S).bind fun y S => ofP (pr2 o x y S) else .fail
  | .p3 o a b c, ρ, S => (evE a ρ S).bind fun x S => if ob3 o x S then (evE b ρ S).bind fun y S => (evE c ρ S).bind fun z S => ofP (pr3 o x y z S) else .fail
  | .d0 t, _, S => if t then .ok (.dT .new [] []) S else .ok (.dK .new [] []) S
  | .own a, ρ, S => (evE a ρ S).bind fun x S => .ok (dig x S).1 (dig x S).2
  | .ad a, ρ, S => (evE a ρ S).bind fun x S => .ok (adopt x S).1 (adopt x S).2
  | .attr ci a f, ρ, S => (evE a ρ S).bind fun x S => ofO (attrP ci f x S) S
  | .meth ci f m o es, ρ, S => (evE o ρ S).bind fun x S => if insP ci m x S then (evEs es ρ S).bind fun vs S => callF ce.f f (x :: vs) S else .fail
  | .make ci f es, ρ, S => (evEs es ρ S).bind fun vs S => makeF ce.f ci f vs S
  | .dsp es, ρ, S => (evEs es ρ S).bind fun vs S => ofO (dspV vs) S
  | .compD _ a e, ρ, S => (match shapeD a e with
    | some (ci, s, fld, f, k, w) => ofO (cdV ce.f ci s fld f k w ρ S) S
    | none => .fail)
  | .callx fs i es, ρ, S => (evE i ρ S).bind fun v S => match v with
    | .int k => (match pickF fs k with
      | some (m, f) => (evEs es ρ S).bind fun vs S => (match m with
        | .pure => callP ce.f f vs S
        | .full => callF ce.f f vs S
        | .trunc => .fail)
      | none => .fail)
    | _ => .fail
  | .sIx a i, ρ, S => (evE a ρ S).bind fun x S => (evE i ρ S).bind fun y S => ofO (sixP x y) S
def evEs : Es → Loc → Store → Res (List PV)
  | .nil, _, S => .ok [] S
  | .cons e es, ρ, S => (evE e ρ S).bind fun v S => (evEs es ρ S).bind fun vs S => .ok (v :: vs) S
def evBop (k : Bool) : Es → Loc → Store → Res PV
  | .nil, _, _ => .fail
  | .cons e .nil, ρ, S => evE e ρ S
  | .cons e (.cons e' es), ρ, S => (evE e ρ S).bind fun v S => match v with
    | .bl b => if b = k then evBop k (.cons e' es) ρ S else .ok (.bl b) S
    | _ => .fail
def evBs : Es → Loc → Store → Res Bool
  | .nil, _, S => .ok true S
  | .cons e es, ρ, S => (evE e ρ S).bind fun v S => match v with
    | .bl true => evBs es ρ S
    | .bl false => .ok false S
    | _ => .fail
def evP : P → Loc → Store → Res (Option Int)
  | .no, _, S => .ok none S
  | .yes e, ρ, S => (evE e ρ S).bind fun v S => match v with
    | .int i => .ok (some i) S
    | _ => .fail
def evIt : It → Loc → Store → Res (List PV × Option Nat)
  | .r1 a, ρ, S => (evE a ρ S).bind fun v S => match v with
    | .int n => if n < 2 ^ 62 ∧ -(2 ^ 62) ≤ n then .ok ((List.range n.toNat).map (fun (k : Nat) => .int (k : Int)), none) S else .fail
    | _ => .fail
  | .r2 a b, ρ, S => (evE a ρ S).bind fun v S => (evE b ρ S).bind fun w S => match v, w with
    | .int m, .int n => if -(2 ^ 62) ≤ m ∧ m < 2 ^ 62 ∧ -(2 ^ 62) ≤ n ∧ n < 2 ^ 62 then .ok ((List.range (n - m).toNat).map (fun (k : Nat) => .int (m + (k : Int))), none) S else .fail
    | _, _ => .fail
  | .seq a, ρ, S => (evE a ρ S).bind fun v S => match v with
    | .ref l => (match S[l]? with
      | some (.lst xs) => .ok (xs, some l) S
      | _ => .fail)
    | .tup xs => .ok (frzs xs, none) S
    | .lst .new xs => .ok (frzs xs, none) S
    | .lst _ xs => .ok (xs, none) S
    | _ => .fail
  | .enum a, ρ, S => (evE a ρ S).bind fun v S => match v with
    | .lst .new _ => .fail
    | .lst _ xs => .ok (enumP 0 xs, none) S
    | _ => .fail
end
end
/-! ### statements -/
inductive FR where
  | next (ρ : Loc) (S : Store)
  | ret (v : PV) (S : Store)
  | brk (ρ : Loc) (S : Store)
  | exc (c : Nat) (p : Option PV) (ρ : Loc) (S : Store)
  | fail
def FR.then (r : FR) (f : Loc → Store → FR) : FR := match r with
  | next ρ S => f ρ S
  | r => r
@[simp] theorem FR.then_next (ρ : Loc) (S : Store) (f : Loc → Store → FR) : (FR.next ρ S).then f = f ρ S := rfl
@[simp] theorem FR.then_ret (v : PV) (S : Store) (f : Loc → Store → FR) : (FR.ret v S).then f = .ret v S := rfl
@[simp] theorem FR.then_brk (ρ : Loc) (S : Store) (f : Loc → Store → FR) : (FR.brk ρ S).then f = .brk ρ S := rfl
@[simp] theorem FR.then_exc (c : Nat) (p : Option PV) (ρ : Loc) (S : Store) (f : Loc → Store → FR) : (FR.exc c p ρ S).then f = .exc c p ρ S := rfl
@[simp] theorem FR.then_fail (f : Loc → Store → FR) : FR.fail.then f = .fail := rfl
def onE {α : Type} (r : Res α) (ρ : Loc) (f : α → Store → FR) : FR := match r with
  | .ok v S => f v S
  | .exc c p S => .exc c p ρ S
  | .fail => .fail
@[simp] theorem onE_ok {α : Type} (v : α) (S : Store) (ρ : Loc) (f : α → Store → FR) : onE (.ok v S) ρ f = f v S := rfl
@[simp] theorem onE_exc {α : Type} (c : Nat) (p : Option PV) (S : Store) (ρ : Loc) (f : α → Store → FR) : onE (.exc c p S) ρ f = .exc c p ρ S := rfl
@[simp] theorem onE_fail {α : Type} (ρ : Loc) (f : α → Store → FR) : onE .fail ρ f = .fail := rfl
def forL (body : Loc → Store → FR) (tg : Tg) (g : Option Nat) (all : List PV) : List PV → Loc → Store → FR
  | [], ρ, S => if Gd g all S then .next ρ S else .fail
  | x :: r, ρ, S => if Gd g all S then
      match bindT tg x ρ with
      | none => .fail
      | some ρ => match body ρ S with
        | .next ρ S => forL body tg g all r ρ S
        | .brk ρ S => .next ρ S
        | q => q
    else .fail
def whileL (c : Loc → Store → Res PV) (body : Loc → Store → FR) : Nat → Loc → Store → FR
  | 0, _, _ => .fail
  | n + 1, ρ, S => onE (c ρ S) ρ fun v S => match v with
    | .bl true => (match body ρ S with
      | .next ρ S => whileL c body n ρ S
      | .brk ρ S => .next ρ S
      | q => q)
    | .bl false => .next ρ S
    | _ => .fail
def suF : Su → Loc → Store → FR
  | .ret v, _, S => .ret v S
  | .retl vs, _, S => .ret (.lst .new vs) S
  | .set i v, ρ, S => .next (ρ.set i (some v)) S
  | .app i v, ρ, S => match ρ[i]? with
    | some (some (.ref l)) => (match S[l]? with
      | some (.lst xs) => if few xs.length then .next ρ (S.set l (.lst (xs ++ [v]))) else .fail
      | _ => .fail)
    | _ => .fail
def hdsF : List Hd → Nat → Option PV → Loc → Store → FR
  | [], i, p, ρ, S => .exc i p ρ S
  | h :: r, i, p, ρ, S => if h.yes.contains i then suF h.su ρ S else if h.no.contains i then hdsF r i p ρ S else .fail
def tryF (r : FR) (hs : List Hd) : FR := match r with
  | .exc i p ρ S => hdsF hs i p ρ S
  | r => r
def parF (ρ : Loc) (i j : Nat) (p : List PV × Store) : FR := match p.1 with
  | [x, y] => .next ((ρ.set i (some x)).set j (some y)) p.2
  | _ => .fail
section
variable (ce : Cl)
def evT : T → Loc → Store → FR
  | .skip, ρ, S => .next ρ S
  | .seq a b, ρ, S => (evT a ρ S).then (evT b)
  | .ex e, ρ, S => onE (evE ce e ρ S) ρ fun _ S => .next ρ S
  | .set i e, ρ, S => onE (evE ce e ρ S) ρ fun v S => .next (ρ.set i (some (adopt v S).1)) (adopt v S).2
  | .unp is e, ρ, S => onE (evE ce e ρ S) ρ fun v S => match v with
    | .tup xs => (match setAll ρ is (adopts xs S).1 with
      | some ρ => .next ρ (adopts xs S).2
      | none => .fail)
    | _ => .fail
  | .setix o i e, ρ, S => onE (evE ce e ρ S) ρ fun v S => onE (evE ce o ρ S) ρ fun x S => onE (evE ce i ρ S) ρ fun y S => match setP x y (frz v) S with
    | some S => .next ρ S
    | none => .fail
  | .aug i o e, ρ, S => match ρ[i]? with
    | some (some (.int x)) => onE (evE ce e ρ S) ρ fun v S => match o, v with
      | .add, .int y => .next (ρ.set i (some (.int (x + y)))) S
      | .sub, .int y => .next (ρ.set i (some (.int (x - y)))) S
      | _, _ => .fail
    | _ => .fail
  | .ret e, ρ, S => onE (evE ce e ρ S) ρ fun v S => .ret v S
  | .retn, _, S => .ret .non S
  | .ite c a b, ρ, S => onE (evE ce c ρ S) ρ fun v S => match v with
    | .bl true => evT a ρ S
    | .bl false => evT b ρ S
    | _ => .fail
  | .for_ tg it b, ρ, S => onE (evIt ce it ρ S) ρ fun p S => forL (evT b) tg p.2 p.1 p.1 ρ S
  | .while_ n c b, ρ, S => whileL (evE ce c) (evT b) n ρ S
  | .brk, ρ, S => .brk ρ S
  | .raise c, ρ, S => .exc c none ρ S
  | .try_ b hs, ρ, S => tryF (evT b ρ S) hs
  | .setat ci o f e, ρ, S => onE (evE ce e ρ S) ρ fun v S => onE (evE ce o ρ S) ρ fun x S => match setatP ci f x (frz v) S with
    | some S => .next ρ S
    | none => .fail
  | .augat ci o f e, ρ, S => onE (evE ce o ρ S) ρ fun x S => match attrP ci f x S with
    | some (.int i) => onE (evE ce e ρ S) ρ fun v S => match v with
      | .int j => (match setatP ci f x (.int (i + j)) S with
        | some S => .next ρ S
        | none => .fail)
      | _ => .fail
    | _ => .fail
  | .swp o i o2 j a b, ρ, S => onE (evE ce a ρ S) ρ fun x S => onE (evE ce b ρ S) ρ fun y S => if isFlat x && isFlat y then
      onE (evE ce o ρ S) ρ fun ov S => onE (evE ce i ρ S) ρ fun iv S => match setP ov iv x S with
        | some S => onE (evE ce o2 ρ S) ρ fun ov S => onE (evE ce j ρ S) ρ fun iv S => match setP ov iv y S with
          | some S => .next ρ S
          | none => .fail
        | none => .fail
      else .fail
  | .par i j a b, ρ, S => onE (evEs ce (.cons a (.cons b .nil)) ρ S) ρ fun vs S => parF ρ i j (adopts vs S)
end
/-- a def's body: n names in all -/
def runF (ce : Cl) (n : Nat) (b : T) (args : List PV) (S : Store) : Res PV :=
  match evT ce b (args.map some ++ List.replicate (n - args.length) none) S with
  | .next _ S => .ok .non S
  | .ret v S => .ok v S
  | .exc c p _ S => .exc c p S
  | .brk _ _ => .fail
  | .fail => .fail
end Ev
end
set_option Elab.async false
set_option linter.all false
set_option maxRecDepth 100000
/-! EvD: what an evaluation must give; operators. -/
noncomputable section
namespace Ev
open PySem L2 PyProof.Rows
def XOk (c : Cn) (H : Hp) (p : Option PV) (d : Option Addr) : Prop := match p with
  | none => d = none
  | some v => ∃ a y, d = some a ∧ H a = some (.xd [("row", y)]) ∧ RV c H v y
abbrev RelT (α β : Type) := Cn → Hp → α → β → List Addr → Prop
/-- plain data -/
def RD {α : Type} : RelT α α := fun _ _ a b fp => a = b ∧ fp = []
def PostG {α β : Type} (rel : RelT α β) (c : Cn) (H : Hp) (r : Res α) (W : XK) (Q : β → Hp → Prop) : Prop := match r with
  | .ok v S' => ∀ c' H' x fp, Tr c H c' H' → Rel c' S' H' → rel c' H' v x fp → fp.Nodup → (∀ a, a ∈ fp → H a = none) → Q x H'
  | .exc i p S' => ∀ c' H' d, Tr c H c' H' → Rel c' S' H' → XOk c' H' p d → W (.ref (c.C i)) d H'
  | .fail => False
abbrev Post := @PostG PV V RN
def rdG {α β : Type} (rel : RelT α β) (K : PySem.W.Frag) (C : Nat → Addr) (f : Loc → Store → Res α) (W : WX) : L2.St → Hp → (β → Hp → Prop) → Prop := fun σ H Q =>
  ∃ c S ρ, c.K = K ∧ c.C = C ∧ Rel c S H ∧ RLs c H ρ σ ∧ PostG rel c H (f ρ S) (fun cls d H' => W cls d σ H') Q
abbrev rdE := @rdG PV V RN
abbrev rdA := @rdG (List PV) (List V) RNs
abbrev rdB := @rdG Bool Bool RD
/-- where an evaluation stands that began at c0, H0 -/
structure At (K : PySem.W.Frag) (C : Nat → Addr) (c0 : Cn) (H0 : Hp) (c : Cn) (S : Store) (ρ : Loc) (σ : L2.St) (H : Hp) : Prop where
  K0 : c0.K = K
  C0 : c0.C = C
  tr : Tr c0 H0 c H
  rel : Rel c S H
  loc : RLs c H ρ σ
theorem At.K {K : PySem.W.Frag} {C : Nat → Addr} {c0 c : Cn} {H0 H : Hp} {S : Store} {ρ : Loc} {σ : L2.St} (A : At K C c0 H0 c S ρ σ H) : c.K = K := A.tr.K.trans A.K0
theorem At.C {K : PySem.W.Frag} {C : Nat → Addr} {c0 c : Cn} {H0 H : Hp} {S : Store} {ρ : Loc} {σ : L2.St} (A : At K C c0 H0 c S ρ σ H) : c.C = C := A.tr.C.trans A.C0
section
variable {K : PySem.W.Frag} {C : Nat → Addr} {c0 c : Cn} {H0 H : Hp} {S : Store} {ρ : Loc} {σ : L2.St} {α β γ δ : Type} {relA : RelT α β} {relB : RelT γ δ}
/-- one evaluation within another -/
theorem At.step {f : Loc → Store → Res α} {g : α → Store → Res γ} {W : WX} {Q : δ → Hp → Prop} {Q1 : β → Hp → Prop} (A : At K C c0 H0 c S ρ σ H)
    (h : PostG relB c0 H0 ((f ρ S).bind g) (fun cls d H' => W cls d σ H') Q)
    (k : ∀ c1 S1 a x fp H1, f ρ S = .ok a S1 → At K C c0 H0 c1 S1 ρ σ H1 → Tr c H c1 H1 → relA c1 H1 a x fp → fp.Nodup → (∀ b, b ∈ fp → H b = none) → PostG relB c0 H0 (g a S1) (fun cls d H' => W cls d σ H') Q → Q1 x H1) :
    rdG relA K C f W σ H Q1 := by
  refine ⟨c, S, ρ, A.K, A.C, A.rel, A.loc, ?_⟩
  cases e : f ρ S with
  | ok a S1 =>
    rw [e] at h
    intro c1 H1 x fp t r rn nd fr
    exact k c1 S1 a x fp H1 e ⟨A.K0, A.C0, A.tr.trans t, r, A.loc.tr t⟩ t rn nd fr h
  | exc i p S1 =>
    rw [e] at h
    intro c1 H1 d t r x
    have := h c1 H1 d (A.tr.trans t) r x
    rw [A.tr.C]
    exact this
  | fail =>
    rw [e] at h
    exact h.elim
theorem rdG.start {f : Loc → Store → Res α} {W : WX} {Q : β → Hp → Prop} (h : rdG relA K C f W σ H Q) :
    ∃ c S ρ, At K C c H c S ρ σ H ∧ PostG relA c H (f ρ S) (fun cls d H' => W cls d σ H') Q := by
  obtain ⟨c, S, ρ, hK, hC, R, L, P⟩ := h
  exact ⟨c, S, ρ, ⟨hK, hC, Tr.refl c H, R, L⟩, P⟩
/-- the last of an evaluation -/
theorem At.last {f : Loc → Store → Res α} {W : WX} {Q : β → Hp → Prop} (A : At K C c0 H0 c S ρ σ H) (h : PostG relA c0 H0 (f ρ S) (fun cls d H' => W cls d σ H') Q) : rdG relA K C f W σ H Q := by
  refine ⟨c, S, ρ, A.K, A.C, A.rel, A.loc, ?_⟩
  cases e : f ρ S with
  | ok a S1 =>
    rw [e] at h
    intro c1 H1 x fp t r rn nd fr
    exact h c1 H1 x fp (A.tr.trans t) r rn nd fun a ha => A.tr.there a (fr a ha)
  | exc i p S1 =>
    rw [e] at h
    intro c1 H1 d t r x
    have := h c1 H1 d (A.tr.trans t) r x
    rw [A.tr.C]
    exact this
  | fail =>
    rw [e] at h
    exact h.elim
end
/-! ### a new object beside the store -/
theorem Tr.fresh {c : Cn} {H : Hp} {p : Addr} {o : HO} (h : H p = none) : Tr c H c (upd H p o) := ⟨rfl, rfl, rfl, List.prefix_refl _, fun _ h => .inl h, fun _ _ h => h, fun _ _ h => .inl h,
  fun a u e _ => by rw [upd_ne (ne_of_none e h)]; exact e, fun a e => by
    by_cases z : a = p
    · rw [z]; exact h
    · rw [upd_ne z] at e; exact e⟩
theorem Rel.fresh {c : Cn} {S : Store} {H : Hp} {p : Addr} {o : HO} (R : Rel c S H) (h : H p = none) : Rel c S (upd H p o) := by
  refine ⟨R.len, R.nd, fun i u a e1 e2 => (R.obj i u a e1 e2).tr (Tr.fresh h) (upd_ne fun z => ?_), R.mB, R.mF, fun a u e => ?_, fun a u e => ?_⟩
  · obtain ⟨q, hq, _⟩ := R.alive (List.mem_of_getElem? e2)
    rw [z, h] at hq; cases hq
  · rw [upd_ne (ne_of_none (R.bh a u e) h)]; exact R.bh a u e
  · rw [upd_ne (ne_of_none (R.fh a u e) h)]; exact R.fh a u e
theorem Rel.new {c : Cn} {S : Store} {H : Hp} {p : Addr} (R : Rel c S H) (h : H p = none) : c.F p = none ∧ c.B p = none ∧ p ∉ c.m := by
  refine ⟨?_, ?_, fun z => ?_⟩
  · cases e : c.F p with
    | none => rfl
    | some o => rw [R.fh p o e] at h; cases h
  · cases e : c.B p with
    | none => rfl
    | some o => rw [R.bh p o e] at h; cases h
  · obtain ⟨q, hq, _⟩ := R.alive z
    rw [h] at hq; cases hq
/-! ### what is read of a list, of a tuple -/
theorem RNs.length {c : Cn} {H : Hp} : ∀ {xs : List PV} {vs : List V} {fp : List Addr}, RNs c H xs vs fp → xs.length = vs.length
  | [], _, _, h => by simp only [RNs] at h; rw [h.1]; rfl
  | _ :: _, _, _, h => by
    simp only [RNs] at h
    obtain ⟨v, r, f1, f2, rfl, _, h2, _⟩ := h
    rw [List.length_cons, List.length_cons, h2.length]
theorem RNs.append {c : Cn} {H : Hp} : ∀ {xs ys : List PV} {vs ws : List V} {f g : List Addr}, RNs c H xs vs f → RNs c H ys ws g → RNs c H (xs ++ ys) (vs ++ ws) (f ++ g)
  | [], _, _, _, _, _, h, q => by simp only [RNs] at h; rw [h.1, h.2]; exact q
  | _ :: _, _, _, _, _, _, h, q => by
    simp only [RNs] at h
    obtain ⟨v, r, f1, f2, rfl, h1, h2, rfl⟩ := h
    have := h2.append q
    show RNs c H (_ :: (_ ++ _)) (v :: (r ++ _)) ((f1 ++ f2) ++ _)
    simp only [RNs]
    exact ⟨v, _, f1, f2 ++ _, rfl, h1, this, List.append_assoc ..⟩
/-- the item at a place -/
theorem RNs.get {c : Cn} {H : Hp} : ∀ {xs : List PV} {vs : List V} {f : List Addr} {i : Nat} {x : PV}, RNs c H xs vs f → xs[i]? = some x → ∃ v g, vs[i]? = some v ∧ RN c H x v g ∧ g.Sublist f
  | [], _, _, _, _, _, e => by simp at e
  | y :: _, _, _, 0, _, h, e => by
    simp only [RNs] at h
    obtain ⟨v, r, f1, f2, rfl, h1, h2, rfl⟩ := h
    simp at e; subst e
    exact ⟨v, f1, rfl, h1, List.sublist_append_left ..⟩
  | y :: _, _, _, i + 1, _, h, e => by
    simp only [RNs] at h
    obtain ⟨v, r, f1, f2, rfl, h1, h2, rfl⟩ := h
    obtain ⟨w, g, e1, q, s⟩ := h2.get (i := i) (by simpa using e)
    exact ⟨w, g, by simpa using e1, q, s.trans (List.sublist_append_right ..)⟩
theorem RNs.drop {c : Cn} {H : Hp} : ∀ {xs : List PV} {vs : List V} {f : List Addr} (n : Nat), RNs c H xs vs f → ∃ g, RNs c H (xs.drop n) (vs.drop n) g ∧ g.Sublist f
  | [], _, _, n, h => by
    simp only [RNs] at h
    rw [h.1, h.2]
    exact ⟨[], by rw [List.drop_nil, List.drop_nil]; simp [RNs], List.Sublist.refl _⟩
  | _ :: _, _, _, 0, h => ⟨_, h, List.Sublist.refl _⟩
  | _ :: _, _, _, n + 1, h => by
    simp only [RNs] at h
    obtain ⟨v, r, f1, f2, rfl, h1, h2, rfl⟩ := h
    obtain ⟨g, q, s⟩ := h2.drop n
    exact ⟨g, q, s.trans (List.sublist_append_right ..)⟩
theorem RNs.take {c : Cn} {H : Hp} : ∀ {xs : List PV} {vs : List V} {f : List Addr} (n : Nat), RNs c H xs vs f → ∃ g, RNs c H (xs.take n) (vs.take n) g ∧ g.Sublist f
  | [], _, _, n, h => by
    simp only [RNs] at h
    rw [h.1, h.2]
    exact ⟨[], by rw [List.take_nil, List.take_nil]; simp [RNs], List.Sublist.refl _⟩
  | _ :: _, _, _, 0, h => ⟨[], by simp [RNs], List.nil_sublist _⟩
  | _ :: _, _, _, n + 1, h => by
    simp only [RNs] at h
    obtain ⟨v, r, f1, f2, rfl, h1, h2, rfl⟩ := h
    obtain ⟨g, q, s⟩ := h2.take n
    refine ⟨f1 ++ g, ?_, List.Sublist.append (List.Sublist.refl _) s⟩
    show RNs c H (_ :: _) (v :: _) _
    simp only [RNs]
    exact ⟨v, _, f1, g, rfl, h1, q, rfl⟩
theorem RNs.reverse {c : Cn} {H : Hp} : ∀ {xs : List PV} {vs : List V} {f : List Addr}, RNs c H xs vs f → ∃ g, RNs c H xs.reverse vs.reverse g ∧ g.Perm f
  | [], _, _, h => by
    simp only [RNs] at h
    rw [h.1, h.2]
    exact ⟨[], by simp [RNs], List.Perm.refl _⟩
  | _ :: _, _, _, h => by
    simp only [RNs] at h
    obtain ⟨v, r, f1, f2, rfl, h1, h2, rfl⟩ := h
    obtain ⟨g, q, s⟩ := h2.reverse
    refine ⟨g ++ f1, ?_, (List.Perm.append_right f1 s).trans (List.perm_append_comm)⟩
    rw [List.reverse_cons, List.reverse_cons]
    refine q.append ?_
    simp only [RNs]
    exact ⟨v, [], f1, [], rfl, h1, ⟨rfl, rfl⟩, (List.append_nil _).symm⟩
/-- a list's content -/
theorem RN.lst {c : Cn} {S : Store} {H : Hp} (R : Rel c S H) {x : PV} {v : V} {fp : List Addr} {xs : List PV} (h : RN c H x v fp) (e : lstOf S x = some xs) :
    ∃ a vs g, v = .ref a ∧ SqL c.K H a vs ∧ RNs c H xs vs g ∧ g.Sublist fp ∧ (∀ q, catOf S x = some q → H a = some (.lst vs)) := by
  cases x with
  | ref l =>
    simp only [RN] at h
    obtain ⟨a, hl, rfl, _⟩ := h
    simp only [lstOf] at e
    split at e <;> try (cases e)
    rename_i xs' hS
    obtain ⟨vs, h1, h2⟩ := R.obj l _ a hS hl
    exact ⟨a, vs, [], rfl, SqL.of h1, h2, List.nil_sublist _, fun _ _ => h1⟩
  | lst k ys =>
    simp only [RN] at h
    obtain ⟨a, vs, g, rfl, l, r, rfl, z⟩ := h
    cases e
    refine ⟨a, vs, g, rfl, ?_, r, ?_, ?_⟩
    · cases k with
      | new => exact SqL.of l.1
      | frz => exact SqL.of (R.fh _ _ l)
      | bor => exact SqL.of (R.bh _ _ l)
      | scr =>
        rcases l with (l | ⟨o, l⟩) | l
        · exact .inl (.inl (R.bh _ _ l))
        · exact .inl (.inr ⟨o, R.bh _ _ l⟩)
        · exact .inr l
    · unfold own
      split
      · exact List.sublist_cons_self ..
      · exact List.Sublist.refl _
    · cases k with
      | new => exact fun _ _ => l.1
      | frz => exact fun _ _ => R.fh _ _ l
      | bor => exact fun _ _ => R.bh _ _ l
      | scr => exact fun q z => by cases z
  | _ => simp [lstOf] at e
theorem cat_lst {S : Store} {x : PV} {xs : List PV} (h : catOf S x = some xs) : lstOf S x = some xs := by
  unfold catOf at h
  split at h
  · cases h
  · exact h
theorem RN.seq {c : Cn} {S : Store} {H : Hp} (R : Rel c S H) {x : PV} {v : V} {fp : List Addr} {xs : List PV} (h : RN c H x v fp) (e : seqOf S x = some xs) :
    ∃ a vs g, v = .ref a ∧ (SqL c.K H a vs ∨ SqT c.K H a vs) ∧ RNs c H xs vs g ∧ g.Sublist fp := by
  by_cases hx : ∃ ys, x = .tup ys
  · obtain ⟨ys, rfl⟩ := hx
    cases e
    simp only [RN] at h
    obtain ⟨a, vs, rfl, s, r⟩ := h
    exact ⟨a, vs, fp, rfl, .inr s, r, List.Sublist.refl _⟩
  · have e' : lstOf S x = some xs := by
      unfold seqOf at e
      split at e
      · rename_i ys
        exact absurd ⟨ys, rfl⟩ hx
      · exact e
    obtain ⟨a, vs, g, h1, h2, h3, h4, _⟩ := h.lst R e'
    exact ⟨a, vs, g, h1, .inl h2, h3, h4⟩
end Ev
end
set_option Elab.async false
set_option linter.all false
set_option maxRecDepth 100000
/-! EvE: operators keep what op2 says. -/
noncomputable section
namespace Ev
open PySem L2 PyProof.Rows
theorem few_le {n : Nat} (h : few n = true) : n ≤ sizeLine := Nat.le_trans (of_decide_eq_true h) (by rw [sizeLine_eq]; decide)
theorem fewn {n : Nat} (h : few n = true) : n ≤ 1000000 := of_decide_eq_true h
/-! ### data -/
theorem mapO_cons {α β : Type} {f : α → Option β} {x : α} {xs : List α} {ys : List β} (h : mapO f (x :: xs) = some ys) : ∃ y r, f x = some y ∧ mapO f xs = some r ∧ ys = y :: r := by
  unfold mapO at h
  cases e1 : f x with
  | none => rw [e1] at h; cases h
  | some y =>
    cases e2 : mapO f xs with
    | none => rw [e1, e2] at h; cases h
    | some r =>
      rw [e1, e2] at h
      cases h
      exact ⟨y, r, rfl, rfl, rfl⟩
structure DatOk (K : PySem.W.Frag) (H : Hp) (n : Nat) (v : V) (d : PyData) : Prop where
  dp : Dp K H v d
  lay : d.canLay0 = true
  dep : d.depth ≤ n
section
variable {c : Cn} {S : Store} {H : Hp}
theorem dats {n : Nat} (ih : ∀ {x : PV} {d : PyData} {v : V} {fp : List Addr}, dat S n x = some d → RN c H x v fp → DatOk c.K H n v d) :
    ∀ {xs : List PV} {ds : List PyData} {vs : List V} {fp : List Addr}, mapO (dat S n) xs = some ds → RNs c H xs vs fp → DpAll c.K H vs ds ∧ PyData.canLayAll0 ds = true ∧ PyData.depthAll ds ≤ n
  | [], _, _, _, e, h => by
    cases e
    simp only [RNs] at h
    rw [h.1]
    exact ⟨.nil, by simp [PyData.canLayAll0], by simp [PyData.depthAll]⟩
  | x :: xs, _, _, _, e, h => by
    obtain ⟨y, r, e1, e2, rfl⟩ := mapO_cons e
    simp only [RNs] at h
    obtain ⟨v, vr, f1, f2, rfl, h1, h2, rfl⟩ := h
    obtain ⟨d1, d2, d3⟩ := ih e1 h1
    obtain ⟨q1, q2, q3⟩ := dats ih e2 h2
    refine ⟨.cons d1 q1, ?_, ?_⟩
    · simp only [PyData.canLayAll0]; rw [d2, q2]; rfl
    · simp only [PyData.depthAll]; omega
theorem dat_ok (R : Rel c S H) : ∀ {n : Nat} {x : PV} {d : PyData} {v : V} {fp : List Addr}, dat S n x = some d → RN c H x v fp → DatOk c.K H n v d
  | n, .non, _, _, _, e, h => by
    cases n <;> (simp only [dat] at e; cases e; simp only [RN] at h; rw [h.1]; exact ⟨.non, by simp [PyData.canLay0], by simp [PyData.depth]⟩)
  | n, .bl b, _, _, _, e, h => by
    cases n <;> (simp only [dat] at e; cases e; simp only [RN] at h; rw [h.1]; exact ⟨.bl b, by simp [PyData.canLay0], by simp [PyData.depth]⟩)
  | n, .int b, _, _, _, e, h => by
    cases n <;> (simp only [dat] at e; cases e; simp only [RN] at h; rw [h.1]; exact ⟨.int b, by simp [PyData.canLay0], by simp [PyData.depth]⟩)
  | n, .str b, _, _, _, e, h => by
    cases n <;> (simp only [dat] at e; split at e <;> cases e; rename_i hc; simp only [RN] at h; rw [h.1]; exact ⟨.str b, hc, by simp [PyData.depth]⟩)
  | 0, .tup _, _, _, _, e, _ => by simp [dat] at e
  | 0, .lst _ _, _, _, _, e, _ => by simp [dat] at e
  | 0, .ref _, _, _, _, e, _ => by simp [dat] at e
  | n, .dK _ _ _, _, _, _, e, _ => by cases n <;> simp [dat] at e
  | n, .dT _ _ _, _, _, _, e, _ => by cases n <;> simp [dat] at e
  | n + 1, .tup xs, _, _, _, e, h => by
    simp only [dat] at e
    obtain ⟨ds, e1, rfl⟩ := Option.map_eq_some_iff.mp e
    simp only [RN] at h
    obtain ⟨a, vs, rfl, s, r⟩ := h
    obtain ⟨q1, q2, q3⟩ := dats (fun e h => dat_ok R e h) e1 r
    exact ⟨.tup s q1, by simpa [PyData.canLay0] using q2, by simp only [PyData.depth]; omega⟩
  | n + 1, .lst k xs, _, _, _, e, h => by
    simp only [dat] at e
    obtain ⟨ds, e1, rfl⟩ := Option.map_eq_some_iff.mp e
    obtain ⟨a, vs, g, rfl, s, r, _, _⟩ := h.lst R (xs := xs) rfl
    obtain ⟨q1, q2, q3⟩ := dats (fun e h => dat_ok R e h) e1 r
    exact ⟨.lst s q1, by simpa [PyData.canLay0] using q2, by simp only [PyData.depth]; omega⟩
  | n + 1, .ref l, _, _, _, e, h => by
    simp only [dat] at e
    split at e <;> try (cases e)
    rename_i xs hS
    obtain ⟨ds, e1, rfl⟩ := Option.map_eq_some_iff.mp e
    obtain ⟨a, vs, g, rfl, s, r, _, _⟩ := h.lst R (xs := xs) (by simp only [lstOf, hS])
    obtain ⟨q1, q2, q3⟩ := dats (fun e h => dat_ok R e h) e1 r
    exact ⟨.lst s q1, by simpa [PyData.canLay0] using q2, by simp only [PyData.depth]; omega⟩
theorem flat_V {x : PV} {v : V} {fp : List Addr} (f : isFlat x = true) (h : RN c H x v fp) : flatV v = true ∧ fp = [] := by
  cases x <;> first
    | (simp only [RN] at h; obtain ⟨rfl, rfl⟩ := h; exact ⟨rfl, rfl⟩)
    | (simp [isFlat] at f)
theorem non_V {a : PV} {x : V} {f : List Addr} (ha : RN c H a x f) : decide (x = V.non) = isNon a := by
  cases a <;> simp only [RN] at ha <;> first
    | (rw [ha.1]; rfl)
    | (obtain ⟨_, _, rfl, _⟩ := ha; rfl)
    | (obtain ⟨_, _, _, rfl, _⟩ := ha; rfl)
    | (rw [ha.1]; simp [isNon])
theorem eqF_V {x y : PV} {v w : V} {f g : List Addr} (fx : isFlat x = true) (fy : isFlat y = true) (h : RN c H x v f) (q : RN c H y w g) : eqV v w = eqF x y := by
  cases x <;> cases y <;> first
    | (simp only [RN] at h q; obtain ⟨rfl, rfl⟩ := h; obtain ⟨rfl, rfl⟩ := q; rfl)
    | (simp [isFlat] at fx; done)
    | (simp [isFlat] at fy; done)
end
/-! ### the operators' readings -/
def rStr : R2 := fun x y H Q => ∃ i j, x = .str i ∧ y = .str j ∧ i.length + j.length ≤ sizeLine ∧ Q (.str (i ++ j)) H
def rAdd (K : PySem.W.Frag) : R2 := fun x y H Q => (rI0 (fun i j => .int (i + j)) x y H Q ∨ rStr x y H Q) ∨ (rCatA K x y H Q ∨ rCat x y H Q)
def fOp : B2 → Value → Value → Sem Value
  | .add => binaryOp .Add
  | .sub => binaryOp .Sub
  | .mul => binaryOp .Mult
  | .fdiv => binaryOp .FloorDiv
  | .mod => binaryOp .Mod
  | .pow => binaryOp .Pow
  | .lt => compareOp .Lt
  | .le => compareOp .LtE
  | .gt => compareOp .Gt
  | .ge => compareOp .GtE
  | .eq => compareOp .Eq
  | .ne => compareOp .NotEq
  | .isin => compareOp .In
  | .notin => compareOp .NotIn
  | .isN => compareOp .Is
  | .notN => compareOp .IsNot
def rInD : R2 := fun x y H Q => ∃ a o, y = .ref a ∧ DGet H a x o ∧ Q (.bl o.isSome) H
def rNinD : R2 := fun x y H Q => ∃ a o, y = .ref a ∧ DGet H a x o ∧ Q (.bl (!o.isSome)) H
theorem op_inD {X : Cx} (hu : X.A.units + 64 < cLine) : OpR X (compareOp .In) rInD := by
  intro pins s σ H x y v u Q I rx ry h
  obtain ⟨a, o, rfl, g, q⟩ := h
  cases ry
  exact d_in (Nat.lt_of_le_of_lt (Nat.add_le_add_left (by decide) _) hu) I g rx fun s' I' => ⟨.bl o.isSome, H, I', rfl, q⟩
theorem op_notInD {X : Cx} (hu : X.A.units + 64 < cLine) : OpR X (compareOp .NotIn) rNinD := by
  intro pins s σ H x y v u Q I rx ry h
  obtain ⟨a, o, rfl, g, q⟩ := h
  cases ry
  exact d_notIn (Nat.lt_of_le_of_lt (Nat.add_le_add_left (by decide) _) hu) I g rx fun s' I' => ⟨.bl (!o.isSome), H, I', rfl, q⟩
def rLtD (K : PySem.W.Frag) : R2 := fun x y H Q => ∃ ns ms : List Int, Dp K H x (.list (ns.map .int)) ∧ Dp K H y (.list (ms.map .int)) ∧ Q (.bl (decide (ns < ms))) H
theorem op_ltD {X : Cx} (hu : X.A.units + 64 < cLine) : OpR X (compareOp .Lt) (rLtD X.K) := by
  intro pins s σ H x y v u Q I rx ry h
  obtain ⟨ns, ms, hd, he, q⟩ := h
  obtain ⟨as, r1⟩ := Dp.reads I _ x v hd rx
  obtain ⟨bs, r2⟩ := Dp.reads I _ y u he ry
  have al : PySem.W.alike (.list (ns.map .int)) (.list (ms.map .int)) = true := by
    simp only [PySem.W.alike]
    exact PySem.W.alike_ints ns ms
  have e : PySem.W.dataLt (.list (ns.map .int)) (.list (ms.map .int)) = decide (ns < ms) := by
    rw [PySem.W.dataLt_list]
    exact PySem.W.dataLt_ints ns ms
  have dp : (PyData.list (ns.map .int)).depth ≤ 1 := by
    simp only [PyData.depth, PySem.W.depth_ints]
    omega
  have k := PySem.W.rcLt_alike (.list (ns.map .int)) (.list (ms.map .int)) X.A s v u as bs r1 r2 al (fun z => by cases z) (by omega) X.prog X.w X.xe (EP X pins σ Q)
  rw [e] at k
  exact k ⟨.bl _, H, I, rfl, q⟩
def rOp (K : PySem.W.Frag) : B2 → R2
  | .add => rAdd K
  | .sub => rI0 fun i j => .int (i - j)
  | .mul => fun x y H Q => rI CMul (fun i j => .int (i * j)) x y H Q ∨ rRep x y H Q
  | .fdiv => rI CDivW fun i j => .int (i / j)
  | .mod => rI (fun _ j => 0 < j) fun i j => .int (i % j)
  | .pow => rI CPow fun i j => .int (i ^ j.toNat)
  | .lt => fun x y H Q => rI0 (fun i j => .bl (decide (i < j))) x y H Q ∨ rLtD K x y H Q
  | .le => rI0 fun i j => .bl (decide (i ≤ j))
  | .gt => rI0 fun i j => .bl (decide (j < i))
  | .ge => rI0 fun i j => .bl (decide (j ≤ i))
  | .eq => fun x y H Q => rEq x y H Q ∨ rEqD K x y H Q
  | .ne => fun x y H Q => rNe x y H Q ∨ rNeD K x y H Q
  | .isin => fun x y H Q => rIn K false x y H Q ∨ rInD x y H Q
  | .notin => fun x y H Q => rIn K true x y H Q ∨ rNinD x y H Q
  | .isN => fun x y H Q => y = .non ∧ Q (.bl (decide (x = .non))) H
  | .notN => fun x y H Q => y = .non ∧ Q (.bl (!decide (x = .non))) H
theorem op_ok {X : Cx} (hu : X.A.units + 64 < cLine) : ∀ o : B2, OpR X (fOp o) (rOp X.K o)
  | .add => (op_add.or op_add_str).or (op_catA.or op_cat)
  | .sub => op_sub
  | .mul => op_mul.or op_rep
  | .fdiv => op_fdivW
  | .mod => op_mod
  | .pow => op_pow
  | .lt => op_lt.or (op_ltD hu)
  | .le => op_le
  | .gt => op_gt
  | .ge => op_ge
  | .eq => op_eq.or (op_eqD hu)
  | .ne => op_ne.or (op_neD hu)
  | .isin => op_in_seq.or (op_inD hu)
  | .notin => op_notIn_seq.or (op_notInD hu)
  | .isN => op_isN
  | .notN => op_notN
theorem flat_nil {c : Cn} {H : Hp} {x : PV} {v : V} {f : List Addr} (hf : isFlat x = true) (h : RN c H x v f) : f = [] := by
  cases x <;> first | (simp [isFlat] at hf; done) | (simp only [RN] at h; exact h.2)
theorem flats_nil {c : Cn} {H : Hp} : ∀ {xs : List PV} {vs : List V} {f : List Addr}, xs.all isFlat = true → RNs c H xs vs f → f = []
  | [], _, _, _, h => by simp only [RNs] at h; exact h.2
  | x :: xs, _, _, hf, h => by
    simp only [RNs] at h
    obtain ⟨v, r, f1, f2, rfl, h1, h2, rfl⟩ := h
    rw [List.all_cons, Bool.and_eq_true] at hf
    rw [flat_nil hf.1 h1, flats_nil hf.2 h2]
    rfl
/-- a list whose things are settled -/
theorem RN.lstS {c : Cn} {S : Store} {H : Hp} (R : Rel c S H) {x : PV} {v : V} {fp : List Addr} {xs : List PV} (h : RN c H x v fp) (e : lstOf S x = some xs) (hs : isNewL x = false ∨ xs.all isFlat = true) :
    ∃ a vs, v = .ref a ∧ RVs c H xs vs ∧ (∀ q, catOf S x = some q → H a = some (.lst vs)) := by
  have h0 := h
  obtain ⟨a, vs, g, rfl, s, r, _, t⟩ := h.lst R e
  by_cases hn : isNewL x = false
  · cases x with
    | ref l =>
      obtain ⟨a', vs', e1, e2, e3⟩ : ∃ a' vs', V.ref a = .ref a' ∧ RVs c H xs vs' ∧ H a' = some (.lst vs') := by
        simp only [RN] at h0
        obtain ⟨b, hl, hb, _⟩ := h0
        simp only [lstOf] at e
        split at e <;> try (cases e)
        rename_i xs' hS
        obtain ⟨ws, h1, h2⟩ := R.obj l _ b hS hl
        exact ⟨b, ws, hb, h2, h1⟩
      exact ⟨a', vs', e1, e2, fun _ _ => e3⟩
    | lst k ys =>
      cases k with
      | new => simp [isNewL] at hn
      | _ =>
        have hx := h0.lst R e
        simp only [RN] at h0
        obtain ⟨b, ws, f', e1, l, r', e2, z⟩ := h0
        have z : f' = [] := z.resolve_left (by decide)
        subst z
        cases e
        cases e1
        refine ⟨a, ws, rfl, r', fun q hq => ?_⟩
        first
          | exact R.fh _ _ l
          | exact R.bh _ _ l
          | (simp [catOf] at hq; done)
    | _ => simp [lstOf] at e
  · have hf := hs.resolve_left hn
    have hg := flats_nil hf r
    subst hg
    exact ⟨a, vs, rfl, r, t⟩
theorem app_rvs {c : Cn} {H : Hp} {xs ys : List PV} {vs ws : List V} (h : RVs c H xs vs) (h2 : RVs c H ys ws) : RVs c H (xs ++ ys) (vs ++ ws) := RNs.append h h2
theorem rep_rvs {c : Cn} {H : Hp} {xs : List PV} {vs : List V} (h : RVs c H xs vs) : ∀ n : Nat, RVs c H (List.replicate n xs).flatten (List.replicate n vs).flatten
  | 0 => ⟨rfl, rfl⟩
  | n + 1 => by
    rw [List.replicate_succ, List.replicate_succ, List.flatten_cons, List.flatten_cons]
    exact app_rvs h (rep_rvs h n)
/-- what may be said of an outcome r of values whose new parts stand at A -/
abbrev Fin (c : Cn) (S : Store) (H : Hp) (A : List Addr) (r : PV) (Q : VK) : Prop :=
  ∀ c' H' z fp, Tr c H c' H' → Rel c' S H' → RN c' H' r z fp → fp.Nodup → (∀ q, q ∈ fp → q ∈ A ∨ H q = none) → Q z H'
section
variable {c : Cn} {S : Store} {H : Hp} {A : List Addr} {Q : VK}
theorem Fin.here {r : PV} {z : V} {fp : List Addr} (k : Fin c S H A r Q) (R : Rel c S H) (h : RN c H r z fp) (nd : fp.Nodup) (hA : ∀ q, q ∈ fp → q ∈ A) : Q z H := k c H z fp (Tr.refl c H) R h nd fun q hq => .inl (hA q hq)
theorem Fin.flat {r : PV} {z : V} (k : Fin c S H A r Q) (R : Rel c S H) (h : RV c H r z) : Q z H := k.here R h List.nodup_nil fun _ h => nomatch h
theorem Fin.bl {b : Bool} (k : Fin c S H A (.bl b) Q) (R : Rel c S H) : Q (.bl b) H := k.flat R (by simp [RN])
theorem Fin.int {b : Int} (k : Fin c S H A (.int b) Q) (R : Rel c S H) : Q (.int b) H := k.flat R (by simp [RN])
theorem Fin.str {b : Str} (k : Fin c S H A (.str b) Q) (R : Rel c S H) : Q (.str b) H := k.flat R (by simp [RN])
/-- a new list -/
theorem Fin.lst {xs : List PV} {vs : List V} {g : List Addr} (k : Fin c S H A (.lst .new xs) Q) (R : Rel c S H) (h : RNs c H xs vs g) (nd : g.Nodup) (hA : ∀ q, q ∈ g → q ∈ A) {p : Addr} (hp : H p = none) : Q (.ref p) (upd H p (.lst vs)) := by
  refine k c (upd H p (.lst vs)) (.ref p) (p :: g) (Tr.fresh hp) (R.fresh hp) ?_ (List.nodup_cons.mpr ⟨fun z => ?_, nd⟩) fun q hq => ?_
  · simp only [RN]
    exact ⟨p, vs, g, rfl, ⟨upd_same, R.new hp⟩, h.tr (Tr.fresh hp), own_new.symm, .inl trivial⟩
  · obtain ⟨⟨o, e⟩, _⟩ := h.newAt p z
    rw [hp] at e; cases e
  · rcases List.mem_cons.mp hq with rfl | hq
    · exact .inr hp
    · exact .inl (hA q hq)
/-- a new tuple -/
theorem Fin.tup {xs : List PV} {vs : List V} {g : List Addr} (k : Fin c S H A (.tup xs) Q) (R : Rel c S H) (h : RNs c H xs vs g) (nd : g.Nodup) (hA : ∀ q, q ∈ g → q ∈ A) {p : Addr} (hp : H p = none) : Q (.ref p) (upd H p (.tup vs)) := by
  refine k c (upd H p (.tup vs)) (.ref p) g (Tr.fresh hp) (R.fresh hp) ?_ nd fun q hq => .inl (hA q hq)
  simp only [RN]
  exact ⟨p, vs, rfl, SqT.of upd_same, h.tr (Tr.fresh hp)⟩
theorem nodup_sub2 {f g f' g' : List Addr} (nd : (f ++ g).Nodup) (h1 : f'.Sublist f) (h2 : g'.Sublist g) : (f' ++ g').Nodup := nd.sublist (h1.append h2)
theorem mem_sub2 {f g f' g' : List Addr} (h1 : f'.Sublist f) (h2 : g'.Sublist g) : ∀ q, q ∈ f' ++ g' → q ∈ f ++ g := fun q hq => (h1.append h2).subset hq
theorem eq_sound {a b : PV} {r : Bool} {x y : V} {fa fb : List Addr} (h : eqP S a b = some r) (R : Rel c S H) (ha : RN c H a x fa) (hb : RN c H b y fb) :
    (scal x y = true ∧ decide (x = y) = r) ∨ ∃ d e, Dp c.K H x d ∧ Dp c.K H y e ∧ SeqAt.shaped d = true ∧ SeqAt.shaped e = true ∧ PyData.eqv d e = r := by
  unfold eqP at h
  have gen : ∀ d e, dat S 9 a = some d → dat S 9 b = some e → PyData.eqv d e = r → ∃ d e, Dp c.K H x d ∧ Dp c.K H y e ∧ SeqAt.shaped d = true ∧ SeqAt.shaped e = true ∧ PyData.eqv d e = r := fun d e h1 h2 h3 => by
    obtain ⟨p1, p2, p3⟩ := dat_ok R h1 ha
    obtain ⟨q1, q2, q3⟩ := dat_ok R h2 hb
    refine ⟨d, e, p1, q1, ?_, ?_, h3⟩
    · unfold SeqAt.shaped; rw [p2, decide_eq_true (by omega)]; rfl
    · unfold SeqAt.shaped; rw [q2, decide_eq_true (by omega)]; rfl
  split at h
  · rename_i hf
    simp only [Bool.and_eq_true] at hf
    cases h
    obtain ⟨h1, h2⟩ := hf
    cases a <;> cases b <;> first
      | (simp [isFlat] at h1; done)
      | (simp [isFlat] at h2; done)
      | (simp only [RN] at ha hb
         obtain ⟨rfl, rfl⟩ := ha
         obtain ⟨rfl, rfl⟩ := hb
         first
           | exact .inl ⟨rfl, by simp [eqF, Bool.beq_eq_decide_eq]⟩
           | exact .inr ⟨_, _, .bl _, .int _, rfl, rfl, by simp [PyData.eqv, eqF]⟩
           | exact .inr ⟨_, _, .int _, .bl _, rfl, rfl, by simp [PyData.eqv, eqF]⟩)
  · split at h
    · rename_i d e h1 h2
      cases h
      exact .inr (gen d e h1 h2 rfl)
    · cases h
theorem in_any : ∀ {ys : List PV} {vs : List V} {g : List Addr} {x : PV} {v : V} {fx : List Addr}, isFlat x = true → ys.all isFlat = true → RN c H x v fx → RNs c H ys vs g →
    vs.all flatV = true ∧ inV v vs = ys.any fun y => eqF y x
  | [], _, _, _, _, _, _, _, _, h => by
    simp only [RNs] at h
    rw [h.1]
    exact ⟨rfl, rfl⟩
  | y :: ys, _, _, x, v, _, fx, fy, hx, h => by
    simp only [RNs] at h
    obtain ⟨w, r, f1, f2, rfl, h1, h2, rfl⟩ := h
    rw [List.all_cons, Bool.and_eq_true] at fy
    obtain ⟨q1, q2⟩ := in_any fx fy.2 hx h2
    refine ⟨by rw [List.all_cons, (flat_V fy.1 h1).1, q1]; rfl, ?_⟩
    show (eqV w v || inV v r) = _
    rw [List.any_cons, q2, eqF_V fy.1 fx h1 hx]
theorem zip_rvk {κ : Type} {c : Cn} {H : Hp} : ∀ {ks : List κ} {xs : List PV} {vs : List V}, ks.length = vs.length → RVs c H xs vs → RVk c H (ks.zip xs) (ks.zip vs)
  | [], _, _, _, _ => .nil
  | k :: ks, [], vs, h, r => by
    simp only [RNs] at r
    rw [r.1] at h
    cases h
  | k :: ks, x :: xs, vs, h, r => by
    simp only [RNs] at r
    obtain ⟨v, ws, f1, f2, rfl, h1, h2, e0⟩ := r
    have e1 : f1 = [] := (List.append_eq_nil_iff.mp e0.symm).1
    have e2 : f2 = [] := (List.append_eq_nil_iff.mp e0.symm).2
    subst e1 e2
    exact .cons ⟨rfl, h1⟩ (zip_rvk (by simpa using h) h2)
theorem dK_sound {c : Cn} {S : Store} {H : Hp} {x : PV} {v : V} {fp : List Addr} {kvs : List (Key × PV)} (R : Rel c S H) (h : RN c H x v fp) (e : dK_of S x = some kvs) : ∃ a vs, v = .ref a ∧ H a = some (.dK vs) ∧ RVk c H kvs vs := by
  unfold dK_of at e
  split at e <;> try (cases e; done)
  · rename_i l
    split at e <;> cases e
    rename_i hS
    simp only [RN] at h
    obtain ⟨a, hl, rfl, _⟩ := h
    obtain ⟨vs, e1, e2⟩ := R.obj l _ a hS hl
    exact ⟨a, vs, rfl, e1, e2⟩
  all_goals
    cases e
    simp only [RN] at h
    obtain ⟨a, vs, fp', rfl, hd, hlen, hr, _, hf⟩ := h
    have : fp' = [] := hf.resolve_left (fun z => by cases z)
    subst this
    refine ⟨a, _, rfl, ?_, zip_rvk hlen hr⟩
  · exact R.bh _ _ hd
  · exact R.fh _ _ hd
theorem key_sound {c : Cn} {H : Hp} {y : PV} {v : V} {fp : List Addr} {k : Key} (e : keyOf y = some k) (h : RN c H y v fp) : v = kV k ∧ fp = [] := by
  unfold keyOf at e
  split at e <;> cases e
  · simp only [RN] at h
    exact ⟨h.1, h.2⟩
  · simp only [RN] at h
    exact ⟨h.1, h.2⟩
theorem val_sound {κ : Type} [DecidableEq κ] {c : Cn} {H : Hp} {k : κ} : ∀ {kvs : List (κ × PV)} {vs : List (κ × V)}, RVk c H kvs vs → (∀ v, valP kvs k = some v → ∃ w, valV vs k = some w ∧ RV c H v w) ∧ (valP kvs k = none → valV vs k = none)
  | [], _, .nil => ⟨fun v h => (by cases h), fun _ => rfl⟩
  | p :: kvs, q :: _, .cons h t => by
    have ih := val_sound (k := k) t
    unfold valP
    by_cases e : p.1 = k
    · rw [if_pos e]
      refine ⟨fun v hv => ?_, fun z => by cases z⟩
      cases hv
      exact ⟨q.2, valV_pos (h.1.symm.trans e), h.2⟩
    · rw [if_neg e, valV_neg (fun z => e (h.1.trans z))]
      exact ih
theorem in_sound {a b : PV} {r : Bool} {x y : V} {fa fb : List Addr} (h : inP S a b = some r) (R : Rel c S H) (ha : RN c H a x fa) (hb : RN c H b y fb) :
    (∃ p xs, y = .ref p ∧ (SqL c.K H p xs ∨ SqT c.K H p xs) ∧ flatV x = true ∧ xs.all flatV = true ∧ inV x xs = r) ∨ ∃ a o, y = .ref a ∧ DGet H a x o ∧ o.isSome = r := by
  unfold inP at h
  split at h
  · refine .inl ?_
    rename_i ys hs
    split at h
    · rename_i hf
      simp only [Bool.and_eq_true] at hf
      cases h
      obtain ⟨p, vs, g, rfl, hq, hr, _⟩ := hb.seq R hs
      obtain ⟨q1, q2⟩ := in_any hf.1 hf.2 ha hr
      exact ⟨p, vs, rfl, hq, (flat_V hf.1 ha).1, q1, q2⟩
    · cases h
  · split at h
    · rename_i kvs k hk hx
      cases h
      obtain ⟨p, vs, rfl, e1, e2⟩ := dK_sound R hb hk
      obtain ⟨rfl, _⟩ := key_sound hx ha
      have q := val_sound (k := k) e2
      refine .inr ⟨p, _, rfl, DGet.k e1, ?_⟩
      cases hv : valP kvs k with
      | none =>
        rw [q.2 hv]
        rfl
      | some z =>
        obtain ⟨w, e3, _⟩ := q.1 z hv
        rw [e3]
        rfl
    · cases h
theorem ints_V0 : ∀ {xs : List PV} {vs : List V} {f : List Addr} {bs : List Int}, intsOf xs = some bs → RNs c H xs vs f → vs = bs.map V.int
  | [], _, _, _, e, h => by
    cases e
    simp only [RNs] at h
    rw [h.1]
    rfl
  | x :: xs, _, _, _, e, h => by
    cases x <;> try (simp [intsOf] at e; done)
    simp only [intsOf] at e
    obtain ⟨bs, e1, rfl⟩ := Option.map_eq_some_iff.mp e
    simp only [RNs, RN] at h
    obtain ⟨v, r, f1, f2, rfl, ⟨rfl, _⟩, h2, _⟩ := h
    rw [ints_V0 e1 h2]
    rfl
theorem ints_Dp (K : PySem.W.Frag) (H : Hp) : ∀ ns : List Int, DpAll K H (ns.map V.int) (ns.map .int)
  | [] => .nil
  | n :: ns => .cons (.int n) (ints_Dp K H ns)
theorem op2_sound {o : B2} {a b r : PV} {x y : V} {fa fb : List Addr} (h : op2 o a b S = some r) (R : Rel c S H) (ha : RN c H a x fa) (hb : RN c H b y fb) (nd : (fa ++ fb).Nodup) (k : Fin c S H (fa ++ fb) r Q) : rOp c.K o x y H Q := by
  have ii : ∀ {i j : Int}, RN c H (.int i) x fa → RN c H (.int j) y fb → x = .int i ∧ y = .int j := fun h1 h2 => by
    simp only [RN] at h1 h2; exact ⟨h1.1, h2.1⟩
  cases o with
  | add =>
    simp only [op2] at h
    split at h
    · cases h
      obtain ⟨rfl, rfl⟩ := ii ha hb
      exact .inl (.inl ⟨_, _, rfl, rfl, k.int R⟩)
    · split at h <;> cases h
      rename_i hl
      simp only [RN] at ha hb
      obtain ⟨rfl, rfl⟩ := ha
      obtain ⟨rfl, rfl⟩ := hb
      exact .inl (.inr ⟨_, _, rfl, rfl, few_le hl, k.str R⟩)
    · split at h <;> cases h
      rename_i xs ys hl
      simp only [RN] at ha hb
      obtain ⟨p, vs, rfl, s1, r1⟩ := ha
      obtain ⟨q, ws, rfl, s2, r2⟩ := hb
      have e1 := r1.length
      have e2 := r2.length
      refine .inr (.inl ⟨p, q, vs, ws, rfl, rfl, s1, s2, by rw [← e1, ← e2]; exact few_le hl, fun z => ?_, fun _ z => ?_, fun _ _ p' hp => ?_⟩)
      · subst z
        have hx : xs = [] := List.eq_nil_of_length_eq_zero (by rw [e1]; rfl)
        subst hx
        exact k.here R (by simp only [RN]; exact ⟨q, ws, rfl, s2, r2⟩) (nodup_sub2 nd (List.nil_sublist fa) (List.Sublist.refl fb)) fun z hz => List.mem_append_right _ hz
      · subst z
        have hx : ys = [] := List.eq_nil_of_length_eq_zero (by rw [e2]; rfl)
        subst hx
        rw [List.append_nil] at k
        exact k.here R (by simp only [RN]; exact ⟨p, vs, rfl, s1, r1⟩) (nd.sublist (List.sublist_append_left ..)) fun z hz => List.mem_append_left _ hz
      · exact k.tup R (r1.append r2) nd (fun z hz => hz) hp
    · split at h
      · rename_i xs ys h1 h2
        split at h <;> cases h
        rename_i hl
        obtain ⟨p, vs, g1, rfl, s1, r1, u1, t1⟩ := ha.lst R (cat_lst h1)
        obtain ⟨q, ws, g2, rfl, s2, r2, u2, t2⟩ := hb.lst R (cat_lst h2)
        refine .inr (.inr ⟨p, q, vs, ws, rfl, rfl, t1 _ h1, t2 _ h2, by rw [← r1.length, ← r2.length]; exact few_le hl, fun p' hp => ?_⟩)
        exact k.lst R (r1.append r2) (nodup_sub2 nd u1 u2) (mem_sub2 u1 u2) hp
      · cases h
  | sub =>
    simp only [op2] at h
    split at h <;> cases h
    obtain ⟨rfl, rfl⟩ := ii ha hb
    exact ⟨_, _, rfl, rfl, k.int R⟩
  | mul =>
    simp only [op2] at h
    split at h
    · split at h <;> cases h
      rename_i hl
      obtain ⟨rfl, rfl⟩ := ii ha hb
      refine .inl ⟨_, _, rfl, rfl, ?_, k.int R⟩
      unfold CMul
      omega
    · cases h
    · split at h <;> try (cases h; done)
      rename_i hj
      split at h <;> try (cases h; done)
      rename_i xs hc
      split at h <;> try (cases h; done)
      rename_i hs
      cases h
      simp only [Bool.and_eq_true, Bool.or_eq_true, Bool.not_eq_true'] at hs
      obtain ⟨p, vs, rfl, r1, t1⟩ := ha.lstS R (cat_lst hc) hs.1
      simp only [RN] at hb
      obtain ⟨rfl, rfl⟩ := hb
      refine .inr ⟨p, _, vs, rfl, rfl, t1 _ hc, by omega, by omega, by rw [← r1.length]; exact few_le hs.2, fun p' hp => ?_⟩
      exact k.lst R (rep_rvs r1 _) List.nodup_nil (fun _ h => nomatch h) hp
    · cases h
  | fdiv =>
    simp only [op2] at h
    split at h <;> try (cases h; done)
    split at h <;> cases h
    rename_i i j hl
    obtain ⟨rfl, rfl⟩ := ii ha hb
    have e : j.natAbs < 2 ^ 64 := by omega
    exact ⟨_, _, rfl, rfl, wide_div hl.1 e (by decide) (by decide), k.int R⟩
  | mod =>
    simp only [op2] at h
    split at h <;> try (cases h; done)
    split at h <;> cases h
    rename_i hl
    obtain ⟨rfl, rfl⟩ := ii ha hb
    exact ⟨_, _, rfl, rfl, hl, k.int R⟩
  | pow =>
    simp only [op2] at h
    split at h <;> try (cases h; done)
    split at h <;> cases h
    rename_i hl
    obtain ⟨rfl, rfl⟩ := ii ha hb
    exact ⟨_, _, rfl, rfl, ⟨hl.1, hl.2.1, hl.2.2⟩, k.int R⟩
  | lt =>
    simp only [op2] at h
    split at h
    · cases h
      obtain ⟨rfl, rfl⟩ := ii ha hb
      exact .inl ⟨_, _, rfl, rfl, k.bl R⟩
    · obtain ⟨b', e, rfl⟩ := Option.map_eq_some_iff.mp h
      unfold ltL at e
      split at e <;> try (cases e; done)
      rename_i xs ys h1 h2
      split at e <;> try (cases e; done)
      rename_i ns ms e1 e2
      cases e
      obtain ⟨p, vs, g1, rfl, s1, r1, _, _⟩ := ha.lst R h1
      obtain ⟨q, ws, g2, rfl, s2, r2, _, _⟩ := hb.lst R h2
      have v1 := ints_V0 e1 r1
      have v2 := ints_V0 e2 r2
      subst v1 v2
      exact .inr ⟨ns, ms, .lst s1 (ints_Dp c.K H ns), .lst s2 (ints_Dp c.K H ms), k.bl R⟩
  | le =>
    simp only [op2] at h
    split at h <;> cases h
    obtain ⟨rfl, rfl⟩ := ii ha hb
    exact ⟨_, _, rfl, rfl, k.bl R⟩
  | gt =>
    simp only [op2] at h
    split at h <;> cases h
    obtain ⟨rfl, rfl⟩ := ii ha hb
    exact ⟨_, _, rfl, rfl, k.bl R⟩
  | ge =>
    simp only [op2] at h
    split at h <;> cases h
    obtain ⟨rfl, rfl⟩ := ii ha hb
    exact ⟨_, _, rfl, rfl, k.bl R⟩
  | eq =>
    simp only [op2] at h
    obtain ⟨b', he, rfl⟩ := Option.map_eq_some_iff.mp h
    rcases eq_sound he R ha hb with ⟨h1, rfl⟩ | ⟨d, e, h1, h2, h3, h4, rfl⟩
    · exact .inl ⟨h1, k.bl R⟩
    · exact .inr ⟨d, e, h1, h2, h3, h4, k.bl R⟩
  | ne =>
    simp only [op2] at h
    obtain ⟨b', he, rfl⟩ := Option.map_eq_some_iff.mp h
    rcases eq_sound he R ha hb with ⟨h1, rfl⟩ | ⟨d, e, h1, h2, h3, h4, rfl⟩
    · exact .inl ⟨h1, k.bl R⟩
    · exact .inr ⟨d, e, h1, h2, h3, h4, k.bl R⟩
  | isin =>
    simp only [op2] at h
    obtain ⟨b', e, rfl⟩ := Option.map_eq_some_iff.mp h
    rcases in_sound e R ha hb with ⟨p, xs, h1, h2, h3, h4, rfl⟩ | ⟨p, o, h1, h2, rfl⟩
    · exact .inl ⟨p, xs, h1, h2, h3, h4, k.bl R⟩
    · exact .inr ⟨p, o, h1, h2, k.bl R⟩
  | notin =>
    simp only [op2] at h
    obtain ⟨b', e, rfl⟩ := Option.map_eq_some_iff.mp h
    rcases in_sound e R ha hb with ⟨p, xs, h1, h2, h3, h4, rfl⟩ | ⟨p, o, h1, h2, rfl⟩
    · exact .inl ⟨p, xs, h1, h2, h3, h4, k.bl R⟩
    · exact .inr ⟨p, o, h1, h2, k.bl R⟩
  | isN =>
    simp only [op2] at h
    split at h <;> cases h
    simp only [RN] at hb
    refine ⟨hb.1, ?_⟩
    have e : decide (x = V.non) = isNon a := non_V ha
    rw [e]
    exact k.bl R
  | notN =>
    simp only [op2] at h
    split at h <;> cases h
    simp only [RN] at hb
    refine ⟨hb.1, ?_⟩
    have e : decide (x = V.non) = isNon a := non_V ha
    rw [e]
    exact k.bl R
end
end Ev
end
set_option Elab.async false
set_option linter.all false
set_option maxRecDepth 100000
set_option maxHeartbeats 4000000
/-! EvR: t[::-1] of a tuple. -/
namespace Ev
open PySem PySem.Spec PyProof.Rows L2 HT
section
variable {prog : Program} {w : World} {A : Around} {E : Value → Shared → Prop} {s : Shared}
theorem sliceApplied_rev {sl : Addr} {vs : Value} {n : Nat} {Q : Int × Int × Nat → Shared → Prop} (hs : s.heap.IsSliceOf sl .none .none vs) (ps : IsPart vs (some (-1)))
    (h : Q ((n : Int) - 1, -1, n) s) : wpAny (model prog w) A (Builtin.Slice.sliceApplied (.ref sl) (pure (n : Int))) Q E s := by
  obtain ⟨os, hos, hcs, hds⟩ := id hs
  unfold Builtin.Slice.sliceApplied Builtin.Slice.sliceFields
  refine wpAny_bind (wpAny_bind (wpAny_field hos hds (x := .none) rfl (wpAny_bind (wpAny_field hos hds (x := .none) rfl (wpAny_bind (wpAny_field hos hds (x := vs) rfl (wpAny_pure ?_)))))))
  refine wpAny_bind (slicePart_ ps ?_)
  show wpAny _ _ (if ((-1 : Int) == 0) = true then _ else _) _ _ s
  rw [if_neg (by decide)]
  refine wpAny_bind (slicePart_none (wpAny_bind (slicePart_none (wpAny_bind (wpAny_pure ?_)))))
  have e : Builtin.Slice.sliceAdjust none none (-1) (n : Int) = ((n : Int) - 1, -1) := by
    unfold Builtin.Slice.sliceAdjust
    simp
  have e2 : Builtin.Slice.slicePlaces ((n : Int) - 1) (-1) (-1) = n := by
    unfold Builtin.Slice.slicePlaces
    simp only [show ¬ ((-1 : Int) > 0) by decide, if_false, Int.neg_neg, Int.ediv_one]
    split <;> omega
  show wpAny _ _ (match Builtin.Slice.sliceAdjust none none (-1) (n : Int) with | (lo, hi) => pure (lo, (-1 : Int), Builtin.Slice.slicePlaces lo hi (-1))) _ _ s
  rw [e]
  show wpAny _ _ (pure ((n : Int) - 1, (-1 : Int), Builtin.Slice.slicePlaces ((n : Int) - 1) (-1) (-1))) _ _ s
  rw [e2]
  exact wpAny_pure h
theorem filterMap_map_of {α β : Type} {f : α → Option β} {g : α → β} : ∀ {l : List α}, (∀ m, m ∈ l → f m = some (g m)) → l.filterMap f = l.map g
  | [], _ => rfl
  | x :: l, h => by
    rw [List.filterMap_cons, h x List.mem_cons_self, List.map_cons, filterMap_map_of fun m hm => h m (List.mem_cons_of_mem _ hm)]
theorem pick_rev (xs : Array Value) : ((List.range xs.size).filterMap fun (m : Nat) => xs[((xs.size : Int) - 1 + (m : Int) * (-1)).toNat]?).toArray = xs.toList.reverse.toArray := by
  congr 1
  apply List.ext_getElem?
  intro i
  have e : (List.range xs.size).filterMap (fun (m : Nat) => xs[((xs.size : Int) - 1 + (m : Int) * (-1)).toNat]?) = (List.range xs.size).map (fun m => xs.toList.getD (xs.size - 1 - m) .none) := by
    refine filterMap_map_of fun m hm => ?_
    have hm := List.mem_range.mp hm
    have h1 : ((xs.size : Int) - 1 + (m : Int) * (-1)).toNat = xs.size - 1 - m := by omega
    rw [h1]
    have h2 : xs.size - 1 - m < xs.size := by omega
    simp [h2]
  rw [e]
  by_cases hi : i < xs.size
  · rw [List.getElem?_reverse (by simpa using hi)]
    simp [hi]
    have h2 : xs.size - 1 - i < xs.size := by omega
    simp [h2]
  · rw [List.getElem?_eq_none (by simpa using hi), List.getElem?_eq_none (by simpa using hi)]
theorem getItem_tuple_rev {t sl : Addr} {items : Array Value} {vs : Value} {Q : Value → Shared → Prop} (ht : IsTup s.heap t items) (hs : s.heap.IsSliceOf sl .none .none vs) (ps : IsPart vs (some (-1)))
    (h : Q (.ref s.heap.objs.size) { s with heap := s.heap.push { cls := .type "tuple", data := .seq items.toList.reverse.toArray } })
    (hsz : items.size ≤ sizeLine) : wpAny (model prog w) A (getItem (.ref t) (.ref sl)) Q E s := by
  have htake : sizeOk (.seq items.toList.reverse.toArray) := by
    show items.toList.reverse.toArray.size ≤ sizeLine
    simpa using hsz
  obtain ⟨os, hos, hcs, hds⟩ := id hs
  have hTs : s.TypeIs (.ref sl) "slice" := ⟨os, hos, hcs⟩
  unfold getItem
  try with_reducible refine wpAny_holding ?_
  first | refine wpAny_bind (wpAny_pure ?_) | skip
  refine wpAny_bind (wpAny_sequenceKey ht.typeIs (by decide) ?_)
  refine wpAny_bind (wpAny_callSpecial?_slot (name := Str.ofString "__getitem__") ht.typeIs PyProof.Rows.slot_tuple_getitem
    (wpAny_call_entry PyProof.Rows.slot_tuple_getitem ht.typeIs entry_tuple_getitem ?_ (args_tuple_getitem _ _)))
  show wpAny _ _ (Builtin.Tuple.tupleItemsOf (.ref t) >>= _) _ _ s
  refine wpAny_bind (tupleItemsOf_ ht ?_)
  refine wpAny_bind (wpAny_typeOf hTs ?_)
  rw [if_pos (by decide)]
  refine wpAny_bind (sliceApplied_rev hs ps ?_)
  have hno : ¬ ((((items.size : Int) - 1) == 0 && (-1 : Int) == 1 && items.size == items.size) = true) := by
    intro q
    rw [Bool.and_eq_true, Bool.and_eq_true] at q
    exact absurd q.1.2 (by decide)
  show wpAny _ _ (if (((items.size : Int) - 1) == 0 && (-1 : Int) == 1 && items.size == items.size) = true then _ else _) _ _ s
  rw [if_neg hno, pick_rev]
  first
    | exact wpAny_bind (m := Builtin.Tuple.tupleExact _) (wpAny_newObj_type (wpAny_pure ⟨_, rfl, wpAny_pure h⟩) htake)
    | exact wpAny_bind (m := Builtin.Tuple.tupleExact _) (wpAny_newObj_type (wpAny_bind (wpAny_pure (wpAny_pure ⟨_, rfl, wpAny_pure h⟩))) htake)
    | exact wpAny_bind (wpAny_bind (m := Builtin.Tuple.tupleExact _) (wpAny_newObj_type (wpAny_pure (wpAny_pure ⟨_, rfl, wpAny_pure h⟩)) htake))
    | exact wpAny_bind (wpAny_bind (m := Builtin.Tuple.tupleExact _) (wpAny_newObj_type (wpAny_pure ⟨_, rfl, wpAny_pure h⟩) htake))
end
theorem Vals.rev {xs : List V} {us : List Value} (r : Vals xs us) : Vals xs.reverse us.reverse := r.reverse
/-- e[::-1], a list or a tuple -/
def tRev (K : PySem.W.Frag) (te : TE) : TE := fun σ H Q => te σ H fun x H1 => ∃ a xs, x = .ref a ∧ ((SqL K H1 a xs ∧ ∀ p, H1 p = none → Q (.ref p) (upd H1 p (.lst xs.reverse))) ∨ (SqT K H1 a xs ∧ ∀ p, H1 p = none → Q (.ref p) (upd H1 p (.tup xs.reverse))))
theorem pe_rev {X : Cx} {e : Expr} {te : TE} {k : Nat} {p1 p2 p3 pos : Pos} (he : PE X e te) : PE X (.Subscript e (.Slice none none (some (.UnaryOp .USub (.Constant (.int 1) k p1) p2)) p3) pos) (tRev X.K te) := by
  refine ⟨fun pins s σ H Q I h => ?_⟩
  refine Subscript_ (thn (he.run pins s σ H _ I h) fun v s1 ⟨x, H1, I1, r1, q1⟩ => ?_)
  obtain ⟨a, xs, ex, hx⟩ := q1
  subst ex
  cases r1
  have hst : L2.PO X (some (.UnaryOp .USub (.Constant (.int 1) k p1) p2)) (tPart (tUn (rU fun i => .int (-i)) (tC (.int 1)))) := po_some (pe_un un_neg pe_int)
  refine wpAny_Slice (thn (po_none.run pins s1 σ H1 (fun o H2 => o = none ∧ H2 = H1) I1 ⟨rfl, rfl⟩) fun vl s2 ⟨l, H2, I2, pl, el, e2⟩ => ?_)
  subst el e2
  refine thn (po_none.run pins s2 σ H2 (fun o H3 => o = none ∧ H3 = H2) I2 ⟨rfl, rfl⟩) fun vu s3 ⟨u, H3, I3, pu, eu, e3⟩ => ?_
  subst eu e3
  refine thn (hst.run pins s3 σ H3 (fun o H4 => o = some (-1) ∧ H4 = H3) I3 ⟨1, rfl, -1, rfl, rfl, rfl⟩) fun vs s4 ⟨o, H4, I4, ps, eo, e4⟩ => ?_
  subst eo e4
  have I5 : Inv X pins σ H4 { s4 with heap := s4.heap.push { cls := .type "slice", data := .fields #[vl, vu, vs] } } := I4.kept (t' := s4.toks) fun b ob q => Heap.get?_push_of_some _ q
  show wpAny (model X.prog X.w) X.A (subscriptTail e (.Slice none none (some (.UnaryOp .USub (.Constant (.int 1) k p1) p2)) p3) (.ref a) (.ref s4.heap.objs.size)) (EP X pins σ Q) X.xe { s4 with heap := s4.heap.push { cls := .type "slice", data := .fields #[vl, vu, vs] } }
  rcases hx with ⟨hx, q⟩ | ⟨hx, q⟩
  · obtain ⟨its, r, ht, hz⟩ := I5.list hx
    have hlen := r.length
    refine tail_any (ops := [.ref a, .ref s4.heap.objs.size]) ht.isList.typeIs (PySem.slot_list_getitem.lookup) ?_ (by with_unfolding_all rfl)
    refine wpAny_getItem_list_slice ht.isList (Heap.IsSliceOf.new _ vl vu vs) pl pu ps (by decide) ?_ (by rw [List.size_toArray]; omega)
    rw [PySem.W.krv_pick]
    refine ⟨.ref _, _, I5.laid (t' := s4.toks) (o := .lst xs.reverse) (fun b ob q => Heap.get?_push_of_some _ q) (Nat.le_refl _) ?_, rfl, q _ (I5.hok.fresh (Nat.le_refl _))⟩
    exact ⟨by rw [List.length_reverse]; exact hz, _, 0, r.reverse, Heap.get?_push_size _ rfl⟩
  · obtain ⟨its, r, ht, hz⟩ := I5.tuple hx
    have hlen := r.length
    cases pl
    cases pu
    refine tail_any (ops := [.ref a, .ref s4.heap.objs.size]) ht.typeIs (PyProof.Rows.slot_tuple_getitem.lookup) ?_ (by with_unfolding_all rfl)
    refine getItem_tuple_rev ht (Heap.IsSliceOf.new _ .none .none vs) ps ?_ (by rw [List.size_toArray]; omega)
    refine ⟨.ref _, _, I5.laid (t' := s4.toks) (o := .tup xs.reverse) (fun b ob q => Heap.get?_push_of_some _ q) (Nat.le_refl _) ?_, rfl, q _ (I5.hok.fresh (Nat.le_refl _))⟩
    refine ⟨by rw [List.length_reverse]; exact hz, its.reverse, r.reverse, ?_⟩
    exact ⟨_, Heap.get?_push_size _ rfl, rfl, 0, by simp⟩
end Ev
set_option Elab.async false
set_option linter.all false
set_option maxRecDepth 100000
/-! EvQ: min of two lists of whole numbers. -/
noncomputable section
namespace Ev
open PySem PySem.W L2 PyProof.Rows
section
variable {prog : Program} {w : World} {A : Around} {E : Value → Shared → Prop} {s : Shared}
theorem min_twoH {a b : Value} {Q : Value → Shared → Prop}
    (h : wpAny (model prog w) A.in1 (pyIter (.ref s.heap.objs.size)) (fun it s₂ => ∃ I fp wr G n P St H bt, it = .ref I ∧ WalksS prog w A.in1 I fp wr G n P St ∧ St 0 s₂ ∧ (∀ b ∈ fp, b < s₂.heap.objs.size) ∧ 0 < n ∧
      (∀ b o, H.get? b = some o → b ∉ wr) ∧ (∀ b o, H.get? b = some o → s₂.heap.get? b = some o) ∧ CmpIn prog w A.in1 .Lt H P bt ∧ ∀ v s', P (argBest bt (n - 1)) v → Moved wr G s₂ s' → Q v s') E
      { s with heap := s.heap.push { cls := .type "tuple", data := .seq #[a, b] } }) :
    wpAny (model prog w) A (call (.builtin "min") [a, b]) Q E s := by
  have hname : (toString "min" ++ toString ".loop" : String) = "min.loop" := by decide
  refine call_function_tree F.kind_min F.plain_min F.entry_min (F.args_min2 _ _) ?_
  show wpAny _ A.in1 (Builtin.Builtins.bindParams "min" ["key", "default"] 0 ⟨[], []⟩ >>= _) _ _ s
  refine wpAny_bind (wpAny_of_eq (show Builtin.Builtins.bindParams "min" ["key", "default"] 0 ⟨[], []⟩ = pure [none, none] from rfl) ?_)
  show wpAny _ A.in1 (newTuple [a, b] >>= _) _ _ s
  refine wpAny_bind (wpAny_newObj_type ?_)
  refine wpAny_bind (wpAny_mono h (fun it s₂ h₂ => ?_) fun _ _ e => e)
  obtain ⟨I, fp, wr, G, n, P, St, H, bt, rfl, W, hst, hfp, hn, hw, hkeep, hcmp, hQ⟩ := h₂
  refine wpAny_bind (wpAny_newObj_type ?_)
  have hSf : s₂.heap.objs.size ∉ fp := fun hm => Nat.lt_irrefl _ (hfp _ hm)
  rw [hname]
  refine wpAny_pure ⟨plainId_quiet F.plain_min_loop _, codeAny_min_loop_firstH W H hw bt hcmp s₂.heap.objs.size hSf (fresh_in hkeep) _ hn (fun b o e => Heap.get?_push_of_some _ (hkeep b o e)) (W.frame 0 s₂ _ s₂.toks hst (Nat.le_refl _) fun b _ o e => Heap.get?_push_of_some _ e) (Heap.get?_push_size _ rfl) fun v s' hP hm => ?_⟩
  exact hQ v s' hP (Moved.drop_new (tk := s₂.toks) hm (Nat.le_refl _))
theorem min_two_data {a b : Value} {da db : PyData} {as bs : List Addr} {Q : Value → Shared → Prop} (hh : A.handled = none) (ra : Reads s.heap a da as) (rb : Reads s.heap b db bs) (ha : AlikeAll [da, db]) (hu : A.units + 1 + PyData.depthAll [da, db] < cLine)
    (h : ∀ h' tk, (∀ c o, s.heap.get? c = some o → h'.get? c = some o) → Q (if dataLt db da = true then b else a) { s with heap := h', toks := tk }) :
    wpAny (model prog w) A (call (.builtin "min") [a, b]) Q E s := by
  have hT : (s.heap.push { cls := .type "tuple", data := .seq #[a, b] }).IsTuple s.heap.objs.size #[a, b] := ⟨_, Heap.get?_push_size _ rfl, rfl, 0, rfl⟩
  refine min_twoH (iter_tupleW (A := A.in1) hh hT fun s₂ e W st hfp hw hk => ?_)
  have k0 : ∀ c o, s.heap.get? c = some o → (s.heap.push { cls := .type "tuple", data := .seq #[a, b] }).get? c = some o := fun c o q => Heap.get?_push_of_some _ q
  have hr : ReadsAll s.heap (#[a, b] : Array Value).toList [da, db] _ := .cons ra (.cons rb .nil)
  refine ⟨_, _, _, _, _, _, _, s.heap, _, rfl, W, st, hfp, Nat.zero_lt_two, fun b o q => hw b o (k0 b o q), fun b o q => hk b o (k0 b o q), cmpIn_lt (A := A.in1) hr ha (by show A.units + 1 + _ < _; exact hu), fun v s' hP m => ?_⟩
  obtain ⟨h', tk, rfl, hk'⟩ := moved_old (s := { s with heap := s.heap.push { cls := .type "tuple", data := .seq #[a, b] } }) e rfl m
  have q := h h' tk fun c o q => hk' c o (k0 c o q)
  have e1 : argBest (fun i j => dataLt (([da, db] : List PyData).getD i .none) (([da, db] : List PyData).getD j .none)) ((#[a, b] : Array Value).size - 1) = if dataLt db da = true then 1 else 0 := rfl
  rw [e1] at hP
  cases c : dataLt db da with
  | true =>
    rw [c] at hP q
    cases hP
    exact q
  | false =>
    rw [c] at hP q
    cases hP
    exact q
end
/-- min(x, y) of two lists of whole numbers -/
def rMin2L (K : PySem.W.Frag) : List V → Hp → VK → Prop := fun xs H Q => ∃ (x y : V) (ns ms : List Int), xs = [x, y] ∧ Dp K H x (.list (ns.map .int)) ∧ Dp K H y (.list (ms.map .int)) ∧ Q (if ms < ns then y else x) H
theorem cr_min2L {X : Cx} (hc : X.calm = true) (hu : X.A.units + 64 < cLine) : CallR X (.builtin "min") (rMin2L X.K) := by
  intro pins s σ H xs us Q I r h
  obtain ⟨x, y, ns, ms, rfl, h1, h2, q⟩ := h
  obtain ⟨u, u', rfl, r1, r2⟩ := vals2 r
  obtain ⟨as, R1⟩ := Dp.reads I _ x u h1 r1
  obtain ⟨bs, R2⟩ := Dp.reads I _ y u' h2 r2
  have al : ∀ a b : List Int, PySem.W.alike (.list (a.map .int)) (.list (b.map .int)) = true := fun a b => by
    simp only [PySem.W.alike]
    exact PySem.W.alike_ints a b
  have e : PySem.W.dataLt (.list (ms.map .int)) (.list (ns.map .int)) = decide (ms < ns) := by
    rw [PySem.W.dataLt_list]
    exact PySem.W.dataLt_ints ms ns
  have dp : ∀ a : List Int, (PyData.list (a.map .int)).depth ≤ 1 := fun a => by
    simp only [PyData.depth, PySem.W.depth_ints]
    omega
  refine min_two_data (I.ok.hd hc) R1 R2 ⟨fun p hp q hq => ?_, fun p hp => ?_⟩ ?_ fun h' tk k => ?_
  · simp only [List.mem_cons, List.not_mem_nil, or_false] at hp hq
    rcases hp with rfl | rfl <;> rcases hq with rfl | rfl <;> exact al _ _
  · simp only [List.mem_cons, List.not_mem_nil, or_false] at hp
    rcases hp with rfl | rfl <;> exact fun z => by cases z
  · simp only [PyData.depthAll]
    have := dp ns
    have := dp ms
    omega
  · rw [e]
    by_cases c : ms < ns
    · rw [if_pos c] at q
      rw [if_pos (decide_eq_true c)]
      exact ⟨y, H, I.kept k, r2, q⟩
    · rw [if_neg c] at q
      rw [if_neg (by rw [decide_eq_false c]; decide)]
      exact ⟨x, H, I.kept k, r1, q⟩
end Ev
end
set_option Elab.async false
set_option linter.all false
set_option maxRecDepth 100000
/-! EvF: items, slices, built-ins; adopting, lending, giving back. -/
noncomputable section
namespace Ev
open PySem L2 PyProof.Rows
section
variable {c : Cn} {S : Store} {H : Hp} {A : List Addr} {Q : VK}
theorem at_sound {xs : List PV} {vs : List V} {f : List Addr} {k : Int} {x : PV} (h : RNs c H xs vs f) (e : atI xs k = some x) : ∃ v g, atI vs k = some v ∧ RN c H x v g ∧ g.Sublist f := by
  unfold atI at e ⊢
  rw [← h.length]
  cases q : ixN xs.length k with
  | none => rw [q] at e; cases e
  | some j =>
    rw [q] at e
    obtain ⟨v, g, e1, r, s⟩ := h.get (i := j) (x := x) e
    exact ⟨v, g, e1, r, s⟩
def rIxDk : R2 := fun x y H Q => ∃ a v, x = .ref a ∧ DGet H a y (some v) ∧ Q v H
theorem ix_dk {X : Cx} (hu : X.A.units + 64 < cLine) : IxR X rIxDk := by
  intro value slice pins s σ H x y v u Q I rx ry h hs
  obtain ⟨a, w, rfl, g, q⟩ := h
  cases rx
  exact tail_any (dict_typeIs I g) PySem.F.slot_dict_getitem.lookup (d_getItem (Nat.lt_of_le_of_lt (Nat.add_le_add_left (by decide) _) hu) I g ry fun w' s3 I3 rw' => ⟨w, H, I3, rw', q⟩) hs
def rIxE (K : PySem.W.Frag) : R2 := fun x y H Q => rIx K x y H Q ∨ rIxDk x y H Q
theorem ix_all {X : Cx} (hu : X.A.units + 64 < cLine) : IxR X (rIxE X.K) := ix_seq.or (ix_dk hu)
theorem ix_sound {a b r : PV} {x y : V} {fa fb : List Addr} (h : ixP a b S = some r) (R : Rel c S H) (ha : RN c H a x fa) (hb : RN c H b y fb) (nd : (fa ++ fb).Nodup) (k : Fin c S H (fa ++ fb) r Q) : rIxE c.K x y H Q := by
  unfold ixP at h
  split at h
  · rename_i xs hs
    split at h
    · rename_i i
      simp only [RN] at hb
      obtain ⟨rfl, rfl⟩ := hb
      obtain ⟨p, vs, g, rfl, hq, hr, hsub⟩ := ha.seq R hs
      obtain ⟨v, g', e1, q, s'⟩ := at_sound hr h
      have sub := s'.trans hsub
      have fin : Q v H := k.here R q (nd.sublist (sub.trans (List.sublist_append_left ..))) fun z hz => List.mem_append_left _ (sub.subset hz)
      rcases hq with hq | hq
      · exact .inl (.inl ⟨p, vs, i, v, rfl, rfl, hq, e1, fin⟩)
      · exact .inl (.inr (.inl ⟨p, vs, i, v, rfl, rfl, hq, e1, fin⟩))
    · cases h
  · split at h
    · rename_i kvs k' hk hy
      obtain ⟨p, vs, rfl, e1, e2⟩ := dK_sound R ha hk
      obtain ⟨rfl, _⟩ := key_sound hy hb
      obtain ⟨w, e3, e4⟩ := (val_sound (k := k') e2).1 r h
      refine .inr ⟨p, w, rfl, ?_, k.flat R e4⟩
      rw [← e3]
      exact DGet.k e1
    · cases h
def rSl (K : PySem.W.Frag) : V → Option Int → Option Int → Hp → VK → Prop := fun x lo hi H Q => rSlA K x lo hi H Q ∨ rSlL K x lo hi H Q
theorem sl_ok {X : Cx} : SlR X (rSl X.K) := sl_tupA.or sl_list
theorem cut_sound {xs : List PV} {vs : List V} {f : List Addr} {lo hi : Option Int} (h : RNs c H xs vs f) : ∃ g, RNs c H (cutP xs lo hi) (cutV vs lo hi) g ∧ g.Sublist f := by
  unfold cutP cutV
  rw [h.length]
  obtain ⟨g, q, s⟩ := h.drop (HT.sIx vs.length 0 lo)
  obtain ⟨g', q', s'⟩ := q.take (HT.sIx vs.length vs.length hi - HT.sIx vs.length 0 lo)
  exact ⟨g', q', s'.trans s⟩
theorem sl_sound {a r : PV} {x : V} {fa : List Addr} {lo hi : Option Int} (h : slP a lo hi S = some r) (R : Rel c S H) (ha : RN c H a x fa) (nd : fa.Nodup) (k : Fin c S H fa r Q) : rSl c.K x lo hi H Q := by
  unfold slP at h
  split at h
  · rename_i xs
    cases h
    simp only [RN] at ha
    obtain ⟨p, vs, rfl, s, hr⟩ := ha
    obtain ⟨g, q, sub⟩ := cut_sound (lo := lo) (hi := hi) hr
    refine .inl ⟨p, vs, rfl, s, fun z => ?_, fun z p' hp => k.tup R q (nd.sublist sub) (fun z hz => sub.subset hz) hp⟩
    have e : cutP xs lo hi = xs := by
      unfold cutP
      rw [hr.length, z.1, z.2, List.drop_zero, Nat.sub_zero, ← hr.length, List.take_length]
    rw [e] at k
    exact k.here R (by simp only [RN]; exact ⟨p, vs, rfl, s, hr⟩) nd fun z hz => hz
  · split at h
    · rename_i xs hs
      cases h
      obtain ⟨p, vs, g, rfl, hq, hr, sub, _⟩ := ha.lst R hs
      obtain ⟨g', q, sub'⟩ := cut_sound (lo := lo) (hi := hi) hr
      have sb := sub'.trans sub
      exact .inr ⟨p, vs, rfl, hq, fun p' hp => k.lst R q (nd.sublist sb) (fun z hz => sb.subset hz) hp⟩
    · cases h
theorem rev_sound {a r : PV} {x : V} {fa : List Addr} (h : revP a S = some r) (R : Rel c S H) (ha : RN c H a x fa) (nd : fa.Nodup) (k : Fin c S H fa r Q) :
    ∃ p xs, x = .ref p ∧ ((SqL c.K H p xs ∧ ∀ p', H p' = none → Q (.ref p') (upd H p' (.lst xs.reverse))) ∨ (SqT c.K H p xs ∧ ∀ p', H p' = none → Q (.ref p') (upd H p' (.tup xs.reverse)))) := by
  unfold revP at h
  split at h
  · cases h
    simp only [RN] at ha
    obtain ⟨p, vs, rfl, s, hr⟩ := ha
    obtain ⟨g, q, pm⟩ := hr.reverse
    exact ⟨p, vs, rfl, .inr ⟨s, fun p' hp => k.tup R q (pm.nodup_iff.mpr nd) (fun z hz => pm.mem_iff.mp hz) hp⟩⟩
  · split at h
    · rename_i xs hs
      cases h
      obtain ⟨p, vs, g, rfl, hq, hr, sub, _⟩ := ha.lst R hs
      obtain ⟨g', q, pm⟩ := hr.reverse
      exact ⟨p, vs, rfl, .inl ⟨hq, fun p' hp => k.lst R q (pm.nodup_iff.mpr (nd.sublist sub)) (fun z hz => sub.subset (pm.mem_iff.mp hz)) hp⟩⟩
    · cases h
/-! ### built-ins -/
theorem bls_V : ∀ {xs : List PV} {vs : List V} {f : List Addr} {bs : List Bool}, blsOf xs = some bs → RNs c H xs vs f → vs = bs.map V.bl
  | [], _, _, _, e, h => by
    cases e
    simp only [RNs] at h
    exact h.1
  | x :: xs, _, _, _, e, h => by
    cases x <;> try (simp [blsOf] at e; done)
    simp only [blsOf] at e
    obtain ⟨r, e1, rfl⟩ := Option.map_eq_some_iff.mp e
    simp only [RNs] at h
    obtain ⟨v, vr, f1, f2, rfl, h1, h2, rfl⟩ := h
    simp only [RN] at h1
    rw [h1.1, bls_V e1 h2]
    rfl
theorem ints_V : ∀ {xs : List PV} {vs : List V} {f : List Addr} {bs : List Int}, intsOf xs = some bs → RNs c H xs vs f → vs = bs.map V.int
  | [], _, _, _, e, h => by
    cases e
    simp only [RNs] at h
    exact h.1
  | x :: xs, _, _, _, e, h => by
    cases x <;> try (simp [intsOf] at e; done)
    simp only [intsOf] at e
    obtain ⟨r, e1, rfl⟩ := Option.map_eq_some_iff.mp e
    simp only [RNs] at h
    obtain ⟨v, vr, f1, f2, rfl, h1, h2, rfl⟩ := h
    simp only [RN] at h1
    rw [h1.1, ints_V e1 h2]
    rfl
end
def biN : Bi → Str
  | .len => "len"
  | .list => "list"
  | .tuple => "tuple"
  | .all => "all"
  | .any => "any"
  | .sum => "sum"
  | .sorted => "sorted"
  | .min2 => "min"
  | .max2 => "max"
  | .intB => "int"
  | .strI => "str"
def biV : Bi → Value
  | .len => .builtin "len"
  | .list => .type "list"
  | .tuple => .type "tuple"
  | .all => .builtin "all"
  | .any => .builtin "any"
  | .sum => .builtin "sum"
  | .sorted => .builtin "sorted"
  | .min2 => .builtin "min"
  | .max2 => .builtin "max"
  | .intB => .type "int"
  | .strI => .type "str"
theorem bi_boot : ∀ b : Bi, bootBuiltins (biN b) = some (biV b) := by
  intro b
  cases b <;> decide +kernel
abbrev rC := List V → Hp → VK → Prop
def rBi (K : PySem.W.Frag) : Bi → rC
  | .len => fun xs H Q => ∃ x n, xs = [x] ∧ LenV K x H n ∧ Q (.int n) H
  | .list => fun xs H Q => ∃ p ys, xs = [.ref p] ∧ (SqL K H p ys ∨ SqT K H p ys) ∧ ∀ l, H l = none → Q (.ref l) (upd H l (.lst ys))
  | .tuple => fun xs H Q => ∃ p ys, xs = [.ref p] ∧ ((SqL K H p ys ∧ ∀ l, H l = none → Q (.ref l) (upd H l (.tup ys))) ∨ (SqT K H p ys ∧ Q (.ref p) H))
  | .all => rAll K
  | .any => rAny K
  | .sum => rSum K
  | .min2 => fun xs H Q => (∃ i j, xs = [.int i, .int j] ∧ Q (.int (if j < i then j else i)) H) ∨ rMin2L K xs H Q
  | .max2 => fun xs H Q => ∃ i j, xs = [.int i, .int j] ∧ Q (.int (if j > i then j else i)) H
  | .strI => fun xs H Q => ∃ i, xs = [.int i] ∧ i.natAbs.log2 < 1920 ∧ Q (.str (toString i)) H
  | _ => fun _ _ _ => False
theorem never_call {X : Cx} {f : Value} : CallR X f (fun _ _ _ => False) := fun _ _ _ _ _ _ _ _ _ h => h.elim
theorem bi_ok {X : Cx} (hc : X.calm = true) (hu : X.A.units + 64 < cLine) : ∀ b : Bi, CallR X (biV b) (rBi X.K b)
  | .len => call_len
  | .list => call_list_of
  | .tuple => call_tuple_of
  | .all => cr_all hc
  | .any => cr_any hc
  | .sum => cr_sum hc
  | .min2 => fun pins s σ H xs us Q I r h => h.elim (fun h => call_min2 hc pins s σ H xs us Q I r h) fun h => cr_min2L hc hu pins s σ H xs us Q I r h
  | .max2 => call_max2 hc
  | .sorted => never_call
  | .intB => never_call
  | .strI => call_str_int
section
variable {c : Cn} {S : Store} {H : Hp} {A : List Addr} {Q : VK}
theorem one_of {x : PV} {vs : List V} {f : List Addr} (h : RNs c H [x] vs f) : ∃ v, vs = [v] ∧ RN c H x v f := by
  simp only [RNs] at h
  obtain ⟨v, r, f1, f2, rfl, h1, ⟨rfl, rfl⟩, rfl⟩ := h
  exact ⟨v, rfl, by rw [List.append_nil]; exact h1⟩
theorem two_of {x y : PV} {vs : List V} {f : List Addr} (h : RNs c H [x, y] vs f) : ∃ v w f1 f2, vs = [v, w] ∧ RN c H x v f1 ∧ RN c H y w f2 ∧ f = f1 ++ f2 := by
  simp only [RNs] at h
  obtain ⟨v, r, f1, f2, rfl, h1, h2, rfl⟩ := h
  obtain ⟨w, r2, g1, g2, rfl, h3, ⟨rfl, rfl⟩, rfl⟩ := h2
  exact ⟨v, w, f1, g1, rfl, h1, h3, by rw [List.append_nil]⟩
theorem ltL_sound {x y : PV} {b : Bool} {v w : V} {f g : List Addr} (e : ltL S x y = some b) (R : Rel c S H) (ha : RN c H x v f) (hb : RN c H y w g) : ∃ ns ms : List Int, Dp c.K H v (.list (ns.map .int)) ∧ Dp c.K H w (.list (ms.map .int)) ∧ b = decide (ns < ms) := by
  unfold ltL at e
  split at e <;> try (cases e; done)
  rename_i xs ys h1 h2
  split at e <;> try (cases e; done)
  rename_i ns ms e1 e2
  cases e
  obtain ⟨p, vs, g1, rfl, s1, r1, _, _⟩ := ha.lst R h1
  obtain ⟨q, ws, g2, rfl, s2, r2, _, _⟩ := hb.lst R h2
  have v1 := ints_V e1 r1
  have v2 := ints_V e2 r2
  subst v1 v2
  exact ⟨ns, ms, .lst s1 (ints_Dp c.K H ns), .lst s2 (ints_Dp c.K H ms), rfl⟩
theorem bi_sound {b : Bi} {xs : List PV} {r : PV} {vs : List V} {f : List Addr} (h : biP b xs S = some r) (R : Rel c S H) (ha : RNs c H xs vs f) (nd : f.Nodup) (k : Fin c S H f r Q) : rBi c.K b vs H Q := by
  unfold biP at h
  split at h
  · split at h <;> cases h
    rename_i x hf
    obtain ⟨v, rfl, h1⟩ := one_of ha
    simp only [RN] at h1
    obtain ⟨rfl, rfl⟩ := h1
    exact ⟨_, _, rfl, ⟨few_le hf, rfl⟩, k.int R⟩
  · obtain ⟨ys, e, rfl⟩ := Option.map_eq_some_iff.mp h
    obtain ⟨v, rfl, h1⟩ := one_of ha
    obtain ⟨p, vs, g, rfl, hq, hr, sub⟩ := h1.seq R e
    refine ⟨_, vs.length, rfl, ?_, by rw [← hr.length]; exact k.int R⟩
    rcases hq with hq | hq
    · exact .inl ⟨vs, hq, rfl⟩
    · exact .inr ⟨vs, hq, rfl⟩
  · obtain ⟨ys, e, rfl⟩ := Option.map_eq_some_iff.mp h
    obtain ⟨v, rfl, h1⟩ := one_of ha
    obtain ⟨p, vs, g, rfl, hq, hr, sub⟩ := h1.seq R e
    exact ⟨p, vs, rfl, hq, fun l hl => k.lst R hr (nd.sublist sub) (fun z hz => sub.subset hz) hl⟩
  · obtain ⟨ys, e, rfl⟩ := Option.map_eq_some_iff.mp h
    obtain ⟨v, rfl, h1⟩ := one_of ha
    obtain ⟨p, vs, g, rfl, hq, hr, sub⟩ := h1.seq R e
    refine ⟨p, vs, rfl, ?_⟩
    rcases hq with hq | hq
    · exact .inl ⟨hq, fun l hl => k.tup R hr (nd.sublist sub) (fun z hz => sub.subset hz) hl⟩
    · exact .inr ⟨hq, k.here R (by simp only [RN]; exact ⟨p, vs, rfl, hq, hr⟩) (nd.sublist sub) (fun z hz => sub.subset hz)⟩
  · split at h
    · rename_i ys e
      obtain ⟨bs, e1, rfl⟩ := Option.map_eq_some_iff.mp h
      obtain ⟨v, rfl, h1⟩ := one_of ha
      obtain ⟨p, vs, g, rfl, hq, hr, sub, _⟩ := h1.lst R e
      rw [bls_V e1 hr] at hq
      exact ⟨p, bs, rfl, hq, k.bl R⟩
    · cases h
  · split at h
    · rename_i ys e
      obtain ⟨bs, e1, rfl⟩ := Option.map_eq_some_iff.mp h
      obtain ⟨v, rfl, h1⟩ := one_of ha
      obtain ⟨p, vs, g, rfl, hq, hr, sub, _⟩ := h1.lst R e
      rw [bls_V e1 hr] at hq
      exact ⟨p, bs, rfl, hq, k.bl R⟩
    · cases h
  · split at h
    · rename_i ys e
      obtain ⟨bs, e1, rfl⟩ := Option.map_eq_some_iff.mp h
      obtain ⟨v, rfl, h1⟩ := one_of ha
      obtain ⟨p, vs, g, rfl, hq, hr, sub, _⟩ := h1.lst R e
      rw [ints_V e1 hr] at hq
      exact ⟨p, bs, rfl, hq, k.int R⟩
    · cases h
  · cases h
    obtain ⟨v, w, f1, f2, rfl, h1, h2, rfl⟩ := two_of ha
    simp only [RN] at h1 h2
    obtain ⟨rfl, rfl⟩ := h1
    obtain ⟨rfl, rfl⟩ := h2
    exact .inl ⟨_, _, rfl, k.int R⟩
  · cases h
    obtain ⟨v, w, f1, f2, rfl, h1, h2, rfl⟩ := two_of ha
    simp only [RN] at h1 h2
    obtain ⟨rfl, rfl⟩ := h1
    obtain ⟨rfl, rfl⟩ := h2
    exact ⟨_, _, rfl, k.int R⟩
  · rename_i x y _
    obtain ⟨b, e, rfl⟩ := Option.map_eq_some_iff.mp h
    obtain ⟨v, w, f1, f2, rfl, h1, h2, rfl⟩ := two_of ha
    obtain ⟨ns, ms, d1, d2, rfl⟩ := ltL_sound e R h2 h1
    refine .inr ⟨v, w, ms, ns, rfl, d2, d1, ?_⟩
    by_cases c : ns < ms
    · rw [if_pos c]
      rw [decide_eq_true c] at k
      exact k.here R h2 (List.nodup_append.mp nd).2.1 fun z hz => List.mem_append_right _ hz
    · rw [if_neg c]
      rw [decide_eq_false c] at k
      exact k.here R h1 (List.nodup_append.mp nd).1 fun z hz => List.mem_append_left _ hz
  · split at h <;> cases h
    rename_i hz
    obtain ⟨v, rfl, h1⟩ := one_of ha
    simp only [RN] at h1
    obtain ⟨rfl, rfl⟩ := h1
    exact ⟨_, rfl, hz, k.str R⟩
  · cases h
end
/-! ### isinstance -/
def tyN : Ty → String
  | .int => "int"
  | .bool => "bool"
  | .str => "str"
  | .tuple => "tuple"
  | .list => "list"
  | .dict => "dict"
def tyS (t : Ty) : Str := Str.ofString (tyN t)
theorem ty_boot : ∀ t : Ty, bootBuiltins (tyS t) = some (.type (tyN t)) := by
  intro t
  cases t <;> decide +kernel
theorem ty_name : ∀ t : Ty, tyS t ≠ "__name__" ∧ (tyS t == ("__debug__" : Str)) = false := by
  intro t
  cases t <;> decide +kernel
theorem kit_none : ∀ t : Ty, kitB "NoneType" (tyN t) = some false := by intro t; cases t <;> decide +kernel
theorem kit_bl : ∀ t : Ty, kitB "bool" (tyN t) = some (match t with | .bool => true | .int => true | _ => false) := by intro t; cases t <;> decide +kernel
theorem kit_int : ∀ t : Ty, kitB "int" (tyN t) = some (match t with | .int => true | _ => false) := by intro t; cases t <;> decide +kernel
theorem kit_str : ∀ t : Ty, kitB "str" (tyN t) = some (match t with | .str => true | _ => false) := by intro t; cases t <;> decide +kernel
theorem kit_tup : ∀ t : Ty, kitB "tuple" (tyN t) = some (match t with | .tuple => true | _ => false) := by intro t; cases t <;> decide +kernel
theorem kit_lst : ∀ t : Ty, kitB "list" (tyN t) = some (match t with | .list => true | _ => false) := by intro t; cases t <;> decide +kernel
theorem kit_dct : ∀ t : Ty, kitB "dict" (tyN t) = some (match t with | .dict => true | _ => false) := by intro t; cases t <;> decide +kernel
section
variable {c : Cn} {S : Store} {H : Hp}
theorem ty_sound {t : Ty} {x : PV} {b : Bool} {v : V} {f : List Addr} (h : isTy S t x = some b) (R : Rel c S H) (hx : RN c H x v f) : ∃ u, TyX c.K H v u ∧ PySem.W.kitOne c.K u (.type (tyN t)) = some b := by
  have lst : ∀ {p : Addr} {vs : List V}, SqL c.K H p vs → TyX c.K H (.ref p) (.type "list") := fun {p vs} q => by
    rcases q with (q | ⟨o, q⟩) | ⟨o, its, n, h1, h2, _⟩
    · exact .base (.lst q)
    · exact .base (.frz q)
    · exact .kList h1 h2
  have tup : ∀ {p : Addr} {vs : List V}, SqT c.K H p vs → TyX c.K H (.ref p) (.type "tuple") := fun {p vs} q => by
    rcases q with (q | ⟨o, q⟩) | ⟨o, its, n, h1, h2, _⟩
    · exact .base (.tup q)
    · exact .fTuple q
    · exact .kTuple h1 h2
  cases x with
  | non => simp only [isTy] at h; cases h; simp only [RN] at hx; rw [hx.1]; exact ⟨_, .base .non, kit_ty (kit_none t)⟩
  | bl b => simp only [isTy] at h; cases h; simp only [RN] at hx; rw [hx.1]; exact ⟨_, .base (.bl _), kit_ty (kit_bl t)⟩
  | int b => simp only [isTy] at h; cases h; simp only [RN] at hx; rw [hx.1]; exact ⟨_, .base (.int _), kit_ty (kit_int t)⟩
  | str b => simp only [isTy] at h; cases h; simp only [RN] at hx; rw [hx.1]; exact ⟨_, .base (.str _), kit_ty (kit_str t)⟩
  | tup xs =>
    simp only [isTy] at h; cases h
    simp only [RN] at hx
    obtain ⟨p, vs, rfl, s, _⟩ := hx
    exact ⟨_, tup s, kit_ty (kit_tup t)⟩
  | lst k xs =>
    simp only [isTy] at h; cases h
    obtain ⟨p, vs, g, rfl, hq, _⟩ := hx.lst R (xs := xs) rfl
    exact ⟨_, lst hq, kit_ty (kit_lst t)⟩
  | dK k ks xs =>
    simp only [isTy] at h; cases h
    simp only [RN] at hx
    obtain ⟨p, vs, g, rfl, l, _⟩ := hx
    refine ⟨_, .base (.dK (kvs := ks.zip vs) ?_), kit_ty (kit_dct t)⟩
    cases k with
    | new => exact l.1
    | frz => exact R.fh _ _ l
    | bor => exact R.bh _ _ l
    | scr => exact l.elim
  | dT k ks xs =>
    simp only [isTy] at h; cases h
    simp only [RN] at hx
    obtain ⟨p, vs, g, rfl, l, _⟩ := hx
    refine ⟨_, .base (.dT (kvs := ks.zip vs) ?_), kit_ty (kit_dct t)⟩
    cases k with
    | new => exact l.1
    | frz => exact R.fh _ _ l
    | bor => exact R.bh _ _ l
    | scr => exact l.elim
  | ref l =>
    simp only [isTy] at h
    simp only [RN] at hx
    obtain ⟨a, hl, rfl, _⟩ := hx
    split at h <;> cases h
    · rename_i hS
      obtain ⟨vs, e, _⟩ := R.obj l _ a hS hl
      exact ⟨_, .base (.lst e), kit_ty (kit_lst t)⟩
    · rename_i hS
      obtain ⟨vs, e, _⟩ := R.obj l _ a hS hl
      exact ⟨_, .base (.dK e), kit_ty (kit_dct t)⟩
    · rename_i hS
      obtain ⟨vs, e, _⟩ := R.obj l _ a hS hl
      exact ⟨_, .base (.dT e), kit_ty (kit_dct t)⟩
end
end Ev
end
set_option Elab.async false
set_option linter.all false
set_option maxRecDepth 100000
/-! EvG: adopting, lending, giving back; the promise of a def. -/
noncomputable section
namespace Ev
open PySem L2 PyProof.Rows
/-! ### pairs -/
theorem RVk.zip {κ : Type} {c : Cn} {H : Hp} : ∀ {ks : List κ} {xs : List PV} {vs : List V}, RVs c H xs vs → RVk c H (ks.zip xs) (ks.zip vs)
  | [], _, _, _ => Paired.nil
  | _ :: _, [], _, h => by
    simp only [RNs] at h
    rw [h.1]
    exact Paired.nil
  | k :: ks, x :: xs, _, h => by
    simp only [RNs] at h
    obtain ⟨v, r, f1, f2, rfl, h1, h2, e⟩ := h
    have e1 : f1 = [] := (List.append_eq_nil_iff.mp e.symm).1
    have e2 : f2 = [] := (List.append_eq_nil_iff.mp e.symm).2
    subst e1 e2
    exact .cons ⟨rfl, h1⟩ (RVk.zip h2)
theorem RVk.vals {κ : Type} {c : Cn} {H : Hp} : ∀ {xs : List (κ × PV)} {vs : List (κ × V)}, RVk c H xs vs → RVs c H (xs.map (·.2)) (vs.map (·.2)) ∧ xs.map (·.1) = vs.map (·.1)
  | [], _, h => by cases h; exact ⟨by simp [RNs], rfl⟩
  | x :: xs, _, h => by
    cases h with
    | cons h1 h2 =>
      obtain ⟨q1, q2⟩ := RVk.vals h2
      refine ⟨?_, by rw [List.map_cons, List.map_cons, q2, h1.1]⟩
      simp only [List.map_cons, RNs]
      exact ⟨_, _, [], [], rfl, h1.2, q1, rfl⟩
theorem zip_map {κ α : Type} : ∀ l : List (κ × α), (l.map (·.1)).zip (l.map (·.2)) = l
  | [] => rfl
  | (a, b) :: l => by simp [zip_map l]
/-! ### adopting -/
theorem NewAt.ext {c c' : Cn} {H : Hp} {A : List Addr} {a : Addr} (t : Ext c c' A) (ha : a ∉ A) (h : NewAt c H a) : NewAt c' H a := by
  obtain ⟨⟨o, h1⟩, h2⟩ := h
  obtain ⟨q1, q2⟩ := new_ext (o := o) t ha ⟨h1, h2⟩
  exact ⟨⟨o, q1⟩, q2⟩
section
variable {c : Cn} {S : Store} {H : Hp}
theorem adopt_ok {x : PV} {v : V} {fp : List Addr} (R : Rel c S H) (h : RN c H x v fp) (nd : fp.Nodup) : ∃ c', Ext c c' fp ∧ Rel c' (adopt x S).2 H ∧ RV c' H (adopt x S).1 v := by
  have plain : (adopt x S) = (frz x, S) → ∃ c', Ext c c' fp ∧ Rel c' (adopt x S).2 H ∧ RV c' H (adopt x S).1 v := fun e => by
    rw [e]
    exact ⟨c.frz H fp, Cn.frz_ext h.newAt, R.frz h.newAt, RN.frz h.newAt h fun a ha => ha⟩
  have mk : ∀ {a : Addr} {fp' : List Addr} {po : PO}, fp = a :: fp' → v = .ref a → (∀ q, q ∈ fp' → NewAt c H q) → (RO (c.frz H fp') H a po) → adopt x S = (.ref S.length, S ++ [po]) →
      ∃ c', Ext c c' fp ∧ Rel c' (adopt x S).2 H ∧ RV c' H (adopt x S).1 v := fun {a fp' po} ef ev hn ro e => by
    subst ef ev
    obtain ⟨n1, n2⟩ := List.nodup_cons.mp nd
    have e1 := Cn.frz_ext hn
    have ha : NewAt (c.frz H fp') H a := (h.newAt a List.mem_cons_self).ext e1 n1
    rw [e]
    refine ⟨(c.frz H fp').add a, (e1.trans (Cn.add_ext a)).mono fun z hz => ?_, (R.frz hn).add ha ro, ?_⟩
    · rcases List.mem_append.mp hz with hz | hz
      · exact List.mem_cons_of_mem _ hz
      · rw [List.mem_singleton.mp hz]; exact List.mem_cons_self
    · simp only [RN]
      refine ⟨a, ?_, rfl, trivial⟩
      show (c.m ++ [a])[S.length]? = some a
      rw [← R.len, List.getElem?_append_right (Nat.le_refl _), Nat.sub_self]
      rfl
  cases x with
  | lst k xs =>
    cases k with
    | new =>
      have h0 := h
      simp only [RN] at h
      obtain ⟨a, vs, fp', ev, l, r, ef, _⟩ := h
      rw [own_new] at ef
      exact mk (po := .lst (frzs xs)) ef ev (fun q hq => h0.newAt q (by rw [ef]; exact List.mem_cons_of_mem _ hq)) ⟨vs, l.1, RNs.frz r.newAt r fun a ha => ha⟩ rfl
    | frz => exact plain rfl
    | bor => exact plain rfl
    | scr => exact plain rfl
  | dK k ks xs =>
    cases k with
    | new =>
      have h0 := h
      simp only [RN] at h
      obtain ⟨a, vs, fp', ev, l, _, r, ef, _⟩ := h
      rw [own_new] at ef
      exact mk (po := .dK (ks.zip (frzs xs))) ef ev (fun q hq => h0.newAt q (by rw [ef]; exact List.mem_cons_of_mem _ hq)) ⟨_, l.1, RVk.zip (RNs.frz r.newAt r fun a ha => ha)⟩ rfl
    | frz => exact plain rfl
    | bor => exact plain rfl
    | scr => exact plain rfl
  | dT k ks xs =>
    cases k with
    | new =>
      have h0 := h
      simp only [RN] at h
      obtain ⟨a, vs, fp', ev, l, _, r, ef, _⟩ := h
      rw [own_new] at ef
      exact mk (po := .dT (ks.zip (frzs xs))) ef ev (fun q hq => h0.newAt q (by rw [ef]; exact List.mem_cons_of_mem _ hq)) ⟨_, l.1, RVk.zip (RNs.frz r.newAt r fun a ha => ha)⟩ rfl
    | frz => exact plain rfl
    | bor => exact plain rfl
    | scr => exact plain rfl
  | _ => exact plain rfl
end
theorem adopts_ok : ∀ {xs : List PV} {vs : List V} {fp : List Addr} {c : Cn} {S : Store} {H : Hp}, Rel c S H → RNs c H xs vs fp → fp.Nodup → ∃ c', Ext c c' fp ∧ Rel c' (adopts xs S).2 H ∧ RVs c' H (adopts xs S).1 vs
  | [], _, _, c, _, _, R, h, _ => by
    simp only [RNs] at h
    obtain ⟨rfl, rfl⟩ := h
    exact ⟨c, Ext.refl c, R, by simp [adopts, RNs]⟩
  | x :: xs, _, _, c, S, H, R, h, nd => by
    simp only [RNs] at h
    obtain ⟨v, r, f1, f2, rfl, h1, h2, rfl⟩ := h
    rw [List.nodup_append] at nd
    obtain ⟨n1, n2, n3⟩ := nd
    obtain ⟨c1, e1, R1, r1⟩ := adopt_ok R h1 n1
    have h2' : RNs c1 H xs r f2 := RNs.ext e1 h2 fun a ha hb => n3 a hb a ha rfl
    obtain ⟨c2, e2, R2, r2⟩ := adopts_ok R1 h2' n2
    refine ⟨c2, e1.trans e2, R2, ?_⟩
    simp only [adopts, RNs]
    exact ⟨v, r, [], [], rfl, RV.ext e2 r1, r2, rfl⟩
mutual
theorem dig_ok : ∀ {x : PV} {v : V} {fp : List Addr} {c : Cn} {S : Store} {H : Hp}, Rel c S H → RN c H x v fp → fp.Nodup → ∃ c', Ext c c' fp ∧ Rel c' (dig x S).2 H ∧ RV c' H (dig x S).1 v
  | .non, v, fp, c, S, H, R, h, nd => by simp only [dig]; simp only [RN] at h ⊢; rw [h.2]; exact ⟨c, Ext.refl c, R, h.1, trivial⟩
  | .bl _, v, fp, c, S, H, R, h, nd => by simp only [dig]; simp only [RN] at h ⊢; rw [h.2]; exact ⟨c, Ext.refl c, R, h.1, trivial⟩
  | .int _, v, fp, c, S, H, R, h, nd => by simp only [dig]; simp only [RN] at h ⊢; rw [h.2]; exact ⟨c, Ext.refl c, R, h.1, trivial⟩
  | .str _, v, fp, c, S, H, R, h, nd => by simp only [dig]; simp only [RN] at h ⊢; rw [h.2]; exact ⟨c, Ext.refl c, R, h.1, trivial⟩
  | .ref _, v, fp, c, S, H, R, h, nd => by
    simp only [dig]
    simp only [RN] at h ⊢
    obtain ⟨a, h1, h2, h3⟩ := h
    rw [h3]
    exact ⟨c, Ext.refl c, R, a, h1, h2, trivial⟩
  | .tup xs, v, fp, c, S, H, R, h, nd => by
    simp only [dig]
    simp only [RN] at h ⊢
    obtain ⟨a, vs, rfl, s, r⟩ := h
    obtain ⟨c', e, R', r'⟩ := digs_ok R r nd
    exact ⟨c', e, R', a, vs, rfl, by rw [e.K]; exact s, r'⟩
  | .lst k xs, v, fp, c, S, H, R, h, nd => by
    cases k with
    | new =>
      have h0 := h
      simp only [dig]
      simp only [RN] at h ⊢
      obtain ⟨a, vs, fp', rfl, l, r, ef, _⟩ := h
      rw [own_new] at ef
      subst ef
      obtain ⟨n1, n2⟩ := List.nodup_cons.mp nd
      obtain ⟨c', e, R', r'⟩ := digs_ok R r n2
      have ha : NewAt c' H a := (h0.newAt a List.mem_cons_self).ext e n1
      refine ⟨c'.add a, (e.trans (Cn.add_ext a)).mono fun z hz => ?_, R'.add ha ⟨vs, l.1, r'⟩, a, ?_, rfl, trivial⟩
      · rcases List.mem_append.mp hz with hz | hz
        · exact List.mem_cons_of_mem _ hz
        · rw [List.mem_singleton.mp hz]; exact List.mem_cons_self
      · show (c'.m ++ [a])[_]? = some a
        rw [← R'.len, List.getElem?_append_right (Nat.le_refl _), Nat.sub_self]
        rfl
    | frz =>
      have h1 := h
      simp only [dig]
      simp only [RN] at h
      obtain ⟨a, vs, fp', ev, l, r, ef, z⟩ := h
      have z : fp' = [] := z.resolve_left (by decide)
      rw [own_ne (by decide), z] at ef
      subst ef
      exact ⟨c, Ext.refl c, R, h1⟩
    | bor =>
      have h1 := h
      simp only [dig]
      simp only [RN] at h
      obtain ⟨a, vs, fp', ev, l, r, ef, z⟩ := h
      have z : fp' = [] := z.resolve_left (by decide)
      rw [own_ne (by decide), z] at ef
      subst ef
      exact ⟨c, Ext.refl c, R, h1⟩
    | scr =>
      have h1 := h
      simp only [dig]
      simp only [RN] at h
      obtain ⟨a, vs, fp', ev, l, r, ef, z⟩ := h
      have z : fp' = [] := z.resolve_left (by decide)
      rw [own_ne (by decide), z] at ef
      subst ef
      exact ⟨c, Ext.refl c, R, h1⟩
  | .dK k ks xs, v, fp, c, S, H, R, h, nd => by
    cases k with
    | new =>
      have h0 := h
      simp only [dig]
      simp only [RN] at h ⊢
      obtain ⟨a, vs, fp', rfl, l, _, r, ef, _⟩ := h
      rw [own_new] at ef
      subst ef
      obtain ⟨n1, n2⟩ := List.nodup_cons.mp nd
      obtain ⟨c', e, R', r'⟩ := digs_ok R r n2
      have ha : NewAt c' H a := (h0.newAt a List.mem_cons_self).ext e n1
      refine ⟨c'.add a, (e.trans (Cn.add_ext a)).mono fun z hz => ?_, R'.add ha ⟨_, l.1, RVk.zip r'⟩, a, ?_, rfl, trivial⟩
      · rcases List.mem_append.mp hz with hz | hz
        · exact List.mem_cons_of_mem _ hz
        · rw [List.mem_singleton.mp hz]; exact List.mem_cons_self
      · show (c'.m ++ [a])[_]? = some a
        rw [← R'.len, List.getElem?_append_right (Nat.le_refl _), Nat.sub_self]
        rfl
    | frz =>
      have h1 := h
      simp only [dig]
      simp only [RN] at h
      obtain ⟨a, vs, fp', ev, l, _, r, ef, z⟩ := h
      have z : fp' = [] := z.resolve_left (by decide)
      rw [own_ne (by decide), z] at ef
      subst ef
      exact ⟨c, Ext.refl c, R, h1⟩
    | bor =>
      have h1 := h
      simp only [dig]
      simp only [RN] at h
      obtain ⟨a, vs, fp', ev, l, _, r, ef, z⟩ := h
      have z : fp' = [] := z.resolve_left (by decide)
      rw [own_ne (by decide), z] at ef
      subst ef
      exact ⟨c, Ext.refl c, R, h1⟩
    | scr =>
      simp only [RN] at h
      obtain ⟨a, vs, fp', ev, l, _⟩ := h
      exact l.elim
  | .dT k ks xs, v, fp, c, S, H, R, h, nd => by
    cases k with
    | new =>
      have h0 := h
      simp only [dig]
      simp only [RN] at h ⊢
      obtain ⟨a, vs, fp', rfl, l, _, r, ef, _⟩ := h
      rw [own_new] at ef
      subst ef
      obtain ⟨n1, n2⟩ := List.nodup_cons.mp nd
      obtain ⟨c', e, R', r'⟩ := digs_ok R r n2
      have ha : NewAt c' H a := (h0.newAt a List.mem_cons_self).ext e n1
      refine ⟨c'.add a, (e.trans (Cn.add_ext a)).mono fun z hz => ?_, R'.add ha ⟨_, l.1, RVk.zip r'⟩, a, ?_, rfl, trivial⟩
      · rcases List.mem_append.mp hz with hz | hz
        · exact List.mem_cons_of_mem _ hz
        · rw [List.mem_singleton.mp hz]; exact List.mem_cons_self
      · show (c'.m ++ [a])[_]? = some a
        rw [← R'.len, List.getElem?_append_right (Nat.le_refl _), Nat.sub_self]
        rfl
    | frz =>
      have h1 := h
      simp only [dig]
      simp only [RN] at h
      obtain ⟨a, vs, fp', ev, l, _, r, ef, z⟩ := h
      have z : fp' = [] := z.resolve_left (by decide)
      rw [own_ne (by decide), z] at ef
      subst ef
      exact ⟨c, Ext.refl c, R, h1⟩
    | bor =>
      have h1 := h
      simp only [dig]
      simp only [RN] at h
      obtain ⟨a, vs, fp', ev, l, _, r, ef, z⟩ := h
      have z : fp' = [] := z.resolve_left (by decide)
      rw [own_ne (by decide), z] at ef
      subst ef
      exact ⟨c, Ext.refl c, R, h1⟩
    | scr =>
      simp only [RN] at h
      obtain ⟨a, vs, fp', ev, l, _⟩ := h
      exact l.elim
theorem digs_ok : ∀ {xs : List PV} {vs : List V} {fp : List Addr} {c : Cn} {S : Store} {H : Hp}, Rel c S H → RNs c H xs vs fp → fp.Nodup → ∃ c', Ext c c' fp ∧ Rel c' (digs xs S).2 H ∧ RVs c' H (digs xs S).1 vs
  | [], vs, fp, c, S, H, R, h, nd => by
    simp only [digs]
    simp only [RNs] at h ⊢
    rw [h.2]
    exact ⟨c, Ext.refl c, R, h.1, trivial⟩
  | x :: xs, vs, fp, c, S, H, R, h, nd => by
    simp only [RNs] at h
    obtain ⟨v, r, f1, f2, rfl, h1, h2, rfl⟩ := h
    rw [List.nodup_append] at nd
    obtain ⟨n1, n2, n3⟩ := nd
    obtain ⟨c1, e1, R1, r1⟩ := dig_ok R h1 n1
    have h2' : RNs c1 H xs r f2 := RNs.ext e1 h2 fun a ha hb => n3 a hb a ha rfl
    obtain ⟨c2, e2, R2, r2⟩ := digs_ok R1 h2' n2
    simp only [digs]
    refine ⟨c2, e1.trans e2, R2, ?_⟩
    simp only [RNs]
    exact ⟨v, r, [], [], rfl, RV.ext e2 r1, r2, rfl⟩
end
/-! ### lending -/
def lendC (c : Cn) (H : Hp) : Cn := { c with B := H, F := fun _ => none, m := [] }
theorem Rel.lendC {c : Cn} {H : Hp} : Rel (lendC c H) [] H := ⟨rfl, List.nodup_nil, fun i o a e _ => (by simp at e), fun _ h => (nomatch h), fun _ h => (nomatch h), fun _ _ h => h, fun _ _ h => (nomatch h)⟩
section
variable {c : Cn} {S : Store} {H : Hp}
theorem lends {n : Nat} (ih : ∀ {x y : PV} {v : V} {fp : List Addr}, lend S n x = some y → RN c H x v fp → RV (lendC c H) H y v) :
    ∀ {xs ys : List PV} {vs : List V} {fp : List Addr}, mapO (lend S n) xs = some ys → RNs c H xs vs fp → RVs (lendC c H) H ys vs
  | [], _, _, _, e, h => by
    cases e
    simp only [RNs] at h
    rw [h.1]
    simp [RNs]
  | x :: xs, _, _, _, e, h => by
    obtain ⟨y, r, e1, e2, rfl⟩ := mapO_cons e
    simp only [RNs] at h
    obtain ⟨v, vr, f1, f2, rfl, h1, h2, rfl⟩ := h
    simp only [RNs]
    exact ⟨v, vr, [], [], rfl, ih e1 h1, lends ih e2 h2, rfl⟩
theorem mapO_len {α β : Type} {f : α → Option β} : ∀ {xs : List α} {ys : List β}, mapO f xs = some ys → ys.length = xs.length
  | [], _, e => by cases e; rfl
  | x :: xs, _, e => by
    obtain ⟨y, r, _, e2, rfl⟩ := mapO_cons e
    rw [List.length_cons, List.length_cons, mapO_len e2]
theorem lend_ok (R : Rel c S H) : ∀ {n : Nat} {x y : PV} {v : V} {fp : List Addr}, lend S n x = some y → RN c H x v fp → RV (lendC c H) H y v
  | n, .non, _, _, _, e, h => by cases n <;> (simp only [lend] at e; cases e; simp only [RN] at h ⊢; exact ⟨h.1, trivial⟩)
  | n, .bl b, _, _, _, e, h => by cases n <;> (simp only [lend] at e; cases e; simp only [RN] at h ⊢; exact ⟨h.1, trivial⟩)
  | n, .int b, _, _, _, e, h => by cases n <;> (simp only [lend] at e; cases e; simp only [RN] at h ⊢; exact ⟨h.1, trivial⟩)
  | n, .str b, _, _, _, e, h => by cases n <;> (simp only [lend] at e; cases e; simp only [RN] at h ⊢; exact ⟨h.1, trivial⟩)
  | 0, .tup _, _, _, _, e, _ => by simp [lend] at e
  | 0, .lst _ _, _, _, _, e, _ => by simp [lend] at e
  | 0, .dK _ _ _, _, _, _, e, _ => by simp [lend] at e
  | 0, .dT _ _ _, _, _, _, e, _ => by simp [lend] at e
  | 0, .ref _, _, _, _, e, _ => by simp [lend] at e
  | n + 1, .tup xs, _, _, _, e, h => by
    simp only [lend] at e
    obtain ⟨ys, e1, rfl⟩ := Option.map_eq_some_iff.mp e
    simp only [RN] at h ⊢
    obtain ⟨a, vs, rfl, s, r⟩ := h
    exact ⟨a, vs, rfl, s, lends (fun e h => lend_ok R e h) e1 r⟩
  | n + 1, .lst k xs, _, _, _, e, h => by
    simp only [lend] at e
    obtain ⟨ys, e1, rfl⟩ := Option.map_eq_some_iff.mp e
    obtain ⟨a, vs, g, rfl, s, r, _, t⟩ := h.lst R (xs := xs) rfl
    simp only [RN]
    refine ⟨a, vs, [], rfl, ?_, lends (fun e h => lend_ok R e h) e1 r, ?_, .inr rfl⟩
    · cases k with
      | new => exact t xs rfl
      | frz => exact t xs rfl
      | bor => exact t xs rfl
      | scr => exact s
    · cases k <;> rfl
  | n + 1, .dK k ks xs, _, _, _, e, h => by
    simp only [lend] at e
    obtain ⟨ys, e1, rfl⟩ := Option.map_eq_some_iff.mp e
    simp only [RN] at h ⊢
    obtain ⟨a, vs, g, rfl, l, hl, r, _⟩ := h
    refine ⟨a, vs, [], rfl, ?_, hl, lends (fun e h => lend_ok R e h) e1 r, rfl, .inr rfl⟩
    cases k with
    | new => exact l.1
    | frz => exact R.fh _ _ l
    | bor => exact R.bh _ _ l
    | scr => exact l.elim
  | n + 1, .dT k ks xs, _, _, _, e, h => by
    simp only [lend] at e
    obtain ⟨ys, e1, rfl⟩ := Option.map_eq_some_iff.mp e
    simp only [RN] at h ⊢
    obtain ⟨a, vs, g, rfl, l, hl, r, _⟩ := h
    refine ⟨a, vs, [], rfl, ?_, hl, lends (fun e h => lend_ok R e h) e1 r, rfl, .inr rfl⟩
    cases k with
    | new => exact l.1
    | frz => exact R.fh _ _ l
    | bor => exact R.bh _ _ l
    | scr => exact l.elim
  | n + 1, .ref l, _, _, _, e, h => by
    simp only [lend] at e
    simp only [RN] at h
    obtain ⟨a, hl, rfl, _⟩ := h
    split at e
    · rename_i xs hS
      obtain ⟨ys, e1, rfl⟩ := Option.map_eq_some_iff.mp e
      obtain ⟨vs, h1, r⟩ := R.obj l _ a hS hl
      simp only [RN]
      exact ⟨a, vs, [], rfl, h1, lends (fun e h => lend_ok R e h) e1 r, rfl, .inr rfl⟩
    · rename_i xs hS
      obtain ⟨ys, e1, rfl⟩ := Option.map_eq_some_iff.mp e
      obtain ⟨vs, h1, r⟩ := R.obj l _ a hS hl
      obtain ⟨q1, q2⟩ := r.vals
      simp only [RN]
      refine ⟨a, vs.map (·.2), [], rfl, ?_, by rw [q2]; simp, lends (fun e h => lend_ok R e h) e1 q1, rfl, .inr rfl⟩
      show H a = some (.dK ((xs.map (·.1)).zip (vs.map (·.2))))
      rw [q2, zip_map]
      exact h1
    · rename_i xs hS
      obtain ⟨ys, e1, rfl⟩ := Option.map_eq_some_iff.mp e
      obtain ⟨vs, h1, r⟩ := R.obj l _ a hS hl
      obtain ⟨q1, q2⟩ := r.vals
      simp only [RN]
      refine ⟨a, vs.map (·.2), [], rfl, ?_, by rw [q2]; simp, lends (fun e h => lend_ok R e h) e1 q1, rfl, .inr rfl⟩
      show H a = some (.dT ((xs.map (·.1)).zip (vs.map (·.2))))
      rw [q2, zip_map]
      exact h1
    · cases e
end
/-! ### giving back -/
/-- the caller's view behind a call that was lent all: what the callee froze is frozen -/
def backC (c c2 : Cn) : Cn := { c with F := fun a => match c.F a with
  | some o => some o
  | none => c2.F a }
section
variable {c c2 : Cn} {S S2 : Store} {H H2 : Hp}
theorem back_F {a : Addr} (R : Rel c S H) (h : H a = none) : (backC c c2).F a = c2.F a := by
  have e : c.F a = none := (R.new h).1
  show (match c.F a with
    | some o => some o
    | none => c2.F a) = _
  rw [e]
theorem back_tr (R : Rel c S H) (t : Tr (lendC c H) H c2 H2) : Tr c H (backC c c2) H2 where
  K := rfl
  B := rfl
  C := rfl
  pre := List.prefix_refl _
  mnew := fun _ h => .inl h
  fk := fun a o h => by
    show (match c.F a with
      | some o => some o
      | none => c2.F a) = _
    rw [h]
  fnew := fun a o h => by
    cases e : c.F a with
    | some u =>
      have h : (match c.F a with
        | some o => some o
        | none => c2.F a) = some o := h
      rw [e] at h
      exact .inl h
    | none =>
      have h : (match c.F a with
        | some o => some o
        | none => c2.F a) = some o := h
      rw [e] at h
      rcases t.fnew a o h with q | q
      · cases q
      · exact .inr q
  keep := fun a o h _ => t.keep a o h (.inl fun z => by cases z)
  there := t.there
theorem back_rel (R : Rel c S H) (t : Tr (lendC c H) H c2 H2) (R2 : Rel c2 S2 H2) : Rel (backC c c2) S H2 := by
  have t' := back_tr R t
  refine ⟨R.len, R.nd, fun i o a e1 e2 => (R.obj i o a e1 e2).tr t' ?_, R.mB, fun a ha => ?_, fun a o e => t.keep a o (R.bh a o e) (.inl fun z => by cases z), fun a o e => ?_⟩
  · obtain ⟨u, hu, _⟩ := R.alive (List.mem_of_getElem? e2)
    rw [hu]
    exact t.keep a u hu (.inl fun z => by cases z)
  · show (match c.F a with
      | some o => some o
      | none => c2.F a) = none
    rw [R.mF a ha]
    cases e : c2.F a with
    | none => rfl
    | some o =>
      obtain ⟨u, hu, _⟩ := R.alive ha
      rcases t.fnew a o e with q | q
      · cases q
      · rw [hu] at q; cases q
  · rcases t'.fnew a o e with q | q
    · exact t.keep a o (R.fh a o q) (.inl fun z => by cases z)
    · rw [back_F R q] at e
      exact R2.fh a o e
theorem back_new (R : Rel c S H) {a : Addr} {o : HO} (ha : H a = none) (h : H2 a = some o ∧ c2.F a = none) : H2 a = some o ∧ (backC c c2).F a = none ∧ (backC c c2).B a = none ∧ a ∉ (backC c c2).m := by
  obtain ⟨_, q2, q3⟩ := R.new ha
  exact ⟨h.1, by rw [back_F R ha]; exact h.2, q2, q3⟩
mutual
theorem RN.back (R : Rel c S H) (t : Tr (lendC c H) H c2 H2) : ∀ {x : PV} {v : V} {fp : List Addr}, clean x = true → RN c2 H2 x v fp → (∀ a, a ∈ fp → H a = none) → RN (backC c c2) H2 x v fp
  | .non, _, _, _, h, _ => by simpa [RN] using h
  | .bl _, _, _, _, h, _ => by simpa [RN] using h
  | .int _, _, _, _, h, _ => by simpa [RN] using h
  | .str _, _, _, _, h, _ => by simpa [RN] using h
  | .ref _, _, _, e, _, _ => by simp [clean] at e
  | .tup _, _, _, e, h, f => by
    simp only [RN] at h ⊢
    obtain ⟨a, vs, rfl, s, r⟩ := h
    refine ⟨a, vs, rfl, ?_, RNs.back R t (by simpa [clean] using e) r f⟩
    have ek : c2.K = (backC c c2).K := t.K
    rw [← ek]; exact s
  | .lst k _, _, _, e, h, f => by
    simp only [clean, Bool.and_eq_true] at e
    simp only [RN] at h ⊢
    obtain ⟨a, vs, fp', rfl, l, r, rfl, z⟩ := h
    refine ⟨a, vs, fp', rfl, ?_, RNs.back R t e.2 r (fun x hx => f x (own_mem hx)), rfl, z⟩
    cases k with
    | new => exact back_new R (f a (by rw [own_new]; exact List.mem_cons_self)) ⟨l.1, l.2.1⟩
    | frz =>
      rcases t.fnew a _ l with q | q
      · cases q
      · exact (back_F R q).trans l
    | bor => exact absurd e.1 (by decide)
    | scr => exact absurd e.1 (by decide)
  | .dK k _ _, _, _, e, h, f => by
    simp only [clean, Bool.and_eq_true] at e
    simp only [RN] at h ⊢
    obtain ⟨a, vs, fp', rfl, l, hl, r, rfl, z⟩ := h
    refine ⟨a, vs, fp', rfl, ?_, hl, RNs.back R t e.2 r (fun x hx => f x (own_mem hx)), rfl, z⟩
    cases k with
    | new => exact back_new R (f a (by rw [own_new]; exact List.mem_cons_self)) ⟨l.1, l.2.1⟩
    | frz =>
      rcases t.fnew a _ l with q | q
      · cases q
      · exact (back_F R q).trans l
    | bor => exact absurd e.1 (by decide)
    | scr => exact absurd e.1 (by decide)
  | .dT k _ _, _, _, e, h, f => by
    simp only [clean, Bool.and_eq_true] at e
    simp only [RN] at h ⊢
    obtain ⟨a, vs, fp', rfl, l, hl, r, rfl, z⟩ := h
    refine ⟨a, vs, fp', rfl, ?_, hl, RNs.back R t e.2 r (fun x hx => f x (own_mem hx)), rfl, z⟩
    cases k with
    | new => exact back_new R (f a (by rw [own_new]; exact List.mem_cons_self)) ⟨l.1, l.2.1⟩
    | frz =>
      rcases t.fnew a _ l with q | q
      · cases q
      · exact (back_F R q).trans l
    | bor => exact absurd e.1 (by decide)
    | scr => exact absurd e.1 (by decide)
theorem RNs.back (R : Rel c S H) (t : Tr (lendC c H) H c2 H2) : ∀ {xs : List PV} {vs : List V} {fp : List Addr}, cleans xs = true → RNs c2 H2 xs vs fp → (∀ a, a ∈ fp → H a = none) → RNs (backC c c2) H2 xs vs fp
  | [], _, _, _, h, _ => by simpa [RNs] using h
  | _ :: _, _, _, e, h, f => by
    simp only [cleans, Bool.and_eq_true] at e
    simp only [RNs] at h ⊢
    obtain ⟨v, r, f1, f2, rfl, h1, h2, rfl⟩ := h
    exact ⟨v, r, f1, f2, rfl, RN.back R t e.1 h1 (fun a ha => f a (List.mem_append_left _ ha)), RNs.back R t e.2 h2 (fun a ha => f a (List.mem_append_right _ ha)), rfl⟩
end
theorem give_ok (R : Rel c S H) (t : Tr (lendC c H) H c2 H2) (R2 : Rel c2 S2 H2) {x y : PV} {ls : List Nat} {v : V} {fp : List Addr} (e : give S2 x = some (y, ls)) (h : RN c2 H2 x v fp) (nd : fp.Nodup) (fr : ∀ a, a ∈ fp → H a = none) :
    ∃ fp', RN (backC c c2) H2 y v fp' ∧ fp'.Nodup ∧ ∀ a, a ∈ fp' → H a = none := by
  have gen : ∀ {z : PV}, clean z = true → RN c2 H2 z v fp → ∃ fp', RN (backC c c2) H2 z v fp' ∧ fp'.Nodup ∧ ∀ a, a ∈ fp' → H a = none := fun {z} c1 h => ⟨fp, h.back R t c1 fr, nd, fr⟩
  unfold give at e
  split at e
  · rename_i l
    simp only [RN] at h
    obtain ⟨a, hl, rfl, _⟩ := h
    have ha : H a = none := by
      rcases t.mnew a (List.mem_of_getElem? hl) with q | q
      · cases q
      · exact q
    have mf : c2.F a = none := R2.mF a (List.mem_of_getElem? hl)
    split at e
    · rename_i xs hS
      split at e <;> cases e
      rename_i hc
      obtain ⟨vs, h1, r⟩ := R2.obj l _ a hS hl
      refine ⟨[a], ?_, by simp, fun z hz => by rw [List.mem_singleton.mp hz]; exact ha⟩
      simp only [RN]
      exact ⟨a, vs, [], rfl, back_new R ha ⟨h1, mf⟩, RNs.back R t hc r (fun _ hz => by cases hz), own_new.symm, .inl trivial⟩
    · rename_i xs hS
      split at e <;> cases e
      rename_i hc
      obtain ⟨vs, h1, r⟩ := R2.obj l _ a hS hl
      obtain ⟨q1, q2⟩ := r.vals
      refine ⟨[a], ?_, by simp, fun z hz => by rw [List.mem_singleton.mp hz]; exact ha⟩
      simp only [RN]
      refine ⟨a, vs.map (·.2), [], rfl, back_new R ha ⟨?_, mf⟩, by rw [q2]; simp, RNs.back R t hc q1 (fun _ hz => by cases hz), own_new.symm, .inl trivial⟩
      rw [q2, zip_map]
      exact h1
    · rename_i xs hS
      split at e <;> cases e
      rename_i hc
      obtain ⟨vs, h1, r⟩ := R2.obj l _ a hS hl
      obtain ⟨q1, q2⟩ := r.vals
      refine ⟨[a], ?_, by simp, fun z hz => by rw [List.mem_singleton.mp hz]; exact ha⟩
      simp only [RN]
      refine ⟨a, vs.map (·.2), [], rfl, back_new R ha ⟨?_, mf⟩, by rw [q2]; simp, RNs.back R t hc q1 (fun _ hz => by cases hz), own_new.symm, .inl trivial⟩
      rw [q2, zip_map]
      exact h1
    · cases e
  · split at e <;> cases e
    rename_i hc
    exact gen (by simpa [clean] using hc) h
  · split at e <;> cases e
    rename_i hc
    exact gen hc h
end
/-! ### the promise of a def -/
def spOf (K : PySem.W.Frag) (C : Nat → Addr) (n : Nat) (F : List PV → Store → Res PV) : Sp := fun vs H Q E =>
  vs.length = n ∧ ∃ c S args, c.K = K ∧ c.C = C ∧ Rel c S H ∧ RVs c H args vs ∧ Post c H (F args S) E Q
section
variable {K : PySem.W.Frag} {C : Nat → Addr} {c0 c : Cn} {H0 H : Hp} {S : Store} {ρ : Loc} {σ : L2.St} {W : XK} {Q : VK} {ce : Call} {f : Nat} {n : Nat} {args : List PV} {vs : List V} {fp : List Addr}
/-- a call that is lent all -/
theorem callP_ok (A : At K C c0 H0 c S ρ σ H) (h : RNs c H args vs fp) (hn : args.length = n) (P : Post c0 H0 (callP ce f args S) W Q) : spOf K C n (ce f) vs H Q W := by
  unfold callP at P
  split at P
  · exact P.elim
  · rename_i as e
    have hl : vs.length = n := by rw [← h.length]; exact hn
    refine ⟨hl, lendC c H, [], as, A.K, A.C, Rel.lendC, lends (fun e h => lend_ok A.rel e h) e h, ?_⟩
    cases q : ce f as [] with
    | fail => rw [q] at P; exact P.elim
    | ok r S' =>
      rw [q] at P
      dsimp only at P
      intro c2 H2 x fp2 t R2 rn nd fr
      cases g : give S' r with
      | none => rw [g] at P; exact P.elim
      | some y =>
        obtain ⟨r', ls⟩ := y
        rw [g] at P
        obtain ⟨fp', r1, r2, r3⟩ := give_ok A.rel t R2 g rn nd fr
        exact P (backC c c2) H2 x fp' (A.tr.trans (back_tr A.rel t)) (back_rel A.rel t R2) r1 r2 fun a ha => A.tr.there a (r3 a ha)
    | exc i p S' =>
      rw [q] at P
      dsimp only at P
      intro c2 H2 d t R2 x
      have ec : (lendC c H).C i = c0.C i := by
        show c.C i = c0.C i
        rw [A.tr.C]
      rw [ec]
      cases p with
      | none =>
        exact P (backC c c2) H2 d (A.tr.trans (back_tr A.rel t)) (back_rel A.rel t R2) x
      | some p =>
        dsimp only at P
        by_cases hc : clean p = true
        · rw [if_pos hc] at P
          obtain ⟨a, y, h1, h2, h3⟩ := x
          exact P (backC c c2) H2 d (A.tr.trans (back_tr A.rel t)) (back_rel A.rel t R2) ⟨a, y, h1, h2, h3.back A.rel t hc (fun _ z => by cases z)⟩
        · rw [if_neg hc] at P
          exact P.elim
/-- a call over the caller's store -/
theorem callF_ok (A : At K C c0 H0 c S ρ σ H) (h : RNs c H args vs fp) (nd : fp.Nodup) (fr : ∀ a, a ∈ fp → H0 a = none) (hn : args.length = n) (P : Post c0 H0 (callF ce f args S) W Q) : spOf K C n (ce f) vs H Q W := by
  obtain ⟨c1, e1, R1, r1⟩ := adopts_ok A.rel h nd
  have hl : vs.length = n := by rw [← h.length]; exact hn
  have t1 : Tr c0 H0 c1 H := A.tr.ext e1 fr
  refine ⟨hl, c1, (adopts args S).2, (adopts args S).1, e1.K.trans A.K, e1.C.trans A.C, R1, r1, ?_⟩
  have P : Post c0 H0 (ce f (adopts args S).1 (adopts args S).2) W Q := P
  cases q : ce f (adopts args S).1 (adopts args S).2 with
  | fail => rw [q] at P; exact P.elim
  | ok r S' =>
    rw [q] at P
    intro c2 H2 x fp2 t R2 rn nd fr2
    exact P c2 H2 x fp2 (t1.trans t) R2 rn nd fun a ha => t1.there a (fr2 a ha)
  | exc i p S' =>
    rw [q] at P
    intro c2 H2 d t R2 x
    have := P c2 H2 d (t1.trans t) R2 x
    rw [t1.C]
    exact this
end
end Ev
end
set_option Elab.async false
set_option linter.all false
set_option maxRecDepth 100000
/-! EvH: the look that a tree is a term of the small language; what is asked of a context; names and targets. -/
noncomputable section
namespace Ev
open PySem L2 PyProof.Rows
/-- a def that may be called: its name, the number of its parameters -/
inductive FK where
  | glob | met (c : Nat) | ini (c : Nat)
  deriving DecidableEq
structure FnE where
  name : Str
  n : Nat
  kd : FK
/-- the level that a call of it wants -/
def FK.lv (d : FK) (k : Nat) : Nat := match d with
  | .ini _ => k + 1
  | _ => k
structure GS where
  tab : List FnE
  con : List (Str × PV)
  exc : Nat → Option Str
  sub : List (Nat × Nat × Bool)
  cls : List (Nat × Str × List Str)
/-- fs: what each does; C: where the classes stand -/
structure GT extends GS where
  C : Nat → Addr
  fs : Nat → List PV → Store → Res PV
instance : Coe GT GS := ⟨GT.toGS⟩
def conOf (con : List (Str × PV)) (j : Nat) : PV := match con[j]? with
  | some p => p.2
  | none => .non
def ceOf (con : List (Str × PV)) (fs : Nat → List PV → Store → Res PV) : Cl := ⟨fs, conOf con⟩
def GT.ce (G : GT) : Cl := ceOf G.con G.fs
/-! ### the look -/
def isVis (sc : Scope) (x : Str) : Bool := match sc.names.lookup x with
  | some .local => true
  | some .cell => true
  | some .free => true
  | _ => false
def isGl (sc : Scope) (x : Str) : Bool := match sc.names.lookup x with
  | some .globalImplicit => true
  | _ => false
def isLoc (sc : Scope) (x : Str) : Bool := match sc.names.lookup x with
  | some .local => true
  | some .cell => true
  | _ => false
def isLocal (sc : Scope) (x : Str) : Bool := match sc.names.lookup x with
  | some .local => true
  | _ => false
def okName (x : Str) : Bool := !(x == ("__debug__" : Str)) && !(x == ("__classdict__" : Str)) && !(decide (x = ("__name__" : Str)))
def binM : B2 → Operator → Bool
  | .add, .Add => true
  | .sub, .Sub => true
  | .mul, .Mult => true
  | .fdiv, .FloorDiv => true
  | .mod, .Mod => true
  | .pow, .Pow => true
  | _, _ => false
def cmpM : B2 → CmpOp → Bool
  | .lt, .Lt => true
  | .le, .LtE => true
  | .gt, .Gt => true
  | .ge, .GtE => true
  | .eq, .Eq => true
  | .ne, .NotEq => true
  | .isin, .In => true
  | .notin, .NotIn => true
  | .isN, .Is => true
  | .notN, .IsNot => true
  | _, _ => false
def conM : PV → Const → Bool
  | .non, .none => true
  | .bl a, .bool b => a == b
  | .int i, .int j => i == j
  | .str x, .str y => decide (x = y)
  | _, _ => false
/-- no star, no set, no slice -/
def plainE : Expr → Bool
  | .Starred _ _ => false
  | .Set _ _ _ => false
  | .Slice _ _ _ _ => false
  | _ => true
def nameIs (N : List Str) (i : Nat) (x : Str) : Bool := decide (N[i]? = some x)
def chkNames (N : List Str) (sc : Scope) : List Nat → List Expr → Bool
  | [], [] => true
  | i :: is, .Name x _ :: es => nameIs N i x && isLoc sc x && okName x && chkNames N sc is es
  | _, _ => false
/-- a target; sc: the scope as written -/
def chkTg (N : List Str) (sc : Scope) : Tg → Expr → Bool
  | .name i, .Name x _ => nameIs N i x && isLoc sc x && okName x
  | .tup is, .Tuple es _ _ => chkNames N sc is es
  | _, _ => false
def tgs : Tg → List Nat
  | .name i => [i]
  | .tup is => is
def lenIs {α : Type} (xs : List α) (n : Nat) : Bool := decide (xs.length = n)
/-! shapes -/
def asCall : Expr → Option (Str × Expr × List Expr)
  | .Call (.Name x _) (y :: ys) [] _ => some (x, y, ys)
  | _ => none
theorem asCall_eq {e y : Expr} {x : Str} {ys : List Expr} (h : asCall e = some (x, y, ys)) : ∃ p pos, e = .Call (.Name x p) (y :: ys) [] pos := by
  unfold asCall at h
  split at h
  · cases h; exact ⟨_, _, rfl⟩
  · cases h
/-- [f, g, ..][i](x, ..) -/
def asCallX : Expr → Option (List Expr × Expr × Expr × List Expr)
  | .Call (.Subscript (.List xs _) i _) (y :: ys) [] _ => some (xs, i, y, ys)
  | _ => none
theorem asCallX_eq {e i y : Expr} {xs ys : List Expr} (h : asCallX e = some (xs, i, y, ys)) : ∃ p1 p2 pos, e = .Call (.Subscript (.List xs p1) i p2) (y :: ys) [] pos := by
  unfold asCallX at h
  split at h
  · cases h; exact ⟨_, _, _, rfl⟩
  · cases h
def asName : Expr → Option Str
  | .Name x _ => some x
  | _ => none
theorem asName_eq {e : Expr} {x : Str} (h : asName e = some x) : ∃ p, e = .Name x p := by
  unfold asName at h
  split at h
  · cases h; exact ⟨_, rfl⟩
  · cases h
/-- e[::-1] -/
def asRev : Expr → Option Expr
  | .Subscript x (.Slice none none (some (.UnaryOp .USub (.Constant (.int i) _ _) _)) _) _ => if i = 1 then some x else none
  | _ => none
theorem asRev_eq {e x : Expr} (h : asRev e = some x) : ∃ k p1 p2 p3 p4, e = .Subscript x (.Slice none none (some (.UnaryOp .USub (.Constant (.int 1) k p1) p2)) p3) p4 := by
  unfold asRev at h
  split at h
  · split at h
    · rename_i hi
      subst hi
      cases h; exact ⟨_, _, _, _, _, rfl⟩
    · cases h
  · cases h
def asComp : Expr → Option (Expr × Expr × Expr × List Expr × Scope)
  | .ListComp elt [⟨t, i, ifs, a⟩] scope _ => if a = 0 then some (elt, t, i, ifs, scope) else none
  | _ => none
theorem asComp_eq {e elt t i : Expr} {ifs : List Expr} {scope : Scope} (h : asComp e = some (elt, t, i, ifs, scope)) : ∃ p, e = .ListComp elt [⟨t, i, ifs, 0⟩] scope p := by
  unfold asComp at h
  split at h
  · split at h
    · rename_i ha
      subst ha
      cases h; exact ⟨_, rfl⟩
    · cases h
  · cases h
def isTup : Expr → Bool
  | .Tuple _ _ _ => true
  | _ => false
theorem isTup_eq {e : Expr} (h : isTup e = true) : ∃ es k p, e = .Tuple es k p := by
  unfold isTup at h
  split at h
  · exact ⟨_, _, _, rfl⟩
  · cases h
/-- a thing whose method is called -/
def isObj : Expr → Bool
  | .Name _ _ => true
  | .Constant _ _ _ => true
  | .Subscript _ _ _ => true
  | .Attribute _ _ _ => true
  | .Call (.Attribute _ _ _) _ _ _ => true
  | .Call (.Name _ _) (_ :: _) _ _ => true
  | .IfExp _ _ _ _ => true
  | _ => false
/-- o.nm() -/
def asM0 : Expr → Option (Expr × Str)
  | .Call (.Attribute o x ap) [] [] cp => if isObj o = true ∧ (ap.endLine == cp.line) = true then some (o, x) else none
  | _ => none
def asM1 : Expr → Option (Expr × Str × Expr)
  | .Call (.Attribute o x ap) [a] [] cp => if isObj o = true ∧ (ap.endLine == cp.line) = true then some (o, x, a) else none
  | _ => none
def asM2 : Expr → Option (Expr × Str × Expr × Expr)
  | .Call (.Attribute o x ap) [a, b] [] cp => if isObj o = true ∧ (ap.endLine == cp.line) = true then some (o, x, a, b) else none
  | _ => none
def asCall1 : Expr → Option (Str × Expr)
  | .Call (.Name x _) [y] [] _ => some (x, y)
  | _ => none
theorem asM0_eq {e o : Expr} {x : Str} (h : asM0 e = some (o, x)) : ∃ ap cp, e = .Call (.Attribute o x ap) [] [] cp ∧ isObj o = true ∧ (ap.endLine == cp.line) = true := by
  unfold asM0 at h; split at h
  · split at h
    · rename_i q; cases h; exact ⟨_, _, rfl, q.1, q.2⟩
    · cases h
  · cases h
theorem asM1_eq {e o a : Expr} {x : Str} (h : asM1 e = some (o, x, a)) : ∃ ap cp, e = .Call (.Attribute o x ap) [a] [] cp ∧ isObj o = true ∧ (ap.endLine == cp.line) = true := by
  unfold asM1 at h; split at h
  · split at h
    · rename_i q; cases h; exact ⟨_, _, rfl, q.1, q.2⟩
    · cases h
  · cases h
theorem asM2_eq {e o a b : Expr} {x : Str} (h : asM2 e = some (o, x, a, b)) : ∃ ap cp, e = .Call (.Attribute o x ap) [a, b] [] cp ∧ isObj o = true ∧ (ap.endLine == cp.line) = true := by
  unfold asM2 at h; split at h
  · split at h
    · rename_i q; cases h; exact ⟨_, _, rfl, q.1, q.2⟩
    · cases h
  · cases h
theorem asCall1_eq {e y : Expr} {x : Str} (h : asCall1 e = some (x, y)) : ∃ p pos, e = .Call (.Name x p) [y] [] pos := by
  unfold asCall1 at h; split at h
  · cases h; exact ⟨_, _, rfl⟩
  · cases h
def asAsc : Expr → Option (Str × Str × Expr)
  | .Call (.Name x _) [.Call (.Name y _) [a] [] _] [] _ => some (x, y, a)
  | _ => none
theorem asAsc_eq {e a : Expr} {x y : Str} (h : asAsc e = some (x, y, a)) : ∃ p q r pos, e = .Call (.Name x p) [.Call (.Name y q) [a] [] r] [] pos := by
  unfold asAsc at h; split at h
  · cases h; exact ⟨_, _, _, _, rfl⟩
  · cases h
def asLr2 : Expr → Option (Str × Str × Expr × Expr)
  | .Call (.Name x _) [.Call (.Name y _) [a, b] [] _] [] _ => some (x, y, a, b)
  | _ => none
theorem asLr2_eq {e a b : Expr} {x y : Str} (h : asLr2 e = some (x, y, a, b)) : ∃ p q r pos, e = .Call (.Name x p) [.Call (.Name y q) [a, b] [] r] [] pos := by
  unfold asLr2 at h; split at h
  · cases h; exact ⟨_, _, _, _, rfl⟩
  · cases h
def asAttr : Expr → Option (Expr × Str)
  | .Attribute o x _ => if isObj o = true then some (o, x) else none
  | _ => none
theorem asAttr_eq {e o : Expr} {x : Str} (h : asAttr e = some (o, x)) : ∃ p, e = .Attribute o x p ∧ isObj o = true := by
  unfold asAttr at h; split at h
  · split at h
    · rename_i q; cases h; exact ⟨_, rfl, q⟩
    · cases h
  · cases h
def asMeth : Expr → Option (Expr × Str × List Expr)
  | .Call (.Attribute o x ap) as [] cp => if isObj o = true ∧ (ap.endLine == cp.line) = true ∧ as.length < 30 then some (o, x, as) else none
  | _ => none
theorem asMeth_eq {e o : Expr} {x : Str} {as : List Expr} (h : asMeth e = some (o, x, as)) : ∃ ap cp, e = .Call (.Attribute o x ap) as [] cp ∧ isObj o = true ∧ (ap.endLine == cp.line) = true ∧ as.length < 30 := by
  unfold asMeth at h; split at h
  · split at h
    · rename_i q; cases h; exact ⟨_, _, rfl, q⟩
    · cases h
  · cases h
def asMake : Expr → Option (Str × List Expr)
  | .Call (.Name x _) as [] _ => some (x, as)
  | _ => none
theorem asMake_eq {e : Expr} {x : Str} {as : List Expr} (h : asMake e = some (x, as)) : ∃ p cp, e = .Call (.Name x p) as [] cp := by
  unfold asMake at h; split at h
  · cases h; exact ⟨_, _, rfl⟩
  · cases h
def asDict : Expr → Option (List (Option Expr) × List Expr)
  | .Dict ks vs _ => some (ks, vs)
  | _ => none
theorem asDict_eq {e : Expr} {ks : List (Option Expr)} {vs : List Expr} (h : asDict e = some (ks, vs)) : ∃ p, e = .Dict ks vs p := by
  unfold asDict at h; split at h
  · cases h; exact ⟨_, rfl⟩
  · cases h
/-- the shapes of the things with one, two, three parts; the built-in names in them -/
def as1 (o : O1) (e : Expr) : Option (Expr × List Str) := match o with
  | .pop => (match asM0 e with
    | some (a, x) => if x = ("pop" : Str) then some (a, []) else none
    | none => none)
  | .clear => (match asM0 e with
    | some (a, x) => if x = ("clear" : Str) then some (a, []) else none
    | none => none)
  | .asc => (match asAsc e with
    | some (x, y, a) => if x = ("sorted" : Str) ∧ y = ("set" : Str) then some (a, ["sorted", "set"]) else none
    | none => none)
  | .intB => (match asCall1 e with
    | some (x, a) => if x = ("int" : Str) then some (a, ["int"]) else none
    | none => none)
  | .lr1 => (match asAsc e with
    | some (x, y, a) => if x = ("list" : Str) ∧ y = ("range" : Str) then some (a, ["list", "range"]) else none
    | none => none)
  | .sortL => (match asCall1 e with
    | some (x, a) => if x = ("sorted" : Str) then some (a, ["sorted"]) else none
    | none => none)
  | .sortT => (match asCall1 e with
    | some (x, a) => if x = ("sorted" : Str) then some (a, ["sorted"]) else none
    | none => none)
  | .maxL => (match asCall1 e with
    | some (x, a) => if x = ("max" : Str) then some (a, ["max"]) else none
    | none => none)
  | .minL => (match asCall1 e with
    | some (x, a) => if x = ("min" : Str) then some (a, ["min"]) else none
    | none => none)
  | .sortD => (match asCall1 e with
    | some (x, a) => if x = ("sorted" : Str) then some (a, ["sorted"]) else none
    | none => none)
  | .lstD => (match asCall1 e with
    | some (x, a) => if x = ("list" : Str) then some (a, ["list"]) else none
    | none => none)
  | .lenS => (match asAsc e with
    | some (x, y, a) => if x = ("len" : Str) ∧ y = ("set" : Str) then some (a, ["len", "set"]) else none
    | none => none)
  | .lenD => (match asCall1 e with
    | some (x, a) => if x = ("len" : Str) then some (a, ["len"]) else none
    | none => none)
  | .dictD => (match asCall1 e with
    | some (x, a) => if x = ("dict" : Str) then some (a, ["dict"]) else none
    | none => none)
  | .dictP => (match asCall1 e with
    | some (x, a) => if x = ("dict" : Str) then some (a, ["dict"]) else none
    | none => none)
def as2 (o : O2) (e : Expr) : Option (Expr × Expr × List Str) := match o with
  | .append => (match asM1 e with
    | some (a, x, b) => if x = ("append" : Str) then some (a, b, []) else none
    | none => none)
  | .popAt => (match asM1 e with
    | some (a, x, b) => if x = ("pop" : Str) then some (a, b, []) else none
    | none => none)
  | .popD => (match asM1 e with
    | some (a, x, b) => if x = ("pop" : Str) then some (a, b, []) else none
    | none => none)
  | .get1 => (match asM1 e with
    | some (a, x, b) => if x = ("get" : Str) then some (a, b, []) else none
    | none => none)
  | .lr2 => (match asLr2 e with
    | some (x, y, a, b) => if x = ("list" : Str) ∧ y = ("range" : Str) then some (a, b, ["list", "range"]) else none
    | none => none)
  | .extend => (match asM1 e with
    | some (a, x, b) => if x = ("extend" : Str) then some (a, b, []) else none
    | none => none)
  | .index => (match asM1 e with
    | some (a, x, b) => if x = ("index" : Str) then some (a, b, []) else none
    | none => none)
  | .join => (match asM1 e with
    | some (a, x, b) => if x = ("join" : Str) then some (a, b, []) else none
    | none => none)
def as3 (o : O3) (e : Expr) : Option (Expr × Expr × Expr) := match o with
  | .get2 => (match asM2 e with
    | some (a, x, b, c) => if x = ("get" : Str) then some (a, b, c) else none
    | none => none)
theorem as1_call {o : O1} {e : Expr} {q : Expr × List Str} (h : as1 o e = some q) : ∃ f xs ks pos, e = .Call f xs ks pos := by
  unfold as1 at h
  split at h <;> split at h <;> try (cases h; done)
  · rename_i q; obtain ⟨_, _, rfl, _⟩ := asM0_eq q; exact ⟨_, _, _, _, rfl⟩
  · rename_i q; obtain ⟨_, _, rfl, _⟩ := asM0_eq q; exact ⟨_, _, _, _, rfl⟩
  · rename_i q; obtain ⟨_, _, _, _, rfl⟩ := asAsc_eq q; exact ⟨_, _, _, _, rfl⟩
  · rename_i q; obtain ⟨_, _, rfl⟩ := asCall1_eq q; exact ⟨_, _, _, _, rfl⟩
  · rename_i q; obtain ⟨_, _, _, _, rfl⟩ := asAsc_eq q; exact ⟨_, _, _, _, rfl⟩
  all_goals (rename_i q; first | (obtain ⟨_, _, rfl⟩ := asCall1_eq q; exact ⟨_, _, _, _, rfl⟩) | (obtain ⟨_, _, _, _, rfl⟩ := asAsc_eq q; exact ⟨_, _, _, _, rfl⟩))
theorem as2_call {o : O2} {e : Expr} {q : Expr × Expr × List Str} (h : as2 o e = some q) : ∃ f xs ks pos, e = .Call f xs ks pos := by
  unfold as2 at h
  split at h <;> split at h <;> try (cases h; done)
  all_goals (rename_i q; first
    | (obtain ⟨_, _, rfl, _⟩ := asM1_eq q; exact ⟨_, _, _, _, rfl⟩)
    | (obtain ⟨_, _, _, _, rfl⟩ := asLr2_eq q; exact ⟨_, _, _, _, rfl⟩))
theorem as3_call {o : O3} {e : Expr} {q : Expr × Expr × Expr} (h : as3 o e = some q) : ∃ f xs ks pos, e = .Call f xs ks pos := by
  unfold as3 at h
  split at h
  split at h <;> try (cases h; done)
  all_goals (rename_i q; obtain ⟨_, _, rfl, _⟩ := asM2_eq q; exact ⟨_, _, _, _, rfl⟩)
def small (xs : List Expr) : Bool := decide (xs.length ≤ 1000000)
section
variable (G : GS) (N : List Str)
/-- defs by their names -/
def chkFs : List (Md × Nat) → List Expr → Scope → List Expr → Bool
  | [], [], _, _ => true
  | (_, f) :: fs, x :: xs, sc, as => (match asName x, G.tab[f]? with
    | some n, some e => decide (e.name = n) && lenIs as e.n && decide (e.kd = .glob) && isGl sc n && okName n
    | _, _ => false) && chkFs fs xs sc as
  | _, _, _, _ => false
mutual
def chkE : E → Scope → Expr → Bool
  | .var i, sc, .Name x _ => nameIs N i x && isVis sc x && okName x
  | .con v, _, .Constant k _ _ => conM v k
  | .glob j, sc, .Name x _ => decide (G.con[j]?.map (·.1) = some x) && isGl sc x && okName x
  | .neg a, sc, .UnaryOp .USub x _ => chkE a sc x
  | .nt a, sc, .UnaryOp .Not x _ => chkE a sc x
  | .bin o a b, sc, .BinOp x op y _ => binM o op && chkE a sc x && chkE b sc y
  | .bin o a b, sc, .Compare x [op] [y] _ => cmpM o op && chkE a sc x && chkE b sc y
  | .chain o1 o2 a b c, sc, .Compare x [p1, p2] [y, z] _ => cmpM o1 p1 && cmpM o2 p2 && chkE a sc x && chkE b sc y && chkE c sc z
  | .bop true es, sc, .BoolOp .And (x :: xs) _ => chkEs es sc (x :: xs)
  | .bop false es, sc, .BoolOp .Or (x :: xs) _ => chkEs es sc (x :: xs)
  | .ite c a b, sc, .IfExp t x y _ => chkE c sc t && chkE a sc x && chkE b sc y
  | .tup es, sc, .Tuple xs _ _ => small xs && chkEs es sc xs
  | .lst es, sc, .List xs _ => small xs && chkEs es sc xs
  | .ix a i, sc, .Subscript x y _ => chkE a sc x && chkE i sc y
  | .slc a lo hi, sc, .Subscript x (.Slice l h none _) _ => chkE a sc x && chkP lo sc l && chkP hi sc h
  | .rev a, sc, e => (match asRev e with
    | some x => chkE a sc x
    | none => false)
  | .call _ f es, sc, e => (match asCall e with
    | some (x, y, ys) => (match G.tab[f]? with
      | some e => decide (e.name = x) && lenIs (y :: ys) e.n && decide (e.kd = .glob)
      | none => false) && isGl sc x && okName x && chkEs es sc (y :: ys)
    | none => (match asMake e, es with
      | some (x, []), .nil => (match G.tab[f]? with
        | some e => decide (e.name = x) && decide (e.n = 0) && decide (e.kd = .glob)
        | none => false) && isGl sc x && okName x
      | _, _ => false))
  | .bi b es, sc, e => (match asCall e with
    | some (x, y, ys) => decide (x = biN b) && isGl sc x && chkEs es sc (y :: ys)
    | none => false)
  | .isi t a, sc, e => (match asCall e with
    | some (f, x, [z]) => (match asName z with
      | some y => decide (f = ("isinstance" : Str)) && isGl sc f && decide (y = tyS t) && isGl sc y && chkE a sc x
      | none => false)
    | _ => false)
  | .comp own tg it cs e, sc, x => (match asComp x with
    | some (elt, t, i, ifs, scope) => blkC N sc scope own && chkIt it sc t i && chkTg N scope tg t && (tgs tg).all (fun i => (own.map (·.2)).contains i) && chkC cs (relS scope sc) ifs && chkE e (relS scope sc) elt
    | none => false)
  | .p1 o a, sc, e => (match as1 o e with
    | some (x, gs) => gs.all (isGl sc) && chkE a sc x
    | none => false)
  | .p2 o a b, sc, e => (match as2 o e with
    | some (x, y, gs) => gs.all (isGl sc) && chkE a sc x && chkE b sc y
    | none => false)
  | .p3 o a b c, sc, e => (match as3 o e with
    | some (x, y, z) => chkE a sc x && chkE b sc y && chkE c sc z
    | none => false)
  | .d0 _, _, .Dict [] [] _ => true
  | .own a, sc, e => chkE a sc e
  | .ad a, sc, e => chkE a sc e
  | .attr ci a f, sc, e => (match asAttr e with
    | some (x, g) => decide (g = f) && (G.cls.any fun c => decide (c.1 = ci) && c.2.2.contains f) && chkE a sc x
    | none => false)
  | .meth ci f m o es, sc, e => (match asMeth e with
    | some (x, g, as) => decide (g = m) && (G.cls.any fun c => decide (c.1 = ci)) && (match G.tab[f]? with
      | some e => decide (e.name = m) && decide (as.length + 1 = e.n) && decide (e.kd = .met ci)
      | none => false) && chkE o sc x && chkEs es sc as
    | none => false)
  | .make ci f es, sc, e => (match asMake e with
    | some (x, as) => isGl sc x && okName x && (G.cls.any fun c => decide (c.1 = ci) && decide (c.2.1 = x)) && (match G.tab[f]? with
      | some e => decide (as.length + 1 = e.n) && decide (e.kd = .ini ci)
      | none => false) && chkEs es sc as
    | none => false)
  | .dsp es, sc, e => (match asDict e with
    | some (ks, vs) => !ks.isEmpty && decide (ks.length ≤ 15) && chkD es sc ks vs
    | none => false)
  | .compD own a e, sc, x => (match asComp x with
    | some (elt, t, i, ifs, scope) => ifs.isEmpty && (match shapeD a e with
      | some (_, _, _, _, k, _) => decide (own.map (·.2) = [k]) && chkTg N scope (.name k) t
      | none => false) && blkC N sc scope own && chkE a sc i && chkE e (relS scope sc) elt
    | none => false)
  | .callx fs i es, sc, e => (match asCallX e with
    | some (xs, ix, y, ys) => chkFs G fs xs sc (y :: ys) && plainE ix && chkE i sc ix && chkEs es sc (y :: ys) && small xs
    | none => false)
  | .sIx a i, sc, .Subscript x y _ => chkE a sc x && chkE i sc y
  | _, _, _ => false
def chkEs : Es → Scope → List Expr → Bool
  | .nil, _, [] => true
  | .cons e es, sc, x :: xs => chkE e sc x && chkEs es sc xs
  | _, _, _ => false
/-- keys and values in turn -/
def chkD : Es → Scope → List (Option Expr) → List Expr → Bool
  | .nil, _, [], [] => true
  | .cons k (.cons v es), sc, some x :: xs, y :: ys => chkE k sc x && chkE v sc y && chkD es sc xs ys
  | _, _, _, _ => false
/-- none or one test -/
def chkC : Es → Scope → List Expr → Bool
  | .nil, _, [] => true
  | .cons e .nil, sc, [x] => chkE e sc x
  | _, _, _ => false
def chkP : P → Scope → Option Expr → Bool
  | .no, _, none => true
  | .yes e, sc, some x => chkE e sc x
  | _, _, _ => false
/-- what is walked, for a target t -/
def chkIt : It → Scope → Expr → Expr → Bool
  | .r1 a, sc, _, e => (match asCall e with
    | some (x, y, []) => decide (x = ("range" : Str)) && isGl sc x && chkE a sc y
    | _ => false)
  | .r2 a b, sc, _, e => (match asCall e with
    | some (x, y, [z]) => decide (x = ("range" : Str)) && isGl sc x && chkE a sc y && chkE b sc z
    | _ => false)
  | .enum a, sc, t, e => (match asCall e with
    | some (x, y, []) => decide (x = ("enumerate" : Str)) && isGl sc x && isTup t && chkE a sc y
    | _ => false)
  | .seq a, sc, _, e => chkE a sc e
end
theorem chk_plain {ir : E} {sc : Scope} {e : Expr} (h : chkE G N ir sc e = true) : plainE e = true := by
  have no : ∀ f xs ks pos, plainE (.Call f xs ks pos) = true := fun _ _ _ _ => rfl
  cases ir with
  | p1 o a =>
    simp only [chkE] at h
    split at h
    · rename_i q
      obtain ⟨_, _, _, _, rfl⟩ := as1_call q
      rfl
    · cases h
  | p2 o a b =>
    simp only [chkE] at h
    split at h
    · rename_i q
      obtain ⟨_, _, _, _, rfl⟩ := as2_call q
      rfl
    · cases h
  | p3 o a b c =>
    simp only [chkE] at h
    split at h
    · rename_i q
      obtain ⟨_, _, _, _, rfl⟩ := as3_call q
      rfl
    · cases h
  | callx fs i es =>
    simp only [chkE] at h
    split at h
    · rename_i q; obtain ⟨_, _, _, rfl⟩ := asCallX_eq q; rfl
    · cases h
  | own a => exact chk_plain (ir := a) (by simpa only [chkE] using h)
  | ad a => exact chk_plain (ir := a) (by simpa only [chkE] using h)
  | attr ci a f =>
    simp only [chkE] at h
    split at h
    · rename_i q; obtain ⟨_, rfl, _⟩ := asAttr_eq q; rfl
    · cases h
  | meth ci f m o es =>
    simp only [chkE] at h
    split at h
    · rename_i q; obtain ⟨_, _, rfl, _⟩ := asMeth_eq q; rfl
    · cases h
  | make ci f es =>
    simp only [chkE] at h
    split at h
    · rename_i q; obtain ⟨_, _, rfl⟩ := asMake_eq q; rfl
    · cases h
  | dsp es =>
    simp only [chkE] at h
    split at h
    · rename_i q; obtain ⟨_, rfl⟩ := asDict_eq q; rfl
    · cases h
  | _ =>
    cases e <;> first
      | rfl
      | (exfalso; simp [chkE, asCall, asRev, asComp, asMake] at h)
theorem chkIt_plain {it : It} {sc : Scope} {t e : Expr} (h : chkIt G N it sc t e = true) : plainE e = true := by
  cases it with
  | seq a => simp only [chkIt] at h; exact chk_plain G N h
  | r1 a =>
    simp only [chkIt] at h
    split at h
    · rename_i q; obtain ⟨p, pos, rfl⟩ := asCall_eq q; rfl
    · cases h
  | r2 a b =>
    simp only [chkIt] at h
    split at h
    · rename_i q; obtain ⟨p, pos, rfl⟩ := asCall_eq q; rfl
    · cases h
  | enum a =>
    simp only [chkIt] at h
    split at h
    · rename_i q; obtain ⟨p, pos, rfl⟩ := asCall_eq q; rfl
    · cases h
theorem chkC_cases {es : Es} {sc : Scope} {xs : List Expr} (h : chkC G N es sc xs = true) : es = .nil ∨ ∃ c, es = .cons c .nil := by
  rcases es with _ | ⟨e, _ | ⟨e2, es⟩⟩
  · exact .inl rfl
  · exact .inr ⟨_, rfl⟩
  · cases xs <;> simp [chkC] at h
end
/-! ### what is asked of a context -/
/-- how a def is reached -/
def Reach (K : PySem.W.Frag) (mg : Str → Option Value) (C : Nat → Addr) (e : FnE) (f : Addr) : Prop := match e.kd with
  | .glob => mg e.name = some (.ref f) ∧ PySem.W.keepIn K (.ref f) = true
  | .met c => Meth K (C c) e.name f
  | .ini c => Mk K (C c) f
def blt : List Str := ["len", "list", "tuple", "all", "any", "sum", "sorted", "min", "max", "int", "str", "bool", "dict", "isinstance", "range", "enumerate", "set"]
structure GX (X : Cx) (G : GT) : Prop where
  calm : X.calm = true
  nd : X.N.Nodup
  un : X.A.units + 64 < cLine
  blt : ∀ x, x ∈ blt → X.mg x = none
  con : ∀ (j : Nat) p, G.con[j]? = some p → ∃ u w, X.mg p.1 = some u ∧ RelV w u ∧ ∀ c H, c.K = X.K → RV c H p.2 w
  fn : ∀ (i : Nat) e, G.tab[i]? = some e → ∃ f fd ps k, Room (e.kd.lv k) X.A ∧ Reach X.K X.mg G.C e f ∧ Binds X.K fd ps [] ∧ FnOk X.prog X.w X.K X.mg X.base (L2.CX X.prog X.w) k f fd ps (spOf X.K G.C e.n (G.fs i))
  exc : ∀ i x, G.exc i = some x → X.mg x = some (.ref (G.C i)) ∧ PySem.W.keepIn X.K (.ref (G.C i)) = true ∧ PySem.W.excIn X.K (G.C i) [.type "ValueError", .type "Exception", .type "BaseException", .type "object"] "ValueError.__new__" = true ∧ Raises X (.ref (G.C i))
  sub : ∀ t, t ∈ G.sub → PySem.W.exmOne X.K (.ref (G.C t.1)) (.ref (G.C t.2.1)) = some t.2.2
  cls : ∀ t, t ∈ G.cls → Cls X.K (G.C t.1) ∧ X.mg t.2.1 = some (.ref (G.C t.1)) ∧ ∀ f, f ∈ t.2.2 → NoAttr X.K (G.C t.1) f
  un65 : X.A.units + 65 < cLine
theorem GX.blk {X : Cx} {G : GT} (g : GX X G) (s : Shared) (H : Hp) (scope : Scope) (env : Env) (fp : List Addr) : GX (X.blk s H scope env fp) G :=
  ⟨g.calm, g.nd, g.un, g.blt, g.con, g.fn, fun i x e => let ⟨a, b, c, d⟩ := g.exc i x e; ⟨a, b, c, d⟩, g.sub, g.cls, g.un65⟩
theorem GX.un0 {X : Cx} {G : GT} (g : GX X G) : X.A.units < cLine := by have := g.un; omega
theorem GX.un1 {X : Cx} {G : GT} (g : GX X G) : X.A.units + 1 < cLine := by have := g.un; omega
theorem vis_of {sc : Scope} {x : Str} (h : isVis sc x = true) : Vis sc x := by
  unfold isVis at h
  split at h <;> first | exact .inl (by assumption) | exact .inr (.inl (by assumption)) | exact .inr (.inr (by assumption)) | cases h
theorem gl_of {X : Cx} {sc : Scope} {x : Str} (e : X.env.scope = sc) (h : isGl sc x = true) : Gl X x := by
  unfold isGl at h
  show X.env.scope.names.lookup x = _
  rw [e]
  split at h <;> first | assumption | cases h
theorem loc_of {sc : Scope} {x : Str} (h : isLoc sc x = true) : L2.Loc sc x := by
  unfold isLoc at h
  split at h <;> first | exact .inl (by assumption) | exact .inr (by assumption) | cases h
theorem okName_of {x : Str} (h : okName x = true) : (x == ("__debug__" : Str)) = false ∧ (x == ("__classdict__" : Str)) = false ∧ x ≠ ("__name__" : Str) := by
  unfold okName at h
  simp only [Bool.and_eq_true, Bool.not_eq_true', decide_eq_false_iff_not] at h
  exact ⟨h.1.1, h.1.2, h.2⟩
theorem star_plain {e : Expr} {es : List Expr} {env : Env} (h : plainE e = true) : starEach (e :: es) env = (false, eval e env) :: starEach es env := by
  cases e <;> first | rfl | (simp [plainE] at h)
theorem fold_plain {e : Expr} {env : Env} (h : plainE e = true) : ∀ x, foldedSetIterable e env x = pure x := by
  intro x
  cases e <;> first | rfl | (simp [plainE] at h)
theorem marks_plain {e : Expr} {op : CmpOp} (h : plainE e = true) : behindInMarks op e = false := by
  cases e <;> first | rfl | (simp [plainE] at h)
theorem ix_plain {e : Expr} (h : plainE e = true) : ∀ o i, subscripted e false o i = operate [o, i] (getItem o i) := by
  intro o i
  cases e <;> first | rfl | (simp [plainE] at h)
/-! ### weaker readings -/
section
variable {X : Cx} {e : Expr}
theorem PE.mono' {t t' : TE} (h : PE X e t) (k : ∀ σ H Q, t' σ H Q → t σ H Q) : PE X e t' := ⟨fun pins s σ H Q I q => h.run pins s σ H Q I (k σ H Q q)⟩
theorem PT.mono' {t t' : TT} (h : PT X e t) (k : ∀ σ H Q, t' σ H Q → t σ H Q) : PT X e t' := ⟨fun pins s σ H Q I q => h.run pins s σ H Q I (k σ H Q q)⟩
theorem PW.mono' {t t' : TT} (h : PW X e t) (k : ∀ σ H Q, t' σ H Q → t σ H Q) : PW X e t' := ⟨fun wh pins s σ H Q I q => h.run wh pins s σ H Q I (k σ H Q q)⟩
theorem PA.mono' {es : List Expr} {t t' : TA} (h : PA X es t) (k : ∀ σ H Q, t' σ H Q → t σ H Q) : PA X es t' := ⟨fun pos pins s σ H Q I q => h.run pos pins s σ H Q I (k σ H Q q)⟩
theorem PI.mono' {tg : Expr} {t t' : TI} (h : PI X tg e t) (k : ∀ σ H Q, t' σ H Q → t σ H Q) : PI X tg e t' := ⟨fun pins s σ H Q I q => h.run pins s σ H Q I (k σ H Q q)⟩
theorem PS.mono' {st : Stmt} {t t' : TS} (h : PS X st t) (k : ∀ D σ H, t' D σ H → t D σ H) : PS X st t' := ⟨fun pins s σ H Q I q => h.run pins s σ H Q I (k Q σ H q)⟩
theorem PSs.mono' {st : List Stmt} {t t' : TS} (h : PSs X st t) (k : ∀ D σ H, t' D σ H → t D σ H) : PSs X st t' := ⟨fun pins s σ H Q I q => h.run pins s σ H Q I (k Q σ H q)⟩
end
/-! ### locals -/
theorem RLs.length {c : Cn} {H : Hp} {ρ : Loc} {σ : L2.St} (h : RLs c H ρ σ) : ρ.length = σ.length := Paired.length h
theorem RLs.get {c : Cn} {H : Hp} : ∀ {ρ : Loc} {σ : L2.St} {i : Nat} {x : PV}, RLs c H ρ σ → ρ[i]? = some (some x) → ∃ v, σ[i]? = some (some v) ∧ RV c H x v
  | _, _, _, _, .nil, e => by simp at e
  | _, _, 0, _, .cons (b := b) r _, e => by
    simp at e; subst e
    cases b with
    | none => exact r.elim
    | some v => exact ⟨v, rfl, r⟩
  | _, _, i + 1, _, .cons _ t, e => by
    obtain ⟨v, h1, h2⟩ := RLs.get (i := i) t (by simpa using e)
    exact ⟨v, by simpa using h1, h2⟩
theorem RLs.set {c : Cn} {H : Hp} {a : Option PV} {b : Option V} (r : RL c H a b) : ∀ {ρ : Loc} {σ : L2.St} (i : Nat), RLs c H ρ σ → RLs c H (ρ.set i a) (σ.set i b)
  | _, _, _, .nil => .nil
  | _, _, 0, .cons _ t => .cons r t
  | _, _, i + 1, .cons q t => .cons q (RLs.set r i t)
theorem RLs.wipe {c : Cn} {H : Hp} {ρ : Loc} {σ : L2.St} (h : RLs c H ρ σ) : ∀ vs : List Nat, RLs c H (wipeL ρ vs) (wipe σ vs)
  | [] => h
  | v :: vs => RLs.set (a := none) (b := none) trivial v (h.wipe vs)
theorem set_comm_ {α : Type} (l : List α) (i j : Nat) (a b : α) (h : i ≠ j) : (l.set i a).set j b = (l.set j b).set i a := List.set_comm _ _ h
theorem wipe_set {i : Nat} {a : Option V} : ∀ {vs : List Nat} {σ : L2.St}, i ∈ vs → L2.wipe (σ.set i a) vs = L2.wipe σ vs
  | v :: vs, σ, h => by
    show (L2.wipe (σ.set i a) vs).set v none = (L2.wipe σ vs).set v none
    by_cases hv : i ∈ vs
    · rw [wipe_set hv]
    · have e : i = v := by
        rcases List.mem_cons.mp h with e | e
        · exact e
        · exact absurd e hv
      subst e
      have q : ∀ (ws : List Nat) (τ : L2.St), i ∉ ws → L2.wipe (τ.set i a) ws = (L2.wipe τ ws).set i a := by
        intro ws
        induction ws with
        | nil => intro τ _; rfl
        | cons w ws ih =>
          intro τ hw
          show (L2.wipe (τ.set i a) ws).set w none = ((L2.wipe τ ws).set w none).set i a
          rw [ih τ (fun z => hw (List.mem_cons_of_mem _ z)), List.set_comm _ _ (fun z => hw (by rw [z]; exact List.mem_cons_self))]
      rw [q vs σ hv, List.set_set]
theorem wipe_wipe {σ : L2.St} : ∀ vs : List Nat, ∀ ws : List Nat, (∀ v, v ∈ ws → v ∈ vs) → L2.wipe (L2.wipe σ ws) vs = L2.wipe σ vs
  | _, [], _ => rfl
  | vs, w :: ws, h => by
    show L2.wipe ((L2.wipe σ ws).set w none) vs = _
    rw [wipe_set (h w List.mem_cons_self), wipe_wipe vs ws fun v hv => h v (List.mem_cons_of_mem _ hv)]
/-! ### targets -/
def gNames : List Nat → TGs
  | [] => gNil
  | i :: is => gCons (gName i) (gNames is)
/-- what may be stored to: by the scope as written -/
def Sto (X : Cx) (sc : Scope) : Prop := ∀ x, isLoc sc x = true → L2.Loc X.env.scope x ∧ (X.fn x = true ∨ X.env.scope.names.lookup x = some .local)
theorem sto_def {X : Cx} {sc : Scope} (e : X.env.scope = sc) (h : ∀ x, X.fn x = true) : Sto X sc := fun x q => ⟨by rw [e]; exact loc_of q, .inl (h x)⟩
theorem sto_blk {X : Cx} {scope : Scope} {s : Shared} {H : Hp} {C : Addr} {cl : List (Str × Addr)} {fp : List Addr} : Sto (X.blk s H scope (compEnvC scope cl C X.env) fp) scope := fun x q => by
  have hl := loc_of q
  have keep : ∀ k, k ≠ NameKind.free → scope.names.lookup x = some k → (relS scope X.env.scope).names.lookup x = some k := fun k hk h => lookup_relS_keep hk h
  rcases hl with h | h
  · exact ⟨.inl (keep _ (by decide) h), .inr (keep _ (by decide) h)⟩
  · exact ⟨.inr (keep _ (by decide) h), .inl (by show (scope.names.lookup x == some .cell) = true; rw [h]; rfl)⟩
section
variable {X : Cx} {N : List Str} {sc : Scope}
theorem nameIs_of {i : Nat} {x : Str} (e : X.N = N) (h : nameIs N i x = true) : X.N[i]? = some x := by rw [e]; exact of_decide_eq_true h
theorem pgs_names (hN : X.N = N) (nd : X.N.Nodup) (st : Sto X sc) : ∀ {is : List Nat} {es : List Expr}, chkNames N sc is es = true → PGs X es (gNames is)
  | [], [], _ => pgs_nil
  | i :: is, e :: es, h => by
    cases e <;> try (simp [chkNames] at h; done)
    simp only [chkNames, Bool.and_eq_true] at h
    obtain ⟨⟨⟨h1, h2⟩, h3⟩, h4⟩ := h
    obtain ⟨q1, q2⟩ := st _ h2
    exact pgs_cons (pg_name nd (nameIs_of hN h1) q1 q2) (pgs_names hN nd st h4)
  | [], _ :: _, h => by simp [chkNames] at h
  | _ :: _, [], h => by simp [chkNames] at h
def gTg (K : PySem.W.Frag) : Tg → TG
  | .name i => gName i
  | .tup is => gTup K is.length (gNames is)
theorem names_plain {is : List Nat} {es : List Expr} {env : Env} (h : chkNames N sc is es = true) : (assignEach es env).length = is.length ∧ (assignEach es env).findIdx? (·.1) = none := by
  induction es generalizing is with
  | nil =>
    cases is with
    | nil => exact ⟨rfl, rfl⟩
    | cons _ _ => simp [chkNames] at h
  | cons e es ih =>
    cases is with
    | nil => simp [chkNames] at h
    | cons i is =>
      cases e <;> try (simp [chkNames] at h; done)
      simp only [chkNames, Bool.and_eq_true] at h
      obtain ⟨q1, q2⟩ := ih h.2
      refine ⟨?_, ?_⟩
      · show (_ :: assignEach es env).length = _
        rw [List.length_cons, q1]
        rfl
      · show List.findIdx? _ ((false, _) :: assignEach es env) = none
        rw [List.findIdx?_cons, q2]
        rfl
theorem pg_tg (hN : X.N = N) (nd : X.N.Nodup) (hc : X.calm = true) (st : Sto X sc) {tg : Tg} {e : Expr} (h : chkTg N sc tg e = true) : PG X e (gTg X.K tg) := by
  cases tg with
  | name i =>
    cases e <;> try (simp [chkTg] at h; done)
    simp only [chkTg, Bool.and_eq_true] at h
    obtain ⟨q1, q2⟩ := st _ h.1.2
    exact pg_name nd (nameIs_of hN h.1.1) q1 q2
  | tup is =>
    cases e <;> try (simp [chkTg] at h; done)
    simp only [chkTg] at h
    obtain ⟨q1, q2⟩ := names_plain (env := X.env) h
    exact pg_tup hc (pgs_names hN nd st h) q1 q2
end
theorem setAll_ok {c : Cn} {H : Hp} : ∀ {is : List Nat} {xs : List PV} {vs : List V} {ρ ρ' : Loc} {σ : L2.St} {Q : L2.St → Hp → Prop}, setAll ρ is xs = some ρ' → RVs c H xs vs → RLs c H ρ σ →
    (∀ σ', RLs c H ρ' σ' → (∀ ws : List Nat, (∀ i, i ∈ is → i ∈ ws) → L2.wipe σ' ws = L2.wipe σ ws) → Q σ' H) → gNames is vs σ H Q
  | [], [], _, ρ, _, σ, Q, e, h, L, k => by
    cases e
    simp only [RNs] at h
    exact ⟨h.1, k σ L fun _ _ => rfl⟩
  | i :: is, x :: xs, _, ρ, _, σ, Q, e, h, L, k => by
    simp only [RNs] at h
    obtain ⟨v, r, f1, f2, rfl, h1, h2, e0⟩ := h
    have e1 : f1 = [] := (List.append_eq_nil_iff.mp e0.symm).1
    have e2 : f2 = [] := (List.append_eq_nil_iff.mp e0.symm).2
    subst e1 e2
    exact ⟨v, r, rfl, setAll_ok (by simpa [setAll] using e) h2 (RLs.set (show RL c H (some x) (some v) from h1) i L) fun σ' L' w => k σ' L' fun ws hw => by
      rw [w ws fun j hj => hw j (List.mem_cons_of_mem _ hj), wipe_set (hw i List.mem_cons_self)]⟩
  | [], _ :: _, _, _, _, _, _, e, _, _, _ => by simp [setAll] at e
  | _ :: _, [], _, _, _, _, _, e, _, _, _ => by simp [setAll] at e
theorem setAll_len : ∀ {is : List Nat} {xs : List PV} {ρ ρ' : Loc}, setAll ρ is xs = some ρ' → is.length = xs.length
  | [], [], _, _, _ => rfl
  | i :: is, x :: xs, _, _, e => by rw [List.length_cons, List.length_cons, setAll_len (is := is) (xs := xs) (by simpa [setAll] using e)]
  | [], _ :: _, _, _, e => by simp [setAll] at e
  | _ :: _, [], _, _, e => by simp [setAll] at e
theorem bind_ok {K : PySem.W.Frag} {c : Cn} {H : Hp} {tg : Tg} {x : PV} {v : V} {ρ ρ' : Loc} {σ : L2.St} {Q : L2.St → Hp → Prop} (hK : c.K = K) (e : bindT tg x ρ = some ρ') (h : RV c H x v) (L : RLs c H ρ σ)
    (k : ∀ σ', RLs c H ρ' σ' → (∀ ws : List Nat, (∀ i, i ∈ tgs tg → i ∈ ws) → L2.wipe σ' ws = L2.wipe σ ws) → Q σ' H) : gTg K tg v σ H Q := by
  cases tg with
  | name i =>
    cases e
    exact k _ (RLs.set (show RL c H (some x) (some v) from h) i L) fun ws hw => wipe_set (hw i List.mem_cons_self)
  | tup is =>
    simp only [bindT] at e
    split at e
    · rename_i xs
      simp only [RN] at h
      obtain ⟨a, vs, rfl, s, r⟩ := h
      exact ⟨a, vs, rfl, by rw [← hK]; exact s, by rw [← r.length, setAll_len e], setAll_ok e r L k⟩
    · cases e
end Ev
end
set_option Elab.async false
set_option linter.all false
set_option maxRecDepth 100000
/-! EvI: soundness, construct by construct. -/
noncomputable section
namespace Ev
open PySem L2 PyProof.Rows
/-- the reading of a test -/
abbrev rdT (K : PySem.W.Frag) (C : Nat → Addr) (f : Loc → Store → Res PV) (W : WX) : TT := tTest (rdE K C f W)
section
variable {X : Cx} {G : GT} {W : WX} {N : List Str} {sc : Scope}
abbrev PEx (X : Cx) (G : GT) (W : WX) (ir : E) (e : Expr) : Prop := PE X e (rdE X.K G.C (evE G.ce ir) W)
abbrev PTx (X : Cx) (G : GT) (W : WX) (ir : E) (e : Expr) : Prop := PT X e (rdT X.K G.C (evE G.ce ir) W)
abbrev PAx (X : Cx) (G : GT) (W : WX) (ir : Es) (e : List Expr) : Prop := PA X e (rdA X.K G.C (evEs G.ce ir) W)
theorem At0 {K : PySem.W.Frag} {C : Nat → Addr} {c : Cn} {S : Store} {ρ : Loc} {σ : L2.St} {H : Hp} (hK : c.K = K) (hC : c.C = C) (R : Rel c S H) (L : RLs c H ρ σ) : At K C c H c S ρ σ H := ⟨hK, hC, Tr.refl c H, R, L⟩
theorem PostG.ret {α β : Type} {rel : RelT α β} {K : PySem.W.Frag} {C : Nat → Addr} {c0 c : Cn} {H0 H : Hp} {S : Store} {ρ : Loc} {σ : L2.St} {v : α} {W : XK} {Q : β → Hp → Prop} {x : β} {fp : List Addr}
    (P : PostG rel c0 H0 (.ok v S) W Q) (A : At K C c0 H0 c S ρ σ H) (h : rel c H v x fp) (nd : fp.Nodup) (fr : ∀ a, a ∈ fp → H0 a = none) : Q x H := P c H x fp A.tr A.rel h nd fr
/-- from an outcome of values to what is wanted -/
theorem PostG.fin {K : PySem.W.Frag} {C : Nat → Addr} {c0 c : Cn} {H0 H : Hp} {S : Store} {ρ : Loc} {σ : L2.St} {r : PV} {W : XK} {Q : VK} {A : List Addr} (P : Post c0 H0 (.ok r S) W Q) (h : At K C c0 H0 c S ρ σ H) (fr : ∀ a, a ∈ A → H0 a = none) : Fin c S H A r Q :=
  fun c' H' z fp t R rn nd k => P c' H' z fp (h.tr.trans t) R rn nd fun a ha => (k a ha).elim (fr a) (h.tr.there a)
/-- new things of two evaluations are apart -/
theorem apart {c : Cn} {H : Hp} {x : PV} {v : V} {f g : List Addr} (h : RN c H x v f) (n1 : f.Nodup) (n2 : g.Nodup) (fr : ∀ a, a ∈ g → H a = none) : (f ++ g).Nodup := by
  rw [List.nodup_append]
  refine ⟨n1, n2, fun a ha b hb e => ?_⟩
  subst e
  obtain ⟨⟨o, q⟩, _⟩ := h.newAt a ha
  rw [fr a hb] at q; cases q
theorem fr2 {H0 : Hp} {f g : List Addr} (h1 : ∀ a, a ∈ f → H0 a = none) (h2 : ∀ a, a ∈ g → H0 a = none) : ∀ a, a ∈ f ++ g → H0 a = none := fun a ha => (List.mem_append.mp ha).elim (h1 a) (h2 a)
/-! ### the simple ones -/
theorem s_var {i : Nat} {x : Str} {p : Pos} (hN : X.N = N) (hs : X.env.scope = sc) (h : chkE G N (.var i) sc (.Name x p) = true) : PEx X G W (.var i) (.Name x p) := by
  simp only [chkE, Bool.and_eq_true] at h
  obtain ⟨⟨h1, h2⟩, h3⟩ := h
  obtain ⟨q1, q2, _⟩ := okName_of h3
  refine PE.mono' (pe_var (nameIs_of hN h1) (by rw [hs]; exact vis_of h2) q1 q2) fun σ H Q ⟨c, S, ρ, hK, hC, R, L, P⟩ => ?_
  dsimp only [evE] at P
  split at P
  · rename_i v e
    obtain ⟨w, h1, h2⟩ := L.get e
    exact ⟨w, h1, PostG.ret P (At0 hK hC R L) h2 List.nodup_nil fun _ h => nomatch h⟩
  · exact P.elim
theorem con_rel {v : PV} {k : Const} {j : Nat} {p : Pos} (h : conM v k = true) : ∃ w, PE X (.Constant k j p) (tC w) ∧ ∀ c H, RV c H v w := by
  cases v <;> cases k <;> try (simp [conM] at h; done)
  · exact ⟨.non, pe_non, fun c H => by simp [RN]⟩
  · simp [conM] at h; subst h
    exact ⟨.bl _, pe_bl, fun c H => by simp [RN]⟩
  · simp [conM] at h; subst h
    exact ⟨.int _, pe_int, fun c H => by simp [RN]⟩
  · simp [conM] at h; subst h
    exact ⟨.str _, pe_str, fun c H => by simp [RN]⟩
theorem s_con {v : PV} {k : Const} {j : Nat} {p : Pos} (h : chkE G N (.con v) sc (.Constant k j p) = true) : PEx X G W (.con v) (.Constant k j p) := by
  simp only [chkE] at h
  obtain ⟨w, h1, h2⟩ := con_rel (X := X) (j := j) (p := p) h
  refine PE.mono' h1 fun σ H Q ⟨c, S, ρ, hK, hC, R, L, P⟩ => ?_
  exact PostG.ret P (At0 hK hC R L) (h2 c H) List.nodup_nil fun _ h => nomatch h
theorem s_glob (g : GX X G) {j : Nat} {x : Str} {p : Pos} (hs : X.env.scope = sc) (h : chkE G N (.glob j) sc (.Name x p) = true) : PEx X G W (.glob j) (.Name x p) := by
  simp only [chkE, Bool.and_eq_true, decide_eq_true_eq] at h
  obtain ⟨⟨h1, h2⟩, h3⟩ := h
  obtain ⟨q1, q2, _⟩ := okName_of h3
  obtain ⟨pr, e1, e2⟩ := Option.map_eq_some_iff.mp h1
  subst e2
  obtain ⟨u, w, m1, m2, m3⟩ := g.con j pr e1
  refine PE.mono' (pe_glob (gl_of hs h2) m1 m2 q1) fun σ H Q ⟨c, S, ρ, hK, hC, R, L, P⟩ => ?_
  have P : Post c H (.ok (G.ce.g j) S) (fun cls d H' => W cls d σ H') Q := P
  have e : G.ce.g j = pr.2 := by show conOf G.con j = pr.2; unfold conOf; rw [e1]
  rw [e] at P
  exact PostG.ret P (At0 hK hC R L) (m3 c H hK) List.nodup_nil fun _ h => nomatch h
theorem s_neg {a : E} {x : Expr} {p : Pos} (h : PEx X G W a x) : PEx X G W (.neg a) (.UnaryOp .USub x p) := by
  refine PE.mono' (pe_un un_neg h) fun σ H Q ⟨c, S, ρ, hK, hC, R, L, P⟩ => ?_
  refine At.step (At0 hK hC R L) P fun c1 S1 v x fp H1 _ A t rn nd fr P => ?_
  cases v with
  | int i =>
    simp only [RN] at rn
    obtain ⟨rfl, rfl⟩ := rn
    exact ⟨i, rfl, PostG.ret P A (x := V.int (-i)) (by simp [RN]) List.nodup_nil fun _ h => nomatch h⟩
  | _ => exact P.elim
theorem s_nt {a : E} {x : Expr} {p : Pos} (h : PEx X G W a x) : PEx X G W (.nt a) (.UnaryOp .Not x p) := by
  refine PE.mono' (pe_not h) fun σ H Q ⟨c, S, ρ, hK, hC, R, L, P⟩ => ?_
  refine At.step (At0 hK hC R L) P fun c1 S1 v x fp H1 _ A t rn nd fr P => ?_
  cases v with
  | bl b =>
    simp only [RN] at rn
    obtain ⟨rfl, rfl⟩ := rn
    exact ⟨b, rfl, PostG.ret P A (x := V.bl (!b)) (by simp [RN]) List.nodup_nil fun _ h => nomatch h⟩
  | _ => exact P.elim
theorem t_nt {a : E} {x : Expr} {p : Pos} (h : PTx X G W a x) : PTx X G W (.nt a) (.UnaryOp .Not x p) := by
  refine PT.mono' (pt_not h) fun σ H Q ⟨c, S, ρ, hK, hC, R, L, P⟩ => ?_
  refine At.step (At0 hK hC R L) P fun c1 S1 v x fp H1 _ A t rn nd fr P => ?_
  cases v with
  | bl b =>
    simp only [RN] at rn
    obtain ⟨rfl, rfl⟩ := rn
    obtain ⟨k, e, q⟩ := PostG.ret P A (x := V.bl (!b)) (by simp [RN]) List.nodup_nil fun _ h => nomatch h
    cases e
    exact ⟨b, rfl, q⟩
  | _ => exact P.elim
/-- two values in a row -/
theorem two_ {a b : E} {f : PV → PV → Store → Res PV} {σ : L2.St} {H : Hp} {Q : VK} {R2 : V → V → Hp → Prop}
    (h : rdE X.K G.C (fun ρ S => (evE G.ce a ρ S).bind fun x S => (evE G.ce b ρ S).bind fun y S => f x y S) W σ H Q)
    (k : ∀ c0 c S ρ x y u v fa fb H0 H2, At X.K G.C c0 H0 c S ρ σ H2 → RN c H2 x u fa → RN c H2 y v fb → (fa ++ fb).Nodup → (∀ q, q ∈ fa ++ fb → H0 q = none) → Post c0 H0 (f x y S) (fun cls d H' => W cls d σ H') Q → R2 u v H2) :
    rdE X.K G.C (evE G.ce a) W σ H fun u H1 => rdE X.K G.C (evE G.ce b) W σ H1 fun v H2 => R2 u v H2 := by
  obtain ⟨c, S, ρ, hK, hC, R, L, P⟩ := h
  refine At.step (At0 hK hC R L) P fun c1 S1 va x fp1 H1 _ A1 t1 rn1 nd1 fr1 P => ?_
  refine At.step A1 P fun c2 S2 vb y fp2 H2 _ A2 t2 rn2 nd2 fr2 P => ?_
  exact k c c2 S2 ρ va vb x y fp1 fp2 H H2 A2 (rn1.tr t2) rn2 (apart rn1 nd1 nd2 fr2) (fun q hq => (List.mem_append.mp hq).elim (fr1 q) fun z => A1.tr.there q (fr2 q z)) P
theorem op_of {o : B2} {c0 c : Cn} {S : Store} {ρ : Loc} {x y : PV} {u v : V} {fa fb : List Addr} {H0 H2 : Hp} {σ : L2.St} {Q : VK} (A : At X.K G.C c0 H0 c S ρ σ H2) (h1 : RN c H2 x u fa) (h2 : RN c H2 y v fb) (nd : (fa ++ fb).Nodup) (fr : ∀ q, q ∈ fa ++ fb → H0 q = none)
    (P : Post c0 H0 (ofO (op2 o x y S) S) (fun cls d H' => W cls d σ H') Q) : rOp X.K o u v H2 Q := by
  cases e : op2 o x y S with
  | none => rw [e] at P; exact P.elim
  | some r =>
    rw [e] at P
    have := op2_sound e A.rel h1 h2 nd (PostG.fin P A fr)
    rw [A.K] at this
    exact this
theorem f_bin {o : B2} {op : Operator} (h : binM o op = true) : fOp o = binaryOp op := by
  cases o <;> cases op <;> first | rfl | (simp [binM] at h)
theorem f_cmp {o : B2} {op : CmpOp} (h : cmpM o op = true) : fOp o = compareOp op := by
  cases o <;> cases op <;> first | rfl | (simp [cmpM] at h)
theorem s_bin (g : GX X G) {o : B2} {op : Operator} {a b : E} {x y : Expr} {p : Pos} (hm : binM o op = true) (ha : PEx X G W a x) (hb : PEx X G W b y) : PEx X G W (.bin o a b) (.BinOp x op y p) := by
  have ho : OpR X (binaryOp op) (rOp X.K o) := by rw [← f_bin hm]; exact op_ok g.un o
  exact PE.mono' (pe_op ho ha hb) fun σ H Q h => two_ h fun c0 c S ρ x y u v fa fb H0 H2 A h1 h2 nd fr P => op_of A h1 h2 nd fr P
theorem s_cmp (g : GX X G) {o : B2} {op : CmpOp} {a b : E} {x y : Expr} {p : Pos} (hm : cmpM o op = true) (hy : plainE y = true) (ha : PEx X G W a x) (hb : PEx X G W b y) : PEx X G W (.bin o a b) (.Compare x [op] [y] p) := by
  have ho : OpR X (compareOp op) (rOp X.K o) := by rw [← f_cmp hm]; exact op_ok g.un o
  exact PE.mono' (pe_cmpR ho ha hb (marks_plain hy)) fun σ H Q h => two_ h fun c0 c S ρ x y u v fa fb H0 H2 A h1 h2 nd fr P => op_of A h1 h2 nd fr P
theorem t_cmp (g : GX X G) {o : B2} {op : CmpOp} {a b : E} {x y : Expr} {p : Pos} (hm : cmpM o op = true) (hy : plainE y = true) (ha : PEx X G W a x) (hb : PEx X G W b y) : PTx X G W (.bin o a b) (.Compare x [op] [y] p) := by
  have ho : OpR X (compareOp op) (rOp X.K o) := by rw [← f_cmp hm]; exact op_ok g.un o
  exact PT.mono' (pt_cmpR ho ha hb (marks_plain hy)) fun σ H Q h => two_ h fun c0 c S ρ x y u v fa fb H0 H2 A h1 h2 nd fr P => op_of A h1 h2 nd fr P
theorem marks2 {o1 o2 : CmpOp} {y z : Expr} (hy : plainE z = true) : lastMarks [o1, o2] [y, z] = false := marks_plain hy
theorem chain_ {o1 o2 : B2} {a b c : E} {σ : L2.St} {H : Hp} {Q : VK} (h : rdE X.K G.C (evE G.ce (.chain o1 o2 a b c)) W σ H Q) :
    tChain (rOp X.K o1) (rOp X.K o2) (rdE X.K G.C (evE G.ce a) W) (rdE X.K G.C (evE G.ce b) W) (rdE X.K G.C (evE G.ce c) W) σ H Q := by
  have h : rdE X.K G.C (fun ρ S => (evE G.ce a ρ S).bind fun x S => (evE G.ce b ρ S).bind fun y S => (fun x y S => match op2 o1 x y S with
    | some (.bl true) => (evE G.ce c ρ S).bind fun z S => ofO (op2 o2 y z S) S
    | some (.bl false) => .ok (.bl false) S
    | _ => .fail) x y S) W σ H Q := h
  obtain ⟨cI, S, ρ, hK, hC, R, L, P⟩ := h
  refine At.step (At0 hK hC R L) P fun c1 S1 x u fa H1 _ A1 t1 rn1 nd1 fr1 P => ?_
  refine At.step A1 P fun cc S y v fb H2 _ A t2 h2 nd2 fr2' P => ?_
  have h1 := rn1.tr t2
  have nd := apart rn1 nd1 nd2 fr2'
  have fr : ∀ q, q ∈ fa ++ fb → H q = none := fun q hq => (List.mem_append.mp hq).elim (fr1 q) fun z => A1.tr.there q (fr2' q z)
  dsimp only at P
  cases e : op2 o1 x y S with
  | none => rw [e] at P; exact P.elim
  | some r =>
    rw [e] at P
    have key : ∀ b : Bool, r = .bl b → rOp X.K o1 u v H2 (fun z H3 => z = .bl b ∧ ∃ c3, Tr cc H2 c3 H3 ∧ Rel c3 S H3) := fun b eb => by
      subst eb
      have := op2_sound (Q := fun z H3 => z = .bl b ∧ ∃ c3, Tr cc H2 c3 H3 ∧ Rel c3 S H3) e A.rel h1 h2 nd fun c' H' z fp t R rn _ _ => by
        simp only [RN] at rn
        exact ⟨rn.1, c', t, R⟩
      rw [A.K] at this
      exact this
    have mono : ∀ {o : B2} {u v : V} {H : Hp} {Q Q' : VK}, (∀ z H, Q z H → Q' z H) → rOp X.K o u v H Q → rOp X.K o u v H Q' := fun {o u v H Q Q'} k h => by
      cases o with
      | add =>
        rcases h with (⟨i, j, h1, h2, q⟩ | ⟨i, j, h1, h2, h3, q⟩) | (⟨a, b, xs, ys, h1, h2, h3, h4, h5, q1, q2, q3⟩ | ⟨a, b, xs, ys, h1, h2, h3, h4, h5, q⟩)
        · exact .inl (.inl ⟨i, j, h1, h2, k _ _ q⟩)
        · exact .inl (.inr ⟨i, j, h1, h2, h3, k _ _ q⟩)
        · exact .inr (.inl ⟨a, b, xs, ys, h1, h2, h3, h4, h5, fun z => k _ _ (q1 z), fun z w => k _ _ (q2 z w), fun z w p hp => k _ _ (q3 z w p hp)⟩)
        · exact .inr (.inr ⟨a, b, xs, ys, h1, h2, h3, h4, h5, fun p hp => k _ _ (q p hp)⟩)
      | sub => obtain ⟨i, j, h1, h2, q⟩ := h; exact ⟨i, j, h1, h2, k _ _ q⟩
      | mul =>
        rcases h with ⟨i, j, h1, h2, h3, q⟩ | ⟨l, j, xs, h1, h2, h3, h4, h5, h6, q⟩
        · exact .inl ⟨i, j, h1, h2, h3, k _ _ q⟩
        · exact .inr ⟨l, j, xs, h1, h2, h3, h4, h5, h6, fun p hp => k _ _ (q p hp)⟩
      | fdiv => obtain ⟨i, j, h1, h2, h3, q⟩ := h; exact ⟨i, j, h1, h2, h3, k _ _ q⟩
      | mod => obtain ⟨i, j, h1, h2, h3, q⟩ := h; exact ⟨i, j, h1, h2, h3, k _ _ q⟩
      | pow => obtain ⟨i, j, h1, h2, h3, q⟩ := h; exact ⟨i, j, h1, h2, h3, k _ _ q⟩
      | lt =>
        rcases h with ⟨i, j, h1, h2, q⟩ | ⟨ns, ms, h1, h2, q⟩
        · exact .inl ⟨i, j, h1, h2, k _ _ q⟩
        · exact .inr ⟨ns, ms, h1, h2, k _ _ q⟩
      | le => obtain ⟨i, j, h1, h2, q⟩ := h; exact ⟨i, j, h1, h2, k _ _ q⟩
      | gt => obtain ⟨i, j, h1, h2, q⟩ := h; exact ⟨i, j, h1, h2, k _ _ q⟩
      | ge => obtain ⟨i, j, h1, h2, q⟩ := h; exact ⟨i, j, h1, h2, k _ _ q⟩
      | eq =>
        rcases h with ⟨h1, q⟩ | ⟨d, e, h1, h2, h3, h4, q⟩
        · exact .inl ⟨h1, k _ _ q⟩
        · exact .inr ⟨d, e, h1, h2, h3, h4, k _ _ q⟩
      | ne =>
        rcases h with ⟨h1, q⟩ | ⟨d, e, h1, h2, h3, h4, q⟩
        · exact .inl ⟨h1, k _ _ q⟩
        · exact .inr ⟨d, e, h1, h2, h3, h4, k _ _ q⟩
      | isin =>
        rcases h with ⟨p, xs, h1, h2, h3, h4, q⟩ | ⟨p, o, h1, h2, q⟩
        · exact .inl ⟨p, xs, h1, h2, h3, h4, k _ _ q⟩
        · exact .inr ⟨p, o, h1, h2, k _ _ q⟩
      | notin =>
        rcases h with ⟨p, xs, h1, h2, h3, h4, q⟩ | ⟨p, o, h1, h2, q⟩
        · exact .inl ⟨p, xs, h1, h2, h3, h4, k _ _ q⟩
        · exact .inr ⟨p, o, h1, h2, k _ _ q⟩
      | isN => exact ⟨h.1, k _ _ h.2⟩
      | notN => exact ⟨h.1, k _ _ h.2⟩
    cases r with
    | bl b =>
      refine mono (fun z H3 q => ?_) (key b rfl)
      obtain ⟨rfl, c3, t3, R3⟩ := q
      have A3 : At X.K G.C cI H c3 S ρ σ H3 := ⟨A.K0, A.C0, A.tr.trans t3, R3, A.loc.tr t3⟩
      refine ⟨b, rfl, ?_⟩
      cases b with
      | false =>
        rw [if_neg Bool.false_ne_true]
        exact PostG.ret P A3 (x := V.bl false) (by simp [RN]) List.nodup_nil fun _ h => nomatch h
      | true =>
        rw [if_pos rfl]
        refine At.step A3 P fun c4 S4 z w fp4 H4 _ A4 t4 rn4 nd4 fr4 P => ?_
        have sb : fb.Sublist (fa ++ fb) := List.sublist_append_right ..
        exact op_of A4 ((h2.tr t3).tr t4) rn4 (apart (h2.tr t3) (nd.sublist sb) nd4 fr4) (fr2 (fun q hq => fr q (sb.subset hq)) fun q hq => A3.tr.there q (fr4 q hq)) P
    | _ => exact P.elim
theorem s_chain (g : GX X G) {o1 o2 : B2} {p1 p2 : CmpOp} {a b c : E} {x y z : Expr} {p : Pos} (hm : cmpM o1 p1 = true) (hm2 : cmpM o2 p2 = true) (hz : plainE z = true) (ha : PEx X G W a x) (hb : PEx X G W b y) (hc : PEx X G W c z) :
    PEx X G W (.chain o1 o2 a b c) (.Compare x [p1, p2] [y, z] p) := by
  have h1 : OpR X (compareOp p1) (rOp X.K o1) := by rw [← f_cmp hm]; exact op_ok g.un o1
  have h2 : OpR X (compareOp p2) (rOp X.K o2) := by rw [← f_cmp hm2]; exact op_ok g.un o2
  exact PE.mono' (pe_chain h1 h2 ha hb hc (marks2 hz)) fun σ H Q h => chain_ h
theorem t_chain (g : GX X G) {o1 o2 : B2} {p1 p2 : CmpOp} {a b c : E} {x y z : Expr} {p : Pos} (hm : cmpM o1 p1 = true) (hm2 : cmpM o2 p2 = true) (hz : plainE z = true) (ha : PEx X G W a x) (hb : PEx X G W b y) (hc : PEx X G W c z) :
    PTx X G W (.chain o1 o2 a b c) (.Compare x [p1, p2] [y, z] p) := by
  have h1 : OpR X (compareOp p1) (rOp X.K o1) := by rw [← f_cmp hm]; exact op_ok g.un o1
  have h2 : OpR X (compareOp p2) (rOp X.K o2) := by rw [← f_cmp hm2]; exact op_ok g.un o2
  exact PT.mono' (pt_chain h1 h2 ha hb hc (marks2 hz)) fun σ H Q h => chain_ h
theorem s_ite {c a b : E} {t x y : Expr} {p : Pos} (hc : PTx X G W c t) (ha : PEx X G W a x) (hb : PEx X G W b y) : PEx X G W (.ite c a b) (.IfExp t x y p) := by
  refine PE.mono' (pe_ifExp hc ha hb) fun σ H Q ⟨c, S, ρ, hK, hC, R, L, P⟩ => ?_
  refine At.step (At0 hK hC R L) P fun c1 S1 v x fp H1 _ A t rn nd fr P => ?_
  cases v with
  | bl k =>
    simp only [RN] at rn
    obtain ⟨rfl, rfl⟩ := rn
    refine ⟨k, rfl, ?_⟩
    cases k with
    | true => rw [if_pos rfl]; exact A.last P
    | false => rw [if_neg Bool.false_ne_true]; exact A.last P
  | _ => exact P.elim
theorem s_tup {es : Es} {xs : List Expr} {k : Nat} {p : Pos} (h : PAx X G W es xs) (hl : xs.length ≤ 1000000) (hn : ∀ ρ S vs S', evEs G.ce es ρ S = .ok vs S' → vs.length = xs.length) : PEx X G W (.tup es) (.Tuple xs k p) := by
  refine PE.mono' (pe_tup h) fun σ H Q ⟨c, S, ρ, hK, hC, R, L, P⟩ => ?_
  refine At.step (At0 hK hC R L) P fun c1 S1 vs x fp H1 e A t rn nd fr P => ?_
  refine ⟨by rw [← rn.length, hn _ _ _ _ e]; exact Nat.le_trans hl (by rw [sizeLine_eq]; decide), fun q hq => ?_⟩
  exact (PostG.fin P A fr).tup A.rel rn nd (fun z hz => hz) hq
theorem s_lst {es : Es} {xs : List Expr} {p : Pos} (h : PAx X G W es xs) (hl : xs.length ≤ 1000000) (hn : ∀ ρ S vs S', evEs G.ce es ρ S = .ok vs S' → vs.length = xs.length) : PEx X G W (.lst es) (.List xs p) := by
  refine PE.mono' (pe_lst h) fun σ H Q ⟨c, S, ρ, hK, hC, R, L, P⟩ => ?_
  refine At.step (At0 hK hC R L) P fun c1 S1 vs x fp H1 e A t rn nd fr P => ?_
  refine ⟨by rw [← rn.length, hn _ _ _ _ e]; exact Nat.le_trans hl (by rw [sizeLine_eq]; decide), fun q hq => ?_⟩
  exact (PostG.fin P A fr).lst A.rel rn nd (fun z hz => hz) hq
theorem s_ix (g : GX X G) {a i : E} {x y : Expr} {p : Pos} (hy : plainE y = true) (ha : PEx X G W a x) (hb : PEx X G W i y) : PEx X G W (.ix a i) (.Subscript x y p) := by
  refine PE.mono' (pe_ix (ix_all g.un) ha hb (ix_plain hy)) fun σ H Q h => two_ h fun c0 c S ρ x y u v fa fb H0 H2 A h1 h2 nd fr P => ?_
  cases e : ixP x y S with
  | none => rw [e] at P; exact P.elim
  | some r =>
    rw [e] at P
    have := ix_sound e A.rel h1 h2 nd (PostG.fin P A fr)
    rw [A.K] at this
    exact this
abbrev rdP := @rdG (Option Int) (Option Int) RD
theorem s_no : L2.PO X none (rdP X.K G.C (evP G.ce .no) W) := by
  refine ⟨fun pins s σ H Q I h => ?_⟩
  refine po_none.run pins s σ H Q I ?_
  obtain ⟨c, S, ρ, hK, hC, R, L, P⟩ := h
  exact PostG.ret P (At0 hK hC R L) (x := none) (fp := []) ⟨rfl, rfl⟩ List.nodup_nil fun _ h => nomatch h
theorem s_yes {a : E} {x : Expr} (h : PEx X G W a x) : L2.PO X (some x) (rdP X.K G.C (evP G.ce (.yes a)) W) := by
  refine ⟨fun pins s σ H Q I hq => ?_⟩
  refine (po_some h).run pins s σ H Q I ?_
  obtain ⟨c, S, ρ, hK, hC, R, L, P⟩ := hq
  refine At.step (At0 hK hC R L) P fun c1 S1 v x fp H1 _ A t rn nd fr P => ?_
  cases v with
  | int i =>
    simp only [RN] at rn
    obtain ⟨rfl, rfl⟩ := rn
    exact ⟨i, rfl, PostG.ret P A (x := some i) (fp := []) ⟨rfl, rfl⟩ List.nodup_nil fun _ h => nomatch h⟩
  | _ => exact P.elim
theorem s_slc {a : E} {lo hi : P} {x : Expr} {l h : Option Expr} {p1 p2 : Pos} (ha : PEx X G W a x) (hl : L2.PO X l (rdP X.K G.C (evP G.ce lo) W)) (hh : L2.PO X h (rdP X.K G.C (evP G.ce hi) W)) : PEx X G W (.slc a lo hi) (.Subscript x (.Slice l h none p1) p2) := by
  refine PE.mono' (pe_slice sl_ok ha hl hh) fun σ H Q ⟨c, S, ρ, hK, hC, R, L, P⟩ => ?_
  refine At.step (At0 hK hC R L) P fun c1 S1 v x fp H1 _ A t rn nd fr P => ?_
  refine At.step A P fun c2 S2 o1 o1' fp2 H2 _ A2 t2 rn2 nd2 fr2 P => ?_
  obtain ⟨rfl, rfl⟩ := rn2
  refine At.step A2 P fun c3 S3 o2 o2' fp3 H3 _ A3 t3 rn3 nd3 fr3 P => ?_
  obtain ⟨rfl, rfl⟩ := rn3
  cases e : slP v o1 o2 S3 with
  | none => rw [e] at P; exact P.elim
  | some r =>
    rw [e] at P
    have := sl_sound e A3.rel ((rn.tr t2).tr t3) nd (PostG.fin P A3 fr)
    rw [A3.K] at this
    exact this
theorem s_rev {a : E} {x : Expr} {k : Nat} {p1 p2 p3 p4 : Pos} (ha : PEx X G W a x) : PEx X G W (.rev a) (.Subscript x (.Slice none none (some (.UnaryOp .USub (.Constant (.int 1) k p1) p2)) p3) p4) := by
  refine PE.mono' (pe_rev ha) fun σ H Q ⟨c, S, ρ, hK, hC, R, L, P⟩ => ?_
  refine At.step (At0 hK hC R L) P fun c1 S1 v x fp H1 _ A t rn nd fr P => ?_
  cases e : revP v S1 with
  | none => rw [e] at P; exact P.elim
  | some r =>
    rw [e] at P
    have := rev_sound e A.rel rn nd (PostG.fin P A fr)
    rw [A.K] at this
    exact this
/-! ### and, or -/
theorem bopV {b : Bool} {c0 c : Cn} {H0 H : Hp} {S : Store} {ρ : Loc} {σ : L2.St} {Q : VK} {v : PV} {x : V} {fp : List Addr} (A : At X.K G.C c0 H0 c S ρ σ H) (rn : RN c H (.bl b) x fp) (P : Post c0 H0 (.ok (.bl b) S) (fun cls d H' => W cls d σ H') Q) : Q (.bl b) H :=
  PostG.ret P A (x := V.bl b) (by simp [RN]) List.nodup_nil fun _ h => nomatch h
abbrev PBx (X : Cx) (G : GT) (W : WX) (k : Bool) (ir : Es) (e : Expr) : Prop := PE X e (rdE X.K G.C (evBop G.ce k ir) W)
abbrev PWx (X : Cx) (G : GT) (W : WX) (k : Bool) (ir : Es) (e : Expr) : Prop := PW X e (rdT X.K G.C (evBop G.ce k ir) W)
theorem b_one {k : Bool} {op : BoolOp} {a : E} {x : Expr} {p : Pos} (h : PEx X G W a x) : PBx X G W k (.cons a .nil) (.BoolOp op [x] p) := PE.mono' (pe_one h) fun σ H Q h => h
theorem b_and {a b : E} {es : Es} {x y : Expr} {xs : List Expr} {p : Pos} (h : PEx X G W a x) (r : PBx X G W true (.cons b es) (.BoolOp .And (y :: xs) p)) : PBx X G W true (.cons a (.cons b es)) (.BoolOp .And (x :: y :: xs) p) := by
  refine PE.mono' (pe_and h r) fun σ H Q ⟨c, S, ρ, hK, hC, R, L, P⟩ => ?_
  refine At.step (At0 hK hC R L) P fun c1 S1 v x fp H1 _ A t rn nd fr P => ?_
  cases v with
  | bl k =>
    have rn0 := rn
    simp only [RN] at rn
    obtain ⟨rfl, rfl⟩ := rn
    refine ⟨k, rfl, ?_⟩
    cases k with
    | true => rw [if_pos rfl]; exact A.last P
    | false => rw [if_neg Bool.false_ne_true]; exact bopV (v := .bl false) A rn0 P
  | _ => exact P.elim
theorem b_or {a b : E} {es : Es} {x y : Expr} {xs : List Expr} {p : Pos} (h : PEx X G W a x) (r : PBx X G W false (.cons b es) (.BoolOp .Or (y :: xs) p)) : PBx X G W false (.cons a (.cons b es)) (.BoolOp .Or (x :: y :: xs) p) := by
  refine PE.mono' (pe_or h r) fun σ H Q ⟨c, S, ρ, hK, hC, R, L, P⟩ => ?_
  refine At.step (At0 hK hC R L) P fun c1 S1 v x fp H1 _ A t rn nd fr P => ?_
  cases v with
  | bl k =>
    have rn0 := rn
    simp only [RN] at rn
    obtain ⟨rfl, rfl⟩ := rn
    refine ⟨k, rfl, ?_⟩
    cases k with
    | true => rw [if_pos rfl]; exact bopV (v := .bl true) A rn0 P
    | false => rw [if_neg Bool.false_ne_true]; exact A.last P
  | _ => exact P.elim
theorem w_and1 {a : E} {x : Expr} {p : Pos} (h : PTx X G W a x) : PWx X G W true (.cons a .nil) (.BoolOp .And [x] p) := PW.mono' (pw_and1 h) fun σ H Q h => h
theorem w_or1 {a : E} {x : Expr} {p : Pos} (h : PTx X G W a x) : PWx X G W false (.cons a .nil) (.BoolOp .Or [x] p) := PW.mono' (pw_or1 h) fun σ H Q h => h
theorem w_and {a b : E} {es : Es} {x y : Expr} {xs : List Expr} {p : Pos} (h : PTx X G W a x) (r : PWx X G W true (.cons b es) (.BoolOp .And (y :: xs) p)) : PWx X G W true (.cons a (.cons b es)) (.BoolOp .And (x :: y :: xs) p) := by
  refine PW.mono' (pw_and h r) fun σ H Q ⟨c, S, ρ, hK, hC, R, L, P⟩ => ?_
  refine At.step (At0 hK hC R L) P fun c1 S1 v x fp H1 _ A t rn nd fr P => ?_
  cases v with
  | bl k =>
    have rn0 := rn
    simp only [RN] at rn
    obtain ⟨rfl, rfl⟩ := rn
    refine ⟨k, rfl, ?_⟩
    cases k with
    | true => rw [if_pos rfl]; exact A.last P
    | false =>
      rw [if_neg Bool.false_ne_true]
      obtain ⟨k, e, q⟩ := bopV (v := .bl false) A rn0 P
      cases e; exact q
  | _ => exact P.elim
theorem w_or {a b : E} {es : Es} {x y : Expr} {xs : List Expr} {p : Pos} (h : PTx X G W a x) (r : PWx X G W false (.cons b es) (.BoolOp .Or (y :: xs) p)) : PWx X G W false (.cons a (.cons b es)) (.BoolOp .Or (x :: y :: xs) p) := by
  refine PW.mono' (pw_or h r) fun σ H Q ⟨c, S, ρ, hK, hC, R, L, P⟩ => ?_
  refine At.step (At0 hK hC R L) P fun c1 S1 v x fp H1 _ A t rn nd fr P => ?_
  cases v with
  | bl k =>
    have rn0 := rn
    simp only [RN] at rn
    obtain ⟨rfl, rfl⟩ := rn
    refine ⟨k, rfl, ?_⟩
    cases k with
    | true =>
      rw [if_pos rfl]
      obtain ⟨k, e, q⟩ := bopV (v := .bl true) A rn0 P
      cases e; exact q
    | false => rw [if_neg Bool.false_ne_true]; exact A.last P
  | _ => exact P.elim
/-! ### lists of terms -/
theorem a_nil : PAx X G W .nil [] := PA.mono' pa_nil fun σ H Q ⟨c, S, ρ, hK, hC, R, L, P⟩ => PostG.ret P (At0 hK hC R L) (x := []) (fp := []) (by simp [RNs]) List.nodup_nil fun _ h => nomatch h
theorem a_cons {a : E} {es : Es} {x : Expr} {xs : List Expr} (hx : plainE x = true) (h : PEx X G W a x) (r : PAx X G W es xs) : PAx X G W (.cons a es) (x :: xs) := by
  refine PA.mono' (pa_cons h r (star_plain hx)) fun σ H Q ⟨c, S, ρ, hK, hC, R, L, P⟩ => ?_
  refine At.step (At0 hK hC R L) P fun c1 S1 v x fp H1 _ A t rn nd fr P => ?_
  refine At.step A P fun c2 S2 vs ws fp2 H2 _ A2 t2 rn2 nd2 fr2' P => ?_
  refine PostG.ret P A2 (x := x :: ws) (fp := fp ++ fp2) ?_ (apart rn nd nd2 fr2') (fr2 fr fun q hq => A.tr.there q (fr2' q hq))
  simp only [RNs]
  exact ⟨x, ws, fp, fp2, rfl, rn.tr t2, rn2, rfl⟩
theorem evEs_len {ce : Cl} : ∀ {es : Es} {xs : List Expr} {ρ : Loc} {S S' : Store} {vs : List PV} {sc : Scope}, chkEs G N es sc xs = true → evEs ce es ρ S = .ok vs S' → vs.length = xs.length
  | .nil, [], _, _, _, _, _, _, e => by
    simp only [evEs] at e
    cases e; rfl
  | .nil, _ :: _, _, _, _, _, _, h, _ => by simp [chkEs] at h
  | .cons _ _, [], _, _, _, _, _, h, _ => by simp [chkEs] at h
  | .cons a es, x :: xs, ρ, S, _, _, sc, h, e => by
    simp only [chkEs, Bool.and_eq_true] at h
    simp only [evEs] at e
    cases q : evE ce a ρ S with
    | ok v S1 =>
      rw [q] at e
      simp only [Res.bind_ok] at e
      cases q2 : evEs ce es ρ S1 with
      | ok ws S2 =>
        rw [q2] at e
        simp only [Res.bind_ok] at e
        cases e
        rw [List.length_cons, List.length_cons, evEs_len h.2 q2]
      | exc _ _ _ => rw [q2] at e; cases e
      | fail => rw [q2] at e; cases e
    | exc _ _ _ => rw [q] at e; cases e
    | fail => rw [q] at e; cases e
theorem back_plain {es : List Expr} {env : Env} {pos : Pos} (h : ∀ e, e ∈ es → plainE e = true) : (backTo pos (starEach es env)).any (·.1) = false := by
  induction es with
  | nil => rfl
  | cons e es ih =>
    rw [star_plain (h e List.mem_cons_self)]
    show ((false, _) :: backTo pos (starEach es env)).any (·.1) = false
    rw [List.any_cons, ih fun x hx => h x (List.mem_cons_of_mem _ hx)]
    rfl
theorem chkEs_plain {sc : Scope} : ∀ {es : Es} {xs : List Expr}, chkEs G N es sc xs = true → ∀ e, e ∈ xs → plainE e = true
  | .nil, [], _, _, h => nomatch h
  | .nil, _ :: _, h, _, _ => by simp [chkEs] at h
  | .cons _ _, [], h, _, _ => by simp [chkEs] at h
  | .cons a es, x :: xs, h, e, he => by
    simp only [chkEs, Bool.and_eq_true] at h
    rcases List.mem_cons.mp he with rfl | he
    · exact chk_plain G N h.1
    · exact chkEs_plain h.2 e he
/-! ### calls -/
theorem s_bi (g : GX X G) {b : Bi} {es : Es} {x : Str} {y : Expr} {ys : List Expr} {p pos : Pos} (hs : X.env.scope = sc) (hx : x = biN b) (hg : isGl sc x = true) (h : PAx X G W es (y :: ys)) (hp : ∀ e, e ∈ y :: ys → plainE e = true) : PEx X G W (.bi b es) (.Call (.Name x p) (y :: ys) [] pos) := by
  subst hx
  have hm : X.mg (biN b) = none := g.blt _ (by cases b <;> decide)
  have hn : biN b ≠ "__name__" := by cases b <;> decide +kernel
  have hd : (biN b == ("__debug__" : Str)) = false := by cases b <;> decide +kernel
  have st := star_plain (env := X.env) (es := ys) (hp y List.mem_cons_self)
  have bk := back_plain (env := X.env) (pos := pos) fun e he => hp e (List.mem_cons_of_mem _ he)
  have key : PE X (.Call (.Name (biN b) p) (y :: ys) [] pos) (tCB (rBi X.K b) (rdA X.K G.C (evEs G.ce es) W)) := by
    have ok := bi_ok g.calm g.un b
    have hv := bi_boot b
    cases b
    case list | tuple | intB | strI => exact pe_callTy ok (gl_of hs hg) hm hv h hn hd st bk
    all_goals exact pe_callB ok (gl_of hs hg) hm hv h hn hd st bk
  refine PE.mono' key fun σ H Q ⟨c, S, ρ, hK, hC, R, L, P⟩ => ?_
  refine At.step (At0 hK hC R L) P fun c1 S1 vs x fp H1 _ A t rn nd fr P => ?_
  cases e : biP b vs S1 with
  | none => rw [e] at P; exact P.elim
  | some r =>
    rw [e] at P
    have := bi_sound e A.rel rn nd (PostG.fin P A fr)
    rw [A.K] at this
    exact this
theorem s_isi (g : GX X G) {t : Ty} {a : E} {f y : Str} {x : Expr} {p q pos : Pos} (hs : X.env.scope = sc) (hf : f = ("isinstance" : Str)) (hg : isGl sc f = true) (hy : y = tyS t) (hgy : isGl sc y = true) (hx : plainE x = true) (h : PEx X G W a x) :
    PEx X G W (.isi t a) (.Call (.Name f p) [x, .Name y q] [] pos) := by
  subst hf hy
  have hm : X.mg ("isinstance" : Str) = none := g.blt _ (by decide)
  have hmt : X.mg (tyS t) = none := g.blt _ (by cases t <;> decide +kernel)
  have pt : PE X (.Name (tyS t) q) (tC (.ty (tyN t))) := pe_bltn (gl_of hs hgy) hmt (ty_boot t) rfl (ty_name t).1 (ty_name t).2
  have pa : PA X [x, .Name (tyS t) q] (tCons (rdE X.K G.C (evE G.ce a) W) (tCons (tC (.ty (tyN t))) tNil)) := pa_cons h (pa_cons pt pa_nil) (star_plain hx)
  refine PE.mono' (pe_callB call_isi (gl_of hs hg) hm (by decide +kernel) pa (by decide +kernel) (by decide +kernel) (star_plain hx) (by rfl)) fun σ H Q ⟨c, S, ρ, hK, hC, R, L, P⟩ => ?_
  refine At.step (At0 hK hC R L) P fun c1 S1 v x fp H1 _ A t' rn nd fr P => ?_
  cases e : isTy S1 t v with
  | none => rw [e] at P; exact P.elim
  | some b =>
    rw [e] at P
    obtain ⟨u, h1, h2⟩ := ty_sound e A.rel rn
    rw [A.K] at h1 h2
    exact ⟨x, .ty (tyN t), u, .type (tyN t), b, rfl, .ty _, h1, h2, PostG.ret P A (x := V.bl b) (by simp [RN]) List.nodup_nil fun _ h => nomatch h⟩
theorem s_call (g : GX X G) (tk : Takes X W) {m : Md} {f : Nat} {es : Es} {x : Str} {y : Expr} {ys : List Expr} {p pos : Pos} (hs : X.env.scope = sc) (hf : ∃ e, G.tab[f]? = some e ∧ e.name = x ∧ (y :: ys).length = e.n ∧ e.kd = .glob) (hg : isGl sc x = true) (hx : okName x = true)
    (h : PAx X G W es (y :: ys)) (hp : ∀ e, e ∈ y :: ys → plainE e = true) (hn : ∀ ρ S vs S', evEs G.ce es ρ S = .ok vs S' → vs.length = (y :: ys).length) : PEx X G W (.call m f es) (.Call (.Name x p) (y :: ys) [] pos) := by
  obtain ⟨en, e1, rfl, e3, e4⟩ := hf
  obtain ⟨fa, fd, ps, k, hr, hrc, hb, F⟩ := g.fn f en e1
  unfold Reach at hrc
  rw [e4] at hr hrc
  obtain ⟨hm, hk⟩ := hrc
  have st := star_plain (env := X.env) (es := ys) (hp y List.mem_cons_self)
  have bk := back_plain (env := X.env) (pos := pos) fun e he => hp e (List.mem_cons_of_mem _ he)
  have ef : G.fs f = G.ce.f f := rfl
  refine PE.mono' (pe_callS (E := WE W) F hr (gl_of hs hg) hm hk hb (fun σ => passAt tk σ) h (okName_of hx).1 st bk) fun σ H Q ⟨c, S, ρ, hK, hC, R, L, P⟩ => ?_
  refine At.step (At0 hK hC R L) P fun c1 S1 vs x fp H1 e A t rn nd fr P => ?_
  have hl : vs.length = en.n := (hn _ _ _ _ e).trans e3
  rw [ef]
  cases m with
  | pure => exact callP_ok A rn hl P
  | full => exact callF_ok A rn nd fr hl P
  | trunc => exact P.elim
/-! ### [f, g, ..][i](x, ..) -/
/-- a call of what an expression gives -/
def tCallV (tf : TE) (E : L2.St → XK) (ok : V → Sp → Prop) (t : TA) : TE := fun σ H Q => tf σ H fun v H1 => ∃ sp, ok v sp ∧ t σ H1 fun vs H2 => sp vs H2 Q (E σ)
theorem pe_callV {X : Cx} {CX : CXT} {E : L2.St → XK} {fe e : Expr} {es : List Expr} {tf : TE} {t : TA} {pos : Pos} {ok : V → Sp → Prop} (hok : ∀ v sp, ok v sp → ∃ f fd ps k, v = V.ref f ∧ FnOk X.prog X.w X.K X.mg X.base CX k f fd ps sp ∧ Room k X.A ∧ PySem.W.keepIn X.K (.ref f) = true ∧ Binds X.K fd ps []) (hf : PE X fe tf) (hx : ∀ σ, PassesAt CX X σ (E σ)) (ha : PA X (e :: es) t)
    (ht : eval (.Call fe (e :: es) [] pos) X.env = (do callWith pos (← eval fe X.env) [] (backTo pos (starEach (e :: es) X.env)) (backToKw pos (keywordEach [] X.env))) := by rfl)
    (he : starEach (e :: es) X.env = (false, eval e X.env) :: starEach es X.env := by rfl) (hpl : (backTo pos (starEach es X.env)).any (·.1) = false := by rfl) : PE X (.Call fe (e :: es) [] pos) (tCallV tf E ok t) := by
  refine ⟨fun pins s σ H Q I h => ?_⟩
  refine Call_ (thn (hf.run pins s σ H _ I h) fun u s1 ⟨v, H1, I1, rv, sp, hs, q⟩ => ?_) ht
  obtain ⟨f, fd, ps, k, rfl, F, hr, hk, hb⟩ := hok v sp hs
  obtain rfl : u = Value.ref f := rv
  refine PySem.W.callWith_K (h₀ := X.base) I1.ok.mod.kin hk (thn (ha.run pos pins s1 σ H1 _ I1 q) fun us s2 ⟨vs, H2, I2, r, q2⟩ => ⟨I2.kIn, ?_⟩) he hpl
  exact run_fnS F hr hb (hx σ) I2 r q2
def tVs : List V → TA
  | [] => tNil
  | v :: r => tCons (tC v) (tVs r)
theorem tVs_eq : ∀ (vs : List V) (σ : L2.St) (H : Hp) (Q : List V → Hp → Prop), Q vs H → tVs vs σ H Q
  | [], _, _, _, h => h
  | v :: r, σ, H, Q, h => tVs_eq r σ H (fun xs H' => Q (v :: xs) H') h
/-- the defs' addresses -/
theorem fs_at (g : GX X G) (hs : X.env.scope = sc) : ∀ {fs : List (Md × Nat)} {xs as : List Expr}, chkFs G fs xs sc as = true → ∃ fas : List Addr, PA X xs (tVs (fas.map V.ref)) ∧ fas.length = fs.length ∧ xs.length = fs.length ∧
    ∀ (k : Nat) (m : Md) (f : Nat), fs[k]? = some (m, f) → ∃ (fa : Addr) (fd : FuncData) (ps : List Str) (j : Nat) (en : FnE), fas[k]? = some fa ∧ as.length = en.n ∧ Room j X.A ∧ PySem.W.keepIn X.K (.ref fa) = true ∧ Binds X.K fd ps [] ∧ FnOk X.prog X.w X.K X.mg X.base (L2.CX X.prog X.w) j fa fd ps (spOf X.K G.C en.n (G.fs f))
  | [], [], _, _ => ⟨[], pa_nil, rfl, rfl, fun k m f h => by simp at h⟩
  | [], _ :: _, _, h => by simp [chkFs] at h
  | _ :: _, [], _, h => by simp [chkFs] at h
  | (m0, f0) :: fs, x :: xs, as, h => by
    simp only [chkFs, Bool.and_eq_true] at h
    obtain ⟨h1, h2⟩ := h
    split at h1
    · rename_i n en q1 q2
      obtain ⟨p, rfl⟩ := asName_eq q1
      simp only [Bool.and_eq_true, decide_eq_true_eq, lenIs] at h1
      obtain ⟨⟨⟨⟨rfl, e2⟩, e3⟩, e4⟩, e5⟩ := h1
      obtain ⟨fa, fd, ps, j, hr, hrc, hb, F⟩ := g.fn f0 en q2
      unfold Reach at hrc
      rw [e3] at hr hrc
      obtain ⟨hm, hk⟩ := hrc
      obtain ⟨fas, pa, l1, l2, k1⟩ := fs_at g hs h2
      refine ⟨fa :: fas, pa_cons (pe_glob (gl_of hs e4) hm rfl (okName_of e5).1) pa, by simp [l1], by simp [l2], fun k m f hk' => ?_⟩
      cases k with
      | zero =>
        simp only [List.getElem?_cons_zero, Option.some.injEq, Prod.mk.injEq] at hk'
        obtain ⟨rfl, rfl⟩ := hk'
        exact ⟨fa, fd, ps, _, en, rfl, e2, hr, hk, hb, F⟩
      | succ k => exact k1 k m f (by simpa using hk')
    · cases h1
theorem s_callx (g : GX X G) (tk : Takes X W) {fs : List (Md × Nat)} {i : E} {es : Es} {xs : List Expr} {ix y : Expr} {ys : List Expr} {p1 p2 pos : Pos} (hs : X.env.scope = sc) (hf : chkFs G fs xs sc (y :: ys) = true) (hpi : plainE ix = true) (hi : PEx X G W i ix)
    (h : PAx X G W es (y :: ys)) (hp : ∀ e, e ∈ y :: ys → plainE e = true) (hn : ∀ ρ S vs S', evEs G.ce es ρ S = .ok vs S' → vs.length = (y :: ys).length) (hsm : xs.length ≤ 1000000) : PEx X G W (.callx fs i es) (.Call (.Subscript (.List xs p1) ix p2) (y :: ys) [] pos) := by
  obtain ⟨fas, pa, l1, l2, at_⟩ := fs_at g hs hf
  have st := star_plain (env := X.env) (es := ys) (hp y List.mem_cons_self)
  have bk := back_plain (env := X.env) (pos := pos) fun e he => hp e (List.mem_cons_of_mem _ he)
  have hfe : PE X (.Subscript (.List xs p1) ix p2) (tOp (rIxE X.K) (tLst (tVs (fas.map V.ref))) (rdE X.K G.C (evE G.ce i) W)) := pe_ix (ix_all g.un) (pe_lst pa) hi (ix_plain hpi)
  refine PE.mono' (pe_callV (ok := fun v sp => ∃ f fd ps k, v = V.ref f ∧ FnOk X.prog X.w X.K X.mg X.base (L2.CX X.prog X.w) k f fd ps sp ∧ Room k X.A ∧ PySem.W.keepIn X.K (.ref f) = true ∧ Binds X.K fd ps []) (E := WE W) (fun v sp h => h) hfe (fun σ => passAt tk σ) h (by rfl) st bk) fun σ H Q ⟨c, S, ρ, hK, hC, R, L, P⟩ => ?_
  -- the list of defs, laid beside the store
  refine tVs_eq _ _ _ _ ⟨by rw [List.length_map, l1, ← l2]; exact Nat.le_trans hsm (by rw [sizeLine_eq]; decide), fun q hq => ?_⟩
  have A0 : At X.K G.C c H c S ρ σ (upd H q (.lst (fas.map V.ref))) := ⟨hK, hC, Tr.fresh hq, R.fresh hq, L.tr (Tr.fresh hq)⟩
  refine At.step A0 P fun c1 S1 v x fp H1 _ A t rn nd fr P => ?_
  cases v with
  | int k =>
    simp only [RN] at rn
    obtain ⟨rfl, rfl⟩ := rn
    dsimp only at P
    cases e : pickF fs k with
    | none => rw [e] at P; exact P.elim
    | some mf =>
      obtain ⟨m, f⟩ := mf
      rw [e] at P
      dsimp only at P
      unfold pickF at e
      split at e
      · rename_i k0
        obtain ⟨fa, fd, ps, j, en, e1, e2, hr, hk, hb, F⟩ := at_ _ _ _ e
        have hl := (List.getElem?_eq_some_iff.mp e1).1
        have hq1 : H1 q = some (.lst (fas.map V.ref)) := t.keep q _ upd_same (.inl (R.new hq).2.2)
        refine .inl (.inl ⟨q, fas.map V.ref, k, V.ref fa, rfl, rfl, SqL.of hq1, ?_, ?_⟩)
        · obtain ⟨kn, rfl⟩ := Int.eq_ofNat_of_zero_le k0
          refine L2.atI_nat ?_
          rw [List.getElem?_map]
          simp only [Int.toNat_natCast] at e1
          rw [show fas[kn]? = some fa from e1]
          rfl
        · refine ⟨_, ⟨fa, fd, ps, j, rfl, F, hr, hk, hb⟩, ?_⟩
          have ef : G.fs f = G.ce.f f := rfl
          refine At.step A P fun c2 S2 vs x fp H2 e4 A2 t2 rn nd fr P => ?_
          have hl : vs.length = en.n := (hn _ _ _ _ e4).trans e2
          rw [ef]
          cases m with
          | pure => exact callP_ok A2 rn hl P
          | full => exact callF_ok A2 rn nd (fun a ha => A.tr.there a (fr a ha)) hl P
          | trunc => exact P.elim
      · cases e
  | _ => exact P.elim
theorem s_sIx (g : GX X G) {a i : E} {x y : Expr} {p : Pos} (hy : plainE y = true) (ha : PEx X G W a x) (hb : PEx X G W i y) : PEx X G W (.sIx a i) (.Subscript x y p) := by
  refine PE.mono' (pe_ix (ix_all g.un) ha hb (ix_plain hy)) fun σ H Q h => two_ h fun c0 c S ρ x y u v fa fb H0 H2 A h1 h2 nd fr P => ?_
  cases e : sixP x y with
  | none => rw [e] at P; exact P.elim
  | some r =>
    rw [e] at P
    unfold sixP at e
    split at e
    · rename_i z i
      split at e
      · rename_i hz
        split at e
        · rename_i ch hc
          cases e
          simp only [RN] at h1 h2
          obtain ⟨rfl, rfl⟩ := h1
          obtain ⟨rfl, rfl⟩ := h2
          exact .inl (.inr (.inr ⟨z, i, ch, rfl, rfl, few_le hz, hc, PostG.ret P A (x := V.str _) (by simp [RN]) List.nodup_nil fun _ h => nomatch h⟩))
        · cases e
      · cases e
    · cases e
end
end Ev
end
set_option Elab.async false
set_option linter.all false
set_option maxRecDepth 100000
/-! EvJ: what is walked; comprehensions; soundness of every term. -/
noncomputable section
namespace Ev
open PySem L2 PyProof.Rows
/-! ### a list or a tuple, walked -/
def iSeq (K : PySem.W.Frag) (tl : TE) : TI := fun σ H R => tl σ H fun x H1 => ∃ a, x = .ref a ∧ (((∃ xs, SqL K H1 a xs) ∧ R (Itl K a) H1) ∨ ((∃ xs, SqT K H1 a xs) ∧ R (Itt K a) H1))
theorem pi_seq {X : Cx} {tg l : Expr} {tl : TE} (hl : PE X l tl) : PI X tg l (iSeq X.K tl) := by
  refine ⟨fun pins s σ H R I h => ?_⟩
  refine thn (hl.run pins s σ H _ I h) fun v s1 ⟨x, H1, I1, r1, q1⟩ => ?_
  obtain ⟨a, e, q⟩ := q1
  subst e
  cases r1
  rcases q with ⟨⟨xs, hq⟩, q⟩ | ⟨⟨xs, hq⟩, q⟩
  · obtain ⟨its, rv, p, hz⟩ := I1.list hq
    refine wpAny_pyIter_list p.isList ?_
    refine ⟨s1.heap.objs.size, [s1.heap.objs.size], _, _, H1, rfl, I1.kept (t' := s1.toks) fun b o e => Heap.get?_push_of_some _ e, turn_list a _, ⟨_, Heap.get?_push_size _ rfl, rfl, rfl⟩, fun b hb => ?_, q⟩
    have e : b = s1.heap.objs.size := by simpa using hb
    subst e
    exact I1.fpOk (Nat.le_refl _) (I1.hok.fresh (Nat.le_refl _))
  · obtain ⟨its, rv, p, hz⟩ := I1.tuple hq
    refine wpAny_pyIter_tuple (show s1.heap.IsTuple a its.toArray from p) ?_
    refine ⟨s1.heap.objs.size, [s1.heap.objs.size], _, _, H1, rfl, I1.kept (t' := s1.toks) fun b o e => Heap.get?_push_of_some _ e, turn_tuple a _, ⟨_, Heap.get?_push_size _ rfl, rfl, rfl⟩, fun b hb => ?_, q⟩
    have e : b = s1.heap.objs.size := by simpa using hb
    subst e
    exact I1.fpOk (Nat.le_refl _) (I1.hok.fresh (Nat.le_refl _))
/-- J gives the items xs, one after the other, from c, H on -/
structure Src (c : Cn) (H : Hp) (xs : List PV) (g : Option Nat) (J : L2.It) : Prop where
  item : ∀ c' S' H' i x, Tr c H c' H' → Rel c' S' H' → Gd g xs S' → xs[i]? = some x → J.go i H' ∧ ∀ y H'', J.yld i H' y H'' → Tr c' H' c' H'' ∧ Rel c' S' H'' ∧ RV c' H'' x y ∧ (∀ D o, H' D = some o → H'' D = some o)
  done : ∀ c' S' H' i, Tr c H c' H' → Rel c' S' H' → Gd g xs S' → xs.length ≤ i → J.stop i H'
theorem RVs.get {c : Cn} {H : Hp} {xs : List PV} {vs : List V} {i : Nat} {x : PV} (h : RVs c H xs vs) (e : xs[i]? = some x) : ∃ v, vs[i]? = some v ∧ RV c H x v := by
  obtain ⟨v, g, e1, r, s⟩ := RNs.get h e
  have : g = [] := List.sublist_nil.mp s
  subst this
  exact ⟨v, e1, r⟩
abbrev relI : RelT (List PV × Option Nat) L2.It := fun c H p J fp => Src c H p.1 p.2 J ∧ fp = []
abbrev rdI := @rdG (List PV × Option Nat) L2.It relI
abbrev PIx (X : Cx) (G : GT) (W : WX) (it : Ev.It) (tg e : Expr) : Prop := PI X tg e (rdI X.K G.C (evIt G.ce it) W)
theorem src_range {c : Cn} {H : Hp} {lo : Int} {n : Nat} : Src c H ((List.range n).map fun (k : Nat) => PV.int (lo + (k : Int))) none (Itr lo n) where
  item := fun c' S' H' i x t R _ e => by
    rw [List.getElem?_map] at e
    obtain ⟨k, e1, e2⟩ := Option.map_eq_some_iff.mp e
    obtain ⟨h1, h2⟩ := List.getElem?_eq_some_iff.mp e1
    rw [List.getElem_range] at h2
    rw [List.length_range] at h1
    subst h2 e2
    refine ⟨h1, fun y H'' q => ?_⟩
    obtain ⟨rfl, rfl⟩ := q
    exact ⟨Tr.refl _ _, R, by simp [RN], fun _ _ h => h⟩
  done := fun c' S' H' i t R _ h => by
    rw [List.length_map, List.length_range] at h
    exact h
theorem src_list {c : Cn} {H : Hp} {xs : List PV} {g : Option Nat} {a : Addr} (k : ∀ c' S' H', Tr c H c' H' → Rel c' S' H' → Gd g xs S' → ∃ vs, SqL c.K H' a vs ∧ RVs c' H' xs vs) : Src c H xs g (Itl c.K a) where
  item := fun c' S' H' i x t R gd e => by
    obtain ⟨vs, h1, h2⟩ := k c' S' H' t R gd
    obtain ⟨v, e1, r⟩ := h2.get e
    refine ⟨⟨vs, v, h1, e1⟩, fun y H'' q => ?_⟩
    obtain ⟨rfl, q⟩ := q
    have e2 := q vs h1
    rw [e1] at e2; cases e2
    exact ⟨Tr.refl _ _, R, r, fun _ _ h => h⟩
  done := fun c' S' H' i t R gd h => by
    obtain ⟨vs, h1, h2⟩ := k c' S' H' t R gd
    exact ⟨vs, h1, by rw [← RNs.length h2]; exact h⟩
theorem src_tup {c : Cn} {H : Hp} {xs : List PV} {g : Option Nat} {a : Addr} {vs : List V} (h : SqT c.K H a vs) (r : RVs c H xs vs) : Src c H xs g (Itt c.K a) where
  item := fun c' S' H' i x t R gd e => by
    have h1 := SqT.tr t h
    rw [t.K] at h1
    obtain ⟨v, e1, r⟩ := RVs.get (r.tr t) e
    refine ⟨⟨vs, v, h1, e1⟩, fun y H'' q => ?_⟩
    obtain ⟨rfl, q⟩ := q
    have e2 := q vs h1
    rw [e1] at e2; cases e2
    exact ⟨Tr.refl _ _, R, r, fun _ _ h => h⟩
  done := fun c' S' H' i t R gd h' => by
    have h1 := SqT.tr t h
    rw [t.K] at h1
    exact ⟨vs, h1, by rw [← RNs.length r]; exact h'⟩
theorem enumP_get : ∀ {xs : List PV} {n i : Nat} {x : PV}, (enumP n xs)[i]? = some x → ∃ y, xs[i]? = some y ∧ x = .tup [.int ((n + i : Nat) : Int), y]
  | [], _, _, _, e => by simp [enumP] at e
  | x :: xs, n, 0, _, e => by
    simp [enumP] at e
    exact ⟨x, rfl, by rw [← e]; rfl⟩
  | x :: xs, n, i + 1, _, e => by
    obtain ⟨y, h1, h2⟩ := enumP_get (xs := xs) (n := n + 1) (i := i) (by simpa [enumP] using e)
    exact ⟨y, by simpa using h1, by rw [h2, show n + 1 + i = n + (i + 1) by omega]⟩
theorem enumP_len : ∀ (n : Nat) (xs : List PV), (enumP n xs).length = xs.length
  | _, [] => rfl
  | n, x :: xs => by show (enumP (n + 1) xs).length + 1 = _; rw [enumP_len]; rfl
theorem src_enum {c : Cn} {H : Hp} {xs : List PV} {a : Addr} (k : ∀ c' S' H', Tr c H c' H' → Rel c' S' H' → ∃ vs, SqL c.K H' a vs ∧ RVs c' H' xs vs) : Src c H (enumP 0 xs) none (Ite c.K a) where
  item := fun c' S' H' i x t R gd e => by
    obtain ⟨z, e0, rfl⟩ := enumP_get e
    obtain ⟨vs, h1, h2⟩ := k c' S' H' t R
    obtain ⟨v, e1, r⟩ := h2.get e0
    refine ⟨⟨vs, v, h1, e1⟩, fun y H'' q => ?_⟩
    obtain ⟨T, w, rfl, hT, rfl, q⟩ := q
    have e2 := q vs h1
    rw [e1] at e2; cases e2
    have t2 : Tr c' H' c' (upd H' T (.tup [.int (i : Nat), v])) := Tr.fresh hT
    refine ⟨t2, R.fresh hT, ?_, fun D o h => by rw [upd_ne (ne_of_none h hT)]; exact h⟩
    simp only [RN]
    refine ⟨T, [.int (i : Nat), v], rfl, SqT.of upd_same, ?_⟩
    simp only [RNs]
    exact ⟨.int (i : Nat), [v], [], [], rfl, by rw [Nat.zero_add]; exact ⟨rfl, rfl⟩, ⟨v, [], [], [], rfl, r.tr t2, ⟨rfl, rfl⟩, rfl⟩, rfl⟩
  done := fun c' S' H' i t R gd h => by
    obtain ⟨vs, h1, h2⟩ := k c' S' H' t R
    exact ⟨vs, h1, by rw [← RNs.length h2, ← enumP_len 0 xs]; exact h⟩
section
variable {X : Cx} {G : GT} {W : WX} {N : List Str} {sc : Scope}
theorem i_r1 (g : GX X G) {a : E} {x : Str} {y tg : Expr} {p pos : Pos} (hs : X.env.scope = sc) (hx : x = ("range" : Str)) (hg : isGl sc x = true) (hy : plainE y = true) (h : PEx X G W a y) : PIx X G W (.r1 a) tg (.Call (.Name x p) [y] [] pos) := by
  subst hx
  have hm : X.mg ("range" : Str) = none := g.blt _ (by decide)
  refine PI.mono' (pi_range1 (gl_of hs hg) hm (pa_cons h pa_nil (star_plain hy)) (star_plain hy)) fun σ H R ⟨c, S, ρ, hK, hC, RR, L, P⟩ => ?_
  refine At.step (At0 hK hC RR L) P fun c1 S1 v x fp H1 _ A t rn nd fr P => ?_
  cases v with
  | int n =>
    simp only [RN] at rn
    obtain ⟨rfl, rfl⟩ := rn
    dsimp only at P
    split at P
    · rename_i hb
      refine ⟨n, rfl, hb.2, hb.1, PostG.ret P A (x := Itr 0 n.toNat) (fp := []) ⟨?_, rfl⟩ List.nodup_nil fun _ h => nomatch h⟩
      have := src_range (c := c1) (H := H1) (lo := 0) (n := n.toNat)
      simpa using this
    · exact P.elim
  | _ => exact P.elim
theorem i_r2 (g : GX X G) {a b : E} {x : Str} {y z tg : Expr} {p pos : Pos} (hs : X.env.scope = sc) (hx : x = ("range" : Str)) (hg : isGl sc x = true) (hy : plainE y = true) (hz : plainE z = true) (h : PEx X G W a y) (h2 : PEx X G W b z) :
    PIx X G W (.r2 a b) tg (.Call (.Name x p) [y, z] [] pos) := by
  subst hx
  have hm : X.mg ("range" : Str) = none := g.blt _ (by decide)
  have e2 : starEach [z] X.env = [(false, eval z X.env)] := star_plain hz
  have e1 : starEach [y, z] X.env = [(false, eval y X.env), (false, eval z X.env)] := by rw [star_plain hy, e2]
  refine PI.mono' (pi_range2 (gl_of hs hg) hm (pa_cons h (pa_cons h2 pa_nil (star_plain hz)) (star_plain hy)) e1 e2) fun σ H R ⟨c, S, ρ, hK, hC, RR, L, P⟩ => ?_
  refine At.step (At0 hK hC RR L) P fun c1 S1 v x fp H1 _ A t rn nd fr P => ?_
  refine At.step A P fun c2 S2 v2 x2 fp2 H2 _ A2 t2 rn2 nd2 fr2 P => ?_
  cases v with
  | int m =>
    cases v2 with
    | int n =>
      simp only [RN] at rn rn2
      obtain ⟨rfl, rfl⟩ := rn
      obtain ⟨rfl, rfl⟩ := rn2
      dsimp only at P
      split at P
      · rename_i hb
        exact ⟨m, n, rfl, hb, PostG.ret P A2 (x := Itr m (n - m).toNat) (fp := []) ⟨src_range, rfl⟩ List.nodup_nil fun _ h => nomatch h⟩
      · exact P.elim
    | _ => exact P.elim
  | _ => exact P.elim
/-- a list that is no object of the store: it stands -/
theorem stands {c : Cn} {H : Hp} {S : Store} {k : Kd} {xs : List PV} {v : V} {fp : List Addr} (R : Rel c S H) (h : RN c H (.lst k xs) v fp) (hk : k ≠ .new) : ∃ a, v = .ref a ∧ (∃ vs, SqL c.K H a vs) ∧ ∀ c' S' H', Tr c H c' H' → Rel c' S' H' → ∃ vs, SqL c.K H' a vs ∧ RVs c' H' xs vs := by
  have h0 := h
  simp only [RN] at h
  obtain ⟨a, vs, fp', rfl, l, r, rfl, z⟩ := h
  have e : fp' = [] := z.resolve_left hk
  subst e
  have key : ∀ c' S' H', Tr c H c' H' → Rel c' S' H' → SqL c.K H' a vs := fun c' S' H' t R' => by
    cases k with
    | new => exact absurd rfl hk
    | frz => exact SqL.of (R'.fh _ _ (t.fk _ _ l))
    | bor => exact SqL.of (R'.bh _ _ (by rw [t.B]; exact l))
    | scr =>
      rcases l with (l | ⟨o, l⟩) | l
      · exact .inl (.inl (R'.bh _ _ (by rw [t.B]; exact l)))
      · exact .inl (.inr ⟨o, R'.bh _ _ (by rw [t.B]; exact l)⟩)
      · exact .inr l
  exact ⟨a, rfl, ⟨vs, key c S H (Tr.refl c H) R⟩, fun c' S' H' t R' => ⟨vs, key c' S' H' t R', r.tr t⟩⟩
theorem i_seq {a : E} {y tg : Expr} (h : PEx X G W a y) : PIx X G W (.seq a) tg y := by
  refine PI.mono' (pi_seq h) fun σ H R ⟨c, S, ρ, hK, hC, RR, L, P⟩ => ?_
  refine At.step (At0 hK hC RR L) P fun c1 S1 v x fp H1 _ A t rn nd fr P => ?_
  have frozen : ∀ {g : Option Nat} {zs : List PV} {J : L2.It} {A0 : List Addr}, (∀ q, q ∈ A0 → q ∈ fp) → Src (c1.frz H1 A0) H1 zs g J → PostG relI c H (.ok (zs, g) S1) (fun cls d H' => W cls d σ H') R → R J H1 := fun {g zs J A0} sub hsrc P => by
    have hA : ∀ q, q ∈ A0 → NewAt c1 H1 q := fun q hq => rn.newAt q (sub q hq)
    exact P (c1.frz H1 A0) H1 J [] (A.tr.ext (Cn.frz_ext hA) fun q hq => fr q (sub q hq)) (A.rel.frz hA) ⟨hsrc, rfl⟩ List.nodup_nil fun _ h => nomatch h
  cases v with
  | ref l =>
    dsimp only at P
    split at P
    · rename_i xs hS
      simp only [RN] at rn
      obtain ⟨a, hl, rfl, rfl⟩ := rn
      have key : ∀ c' S' H', Tr c1 H1 c' H' → Rel c' S' H' → Gd (some l) xs S' → ∃ vs, SqL c1.K H' a vs ∧ RVs c' H' xs vs := fun c' S' H' t' R' gd => by
        obtain ⟨z, hz⟩ := t'.pre
        have hl' : c'.m[l]? = some a := by
          rw [← hz, List.getElem?_append_left (List.getElem?_eq_some_iff.mp hl).1]
          exact hl
        obtain ⟨vs, q1, q2⟩ := R'.obj l _ a gd hl'
        exact ⟨vs, SqL.of q1, q2⟩
      obtain ⟨vs, q1, _⟩ := key c1 S1 H1 (Tr.refl _ _) A.rel hS
      rw [A.K] at q1 key
      refine ⟨a, rfl, .inl ⟨⟨vs, q1⟩, PostG.ret P A (x := Itl X.K a) (fp := []) ⟨?_, rfl⟩ List.nodup_nil fun _ h => nomatch h⟩⟩
      have := src_list (c := c1) (H := H1) (xs := xs) (g := some l) (a := a) (by rw [A.K]; exact key)
      rw [A.K] at this
      exact this
    · exact P.elim
  | tup xs =>
    have rn0 := rn
    simp only [RN] at rn
    obtain ⟨a, vs, rfl, s, r⟩ := rn
    have s' := s
    rw [A.K] at s'
    refine ⟨a, rfl, .inr ⟨⟨vs, s'⟩, ?_⟩⟩
    refine frozen (A0 := fp) (fun q hq => hq) ?_ P
    have := src_tup (c := c1.frz H1 fp) (H := H1) (g := none) s (RNs.frz rn0.newAt r fun q hq => hq)
    have e : (c1.frz H1 fp).K = X.K := A.K
    rw [e] at this
    exact this
  | lst k xs =>
    cases k with
    | new =>
      have rn0 := rn
      simp only [RN] at rn
      obtain ⟨a, vs, fp', rfl, l, r, rfl, _⟩ := rn
      rw [own_new] at *
      obtain ⟨n1, n2⟩ := List.nodup_cons.mp nd
      refine ⟨a, rfl, .inl ⟨⟨vs, SqL.of l.1⟩, ?_⟩⟩
      refine frozen (A0 := fp') (fun q hq => List.mem_cons_of_mem _ hq) ?_ P
      have hA : ∀ q, q ∈ fp' → NewAt c1 H1 q := r.newAt
      have := src_list (c := c1.frz H1 fp') (H := H1) (xs := frzs xs) (g := none) (a := a) fun c' S' H' t' R' _ => ⟨vs, SqL.of (t'.keep a _ l.1 (.inl l.2.2.2)), (RNs.frz hA r fun q hq => hq).tr t'⟩
      have e : (c1.frz H1 fp').K = X.K := A.K
      rw [e] at this
      exact this
    | frz =>
      obtain ⟨a, rfl, q1, q2⟩ := stands A.rel rn (by decide)
      rw [A.K] at q1
      refine ⟨a, rfl, .inl ⟨q1, PostG.ret P A (x := Itl X.K a) (fp := []) ⟨?_, rfl⟩ List.nodup_nil fun _ h => nomatch h⟩⟩
      have := src_list (c := c1) (H := H1) (xs := xs) (g := none) (a := a) fun c' S' H' t' R' _ => q2 c' S' H' t' R'
      rw [A.K] at this
      exact this
    | bor =>
      obtain ⟨a, rfl, q1, q2⟩ := stands A.rel rn (by decide)
      rw [A.K] at q1
      refine ⟨a, rfl, .inl ⟨q1, PostG.ret P A (x := Itl X.K a) (fp := []) ⟨?_, rfl⟩ List.nodup_nil fun _ h => nomatch h⟩⟩
      have := src_list (c := c1) (H := H1) (xs := xs) (g := none) (a := a) fun c' S' H' t' R' _ => q2 c' S' H' t' R'
      rw [A.K] at this
      exact this
    | scr =>
      obtain ⟨a, rfl, q1, q2⟩ := stands A.rel rn (by decide)
      rw [A.K] at q1
      refine ⟨a, rfl, .inl ⟨q1, PostG.ret P A (x := Itl X.K a) (fp := []) ⟨?_, rfl⟩ List.nodup_nil fun _ h => nomatch h⟩⟩
      have := src_list (c := c1) (H := H1) (xs := xs) (g := none) (a := a) fun c' S' H' t' R' _ => q2 c' S' H' t' R'
      rw [A.K] at this
      exact this
  | _ => exact P.elim
theorem i_enum (g : GX X G) {a : E} {x : Str} {y : Expr} {elts : List Expr} {kk : Nat} {p pos tpos : Pos} (hs : X.env.scope = sc) (hx : x = ("enumerate" : Str)) (hg : isGl sc x = true) (hy : plainE y = true) (h : PEx X G W a y) : PIx X G W (.enum a) (.Tuple elts kk tpos) (.Call (.Name x p) [y] [] pos) := by
  subst hx
  have hm : X.mg ("enumerate" : Str) = none := g.blt _ (by decide)
  refine PI.mono' (pi_enum (gl_of hs hg) hm (pa_cons h pa_nil (star_plain hy)) (star_plain hy)) fun σ H R ⟨c, S, ρ, hK, hC, RR, L, P⟩ => ?_
  refine At.step (At0 hK hC RR L) P fun c1 S1 v x fp H1 _ A t rn nd fr P => ?_
  cases v with
  | lst k xs =>
    have go : k ≠ .new → PostG relI c H (.ok (enumP 0 xs, none) S1) (fun cls d H' => W cls d σ H') R → ∃ a zs, [x] = [V.ref a] ∧ SqL X.K H1 a zs ∧ R (Ite X.K a) H1 := fun hk P => by
      obtain ⟨a, rfl, ⟨vs, q1⟩, q2⟩ := stands A.rel rn hk
      rw [A.K] at q1
      refine ⟨a, vs, rfl, q1, PostG.ret P A (x := Ite X.K a) (fp := []) ⟨?_, rfl⟩ List.nodup_nil fun _ h => nomatch h⟩
      have := src_enum (c := c1) (H := H1) (xs := xs) (a := a) q2
      rw [A.K] at this
      exact this
    cases k with
    | new => exact P.elim
    | frz => exact go (by decide) P
    | bor => exact go (by decide) P
    | scr => exact go (by decide) P
  | _ => exact P.elim
end
end Ev
end
set_option Elab.async false
set_option linter.all false
set_option maxRecDepth 100000
/-! EvT: sorted(d), d a dict of whole numbers, any number of them. -/
noncomputable section
namespace Ev
open PySem PySem.Spec PyProof.Rows L2
theorem ints_of_keys {ws : List Value} {ks : List Int} (hl : ws.length = ks.length) (h : ∀ (j : Nat) (u : Value), ws[j]? = some u → ∃ i t, ks[j]? = some i ∧ u = .int i t) : IntsAre ws ks := by
  induction ws generalizing ks with
  | nil => cases ks with
    | nil => exact .nil
    | cons _ _ => cases hl
  | cons w ws ih => cases ks with
    | nil => cases hl
    | cons k ks =>
      obtain ⟨i, t, e1, e2⟩ := h 0 w rfl
      cases e1
      subst e2
      exact .cons _ _ (ih (by simpa using hl) fun j u hu => h (j + 1) u (by simpa using hu))
def rSortD : List V → Hp → VK → Prop := fun xs H Q => ∃ (a : Addr) (kvs : List (Key × V)) (ks : List Int), xs = [.ref a] ∧ Rd H a (.dK kvs) ∧ kvs.map (·.1) = ks.map Sum.inl ∧ ks.length ≤ 1000000 ∧
  ∀ (ms : List Int) (p : Addr), ms.Perm ks → ms.Pairwise (· ≤ ·) → H p = none → Q (.ref p) (upd H p (.lst (ms.map V.int)))
theorem cr_sortD {X : Cx} (calm : X.calm = true) : CallR X (.builtin "sorted") rSortD := by
  intro pins s σ H xs us Q I r given
  obtain ⟨d, kvs, ks, rfl, rd, keys, small, q⟩ := given
  obtain ⟨u0, rfl, ru⟩ := vals1 r
  cases ru
  obtain ⟨z0, sysNe, ents, rl, dOf⟩ := dk_rd I.hok rd
  obtain ⟨ep0, dAt⟩ := dOf.dictAt
  have ek : ents.map (·.1) = ks.map Sum.inl := rl.keys.symm.trans keys
  have el : ents.length = ks.length := by simpa using congrArg List.length ek
  have fits : ents.length ≤ sizeLine := by rw [el, sizeLine_eq]; omega
  refine Calls.call_function_entry kind_sorted plain_sorted entry_sorted (args_sorted1 _) ?_
  unfold Builtin.«sorted»
  refine wpAny_bind (m := checkCount "sorted" 1 1 _) (wpAny_pure ?_)
  refine wpAny_bind (W.kdu_collect (A := X.A.in1) (W.kdl_dict (knd := mixKind X.prog X.w) (kvs := ents) (ep := ep0) sysNe) (I.ok.hd calm) dAt fits fun g tk col kept hcol => ?_)
  have cl : col.toList.length = ks.length := by rw [Array.length_toList, hcol.1, el]
  have ci : IntsAre col.toList ks := ints_of_keys cl fun j v hv => by
    obtain ⟨k, x, f1, f2⟩ := hcol.2 j v (by rw [← Array.getElem?_toList]; exact hv)
    have f3 : (ents.map (·.1))[j]? = some k := by rw [List.getElem?_map, f1]; rfl
    rw [ek, List.getElem?_map] at f3
    cases f4 : ks[j]? with
    | none => rw [f4] at f3; cases f3
    | some y =>
      rw [f4] at f3
      cases (Option.some.inj f3 : Sum.inl y = k)
      rcases keyIs_shape (show keyIs (Sum.inl y) v = true from f2) with ⟨i, t, g1, g2⟩ | ⟨_, _, g1, _⟩
      · cases g1; exact ⟨y, t, rfl, g2⟩
      · cases g1
  have J : Inv X pins σ H { s with heap := g, toks := tk } := I.kept kept
  have cz : col.toList.length ≤ sizeLine := by rw [cl, sizeLine_eq]; omega
  refine wpAny_bind (wpAny_newList ?_ cz)
  have top : (g.push (seqObj "list" col.toList.toArray 0)).get? g.objs.size = some (seqObj "list" col.toList.toArray 0) := Heap.get?_push_size _ rfl
  change wpAny _ _ _ _ _ { s with heap := g.push (seqObj "list" col.toList.toArray 0), toks := tk }
  refine wpAny_bind (wpAny_holding (wpAny_call_entry slot_list_sort ⟨_, top, rfl⟩ entry_list_sort
    (SrtO.list_sort_ord SrtO.swo_int top cz (fun two => SrtO.ints_sortable ci two) fun out sorted stable => ⟨.none, rfl, ?_⟩) (args_list_sort _)))
  obtain ⟨o1, o2, o3⟩ := SrtO.ints_out ci sorted stable
  obtain ⟨ep1, at1⟩ := sortedHeap_at (vs := col.toList) (out := out.toArray) top
  have ol : ((out.map SrtO.iv).map V.int).length ≤ sizeLine := by
    have ol1 := o2.length_eq
    rw [List.length_map, ol1, ← cl]
    exact cz
  refine wpAny_pure ⟨_, rfl, .ref g.objs.size, upd H g.objs.size (.lst ((out.map SrtO.iv).map V.int)), J.laid (t' := tk) (fun b u hu => ?_) (Nat.le_refl _) ⟨ol, out, ep1, vals_of_ints o1, at1⟩, rfl, q _ _ o2 o3 (J.hok.fresh (Nat.le_refl _))⟩
  have lt : b < g.objs.size := Heap.lt_size hu
  rw [sortedHeap_old (Nat.ne_of_lt lt) (by rw [size_push']; exact Nat.lt_succ_of_lt lt)]
  exact Heap.get?_push_of_some _ hu
/-- sorted(t), t a tuple of whole numbers -/
def rSortT (K : PySem.W.Frag) : List V → Hp → VK → Prop := fun xs H Q => ∃ (a : Addr) (ks : List Int), xs = [.ref a] ∧ SqT K H a (ks.map V.int) ∧ ks.length ≤ 1000000 ∧
  ∀ (ms : List Int) (p : Addr), ms.Perm ks → ms.Pairwise (· ≤ ·) → H p = none → Q (.ref p) (upd H p (.lst (ms.map V.int)))
theorem cr_sortT {X : Cx} : CallR X (.builtin "sorted") (rSortT X.K) := by
  intro pins s σ H xs us Q I r given
  obtain ⟨d, ks, rfl, hq, small, q⟩ := given
  obtain ⟨u0, rfl, ru⟩ := vals1 r
  cases ru
  obtain ⟨its, rv, pl, hz⟩ := I.tuple hq
  have ci : IntsAre its ks := by simpa using RZ.intsAre_vals rv
  have cl : its.length = ks.length := IntsAre.length ci
  refine Calls.call_function_entry kind_sorted plain_sorted entry_sorted (args_sorted1 _) ?_
  unfold Builtin.«sorted»
  refine wpAny_bind (m := checkCount "sorted" 1 1 _) (wpAny_pure ?_)
  obtain ⟨o, ho, hc, n, hd⟩ := pl
  have cz : its.length ≤ sizeLine := by rw [cl, sizeLine_eq]; omega
  refine wpAny_bind (wpAny_collect_seq d (.inr rfl) ho hc hd (fun g kept => ?_) (by rw [List.size_toArray]; exact cz))
  have J : Inv X pins σ H { s with heap := g, toks := s.toks } := I.kept kept
  refine wpAny_bind (wpAny_newList ?_ cz)
  have top : (g.push (seqObj "list" its.toArray 0)).get? g.objs.size = some (seqObj "list" its.toArray 0) := Heap.get?_push_size _ rfl
  change wpAny _ _ _ _ _ { s with heap := g.push (seqObj "list" its.toArray 0) }
  refine wpAny_bind (wpAny_holding (wpAny_call_entry slot_list_sort ⟨_, top, rfl⟩ entry_list_sort
    (SrtO.list_sort_ord SrtO.swo_int top cz (fun two => SrtO.ints_sortable ci two) fun out sorted stable => ⟨.none, rfl, ?_⟩) (args_list_sort _)))
  obtain ⟨o1, o2, o3⟩ := SrtO.ints_out ci sorted stable
  obtain ⟨ep1, at1⟩ := sortedHeap_at (vs := its) (out := out.toArray) top
  have ol : ((out.map SrtO.iv).map V.int).length ≤ sizeLine := by
    have ol1 := o2.length_eq
    rw [List.length_map, ol1, ← cl]
    exact cz
  refine wpAny_pure ⟨_, rfl, .ref g.objs.size, upd H g.objs.size (.lst ((out.map SrtO.iv).map V.int)), J.laid (t' := s.toks) (fun b u hu => ?_) (Nat.le_refl _) ⟨ol, out, ep1, vals_of_ints o1, at1⟩, rfl, q _ _ o2 o3 (J.hok.fresh (Nat.le_refl _))⟩
  have lt : b < g.objs.size := Heap.lt_size hu
  rw [sortedHeap_old (Nat.ne_of_lt lt) (by rw [size_push']; exact Nat.lt_succ_of_lt lt)]
  exact Heap.get?_push_of_some _ hu
/-! len(set(xs)) -/
theorem nodup_le : ∀ {l1 l2 : List Int}, l1.Nodup → (∀ x, x ∈ l1 → x ∈ l2) → l1.length ≤ l2.length
  | [], _, _, _ => Nat.zero_le _
  | x :: l1, l2, h, s => by
    rw [List.nodup_cons] at h
    have hx := s x List.mem_cons_self
    have ih := nodup_le (l2 := l2.erase x) h.2 fun y hy => (List.mem_erase_of_ne (fun z => h.1 (by rw [← z]; exact hy))).mpr (s y (List.mem_cons_of_mem _ hy))
    rw [List.length_erase_of_mem hx] at ih
    have := List.length_pos_of_mem hx
    simp
    omega
theorem asc_nodup {l : List Int} (h : l.Pairwise (· < ·)) : l.Nodup := h.imp fun {a b} h => by omega
def tLenS (K : PySem.W.Frag) (ta : TE) : TE := fun σ H Q => ta σ H fun x H1 => ∃ (l : Addr) (ns : List Int), x = .ref l ∧ (SqL K H1 l (ns.map V.int) ∨ SqT K H1 l (ns.map V.int)) ∧ ns.length ≤ 1000 ∧ Q (.int ((ascOf ns).length : Nat)) H1
theorem pe_lenS {X : Cx} {a : Expr} {ta : TE} {p p2 q pos : Pos} (hc : X.calm = true) (hg : Gl X "len") (hm : X.mg "len" = none) (hg2 : Gl X "set") (hm2 : X.mg "set" = none) (ha : PE X a ta)
    (na : starEach [a] X.env = (false, eval a X.env) :: starEach [] X.env := by rfl) : PE X (.Call (.Name "len" p) [.Call (.Name "set" p2) [a] [] q] [] pos) (tLenS X.K ta) := by
  refine ⟨fun pins s σ H Q I h => ?_⟩
  refine Call_ (ld_blt I hg hm boot_len ?_)
  refine callWith_builtin1 (args_cons ?_ rfl) rfl rfl
  refine Call_ (ld_blt I hg2 hm2 boot_set ?_)
  refine callWith_type1 (args_cons (thn (ha.run pins s σ H _ I h) fun v s1 ⟨x, H1, I1, r1, q1⟩ => args_nil ?_) na) na rfl
  obtain ⟨l, ns, rfl, hq, hl, q1⟩ := q1
  cases r1
  have fin : ∀ (g : Heap) (tk c : Nat), SetR X.w g s1.heap.objs.size (fun j => decide (j ∈ ns)) c → c ≤ ns.length → (∀ b o, s1.heap.get? b = some o → g.get? b = some o) →
      wpAny (model X.prog X.w) X.A (call (.builtin "len") [.ref s1.heap.objs.size]) (EP X pins σ Q) X.xe { s1 with heap := g, toks := tk } := by
    intro g tk c R hle kp
    have I2 : Inv X pins σ H1 { s1 with heap := g, toks := tk } := I1.kept fun b o e => kp b o e
    obtain ⟨o, es, ep, t, ho, hex, hd, _, nd, mem, _, hf, hn, _⟩ := R
    have e1 : es.size = (ascOf ns).length := by
      have a := nodup_le nd (l2 := ascOf ns) fun x hx => (ascOf_mem x ns).mpr (of_decide_eq_true ((mem x).mpr hx))
      have b := nodup_le (asc_nodup (ascOf_asc ns)) fun x hx => (mem x).mp (decide_eq_true ((ascOf_mem x ns).mp hx))
      rw [List.length_map, Array.length_toList] at a b
      exact Nat.le_antisymm a b
    exact call_len_set ho hex hd hf (by rw [hn]; omega) ⟨.int ((ascOf ns).length : Nat), H1, I2.tok _, ⟨_, by rw [e1]⟩, q1⟩
  rcases hq with hq | hq
  · obtain ⟨its, r, pl, hz⟩ := I1.list hq
    refine set_of_ints ns (I1.ok.hd hc) pl.isList (by simpa using RZ.intsAre_vals r) (by unfold scanBound; omega) fun g tk c R hc kp => ?_
    exact args_nil (fin g tk c R hc kp)
  · obtain ⟨its, r, pl, hz⟩ := I1.tuple hq
    refine call_set_tupI ns (I1.ok.hd hc) pl (by simpa using RZ.intsAre_vals r) (by unfold scanBound; omega) fun g tk c R hc kp => ?_
    exact args_nil (fin g tk c R hc kp)
theorem sorted_big {X : Cx} {A : Around} {s : Shared} {E : Value → Shared → Prop} {a : Addr} {S : Int → Bool} {n : Nat} {Q : Value → Shared → Prop} (R : SetR X.w s.heap a S n) (hh : A.handled = none) (small : n ≤ 1000)
    (given : ∀ (t : Shared) (p : Addr) (out : List Value) (c : Nat) (ms : List Int), (∀ b u, s.heap.get? b = some u → t.heap.get? b = some u) → t.gens = s.gens → t.os = s.os → s.heap.objs.size ≤ p → t.heap.get? p = some (seqObj "list" out.toArray c) → IntsAre out ms → ms.Pairwise (· < ·) → (∀ k, k ∈ ms ↔ S k = true) → ms.length = n → Q (.ref p) t) :
    wpAny (model X.prog X.w) A (call (.builtin "sorted") [.ref a]) Q E s := by
  obtain ⟨o, es, ep, t0, so, sx, sd, each, once, inS, bound, form, cnt, room, line⟩ := R
  refine Calls.call_function_entry kind_sorted plain_sorted entry_sorted (args_sorted1 _) ?_
  unfold Builtin.«sorted»
  refine wpAny_bind (m := checkCount "sorted" 1 1 _) (wpAny_pure ?_)
  refine wpAny_bind (collect_set (A := A.in1) hh ⟨o, so, sx.1, sd⟩ form bound room line fun s1 vs old above gens1 os1 perm => ?_)
  have lv : vs.length = n := perm.length_eq.trans (by rw [List.length_map, Array.length_toList]; exact cnt)
  have iv : IntsAre vs (vs.map Builtin.Re.reRawOf) := ints_of vs fun v hv => by
    obtain ⟨e, he, rfl⟩ := List.mem_map.mp (perm.mem_iff.mp hv)
    obtain ⟨k, tk, z, _⟩ := each e he
    exact ⟨k, tk, z⟩
  have keys : (vs.map Builtin.Re.reRawOf).Perm (es.toList.map L2.keyOf) := (perm.map Builtin.Re.reRawOf).trans (by rw [List.map_map]; exact List.Perm.refl _)
  have cz : vs.length ≤ sizeLine := by rw [lv, sizeLine_eq]; omega
  refine wpAny_bind (wpAny_newList ?_ cz)
  have top : (s1.heap.push (seqObj "list" vs.toArray 0)).get? s1.heap.objs.size = some (seqObj "list" vs.toArray 0) := Heap.get?_push_size _ rfl
  refine wpAny_bind (wpAny_holding (wpAny_call_entry slot_list_sort ⟨_, top, rfl⟩ entry_list_sort
    (SrtO.list_sort_ord SrtO.swo_int top cz (fun two => SrtO.ints_sortable iv two) fun out sorted stable => ⟨.none, rfl, ?_⟩) (args_list_sort _)))
  obtain ⟨o1, o2, o3⟩ := SrtO.ints_out iv sorted stable
  obtain ⟨ep1, at1⟩ := sortedHeap_at (vs := vs) (out := out.toArray) top
  have o4 := o2.trans keys
  refine wpAny_pure ⟨_, rfl, given _ s1.heap.objs.size out ep1 _ (fun b u hu => ?_) gens1 os1 above at1 o1 (lt_of_le_nodup _ o3 (o4.nodup_iff.mpr once)) (fun k => by rw [o4.mem_iff, ← inS k]) (by rw [o4.length_eq, List.length_map, Array.length_toList]; exact cnt)⟩
  have was := old b u hu
  have lt := Heap.lt_size was
  rw [sortedHeap_old (Nat.ne_of_lt lt) (by rw [size_push']; exact Nat.lt_succ_of_lt lt)]
  exact Heap.get?_push_of_some _ was
/-- sorted(set(xs)), a list or a tuple of whole numbers -/
def tAsc (K : PySem.W.Frag) (ta : TE) : TE := fun σ H Q => ta σ H fun x H1 => ∃ (l : Addr) (ns : List Int), x = .ref l ∧ (SqL K H1 l (ns.map V.int) ∨ SqT K H1 l (ns.map V.int)) ∧ ns.length ≤ 1000 ∧
  ∀ p, H1 p = none → Q (.ref p) (upd H1 p (.lst ((ascOf ns).map V.int)))
theorem pe_asc {X : Cx} {a : Expr} {ta : TE} {p p2 q pos : Pos} (hc : X.calm = true) (hg : Gl X "sorted") (hm : X.mg "sorted" = none) (hg2 : Gl X "set") (hm2 : X.mg "set" = none) (ha : PE X a ta)
    (na : starEach [a] X.env = (false, eval a X.env) :: starEach [] X.env := by rfl) : PE X (.Call (.Name "sorted" p) [.Call (.Name "set" p2) [a] [] q] [] pos) (tAsc X.K ta) := by
  refine ⟨fun pins s σ H Q I h => ?_⟩
  refine Call_ (ld_blt I hg hm boot_sorted ?_)
  refine callWith_builtin1 (args_cons ?_ rfl) rfl rfl
  refine Call_ (ld_blt I hg2 hm2 boot_set ?_)
  refine callWith_type1 (args_cons (thn (ha.run pins s σ H _ I h) fun v s1 ⟨x, H1, I1, r1, q1⟩ => args_nil ?_) na) na rfl
  obtain ⟨l, ns, rfl, hq, hl, q1⟩ := q1
  cases r1
  have fin : ∀ (g : Heap) (tk c : Nat), SetR X.w g s1.heap.objs.size (fun j => decide (j ∈ ns)) c → c ≤ ns.length → (∀ b o, s1.heap.get? b = some o → g.get? b = some o) →
      wpAny (model X.prog X.w) X.A (call (.builtin "sorted") [.ref s1.heap.objs.size]) (EP X pins σ Q) X.xe { s1 with heap := g, toks := tk } := by
    intro g tk c R hle kp
    have I2 : Inv X pins σ H1 { s1 with heap := g, toks := tk } := I1.kept fun b o e => kp b o e
    refine sorted_big R (I2.ok.hd hc) (by omega) fun t pn out cc ms k gg o hp hgt hi hs hm hlen => ?_
    have e1 : ms = ascOf ns := asc_eq hs (ascOf_asc ns) fun z => by rw [hm z, ascOf_mem, decide_eq_true_iff]
    have few : (ms.map V.int).length ≤ sizeLine := by rw [List.length_map, hlen, sizeLine_eq]; omega
    have hn : H1 pn = none := I2.hok.fresh hp
    have J : Inv X pins σ (upd H1 pn (.lst (ms.map V.int))) { ({ s1 with heap := g, toks := tk } : Shared) with heap := t.heap, gens := t.gens, drawn := t.drawn, toks := t.toks } :=
      I2.call (ch := []) (Un.laid k hp hn) (I2.hok.laid k hp ⟨few, out, cc, vals_of_ints hi, hgt⟩) (by rw [gg]; exact I2.bare) (fun _ z => nomatch z)
    have e2 : t = { s1 with heap := t.heap, gens := t.gens, drawn := t.drawn, toks := t.toks } := by
      cases t
      cases o
      rfl
    rw [e2]
    refine ⟨.ref pn, _, J, rfl, ?_⟩
    rw [e1]
    exact q1 pn hn
  rcases hq with hq | hq
  · obtain ⟨its, r, pl, hz⟩ := I1.list hq
    refine set_of_ints ns (I1.ok.hd hc) pl.isList (by simpa using RZ.intsAre_vals r) (by unfold scanBound; omega) fun g tk c R hc kp => ?_
    exact args_nil (fin g tk c R hc kp)
  · obtain ⟨its, r, pl, hz⟩ := I1.tuple hq
    refine call_set_tupI ns (I1.ok.hd hc) pl (by simpa using RZ.intsAre_vals r) (by unfold scanBound; omega) fun g tk c R hc kp => ?_
    exact args_nil (fin g tk c R hc kp)
end Ev
end
set_option Elab.async false
set_option linter.all false
set_option maxRecDepth 100000
/-! EvP: things of one, two, three parts. -/
noncomputable section
namespace Ev
open PySem L2 PyProof.Rows
theorem base_obj {o : Expr} {nm : Str} {env : Env} (h : isObj o = true) : attributeBase o nm env (eval o env) = eval o env := by
  cases o <;> first | rfl | (simp [isObj] at h; done) | (rename_i f as ks p; cases f <;> first | rfl | (simp [isObj] at h; done) | (cases as <;> first | rfl | (simp [isObj] at h; done)))
section
variable {K : PySem.W.Frag} {C : Nat → Addr} {c0 c : Cn} {H0 H : Hp} {S : Store} {ρ : Loc} {σ : L2.St}
/-- an object of the store is written -/
theorem At.put (A : At K C c0 H0 c S ρ σ H) {l : Nat} {a : Addr} (hl : c.m[l]? = some a) {o : HO} {po : PO} (h : Tr c H c (upd H a o) → RO c (upd H a o) a po) : At K C c0 H0 c (S.set l po) ρ σ (upd H a o) := by
  obtain ⟨u, hu, hi⟩ := A.rel.alive (List.mem_of_getElem? hl)
  obtain ⟨R, t⟩ := A.rel.write hl (h (Tr.write (List.mem_of_getElem? hl) hu hi))
  exact ⟨A.K0, A.C0, A.tr.trans t, R, A.loc.tr t⟩
theorem At.putL (A : At K C c0 H0 c S ρ σ H) {l : Nat} {a : Addr} (hl : c.m[l]? = some a) {ys : List PV} {ws : List V} (h : RVs c H ys ws) : At K C c0 H0 c (S.set l (.lst ys)) ρ σ (upd H a (.lst ws)) :=
  A.put hl fun t => ⟨ws, upd_same, RNs.tr t h⟩
/-- a new thing is settled -/
theorem At.settle (A : At K C c0 H0 c S ρ σ H) {v : PV} {x : V} {fp : List Addr} (h : RN c H v x fp) (fr : ∀ a, a ∈ fp → H0 a = none) (L : RLs c0 H0 ρ σ) : ∃ c', At K C c0 H0 c' S ρ σ H ∧ RV c' H (Ev.frz v) x ∧ c'.m = c.m ∧ (∀ {xs : List PV} {vs : List V}, RVs c H xs vs → RVs c' H xs vs) := by
  have hA : ∀ a, a ∈ fp → NewAt c H a := h.newAt
  have t := A.tr.ext (Cn.frz_ext hA) fr
  exact ⟨c.frz H fp, ⟨A.K0, A.C0, t, A.rel.frz hA, L.tr t⟩, RN.frz hA h fun a h => h, rfl, fun r => r.ext (Cn.frz_ext hA)⟩
theorem RVs.take {xs : List PV} {vs : List V} (n : Nat) (h : RVs c H xs vs) : RVs c H (xs.take n) (vs.take n) := by
  obtain ⟨g, r, s⟩ := RNs.take n h
  rw [List.sublist_nil.mp s] at r
  exact r
theorem RVs.drop {xs : List PV} {vs : List V} (n : Nat) (h : RVs c H xs vs) : RVs c H (xs.drop n) (vs.drop n) := by
  obtain ⟨g, r, s⟩ := RNs.drop n h
  rw [List.sublist_nil.mp s] at r
  exact r
theorem RVs.dropLast {xs : List PV} {vs : List V} (h : RVs c H xs vs) : RVs c H xs.dropLast vs.dropLast := by
  rw [List.dropLast_eq_take, List.dropLast_eq_take, RNs.length h]
  exact RVs.take _ h
theorem RVs.append {xs ys : List PV} {vs ws : List V} (h : RVs c H xs vs) (h2 : RVs c H ys ws) : RVs c H (xs ++ ys) (vs ++ ws) := RNs.append h h2
theorem RVs.erase {xs : List PV} {vs : List V} (n : Nat) (h : RVs c H xs vs) : RVs c H (xs.eraseIdx n) (vs.eraseIdx n) := by
  rw [List.eraseIdx_eq_take_drop_succ, List.eraseIdx_eq_take_drop_succ]
  exact (RVs.take n h).append (RVs.drop _ h)
theorem RVs.one {x : PV} {v : V} (h : RV c H x v) : RVs c H [x] [v] := ⟨v, [], [], [], rfl, h, ⟨rfl, rfl⟩, rfl⟩
theorem ints_rn : ∀ ns : List Int, RVs c H (ns.map .int) (ns.map V.int)
  | [] => ⟨rfl, rfl⟩
  | n :: ns => ⟨_, _, [], [], rfl, ⟨rfl, rfl⟩, ints_rn ns, rfl⟩
theorem refL_is {x : PV} (h : refL S x = true) : ∃ l xs, x = .ref l ∧ S[l]? = some (.lst xs) := by
  unfold refL at h
  split at h
  · split at h
    · rename_i e
      exact ⟨_, _, rfl, e⟩
    · cases h
  · cases h
theorem ref_at {l : Nat} {v : V} {fp : List Addr} {c' : Cn} {H' : Hp} {a : Addr} (h : RN c H (.ref l) v fp) (t : Tr c H c' H') (e : v = .ref a) : c'.m[l]? = some a := by
  have h := h.tr t
  simp only [RN] at h
  obtain ⟨b, h1, h2, _⟩ := h
  rw [e] at h2
  cases h2
  exact h1
end
section
variable {X : Cx} {G : GT} {W : WX} {N : List Str} {sc : Scope}
theorem insI_mem (a x : Int) : ∀ l : List Int, x ∈ insI a l ↔ x = a ∨ x ∈ l
  | [] => by simp [insI]
  | b :: r => by
    unfold insI
    split
    · simp
    · rw [List.mem_cons, insI_mem a x r, List.mem_cons]
      constructor
      · rintro (h | h | h)
        · exact .inr (.inl h)
        · exact .inl h
        · exact .inr (.inr h)
      · rintro (h | h | h)
        · exact .inr (.inl h)
        · exact .inl h
        · exact .inr (.inr h)
theorem insI_perm (a : Int) : ∀ l : List Int, (insI a l).Perm (a :: l)
  | [] => List.Perm.refl _
  | b :: r => by
    unfold insI
    split
    · exact List.Perm.refl _
    · exact ((insI_perm a r).cons b).trans (List.Perm.swap a b r)
theorem insI_asc (a : Int) : ∀ l : List Int, l.Pairwise (· ≤ ·) → (insI a l).Pairwise (· ≤ ·)
  | [], _ => by simp [insI]
  | b :: r, h => by
    unfold insI
    have hb := List.pairwise_cons.mp h
    split
    · rename_i c
      exact List.pairwise_cons.mpr ⟨fun y hy => by
        rcases List.mem_cons.mp hy with rfl | hy
        · exact c
        · exact Int.le_trans c (hb.1 y hy), h⟩
    · rename_i c
      refine List.pairwise_cons.mpr ⟨fun y hy => ?_, insI_asc a r hb.2⟩
      rcases (insI_mem a y r).mp hy with rfl | hy
      · omega
      · exact hb.1 y hy
theorem sortI_perm : ∀ l : List Int, (sortI l).Perm l
  | [] => List.Perm.refl _
  | a :: r => (insI_perm a _).trans ((sortI_perm r).cons a)
theorem sortI_asc : ∀ l : List Int, (sortI l).Pairwise (· ≤ ·)
  | [] => List.Pairwise.nil
  | a :: r => insI_asc a _ (sortI_asc r)
theorem sorted_eq {a ns : List Int} (h1 : a.Perm ns) (h2 : a.Pairwise (· ≤ ·)) : a = sortI ns :=
  List.Perm.eq_of_pairwise (le := (· ≤ ·)) (fun x y _ _ p q => Int.le_antisymm p q) h2 (sortI_asc ns) (h1.trans (sortI_perm ns).symm)
theorem maxI_spec : ∀ (ns : List Int) (n : Int), maxI n ns ∈ n :: ns ∧ ∀ y, y ∈ n :: ns → y ≤ maxI n ns
  | [], n => by simp [maxI]
  | m :: r, n => by
    have key : ∀ k, n ≤ k → m ≤ k → (k = n ∨ k = m) → (maxI k r ∈ n :: m :: r ∧ ∀ y, y ∈ n :: m :: r → y ≤ maxI k r) := fun k h1 h2 h3 => by
      obtain ⟨a, b⟩ := maxI_spec r k
      have b0 := b k List.mem_cons_self
      refine ⟨?_, fun y hy => ?_⟩
      · rcases List.mem_cons.mp a with a | a
        · rw [a]
          rcases h3 with rfl | rfl
          · exact List.mem_cons_self
          · exact List.mem_cons_of_mem _ List.mem_cons_self
        · exact List.mem_cons_of_mem _ (List.mem_cons_of_mem _ a)
      · rcases List.mem_cons.mp hy with rfl | hy
        · omega
        · rcases List.mem_cons.mp hy with rfl | hy
          · omega
          · exact b y (List.mem_cons_of_mem _ hy)
    unfold maxI
    split
    · exact key m (by omega) (by omega) (.inr rfl)
    · exact key n (by omega) (by omega) (.inl rfl)
theorem minI_spec : ∀ (ns : List Int) (n : Int), minI n ns ∈ n :: ns ∧ ∀ y, y ∈ n :: ns → minI n ns ≤ y
  | [], n => by simp [minI]
  | m :: r, n => by
    have key : ∀ k, k ≤ n → k ≤ m → (k = n ∨ k = m) → (minI k r ∈ n :: m :: r ∧ ∀ y, y ∈ n :: m :: r → minI k r ≤ y) := fun k h1 h2 h3 => by
      obtain ⟨a, b⟩ := minI_spec r k
      have b0 := b k List.mem_cons_self
      refine ⟨?_, fun y hy => ?_⟩
      · rcases List.mem_cons.mp a with a | a
        · rw [a]
          rcases h3 with rfl | rfl
          · exact List.mem_cons_self
          · exact List.mem_cons_of_mem _ List.mem_cons_self
        · exact List.mem_cons_of_mem _ (List.mem_cons_of_mem _ a)
      · rcases List.mem_cons.mp hy with rfl | hy
        · omega
        · rcases List.mem_cons.mp hy with rfl | hy
          · omega
          · exact b y (List.mem_cons_of_mem _ hy)
    unfold minI
    split
    · exact key m (by omega) (by omega) (.inr rfl)
    · exact key n (by omega) (by omega) (.inl rfl)
theorem maxI_eq {ns : List Int} {n m : Int} (h1 : m ∈ n :: ns) (h2 : ∀ y, y ∈ n :: ns → y ≤ m) : m = maxI n ns := Int.le_antisymm ((maxI_spec ns n).2 m h1) (h2 _ (maxI_spec ns n).1)
theorem minI_eq {ns : List Int} {n m : Int} (h1 : m ∈ n :: ns) (h2 : ∀ y, y ∈ n :: ns → m ≤ y) : m = minI n ns := Int.le_antisymm (h2 _ (minI_spec ns n).1) ((minI_spec ns n).2 m h1)
theorem keysI_V {c : Cn} {H : Hp} : ∀ {kvs : List (Key × PV)} {vs : List (Key × V)} {ns : List Int}, keysI kvs = some ns → RVk c H kvs vs → vs.map (·.1) = ns.map Sum.inl
  | [], _, _, h, .nil => by cases h; rfl
  | (k, x) :: kvs, q :: _, _, h, .cons h1 t => by
    cases k with
    | inr _ => cases h
    | inl i =>
      simp only [keysI] at h
      obtain ⟨ms, h3, rfl⟩ := Option.map_eq_some_iff.mp h
      rw [List.map_cons, List.map_cons, keysI_V h3 t, ← h1.1]
theorem keys_rn {c : Cn} {H : Hp} : ∀ {kvs : List (Key × PV)} {vs : List (Key × V)}, RVk c H kvs vs → RNs c H (kvs.map fun kv => keyPV kv.1) (vs.map fun kv => kV kv.1) []
  | [], _, .nil => ⟨rfl, rfl⟩
  | (k, x) :: kvs, q :: _, .cons h1 t => by
    refine ⟨_, _, [], [], rfl, ?_, keys_rn t, rfl⟩
    show RN c H (keyPV k) (kV q.1) []
    rw [← h1.1]
    cases k <;> simp [keyPV, kV, RN]
theorem RVk.length2 {κ : Type} {c : Cn} {H : Hp} : ∀ {kvs : List (κ × PV)} {vs : List (κ × V)}, RVk c H kvs vs → kvs.length = vs.length
  | [], _, .nil => rfl
  | _ :: _, _, .cons _ t => by simp [RVk.length2 t]
theorem vals_rn {κ : Type} {c : Cn} {H : Hp} : ∀ {kvs : List (κ × PV)} {vs : List (κ × V)}, RVk c H kvs vs → RNs c H (kvs.map (·.2)) (vs.map (·.2)) []
  | [], _, .nil => ⟨rfl, rfl⟩
  | _ :: _, _, .cons h1 t => ⟨_, _, [], [], rfl, h1.2, vals_rn t, rfl⟩
theorem zip_rvk2 {κ : Type} {c : Cn} {H : Hp} : ∀ {kvs : List (κ × PV)} {vs : List (κ × V)}, RVk c H kvs vs → (kvs.map (·.1)).zip (vs.map (·.2)) = vs
  | [], _, .nil => rfl
  | _ :: _, _, .cons h1 t => by
    rw [List.map_cons, List.map_cons, List.zip_cons_cons, zip_rvk2 t, h1.1]
theorem dKn_fin {c : Cn} {S : Store} {H : Hp} {A : List Addr} {Q : VK} {ks : List Key} {xs : List PV} {vs : List V} (k : Fin c S H A (.dK .new ks xs) Q) (R : Rel c S H) (h : RNs c H xs vs []) (hl : ks.length = vs.length) {p : Addr} (hp : H p = none) : Q (.ref p) (upd H p (.dK (ks.zip vs))) := by
  refine k c (upd H p (.dK (ks.zip vs))) (.ref p) [p] (Tr.fresh hp) (R.fresh hp) ?_ (by simp) fun q hq => ?_
  · simp only [RN]
    exact ⟨p, vs, [], rfl, ⟨upd_same, R.new hp⟩, hl, h.tr (Tr.fresh hp), own_new.symm, .inl trivial⟩
  · rw [List.mem_singleton.mp hq]
    exact .inr hp
theorem pairedApp {α β : Type} {F : α → β → Prop} : ∀ {xs ys : List α} {us ws : List β}, Paired F xs us → Paired F ys ws → Paired F (xs ++ ys) (us ++ ws)
  | [], _, _, _, .nil, h => h
  | _ :: _, _, _, _, .cons a t, h => .cons a (pairedApp t h)
theorem any_rvk {κ : Type} [DecidableEq κ] {c : Cn} {H : Hp} {k : κ} : ∀ {kvs : List (κ × PV)} {vs : List (κ × V)}, RVk c H kvs vs → (kvs.any fun kv => decide (kv.1 = k)) = (vs.any fun kv => decide (kv.1 = k))
  | [], _, .nil => rfl
  | p :: kvs, q :: vs, .cons h t => by rw [List.any_cons, List.any_cons, any_rvk t, h.1]
theorem map_rvk {κ : Type} [DecidableEq κ] {c : Cn} {H : Hp} {k : κ} {y : PV} {w : V} (hy : RV c H y w) : ∀ {kvs : List (κ × PV)} {vs : List (κ × V)}, RVk c H kvs vs → RVk c H (kvs.map fun kv => if kv.1 = k then (kv.1, y) else kv) (vs.map fun kv => if kv.1 = k then (kv.1, w) else kv)
  | [], _, .nil => .nil
  | p :: kvs, q :: vs, .cons h t => by
    rw [List.map_cons, List.map_cons]
    refine .cons ?_ (map_rvk hy t)
    by_cases e : p.1 = k
    · rw [if_pos e, if_pos (h.1.symm.trans e)]
      exact ⟨h.1, hy⟩
    · rw [if_neg e, if_neg (fun z => e (h.1.trans z))]
      exact h
theorem putK_rvk {κ : Type} [DecidableEq κ] {c : Cn} {H : Hp} {k : κ} {y : PV} {w : V} {kvs : List (κ × PV)} {vs : List (κ × V)} (hy : RV c H y w) (h : RVk c H kvs vs) : RVk c H (putP kvs k y) (putK vs k w) := by
  unfold putP putK
  rw [any_rvk h]
  split
  · exact map_rvk hy h
  · exact pairedApp h (.cons ⟨rfl, hy⟩ .nil)
/-- pairs of a list, each a tuple of two -/
theorem drop_rvk {κ : Type} [DecidableEq κ] {c : Cn} {H : Hp} {k : κ} : ∀ {kvs : List (κ × PV)} {vs : List (κ × V)}, RVk c H kvs vs → RVk c H (dropP kvs k) (dropK vs k)
  | _, _, .nil => .nil
  | p :: kvs, q :: vs, .cons h r => by
    have ih := drop_rvk (k := k) r
    unfold dropP dropK at ih ⊢
    rw [List.filter_cons, List.filter_cons, ← h.1]
    by_cases e : p.1 = k
    · simp only [e, ne_eq, not_true_eq_false, decide_false, Bool.false_eq_true, if_false]
      exact ih
    · simp only [e, ne_eq, not_false_eq_true, decide_true, if_true]
      exact .cons h ih
theorem refD_is {S : Store} {x : PV} (h : refD S x = true) : ∃ l kvs, x = .ref l ∧ S[l]? = some (.dK kvs) := by
  unfold refD at h
  split at h
  · split at h
    · exact ⟨_, _, rfl, by assumption⟩
    · cases h
  · cases h
theorem pairs_sound {c : Cn} {H : Hp} : ∀ {xs : List PV} {kvs : List (Key × PV)} {vs : List V} {g : List Addr}, pairsP xs = some kvs → RNs c H xs vs g → ∃ (ps : List Addr) (ws : List (Key × V)), vs = ps.map V.ref ∧ Paired (fun p kv => SqT c.K H p [kV kv.1, kv.2]) ps ws ∧ RVk c H kvs ws
  | [], kvs, vs, g, e, h => by
    cases e
    obtain ⟨rfl, _⟩ := h
    exact ⟨[], [], rfl, .nil, .nil⟩
  | x :: xs, kvs, vs, g, e, h => by
    unfold pairsP at e
    split at e
    · cases (‹_ :: _ = []› : _)
    · rename_i i v r z
      obtain ⟨rfl, rfl⟩ := List.cons.inj z
      split at e
      · rename_i fl
        cases q : pairsP xs with
        | none => rw [q] at e; cases e
        | some kvs' =>
          rw [q] at e
          cases e
          obtain ⟨w, r, f1, f2, rfl, h1, h2, _⟩ := h
          simp only [RN] at h1
          obtain ⟨a, us, rfl, sq, h1⟩ := h1
          obtain ⟨u1, r1, g1, g2, rfl, h3, h4, _⟩ := h1
          obtain ⟨u2, r2, g3, g4, rfl, h5, h6, _⟩ := h4
          obtain ⟨rfl, _⟩ := h6
          simp only [RN] at h3
          obtain ⟨rfl, _⟩ := h3
          have e3 := flat_nil fl h5
          subst e3
          obtain ⟨ps, ws, rfl, pp, rk⟩ := pairs_sound q h2
          exact ⟨a :: ps, (Sum.inl i, u2) :: ws, rfl, .cons sq pp, .cons ⟨rfl, h5⟩ rk⟩
      · cases e
    · cases e
theorem merge_rvk {c : Cn} {H : Hp} {kvs : List (Key × PV)} {ws : List (Key × V)} (h : RVk c H kvs ws) : RVk c H (mergeP kvs) (mergeK [] ws) := by
  unfold mergeP mergeK
  have : ∀ (acc : List (Key × PV)) (wc : List (Key × V)), RVk c H acc wc → RVk c H (kvs.foldl (fun acc kv => putP acc kv.1 kv.2) acc) (ws.foldl (fun acc kv => putK acc kv.1 kv.2) wc) := by
    induction h with
    | nil => exact fun _ _ a => a
    | @cons p q ps qs z t ih =>
      intro acc wc a
      rw [List.foldl_cons, List.foldl_cons]
      refine ih _ _ ?_
      rw [z.1]
      exact putK_rvk z.2 a
  exact this [] [] .nil
/-- list(range(..)) -/
theorem rng_fin {c0 c : Cn} {H0 H : Hp} {S : Store} {ρ : Loc} {σ : L2.St} {lo hi : Int} {W' : XK} {Q : VK} (A : At X.K G.C c0 H0 c S ρ σ H) (P : Post c0 H0 (ofP (rngP lo hi S)) W' Q) : RgOk lo hi ∧ ∀ q, H q = none → Q (.ref q) (upd H q (.lst (rgV lo hi))) := by
  unfold rngP at P
  split at P
  · rename_i hb
    refine ⟨⟨hb.1, hb.2.1, hb.2.2.1, hb.2.2.2.1, by omega⟩, fun q hq => ?_⟩
    have e : ((List.range (hi - lo).toNat).map fun (k : Nat) => PV.int (lo + (k : Int))) = ((List.range (hi - lo).toNat).map fun (k : Nat) => lo + (k : Int)).map .int := by rw [List.map_map]; rfl
    have e' : rgV lo hi = ((List.range (hi - lo).toNat).map fun (k : Nat) => lo + (k : Int)).map V.int := by unfold rgV; rw [List.map_map]; rfl
    have e2 : RNs c H ((List.range (hi - lo).toNat).map fun (k : Nat) => PV.int (lo + (k : Int))) (rgV lo hi) [] := by
      rw [e, e']
      exact ints_rn _
    exact (PostG.fin (A := []) P A fun _ h => nomatch h).lst A.rel e2 List.nodup_nil (fun _ h => nomatch h) hq
  · exact P.elim
theorem PostG.none_ {α β : Type} {rel : RelT α β} {c : Cn} {H : Hp} {W : XK} {Q : β → Hp → Prop} (P : PostG rel c H .fail W Q) : False := P
theorem tupOf_is {x : PV} {xs : List PV} (h : tupOf x = some xs) : x = .tup xs := by
  cases x <;> simp [tupOf] at h
  rw [h]
theorem s_p1 (g : GX X G) {o : O1} {a : E} {e x : Expr} {gs : List Str} (hs : X.env.scope = sc) (h : as1 o e = some (x, gs)) (hg : gs.all (isGl sc) = true) (hx : plainE x = true) (hp : PEx X G W a x) : PEx X G W (.p1 o a) e := by
  cases o with
  | pop =>
    simp only [as1] at h
    split at h <;> try (cases h; done)
    rename_i b y q
    split at h <;> cases h
    rename_i hy
    subst hy
    obtain ⟨ap, cp, rfl, h1, h2⟩ := asM0_eq q
    refine PE.mono' (pe_bm0 PySem.F.plainAttrs_list PySem.F.slot_list_pop PySem.F.type_list_pop mt_pop hp (base_obj h1) h2) fun σ H Q ⟨c, S, ρ, hK, hC, R, L, P⟩ => ?_
    refine At.step (At0 hK hC R L) P fun c1 S1 v x fp H1 _ A t rn nd fr P => ?_
    simp only [pr1] at P
    cases v with
    | ref l =>
      dsimp only at P
      split at P
      · rename_i xs hS
        cases hy : xs[xs.length - 1]? with
        | none => rw [hy] at P; exact P.elim
        | some y =>
          rw [hy] at P
          simp only [RN] at rn
          obtain ⟨a, hl, rfl, _⟩ := rn
          obtain ⟨vs, e1, e2⟩ := A.rel.obj l _ a hS hl
          obtain ⟨w, e3, e4⟩ := RVs.get e2 hy
          have hlen := RNs.length e2
          refine ⟨.inl ⟨rfl, _, SqL.of e1⟩, a, vs, w, rfl, rfl, e1, by rw [← hlen]; exact e3, ?_⟩
          obtain ⟨u, hu, hi⟩ := A.rel.alive (List.mem_of_getElem? hl)
          exact PostG.ret P (A.putL hl (RVs.dropLast e2)) (e4.tr (Tr.write (List.mem_of_getElem? hl) hu hi)) List.nodup_nil fun _ h => nomatch h
      · exact P.elim
    | _ => exact P.elim
  | clear =>
    simp only [as1] at h
    split at h <;> try (cases h; done)
    rename_i b y q
    split at h <;> cases h
    rename_i hy
    subst hy
    obtain ⟨ap, cp, rfl, h1, h2⟩ := asM0_eq q
    refine PE.mono' (pe_bm0 PySem.F.plainAttrs_list PySem.F.slot_list_clear PySem.F.type_list_clear mt_clear hp (base_obj h1) h2) fun σ H Q ⟨c, S, ρ, hK, hC, R, L, P⟩ => ?_
    refine At.step (At0 hK hC R L) P fun c1 S1 v x fp H1 _ A t rn nd fr P => ?_
    simp only [pr1] at P
    cases v with
    | ref l =>
      dsimp only at P
      split at P
      · rename_i xs hS
        simp only [RN] at rn
        obtain ⟨a, hl, rfl, _⟩ := rn
        obtain ⟨vs, e1, e2⟩ := A.rel.obj l _ a hS hl
        refine ⟨.inl ⟨rfl, _, SqL.of e1⟩, a, vs, rfl, rfl, e1, ?_⟩
        exact PostG.ret P (A.putL (ys := []) hl ⟨rfl, rfl⟩) (x := .non) (by simp [RN]) List.nodup_nil fun _ h => nomatch h
      · exact P.elim
    | _ => exact P.elim
  | asc =>
    simp only [as1] at h
    split at h <;> try (cases h; done)
    rename_i y z b q
    split at h <;> cases h
    rename_i hy
    obtain ⟨rfl, rfl⟩ := hy
    obtain ⟨p, q1, r, pos, rfl⟩ := asAsc_eq q
    simp only [List.all_cons, List.all_nil, Bool.and_true, Bool.and_eq_true] at hg
    refine PE.mono' (pe_asc g.calm (gl_of hs hg.1) (g.blt _ (by decide)) (gl_of hs hg.2) (g.blt _ (by decide)) hp (star_plain hx)) fun σ H Q ⟨c, S, ρ, hK, hC, R, L, P⟩ => ?_
    refine At.step (At0 hK hC R L) P fun c1 S1 v x fp H1 _ A t rn nd fr P => ?_
    simp only [pr1] at P
    split at P
    · rename_i xs hx
      split at P
      · rename_i ns hn
        split at P
        · rename_i h64
          obtain ⟨a, vs, g', rfl, h1, h2, _⟩ := rn.seq A.rel hx
          have e1 : vs = ns.map V.int := ints_V hn h2
          subst e1
          rw [A.K] at h1
          refine ⟨a, ns, rfl, h1, h64, fun p hp => ?_⟩
          have e2 : RNs c1 H1 ((ascOf ns).map .int) ((ascOf ns).map V.int) [] := ints_rn _
          exact (PostG.fin (A := []) P A fun _ h => nomatch h).lst A.rel e2 List.nodup_nil (fun _ h => nomatch h) hp
        · exact P.elim
      · exact P.elim
    · exact P.elim
  | intB =>
    simp only [as1] at h
    split at h <;> try (cases h; done)
    rename_i y b q
    split at h <;> cases h
    rename_i hy
    subst hy
    obtain ⟨p, pos, rfl⟩ := asCall1_eq q
    simp only [List.all_cons, List.all_nil, Bool.and_true] at hg
    have key : PE X (.Call (.Name ("int" : Str) p) [x] [] pos) (tCB _ (tCons (rdE X.K G.C (evE G.ce a) W) tNil)) := pe_callTy call_int1 (gl_of hs hg) (g.blt _ (by decide)) (by decide +kernel) (pa_cons hp pa_nil (star_plain hx)) (by decide +kernel) (by decide +kernel) (star_plain hx) (by rfl)
    refine PE.mono' key fun σ H Q ⟨c, S, ρ, hK, hC, R, L, P⟩ => ?_
    refine At.step (At0 hK hC R L) P fun c1 S1 v x fp H1 _ A t rn nd fr P => ?_
    simp only [pr1] at P
    cases v with
    | bl k =>
      simp only [RN] at rn
      obtain ⟨rfl, rfl⟩ := rn
      exact .inr ⟨k, rfl, PostG.ret P A (x := .int (if k then 1 else 0)) (by simp [RN]) List.nodup_nil fun _ h => nomatch h⟩
    | _ => exact P.elim
  | lr1 =>
    simp only [as1] at h
    split at h <;> try (cases h; done)
    rename_i y z b q
    split at h <;> cases h
    rename_i hy
    obtain ⟨rfl, rfl⟩ := hy
    obtain ⟨p, q1, r, pos, rfl⟩ := asAsc_eq q
    simp only [List.all_cons, List.all_nil, Bool.and_true, Bool.and_eq_true] at hg
    have key : PE X (.Call (.Name ("list" : Str) p) [.Call (.Name ("range" : Str) q1) [x] [] r] [] pos) (tLstRg (tRg1 (rdE X.K G.C (evE G.ce a) W))) := pe_listRg g.calm (gl_of hs hg.1) (g.blt _ (by decide)) (prg_1 (gl_of hs hg.2) (g.blt _ (by decide)) hp (star_plain hx)) rfl
    refine PE.mono' key fun σ H Q ⟨c, S, ρ, hK, hC, R, L, P⟩ => ?_
    refine At.step (At0 hK hC R L) P fun c1 S1 v x fp H1 _ A t rn nd fr P => ?_
    simp only [pr1] at P
    cases v with
    | int hi =>
      simp only [RN] at rn
      obtain ⟨rfl, rfl⟩ := rn
      exact ⟨hi, rfl, rng_fin A P⟩
    | _ => exact P.elim
  | sortT =>
    simp only [as1] at h
    split at h <;> try (cases h; done)
    rename_i y b q
    split at h <;> cases h
    rename_i hy
    subst hy
    obtain ⟨p, pos, rfl⟩ := asCall1_eq q
    simp only [List.all_cons, List.all_nil, Bool.and_true] at hg
    have key : PE X (.Call (.Name ("sorted" : Str) p) [x] [] pos) (tCB (rSortT X.K) (tCons (rdE X.K G.C (evE G.ce a) W) tNil)) := pe_callB cr_sortT (gl_of hs hg) (g.blt _ (by decide)) (by decide +kernel) (pa_cons hp pa_nil (star_plain hx)) (by decide +kernel) (by decide +kernel) (star_plain hx) (by rfl)
    refine PE.mono' key fun σ H Q ⟨c, S, ρ, hK, hC, R, L, P⟩ => ?_
    refine At.step (At0 hK hC R L) P fun c1 S1 v x fp H1 _ A t rn nd fr P => ?_
    simp only [pr1] at P
    split at P
    · rename_i xs hx
      split at P
      · rename_i ns hn
        split at P
        · rename_i hfew
          have hx := tupOf_is hx
          subst hx
          simp only [RN] at rn
          obtain ⟨a, vs, rfl, h1, h2⟩ := rn
          have e1 : vs = ns.map V.int := ints_V hn h2
          subst e1
          rw [A.K] at h1
          refine ⟨a, ns, rfl, h1, fewn hfew, fun ns' p hp1 hp2 hp => ?_⟩
          have e3 : ns' = sortI ns := sorted_eq hp1 hp2
          subst e3
          have e2 : RNs c1 H1 ((sortI ns).map .int) ((sortI ns).map V.int) [] := ints_rn _
          exact (PostG.fin (A := []) P A fun _ h => nomatch h).lst A.rel e2 List.nodup_nil (fun _ h => nomatch h) hp
        · exact P.elim
      · exact P.elim
    · exact P.elim
  | sortL =>
    simp only [as1] at h
    split at h <;> try (cases h; done)
    rename_i y b q
    split at h <;> cases h
    rename_i hy
    subst hy
    obtain ⟨p, pos, rfl⟩ := asCall1_eq q
    simp only [List.all_cons, List.all_nil, Bool.and_true] at hg
    have key : PE X (.Call (.Name ("sorted" : Str) p) [x] [] pos) (tCB (rSortedI X.K) (tCons (rdE X.K G.C (evE G.ce a) W) tNil)) := pe_callB cr_sortedI (gl_of hs hg) (g.blt _ (by decide)) (by decide +kernel) (pa_cons hp pa_nil (star_plain hx)) (by decide +kernel) (by decide +kernel) (star_plain hx) (by rfl)
    refine PE.mono' key fun σ H Q ⟨c, S, ρ, hK, hC, R, L, P⟩ => ?_
    refine At.step (At0 hK hC R L) P fun c1 S1 v x fp H1 _ A t rn nd fr P => ?_
    simp only [pr1] at P
    split at P
    · rename_i xs hx
      split at P
      · rename_i ns hn
        split at P
        · obtain ⟨a, vs, g', rfl, h1, h2, _⟩ := rn.lst A.rel hx
          have e1 : vs = ns.map V.int := ints_V hn h2
          subst e1
          rw [A.K] at h1
          refine ⟨a, ns, rfl, h1, fun ns' p hp1 hp2 hp => ?_⟩
          have e3 : ns' = sortI ns := sorted_eq hp1 hp2
          subst e3
          have e2 : RNs c1 H1 ((sortI ns).map .int) ((sortI ns).map V.int) [] := ints_rn _
          exact (PostG.fin (A := []) P A fun _ h => nomatch h).lst A.rel e2 List.nodup_nil (fun _ h => nomatch h) hp
        · exact P.elim
      · exact P.elim
    · exact P.elim
  | maxL =>
    simp only [as1] at h
    split at h <;> try (cases h; done)
    rename_i y b q
    split at h <;> cases h
    rename_i hy
    subst hy
    obtain ⟨p, pos, rfl⟩ := asCall1_eq q
    simp only [List.all_cons, List.all_nil, Bool.and_true] at hg
    have key : PE X (.Call (.Name ("max" : Str) p) [x] [] pos) (tCB (rMax X.K) (tCons (rdE X.K G.C (evE G.ce a) W) tNil)) := pe_callB (cr_max g.calm) (gl_of hs hg) (g.blt _ (by decide)) (by decide +kernel) (pa_cons hp pa_nil (star_plain hx)) (by decide +kernel) (by decide +kernel) (star_plain hx) (by rfl)
    refine PE.mono' key fun σ H Q ⟨c, S, ρ, hK, hC, R, L, P⟩ => ?_
    refine At.step (At0 hK hC R L) P fun c1 S1 v x fp H1 _ A t rn nd fr P => ?_
    simp only [pr1] at P
    split at P
    · rename_i xs hx
      split at P
      · rename_i n ns hn
        obtain ⟨a, vs, g', rfl, h1, h2, _⟩ := rn.lst A.rel hx
        have e1 : vs = (n :: ns).map V.int := ints_V hn h2
        subst e1
        rw [A.K] at h1
        refine ⟨a, n :: ns, rfl, h1, Nat.succ_pos _, fun m m1 m2 => ?_⟩
        have e3 : m = maxI n ns := maxI_eq m1 m2
        subst e3
        exact PostG.ret P A (x := .int (maxI n ns)) (by simp [RN]) List.nodup_nil fun _ h => nomatch h
      · exact P.elim
    · exact P.elim
  | minL =>
    simp only [as1] at h
    split at h <;> try (cases h; done)
    rename_i y b q
    split at h <;> cases h
    rename_i hy
    subst hy
    obtain ⟨p, pos, rfl⟩ := asCall1_eq q
    simp only [List.all_cons, List.all_nil, Bool.and_true] at hg
    have key : PE X (.Call (.Name ("min" : Str) p) [x] [] pos) (tCB (rMin X.K) (tCons (rdE X.K G.C (evE G.ce a) W) tNil)) := pe_callB (cr_min g.calm) (gl_of hs hg) (g.blt _ (by decide)) (by decide +kernel) (pa_cons hp pa_nil (star_plain hx)) (by decide +kernel) (by decide +kernel) (star_plain hx) (by rfl)
    refine PE.mono' key fun σ H Q ⟨c, S, ρ, hK, hC, R, L, P⟩ => ?_
    refine At.step (At0 hK hC R L) P fun c1 S1 v x fp H1 _ A t rn nd fr P => ?_
    simp only [pr1] at P
    split at P
    · rename_i xs hx
      split at P
      · rename_i n ns hn
        obtain ⟨a, vs, g', rfl, h1, h2, _⟩ := rn.lst A.rel hx
        have e1 : vs = (n :: ns).map V.int := ints_V hn h2
        subst e1
        rw [A.K] at h1
        refine ⟨a, n :: ns, rfl, h1, Nat.succ_pos _, fun m m1 m2 => ?_⟩
        have e3 : m = minI n ns := minI_eq m1 m2
        subst e3
        exact PostG.ret P A (x := .int (minI n ns)) (by simp [RN]) List.nodup_nil fun _ h => nomatch h
      · exact P.elim
    · exact P.elim
  | sortD =>
    simp only [as1] at h
    split at h <;> try (cases h; done)
    rename_i y b q
    split at h <;> cases h
    rename_i hy
    subst hy
    obtain ⟨p, pos, rfl⟩ := asCall1_eq q
    simp only [List.all_cons, List.all_nil, Bool.and_true] at hg
    have key : PE X (.Call (.Name ("sorted" : Str) p) [x] [] pos) (tCB (rSortD) (tCons (rdE X.K G.C (evE G.ce a) W) tNil)) := pe_callB (cr_sortD g.calm) (gl_of hs hg) (g.blt _ (by decide)) (by decide +kernel) (pa_cons hp pa_nil (star_plain hx)) (by decide +kernel) (by decide +kernel) (star_plain hx) (by rfl)
    refine PE.mono' key fun σ H Q ⟨c, S, ρ, hK, hC, R, L, P⟩ => ?_
    refine At.step (At0 hK hC R L) P fun c1 S1 v x fp H1 _ A t rn nd fr P => ?_
    simp only [pr1] at P
    split at P
    · rename_i kvs hx
      split at P
      · rename_i ns hn
        split at P
        · rename_i hf
          obtain ⟨a, vs, rfl, h1, h2⟩ := dK_sound A.rel rn hx
          refine ⟨a, vs, ns, rfl, .inl h1, keysI_V hn h2, of_decide_eq_true hf, fun ns' p hp1 hp2 hp => ?_⟩
          have e3 : ns' = sortI ns := sorted_eq hp1 hp2
          subst e3
          have e2 : RNs c1 H1 ((sortI ns).map .int) ((sortI ns).map V.int) [] := ints_rn _
          exact (PostG.fin (A := []) P A fun _ h => nomatch h).lst A.rel e2 List.nodup_nil (fun _ h => nomatch h) hp
        · exact P.elim
      · exact P.elim
    · exact P.elim
  | lstD =>
    simp only [as1] at h
    split at h <;> try (cases h; done)
    rename_i y b q
    split at h <;> cases h
    rename_i hy
    subst hy
    obtain ⟨p, pos, rfl⟩ := asCall1_eq q
    simp only [List.all_cons, List.all_nil, Bool.and_true] at hg
    have key : PE X (.Call (.Name ("list" : Str) p) [x] [] pos) (tCB _ (tCons (rdE X.K G.C (evE G.ce a) W) tNil)) := pe_callTy (call_listD g.calm) (gl_of hs hg) (g.blt _ (by decide)) (by decide +kernel) (pa_cons hp pa_nil (star_plain hx)) (by decide +kernel) (by decide +kernel) (star_plain hx) (by rfl)
    refine PE.mono' key fun σ H Q ⟨c, S, ρ, hK, hC, R, L, P⟩ => ?_
    refine At.step (At0 hK hC R L) P fun c1 S1 v x fp H1 _ A t rn nd fr P => ?_
    simp only [pr1] at P
    split at P
    · rename_i kvs hx
      split at P
      · obtain ⟨a, vs, rfl, h1, h2⟩ := dK_sound A.rel rn hx
        refine ⟨a, vs, rfl, .inl h1, fun p hp => ?_⟩
        exact (PostG.fin (A := []) P A fun _ h => nomatch h).lst A.rel (keys_rn h2) List.nodup_nil (fun _ h => nomatch h) hp
      · exact P.elim
    · exact P.elim
  | lenS =>
    simp only [as1] at h
    split at h <;> try (cases h; done)
    rename_i y z b q
    split at h <;> cases h
    rename_i hy
    obtain ⟨rfl, rfl⟩ := hy
    obtain ⟨p, q1, r, pos, rfl⟩ := asAsc_eq q
    simp only [List.all_cons, List.all_nil, Bool.and_true, Bool.and_eq_true] at hg
    refine PE.mono' (pe_lenS g.calm (gl_of hs hg.1) (g.blt _ (by decide)) (gl_of hs hg.2) (g.blt _ (by decide)) hp (star_plain hx)) fun σ H Q ⟨c, S, ρ, hK, hC, R, L, P⟩ => ?_
    refine At.step (At0 hK hC R L) P fun c1 S1 v x fp H1 _ A t rn nd fr P => ?_
    simp only [pr1] at P
    split at P
    · rename_i xs hx
      split at P
      · rename_i ns hn
        split at P
        · rename_i h64
          obtain ⟨a, vs, g', rfl, h1, h2, _⟩ := rn.seq A.rel hx
          have e1 : vs = ns.map V.int := ints_V hn h2
          subst e1
          rw [A.K] at h1
          refine ⟨a, ns, rfl, h1, h64, ?_⟩
          exact PostG.ret P A (x := .int ((ascOf ns).length : Nat)) (by simp [RN]) List.nodup_nil fun _ h => nomatch h
        · exact P.elim
      · exact P.elim
    · exact P.elim
  | lenD =>
    simp only [as1] at h
    split at h <;> try (cases h; done)
    rename_i y b q
    split at h <;> cases h
    rename_i hy
    subst hy
    obtain ⟨p, pos, rfl⟩ := asCall1_eq q
    simp only [List.all_cons, List.all_nil, Bool.and_true] at hg
    have key : PE X (.Call (.Name ("len" : Str) p) [x] [] pos) (tCB (_) (tCons (rdE X.K G.C (evE G.ce a) W) tNil)) := pe_callB (call_lenD) (gl_of hs hg) (g.blt _ (by decide)) (by decide +kernel) (pa_cons hp pa_nil (star_plain hx)) (by decide +kernel) (by decide +kernel) (star_plain hx) (by rfl)
    refine PE.mono' key fun σ H Q ⟨c, S, ρ, hK, hC, R, L, P⟩ => ?_
    refine At.step (At0 hK hC R L) P fun c1 S1 v x fp H1 _ A t rn nd fr P => ?_
    simp only [pr1] at P
    split at P
    · rename_i kvs hx
      obtain ⟨a, vs, rfl, h1, h2⟩ := dK_sound A.rel rn hx
      refine ⟨a, vs, rfl, h1, ?_⟩
      rw [← RVk.length2 h2]
      exact PostG.ret P A (x := .int kvs.length) (by simp [RN]) List.nodup_nil fun _ h => nomatch h
    · exact P.elim
  | dictD =>
    simp only [as1] at h
    split at h <;> try (cases h; done)
    rename_i y b q
    split at h <;> cases h
    rename_i hy
    subst hy
    obtain ⟨p, pos, rfl⟩ := asCall1_eq q
    simp only [List.all_cons, List.all_nil, Bool.and_true] at hg
    have key : PE X (.Call (.Name ("dict" : Str) p) [x] [] pos) (tCB _ (tCons (rdE X.K G.C (evE G.ce a) W) tNil)) := pe_callTy (call_dictD) (gl_of hs hg) (g.blt _ (by decide)) (by decide +kernel) (pa_cons hp pa_nil (star_plain hx)) (by decide +kernel) (by decide +kernel) (star_plain hx) (by rfl)
    refine PE.mono' key fun σ H Q ⟨c, S, ρ, hK, hC, R, L, P⟩ => ?_
    refine At.step (At0 hK hC R L) P fun c1 S1 v x fp H1 _ A t rn nd fr P => ?_
    simp only [pr1] at P
    split at P
    · rename_i kvs hx
      obtain ⟨a, vs, rfl, h1, h2⟩ := dK_sound A.rel rn hx
      refine ⟨a, vs, rfl, .inl h1, fun p hp => ?_⟩
      have key := dKn_fin (PostG.fin (A := []) P A fun _ h => nomatch h) A.rel (vals_rn h2) (by simp [RVk.length2 h2]) hp
      rw [zip_rvk2 h2] at key
      exact key
    · exact P.elim
  | dictP =>
    simp only [as1] at h
    split at h <;> try (cases h; done)
    rename_i y b q
    split at h <;> cases h
    rename_i hy
    subst hy
    obtain ⟨p, pos, rfl⟩ := asCall1_eq q
    simp only [List.all_cons, List.all_nil, Bool.and_true] at hg
    have key : PE X (.Call (.Name ("dict" : Str) p) [x] [] pos) (tCB _ (tCons (rdE X.K G.C (evE G.ce a) W) tNil)) := pe_callTy (call_dictP g.calm) (gl_of hs hg) (g.blt _ (by decide)) (by decide +kernel) (pa_cons hp pa_nil (star_plain hx)) (by decide +kernel) (by decide +kernel) (star_plain hx) (by rfl)
    refine PE.mono' key fun σ H Q ⟨c, S, ρ, hK, hC, R, L, P⟩ => ?_
    refine At.step (At0 hK hC R L) P fun c1 S1 v x fp H1 _ A t rn nd fr P => ?_
    simp only [pr1] at P
    split at P
    · rename_i xs hx
      split at P
      · rename_i kvs hk
        split at P
        · obtain ⟨a, vs, g', rfl, h1, h2, _⟩ := rn.lst A.rel hx
          obtain ⟨ps, ws, rfl, pp, rk⟩ := pairs_sound hk h2
          rw [A.K] at h1 pp
          refine ⟨a, ps, ws, rfl, h1, pp, fun p hp => ?_⟩
          have mk := merge_rvk rk
          have key := dKn_fin (PostG.fin (A := []) P A fun _ h => nomatch h) A.rel (vals_rn mk) (by simp [RVk.length2 mk]) hp
          rw [zip_rvk2 mk] at key
          exact key
        · exact P.elim
      · exact P.elim
    · exact P.elim
theorem few1 {X : Cx} {e : Expr} {cpos : Pos} (h : plainE e = true) : ((backTo cpos (starEach [e] X.env)).all (fun x => !x.1) && (backToKw cpos (keywordEach [] X.env)).all (fun x => x.1.isSome) && decide (([e] : List Expr).length + ([] : List Keyword).length + (if ([] : List Keyword).isEmpty then 0 else 1) < 30)) = true := by
  rw [star_plain h]
  rfl
theorem few2 {X : Cx} {e f : Expr} {cpos : Pos} (h : plainE e = true) (h2 : plainE f = true) : ((backTo cpos (starEach [e, f] X.env)).all (fun x => !x.1) && (backToKw cpos (keywordEach [] X.env)).all (fun x => x.1.isSome) && decide (([e, f] : List Expr).length + ([] : List Keyword).length + (if ([] : List Keyword).isEmpty then 0 else 1) < 30)) = true := by
  rw [star_plain h, star_plain h2]
  rfl
theorem m1_of {X : Cx} {o e : Expr} {nm : Str} {ap cp : Pos} (h1 : isObj o = true) (h2 : (ap.endLine == cp.line) = true) (h : plainE e = true) : M1 X o nm ap e cp :=
  ⟨base_obj h1, few1 h, h2, by rw [star_plain h]; rfl⟩
theorem m2_of {X : Cx} {o e f : Expr} {nm : Str} {ap cp : Pos} (h1 : isObj o = true) (h2 : (ap.endLine == cp.line) = true) (h : plainE e = true) (h' : plainE f = true) : M2 X o nm ap e f cp :=
  ⟨base_obj h1, few2 h h', h2, by rw [star_plain h, star_plain h']; rfl⟩
theorem idx_V {c : Cn} {H : Hp} {x : PV} {v : V} {f : List Addr} (fx : isFlat x = true) : ∀ {xs : List PV} {vs : List V} {g : List Addr}, xs.all isFlat = true → RN c H x v f → RNs c H xs vs g → xs.any (fun z => eqF z x) = true →
    vs.all flatV = true ∧ ∃ z, vs[xs.findIdx fun z => eqF z x]? = some z ∧ eqV z v = true ∧ ∀ (m : Nat) (z' : V), m < (xs.findIdx fun z => eqF z x) → vs[m]? = some z' → eqV z' v = false := by
  have fl : ∀ {xs : List PV} {vs : List V} {g : List Addr}, xs.all isFlat = true → RNs c H xs vs g → vs.all flatV = true := by
    intro xs
    induction xs with
    | nil => intro vs g _ h; simp only [RNs] at h; rw [h.1]; rfl
    | cons y ys ih =>
      intro vs g hf h
      simp only [RNs] at h
      obtain ⟨w, r, f1, f2, rfl, h1, h2, rfl⟩ := h
      rw [List.all_cons, Bool.and_eq_true] at hf ⊢
      exact ⟨(flat_V hf.1 h1).1, ih hf.2 h2⟩
  intro xs
  induction xs with
  | nil => intro vs g _ _ _ h; cases h
  | cons y ys ih =>
    intro vs g hf hv h ha
    refine ⟨fl hf h, ?_⟩
    simp only [RNs] at h
    obtain ⟨w, r, f1, f2, rfl, h1, h2, rfl⟩ := h
    rw [List.all_cons, Bool.and_eq_true] at hf
    have e := eqF_V hf.1 fx h1 hv
    rw [List.findIdx_cons]
    cases q : eqF y x with
    | true =>
      rw [q] at e
      exact ⟨w, rfl, e, fun m z' hm _ => absurd hm (Nat.not_lt_zero _)⟩
    | false =>
      rw [q] at e
      rw [List.any_cons, q, Bool.false_or] at ha
      obtain ⟨_, z, i1, i2, i3⟩ := ih hf.2 hv h2 ha
      refine ⟨z, i1, i2, fun m z' hm hz => ?_⟩
      cases m with
      | zero => cases hz; exact e
      | succ m => exact i3 m z' (by simpa using hm) hz
theorem strs_V {c : Cn} {H : Hp} : ∀ {xs : List PV} {ys : List Str} {vs : List V} {f : List Addr}, strsOf xs = some ys → RNs c H xs vs f → vs = ys.map V.str
  | [], ys, vs, f, h, r => by cases h; simp only [RNs] at r; rw [r.1]; rfl
  | x :: xs, ys, vs, f, h, r => by
    simp only [RNs] at r
    obtain ⟨v, r2, f1, f2, rfl, h1, h2, rfl⟩ := r
    cases x <;> try (simp [strsOf] at h; done)
    rename_i z
    simp only [strsOf] at h
    obtain ⟨zs, e, rfl⟩ := Option.map_eq_some_iff.mp h
    simp only [RN] at h1
    rw [h1.1, strs_V e h2]
    rfl
theorem s_p2 (g : GX X G) {o : O2} {a b : E} {e x y : Expr} {gs : List Str} (hs : X.env.scope = sc) (h : as2 o e = some (x, y, gs)) (hg : gs.all (isGl sc) = true) (hx : plainE x = true) (hy : plainE y = true) (hp : PEx X G W a x) (hq : PEx X G W b y) : PEx X G W (.p2 o a b) e := by
  have hu : X.A.units + 1 < cLine := Nat.lt_of_le_of_lt (Nat.add_le_add_left (by decide) _) g.un
  cases o with
  | append =>
    simp only [as2] at h
    split at h <;> try (cases h; done)
    rename_i a1 nm b1 q
    split at h <;> cases h
    rename_i hn
    subst hn
    obtain ⟨ap, cp, rfl, h1, h2⟩ := asM1_eq q
    have pa : PA X [y] (tCons (rdE X.K G.C (evE G.ce b) W) tNil) := pa_cons hq pa_nil (star_plain hy)
    refine PE.mono' (pe_bm PySem.F.plainAttrs_list PySem.F.slot_list_append PySem.F.type_list_append mt_append hp pa (base_obj h1) (few1 hy) h2 (star_plain hy) (by rfl)) fun σ H Q ⟨c, S, ρ, hK, hC, R, L, P⟩ => ?_
    refine At.step (At0 hK hC R L) P fun c1 S1 v x fp H1 _ A t rn nd fr P => ?_
    by_cases ob : ob2 .append v S1 = true
    · rw [if_pos ob] at P
      obtain ⟨l, xs0, rfl, hS0⟩ := refL_is ob
      have rn0 := rn
      simp only [RN] at rn0
      obtain ⟨a, hl, rfl, _⟩ := rn0
      obtain ⟨vs0, e0, _⟩ := A.rel.obj l _ a hS0 hl
      refine ⟨.inl ⟨rfl, _, SqL.of e0⟩, At.step A P fun c2 S2 w y fy H2 _ A2 t2 rn2 nd2 fr2 P => ?_⟩
      simp only [pr2] at P
      split at P
      · rename_i xs hS
        split at P
        · rename_i hf
          obtain ⟨c3, A3, r3, hm3, mv⟩ := A2.settle rn2 (fun a ha => A.tr.there a (fr2 a ha)) L
          have hl2 : c2.m[l]? = some a := ref_at rn t2 rfl
          obtain ⟨vs, e1, e2⟩ := A2.rel.obj l _ a hS hl2
          have hlen := RNs.length e2
          refine ⟨a, vs, y, rfl, rfl, e1, ?_, ?_⟩
          · rw [← hlen, sizeLine_eq]
            have : xs.length ≤ 1000000 := by simpa [few] using hf
            omega
          · rw [← hm3] at hl2
            exact PostG.ret P (A3.putL hl2 ((mv e2).append (RVs.one r3))) (x := .non) (by simp [RN]) List.nodup_nil fun _ h => nomatch h
        · exact P.elim
      · exact P.elim
    · rw [if_neg ob] at P
      exact P.elim
  | popAt =>
    simp only [as2] at h
    split at h <;> try (cases h; done)
    rename_i a1 nm b1 q
    split at h <;> cases h
    rename_i hn
    subst hn
    obtain ⟨ap, cp, rfl, h1, h2⟩ := asM1_eq q
    have pa : PA X [y] (tCons (rdE X.K G.C (evE G.ce b) W) tNil) := pa_cons hq pa_nil (star_plain hy)
    refine PE.mono' (pe_bm PySem.F.plainAttrs_list PySem.F.slot_list_pop PySem.F.type_list_pop mt_popAt hp pa (base_obj h1) (few1 hy) h2 (star_plain hy) (by rfl)) fun σ H Q ⟨c, S, ρ, hK, hC, R, L, P⟩ => ?_
    refine At.step (At0 hK hC R L) P fun c1 S1 v x fp H1 _ A t rn nd fr P => ?_
    by_cases ob : ob2 .popAt v S1 = true
    · rw [if_pos ob] at P
      obtain ⟨l, xs0, rfl, hS0⟩ := refL_is ob
      have rn0 := rn
      simp only [RN] at rn0
      obtain ⟨a, hl, rfl, _⟩ := rn0
      obtain ⟨vs0, e0, _⟩ := A.rel.obj l _ a hS0 hl
      refine ⟨.inl ⟨rfl, _, SqL.of e0⟩, At.step A P fun c2 S2 w y fy H2 _ A2 t2 rn2 nd2 fr2 P => ?_⟩
      simp only [pr2] at P
      cases w with
      | int i =>
        dsimp only at P
        split at P
        · rename_i xs hS
          split at P
          · rename_i hf
            cases hj : ixN xs.length i with
            | none => rw [hj] at P; exact P.elim
            | some j =>
              rw [hj] at P
              dsimp only at P
              cases hv : xs[j]? with
              | none => rw [hv] at P; exact P.elim
              | some v =>
                rw [hv] at P
                have hl2 : c2.m[l]? = some a := ref_at rn t2 rfl
                obtain ⟨vs, e1, e2⟩ := A2.rel.obj l _ a hS hl2
                have hlen := RNs.length e2
                obtain ⟨z, e3, e4⟩ := RVs.get e2 hv
                simp only [RN] at rn2
                obtain ⟨rfl, _⟩ := rn2
                have q := ixN_seq hj
                have hn : xs.length ≤ 1000000 := by simpa [few] using hf
                obtain ⟨u, hu, hi⟩ := A2.rel.alive (List.mem_of_getElem? hl2)
                refine ⟨a, vs, i, j, z, rfl, rfl, e1, by have := q.2.2.1; omega, by have := q.2.2.2; omega, by rw [← hlen]; exact q.1, e3, ?_⟩
                exact PostG.ret P (A2.putL hl2 (RVs.erase j e2)) (e4.tr (Tr.write (List.mem_of_getElem? hl2) hu hi)) List.nodup_nil fun _ h => nomatch h
          · exact P.elim
        · exact P.elim
      | _ => exact P.elim
    · rw [if_neg ob] at P
      exact P.elim
  | popD =>
    simp only [as2] at h
    split at h <;> try (cases h; done)
    rename_i a1 nm b1 q
    split at h <;> cases h
    rename_i hn
    subst hn
    obtain ⟨ap, cp, rfl, h1, h2⟩ := asM1_eq q
    refine PE.mono' (pe_dpop1 hp hq (m1_of h1 h2 hy)) fun σ H Q ⟨c, S, ρ, hK, hC, R, L, P⟩ => ?_
    refine At.step (At0 hK hC R L) P fun c1 S1 v x fp H1 _ A t rn nd fr P => ?_
    by_cases ob : ob2 .popD v S1 = true
    · rw [if_pos ob] at P
      obtain ⟨l, kvs0, rfl, hS0⟩ := refD_is ob
      have rn0 := rn
      simp only [RN] at rn0
      obtain ⟨a, hl, rfl, _⟩ := rn0
      obtain ⟨vs0, e0, _⟩ := A.rel.obj l _ a hS0 hl
      refine ⟨a, rfl, .inl ⟨_, .inl e0⟩, At.step A P fun c2 S2 w y fy H2 _ A2 t2 rn2 nd2 fr2 P => ?_⟩
      simp only [pr2] at P
      cases hk : keyOf w with
      | none => rw [hk] at P; exact P.elim
      | some k =>
        rw [hk] at P
        dsimp only at P
        split at P
        · rename_i kvs hS
          obtain ⟨rfl, _⟩ := key_sound hk rn2
          have hl2 : c2.m[l]? = some a := ref_at rn t2 rfl
          obtain ⟨vs, e1, e2⟩ := A2.rel.obj l _ a hS hl2
          cases hv : valP kvs k with
          | none => rw [hv] at P; exact P.elim
          | some z =>
            rw [hv] at P
            obtain ⟨w, e3, e4⟩ := (val_sound (k := k) e2).1 z hv
            refine ⟨vs, k, w, e1, rfl, e3, ?_⟩
            obtain ⟨u, hu, hi⟩ := A2.rel.alive (List.mem_of_getElem? hl2)
            exact PostG.ret P (A2.put hl2 fun t => ⟨_, upd_same, drop_rvk (e2.tr t)⟩) (e4.tr (Tr.write (List.mem_of_getElem? hl2) hu hi)) List.nodup_nil fun _ h => nomatch h
        · exact P.elim
    · rw [if_neg ob] at P
      exact P.elim
  | get1 =>
    simp only [as2] at h
    split at h <;> try (cases h; done)
    rename_i a1 nm b1 q
    split at h <;> cases h
    rename_i hn
    subst hn
    obtain ⟨ap, cp, rfl, h1, h2⟩ := asM1_eq q
    refine PE.mono' (pe_dget1 hu hp hq (m1_of h1 h2 hy)) fun σ H Q ⟨c, S, ρ, hK, hC, R, L, P⟩ => ?_
    refine At.step (At0 hK hC R L) P fun c1 S1 v x fp H1 _ A t rn nd fr P => ?_
    by_cases ob : ob2 .get1 v S1 = true
    · rw [if_pos ob] at P
      obtain ⟨kvs0, hk0⟩ := Option.isSome_iff_exists.mp ob
      obtain ⟨a, vs0, rfl, e0, _⟩ := dK_sound A.rel rn hk0
      refine ⟨a, rfl, .inl ⟨_, .inl e0⟩, At.step A P fun c2 S2 w y fy H2 _ A2 t2 rn2 nd2 fr2 P => ?_⟩
      simp only [pr2] at P
      split at P
      · rename_i kvs k hk hy
        obtain ⟨b, vs, hb, e1, e2⟩ := dK_sound A2.rel (rn.tr t2) hk
        cases hb
        obtain ⟨rfl, _⟩ := key_sound hy rn2
        refine ⟨_, DGet.k e1, ?_⟩
        have q := val_sound (k := k) e2
        cases hv : valP kvs k with
        | none =>
          rw [hv] at P
          rw [q.2 hv]
          exact PostG.ret P A2 (x := .non) (by simp [RN]) List.nodup_nil fun _ h => nomatch h
        | some z =>
          rw [hv] at P
          obtain ⟨w, e3, e4⟩ := q.1 z hv
          rw [e3]
          exact PostG.ret P A2 e4 List.nodup_nil fun _ h => nomatch h
      · exact P.elim
    · rw [if_neg ob] at P
      exact P.elim
  | lr2 =>
    simp only [as2] at h
    split at h <;> try (cases h; done)
    rename_i y1 z1 a1 b1 q
    split at h <;> cases h
    rename_i hn
    obtain ⟨rfl, rfl⟩ := hn
    obtain ⟨p, q1, r, pos, rfl⟩ := asLr2_eq q
    simp only [List.all_cons, List.all_nil, Bool.and_true, Bool.and_eq_true] at hg
    have hpl : (backTo r (starEach [y] X.env)).any (·.1) = false := by rw [star_plain hy]; rfl
    have key : PE X (.Call (.Name ("list" : Str) p) [.Call (.Name ("range" : Str) q1) [x, y] [] r] [] pos) (tLstRg (tRg2 (rdE X.K G.C (evE G.ce a) W) (rdE X.K G.C (evE G.ce b) W))) := pe_listRg g.calm (gl_of hs hg.1) (g.blt _ (by decide)) (prg_2 (gl_of hs hg.2) (g.blt _ (by decide)) hp hq (star_plain hx) (star_plain hy) hpl) rfl
    refine PE.mono' key fun σ H Q ⟨c, S, ρ, hK, hC, R, L, P⟩ => ?_
    refine At.step (At0 hK hC R L) P fun c1 S1 v x fp H1 _ A t rn nd fr P => ?_
    have ob : ob2 .lr2 v S1 = true := rfl
    rw [if_pos ob] at P
    refine At.step A P fun c2 S2 w y fy H2 _ A2 t2 rn2 nd2 fr2 P => ?_
    simp only [pr2] at P
    cases v with
    | int lo =>
      cases w with
      | int hi =>
        simp only [RN] at rn rn2
        obtain ⟨rfl, rfl⟩ := rn
        obtain ⟨rfl, rfl⟩ := rn2
        exact ⟨lo, hi, rfl, rfl, rng_fin A2 P⟩
      | _ => exact P.elim
    | _ => cases w <;> exact P.elim
  | extend =>
    simp only [as2] at h
    split at h <;> try (cases h; done)
    rename_i a1 nm b1 q
    split at h <;> cases h
    rename_i hn
    subst hn
    obtain ⟨ap, cp, rfl, h1, h2⟩ := asM1_eq q
    have pa : PA X [y] (tCons (rdE X.K G.C (evE G.ce b) W) tNil) := pa_cons hq pa_nil (star_plain hy)
    refine PE.mono' (pe_bm PySem.F.plainAttrs_list PySem.F.slot_list_extend PySem.F.type_list_extend mt_extend hp pa (base_obj h1) (few1 hy) h2 (star_plain hy) (by rfl)) fun σ H Q ⟨c, S, ρ, hK, hC, R, L, P⟩ => ?_
    refine At.step (At0 hK hC R L) P fun c1 S1 v x fp H1 _ A t rn nd fr P => ?_
    by_cases ob : ob2 .extend v S1 = true
    · rw [if_pos ob] at P
      obtain ⟨l, xs0, rfl, hS0⟩ := refL_is ob
      have rn0 := rn
      simp only [RN] at rn0
      obtain ⟨a, hl, rfl, _⟩ := rn0
      obtain ⟨vs0, e0, _⟩ := A.rel.obj l _ a hS0 hl
      refine ⟨.inl ⟨rfl, _, SqL.of e0⟩, At.step A P fun c2 S2 w y fy H2 _ A2 t2 rn2 nd2 fr2 P => ?_⟩
      simp only [pr2] at P
      cases w with
      | ref l2 =>
        dsimp only at P
        split at P
        · rename_i xs ys hS1 hS2
          split at P
          · rename_i hf
            have hl1 : c2.m[l]? = some a := ref_at rn t2 rfl
            simp only [RN] at rn2
            obtain ⟨a2, hl2, rfl, _⟩ := rn2
            obtain ⟨vs, e1, e2⟩ := A2.rel.obj l _ a hS1 hl1
            obtain ⟨ws, e3, e4⟩ := A2.rel.obj l2 _ a2 hS2 hl2
            have hlen := RNs.length e2
            have hlen2 := RNs.length e4
            refine ⟨a, a2, vs, ws, rfl, rfl, e1, e3, by rw [← hlen, ← hlen2]; exact few_le hf, ?_⟩
            exact PostG.ret P (A2.putL hl1 (e2.append e4)) (x := .non) (by simp [RN]) List.nodup_nil fun _ h => nomatch h
          · exact P.elim
        · exact P.elim
      | _ => exact P.elim
    · rw [if_neg ob] at P
      exact P.elim
  | join =>
    simp only [as2] at h
    split at h <;> try (cases h; done)
    rename_i a1 nm b1 q
    split at h <;> cases h
    rename_i hn
    subst hn
    obtain ⟨ap, cp, rfl, h1, h2⟩ := asM1_eq q
    refine PE.mono' (pe_join hp hq (star_plain hy) (base_obj h1) h2) fun σ H Q ⟨c, S, ρ, hK, hC, R, L, P⟩ => ?_
    refine At.step (At0 hK hC R L) P fun c1 S1 v x fp H1 _ A t rn nd fr P => ?_
    by_cases ob : ob2 .join v S1 = true
    · rw [if_pos ob] at P
      obtain ⟨z, rfl⟩ : ∃ z, v = .str z := by cases v <;> first | exact ⟨_, rfl⟩ | (simp [ob2] at ob)
      simp only [RN] at rn
      obtain ⟨rfl, rfl⟩ := rn
      refine ⟨⟨z, rfl⟩, At.step A P fun c2 S2 w y fy H2 _ A2 t2 rn2 nd2 fr2 P => ?_⟩
      simp only [pr2] at P
      split at P
      · rename_i z' xs hz' hx
        cases hz'
        split at P
        · rename_i ys hys
          split at P
          · rename_i hsz
            obtain ⟨a, vs, g1, rfl, e1, e2, _⟩ := rn2.lst A2.rel hx
            rw [strs_V hys e2, A2.K] at e1
            exact ⟨z, a, ys, rfl, rfl, .inl e1, hsz, PostG.ret P A2 (x := V.str _) (by simp [RN]) List.nodup_nil fun _ h => nomatch h⟩
          · exact P.elim
        · exact P.elim
      · exact P.elim
    · rw [if_neg ob] at P
      exact P.elim
  | index =>
    simp only [as2] at h
    split at h <;> try (cases h; done)
    rename_i a1 nm b1 q
    split at h <;> cases h
    rename_i hn
    subst hn
    obtain ⟨ap, cp, rfl, h1, h2⟩ := asM1_eq q
    have pa : PA X [y] (tCons (rdE X.K G.C (evE G.ce b) W) tNil) := pa_cons hq pa_nil (star_plain hy)
    refine PE.mono' (pe_bm PySem.F.plainAttrs_list PySem.F.slot_list_index PySem.F.type_list_index (mt_index.or (mt_indexD g.un65)) hp pa (base_obj h1) (few1 hy) h2 (star_plain hy) (by rfl)) fun σ H Q ⟨c, S, ρ, hK, hC, R, L, P⟩ => ?_
    refine At.step (At0 hK hC R L) P fun c1 S1 v x fp H1 _ A t rn nd fr P => ?_
    by_cases ob : ob2 .index v S1 = true
    · rw [if_pos ob] at P
      obtain ⟨xs0, hx0⟩ : ∃ xs, lstOf S1 v = some xs := Option.isSome_iff_exists.mp ob
      obtain ⟨a, vs0, g', rfl, e1, e2, _⟩ := rn.lst A.rel hx0
      rw [A.K] at e1
      refine ⟨.inl ⟨rfl, _, e1⟩, At.step A P fun c2 S2 w y fy H2 _ A2 t2 rn2 nd2 fr2 P => ?_⟩
      simp only [pr2] at P
      split at P
      · rename_i xs hx
        split at P
        · rename_i hc
          simp only [Bool.and_eq_true] at hc
          obtain ⟨⟨k1, k2⟩, k3⟩ := hc
          obtain ⟨a', vs, g, e, e3, e4, _⟩ := (rn.tr t2).lst A2.rel hx
          cases e
          rw [A2.K] at e3
          obtain ⟨q1, z, q2, q3, q4⟩ := idx_V k1 k2 rn2 e4 k3
          refine .inl ⟨a, vs, y, _, z, rfl, rfl, e3, (flat_V k1 rn2).1, q1, q2, q3, q4, ?_⟩
          exact PostG.ret P A2 (x := V.int _) (by simp [RN]) List.nodup_nil fun _ h => nomatch h
        · split at P
          · rename_i ds d hds hd
            split at P
            · rename_i hc2
              obtain ⟨a', vs, g1, e, e3, e4, _⟩ := (rn.tr t2).lst A2.rel hx
              cases e
              obtain ⟨q1, q2, q3⟩ := dats (fun e h => dat_ok A2.rel e h) hds e4
              obtain ⟨k1, k2, k3⟩ := dat_ok A2.rel hd rn2
              rw [A2.K] at e3 q1 k1
              have hlt : (ds.findIdx fun e => PyData.eqv e d) < ds.length := List.findIdx_lt_length_of_exists (List.any_eq_true.mp hc2)
              refine .inr ⟨a, y, d, ds, _, _, rfl, rfl, .lst e3 q1, k1, ?_, ?_, List.getElem?_eq_getElem hlt, List.findIdx_getElem (w := hlt), fun m z' hm hz' => ?_, ?_⟩
              · have p2 : PyData.canLay0 (.list ds) = true := by simpa [PyData.canLay0] using q2
                have p3 : (PyData.list ds).depth ≤ 9 := by simp only [PyData.depth]; omega
                unfold SeqAt.shaped; rw [p2, decide_eq_true (by omega)]; rfl
              · unfold SeqAt.shaped; rw [k2, decide_eq_true (by omega)]; rfl
              · have hml := (List.getElem?_eq_some_iff.mp hz').1
                have e5 := List.not_of_lt_findIdx hm
                have e6 : ds[m] = z' := (List.getElem?_eq_some_iff.mp hz').2
                rw [e6] at e5
                simpa using e5
              · exact PostG.ret P A2 (x := V.int _) (by simp [RN]) List.nodup_nil fun _ h => nomatch h
            · exact P.elim
          · exact P.elim
      · exact P.elim
    · rw [if_neg ob] at P
      exact P.elim
theorem s_own {a : E} {e : Expr} (hp : PEx X G W a e) : PEx X G W (.own a) e := by
  refine PE.mono' hp fun σ H Q ⟨c, S, ρ, hK, hC, R, L, P⟩ => ?_
  refine At.step (At0 hK hC R L) P fun c1 S1 v x fp H1 _ A t rn nd fr P => ?_
  obtain ⟨c', e, R', r⟩ := dig_ok A.rel rn nd
  have t' := A.tr.ext e fr
  exact PostG.ret P ⟨A.K0, A.C0, t', R', L.tr t'⟩ r List.nodup_nil fun _ h => nomatch h
theorem t_own {a : E} {e : Expr} (hp : PTx X G W a e) : PTx X G W (.own a) e := by
  refine PT.mono' hp fun σ H Q ⟨c, S, ρ, hK, hC, R, L, P⟩ => ?_
  refine At.step (At0 hK hC R L) P fun c1 S1 v x fp H1 _ A t rn nd fr P => ?_
  obtain ⟨c', e, R', r⟩ := dig_ok A.rel rn nd
  have t' := A.tr.ext e fr
  exact PostG.ret P ⟨A.K0, A.C0, t', R', L.tr t'⟩ r List.nodup_nil fun _ h => nomatch h
theorem s_ad {a : E} {e : Expr} (hp : PEx X G W a e) : PEx X G W (.ad a) e := by
  refine PE.mono' hp fun σ H Q ⟨c, S, ρ, hK, hC, R, L, P⟩ => ?_
  refine At.step (At0 hK hC R L) P fun c1 S1 v x fp H1 _ A t rn nd fr P => ?_
  obtain ⟨c', e, R', r⟩ := adopt_ok A.rel rn nd
  have t' := A.tr.ext e fr
  exact PostG.ret P ⟨A.K0, A.C0, t', R', L.tr t'⟩ r List.nodup_nil fun _ h => nomatch h
theorem t_ad {a : E} {e : Expr} (hp : PTx X G W a e) : PTx X G W (.ad a) e := by
  refine PT.mono' hp fun σ H Q ⟨c, S, ρ, hK, hC, R, L, P⟩ => ?_
  refine At.step (At0 hK hC R L) P fun c1 S1 v x fp H1 _ A t rn nd fr P => ?_
  obtain ⟨c', e, R', r⟩ := adopt_ok A.rel rn nd
  have t' := A.tr.ext e fr
  exact PostG.ret P ⟨A.K0, A.C0, t', R', L.tr t'⟩ r List.nodup_nil fun _ h => nomatch h
theorem s_p3 (g : GX X G) {o : O3} {a b d : E} {e x y z : Expr} (hs : X.env.scope = sc) (h : as3 o e = some (x, y, z)) (hx : plainE x = true) (hy : plainE y = true) (hz : plainE z = true) (hp : PEx X G W a x) (hq : PEx X G W b y) (hr : PEx X G W d z) : PEx X G W (.p3 o a b d) e := by
  have hu : X.A.units + 1 < cLine := Nat.lt_of_le_of_lt (Nat.add_le_add_left (by decide) _) g.un
  cases o with
  | get2 =>
    simp only [as3] at h
    split at h <;> try (cases h; done)
    rename_i a1 nm b1 d1 q
    split at h <;> cases h
    rename_i hn
    subst hn
    obtain ⟨ap, cp, rfl, h1, h2⟩ := asM2_eq q
    refine PE.mono' (pe_dget2 hu hp hq hr (m2_of h1 h2 hy hz)) fun σ H Q ⟨c, S, ρ, hK, hC, R, L, P⟩ => ?_
    refine At.step (At0 hK hC R L) P fun c1 S1 v x fp H1 _ A t rn nd fr P => ?_
    by_cases ob : ob3 .get2 v S1 = true
    · rw [if_pos ob] at P
      obtain ⟨kvs0, hk0⟩ := Option.isSome_iff_exists.mp ob
      obtain ⟨a, vs0, rfl, e0, _⟩ := dK_sound A.rel rn hk0
      refine ⟨a, rfl, .inl ⟨_, .inl e0⟩, At.step A P fun c2 S2 w y fy H2 _ A2 t2 rn2 nd2 fr2 P => ?_⟩
      refine At.step A2 P fun c3 S3 w3 y3 f3 H3 _ A3 t3 rn3 nd3 fr3 P => ?_
      simp only [pr3] at P
      split at P
      · rename_i kvs k hk hy
        obtain ⟨b, vs, hb, e1, e2⟩ := dK_sound A3.rel ((rn.tr t2).tr t3) hk
        cases hb
        obtain ⟨rfl, _⟩ := key_sound hy rn2
        refine ⟨_, DGet.k e1, ?_⟩
        have q := val_sound (k := k) e2
        cases hv : valP kvs k with
        | none =>
          rw [hv] at P
          rw [q.2 hv]
          exact PostG.ret P A3 rn3 nd3 fun a ha => (A2.tr).there a (fr3 a ha)
        | some z =>
          rw [hv] at P
          obtain ⟨w, e3, e4⟩ := q.1 z hv
          rw [e3]
          exact PostG.ret P A3 e4 List.nodup_nil fun _ h => nomatch h
      · exact P.elim
    · rw [if_neg ob] at P
      exact P.elim
theorem s_d0 {t : Bool} {p : Pos} : PEx X G W (.d0 t) (.Dict [] [] p) := by
  cases t with
  | false =>
    refine PE.mono' pe_dnewK fun σ H Q ⟨c, S, ρ, hK, hC, R, L, P⟩ => ?_
    intro q hq
    simp only [evE, Bool.false_eq_true, if_false] at P
    refine P c _ (.ref q) [q] (Tr.fresh hq) (R.fresh hq) ?_ (by simp) fun a ha => ?_
    · simp only [RN]
      exact ⟨q, [], [], rfl, ⟨upd_same, R.new hq⟩, rfl, ⟨rfl, rfl⟩, own_new.symm, .inl trivial⟩
    · rw [List.mem_singleton.mp ha]
      exact hq
  | true =>
    refine PE.mono' pe_dnewT fun σ H Q ⟨c, S, ρ, hK, hC, R, L, P⟩ => ?_
    intro q hq
    simp only [evE, if_true] at P
    refine P c _ (.ref q) [q] (Tr.fresh hq) (R.fresh hq) ?_ (by simp) fun a ha => ?_
    · simp only [RN]
      exact ⟨q, [], [], rfl, ⟨upd_same, R.new hq⟩, rfl, ⟨rfl, rfl⟩, own_new.symm, .inl trivial⟩
    · rw [List.mem_singleton.mp ha]
      exact hq
end
end Ev
end
set_option Elab.async false
set_option linter.all false
set_option maxRecDepth 100000
/-! EvO: instances; written dicts. -/
noncomputable section
namespace L2
open PySem PySem.Spec PyProof.Rows
section
variable {X : Cx} {CX : CXT} {k : Nat} {f C : Addr} {fd : FuncData} {ps : List Str} {sp : Sp} {E : St → XK} {x m : Str} {p pos apos : Pos} {e o : Expr} {es : List Expr} {ta : TE} {t : TA}
def tMethE (C : Addr) (m : Str) (sp : Sp) (E : St → XK) (ta : TE) (t : TA) : TE := fun σ H Q => ta σ H fun x H1 => ∃ a dx fs, x = .ref a ∧ H1 a = some (.ins C dx fs) ∧ fs.lookup m = none ∧ t σ H1 fun vs H2 => sp (x :: vs) H2 Q (E σ)
theorem pe_methE {pl : Sem Bool} (he : PE X o ta) (c : Cls X.K C) (hm : Meth X.K C m f) (F : FnOk X.prog X.w X.K X.mg X.base CX k f fd ps sp) (hr : Room k X.A) (hb : Binds X.K fd ps []) (hx : ∀ σ, PassesAt CX X σ (E σ)) (ha : PA X (e :: es) t)
    (hst : starEach (e :: es) X.env = (false, eval e X.env) :: starEach es X.env) (hpl : (backTo pos (starEach es X.env)).any (·.1) = false)
    (ht : eval (.Call (.Attribute o m apos) (e :: es) [] pos) X.env = (do
      let ov ← eval o X.env
      standAt apos.atName
      let (f, first) ← holding [ov] (getMethod ov m pl)
      callWith pos f first (backTo pos (starEach (e :: es) X.env)) (backToKw pos (keywordEach [] X.env)))) :
    PE X (.Call (.Attribute o m apos) (e :: es) [] pos) (tMethE C m sp E ta t) := by
  refine ⟨fun pins s σ H Q I h => ?_⟩
  refine PySem.W.methodCall_KW (pl := pl) (thn (he.run pins s σ H _ I h) fun u s1 ⟨x, H1, I1, rx, a, dx, fs, ex, ea, l, q⟩ => ?_) ht
  subst ex
  obtain rfl : u = Value.ref a := rx
  refine getmeth_ok I1 ea c hm l ?_
  refine PySem.W.callWith_K (first := [.ref a]) (h₀ := X.base) I.ok.mod.kin hm.kp (thn (ha.run pos pins s1 σ H1 _ I1 q) fun us s2 ⟨vs, H2, I2, r, q2⟩ => ⟨I2.kIn, ?_⟩) hst hpl
  exact run_fnS (us := .ref a :: us) (vs := .ref a :: vs) F hr hb (hx σ) I2 (.cons rfl r) q2
theorem pe_methE0 {pl : Sem Bool} (he : PE X o ta) (c : Cls X.K C) (hm : Meth X.K C m f) (F : FnOk X.prog X.w X.K X.mg X.base CX k f fd ps sp) (hr : Room k X.A) (hb : Binds X.K fd ps []) (hx : ∀ σ, PassesAt CX X σ (E σ))
    (ht : eval (.Call (.Attribute o m apos) [] [] pos) X.env = (do
      let ov ← eval o X.env
      standAt apos.atName
      let (f, first) ← holding [ov] (getMethod ov m pl)
      callWith pos f first (backTo pos (starEach [] X.env)) (backToKw pos (keywordEach [] X.env)))) :
    PE X (.Call (.Attribute o m apos) [] [] pos) (tMethE C m sp E ta tNil) := by
  refine ⟨fun pins s σ H Q I h => ?_⟩
  refine PySem.W.methodCall_KW (pl := pl) (thn (he.run pins s σ H _ I h) fun u s1 ⟨x, H1, I1, rx, a, dx, fs, ex, ea, l, q⟩ => ?_) ht
  subst ex
  obtain rfl : u = Value.ref a := rx
  refine getmeth_ok I1 ea c hm l ?_
  exact PySem.W.callWith_K0 (first := [.ref a]) I1.kIn hm.kp (run_fnS (us := [.ref a]) (vs := [.ref a]) F hr hb (hx σ) I1 (.cons rfl .nil) q)
def tMakeE (C : Addr) (sp : Sp) (E : St → XK) (t : TA) : TE := fun σ H Q => t σ H fun vs H1 => ∀ x dx, H1 x = none → H1 dx = none → dx ≠ x →
  sp (.ref x :: vs) (upd (upd H1 dx (.own x)) x (.ins C dx [])) (fun v H2 => v = .non ∧ Q (.ref x) H2) (E σ)
theorem run_makeE {pins : List (Addr × Obj)} {σ : St} {H : Hp} {s : Shared} {Q : VK} {us : List Value} {vs : List V} (M : Mk X.K C f) (F : FnOk X.prog X.w X.K X.mg X.base CX k f fd ps sp) (hr : Room (k + 1) X.A) (hb : Binds X.K fd ps [])
    (hx : PassesAt CX X σ (E σ)) (I : Inv X pins σ H s) (r : Vals vs us)
    (h : ∀ x dx, H x = none → H dx = none → dx ≠ x → sp (.ref x :: vs) (upd (upd H dx (.own x)) x (.ins C dx [])) (fun v H2 => v = .non ∧ Q (.ref x) H2) (E σ)) :
    wpAny (model X.prog X.w) X.A (call (.ref C) us) (EP X pins σ Q) X.xe s := by
  have hq := h (s.heap.objs.size + 1) s.heap.objs.size (I.hok.fresh (Nat.le_succ _)) (I.hok.fresh (Nat.le_refl _)) (Nat.ne_of_lt (Nat.lt_succ_self _))
  have I2 := Inv.made (C := C) I
  have r2 : Vals (V.ref (s.heap.objs.size + 1) :: vs) (Value.ref (s.heap.objs.size + 1) :: us) := .cons rfl r
  have hl : (Value.ref (s.heap.objs.size + 1) :: us ++ []).length = ps.length := by
    have e := r2.length
    rw [F.len _ _ _ _ hq] at e
    rw [List.append_nil]
    exact e.symm
  have hb2 := hb _ (Value.ref (s.heap.objs.size + 1) :: us) I2.kIn hl
  rw [List.append_nil] at hb2
  refine wpAny_call (make_map (f := f) I.kIn M.makes M.init (beq_iff_eq.mp M.fn) (codeAny_mono (F.run _ X.stack _ _ ⟨Value.ref (s.heap.objs.size + 1) :: us, []⟩ (Value.ref (s.heap.objs.size + 1) :: us) _ _ (E σ) (hr.make C us [])
    (I2.env0.make C us []) hb2 r2 hq) fun r s' hq' => ?_))
  cases r with
  | error e => exact hx pins _ _ e s' I2 hq'
  | ok fl =>
    cases fl with
    | ret u =>
      obtain ⟨v, H', I3, rv, ev, q3⟩ := I2.after hq'
      subst ev
      exact ⟨rv, ⟨V.ref (s.heap.objs.size + 1), H', I3, rfl, q3⟩⟩
    | next => exact False.elim hq'
    | brk => exact False.elim hq'
    | cont => exact False.elim hq'
theorem pe_makeE (M : Mk X.K C f) (F : FnOk X.prog X.w X.K X.mg X.base CX k f fd ps sp) (hr : Room (k + 1) X.A) (hg : Gl X x) (hm : X.mg x = some (.ref C)) (hb : Binds X.K fd ps []) (hx : ∀ σ, PassesAt CX X σ (E σ))
    (ha : PA X (e :: es) t) (hdb : (x == ("__debug__" : Str)) = false) (he : starEach (e :: es) X.env = (false, eval e X.env) :: starEach es X.env) (hpl : (backTo pos (starEach es X.env)).any (·.1) = false) :
    PE X (.Call (.Name x p) (e :: es) [] pos) (tMakeE C sp E t) := by
  refine ⟨fun pins s σ H Q I h => ?_⟩
  refine wpAny_Call_Name_kw (ld_glob I hg hm ?_ hdb)
  refine PySem.W.callWith_K (h₀ := X.base) I.ok.mod.kin M.kp (thn (ha.run pos pins s σ H _ I h) fun us s1 ⟨vs, H1, I1, r, q⟩ => ⟨I1.kIn, ?_⟩) he hpl
  exact run_makeE M F hr hb (hx σ) I1 r q
theorem pe_makeE0 (M : Mk X.K C f) (F : FnOk X.prog X.w X.K X.mg X.base CX k f fd ps sp) (hr : Room (k + 1) X.A) (hg : Gl X x) (hm : X.mg x = some (.ref C)) (hb : Binds X.K fd ps []) (hx : ∀ σ, PassesAt CX X σ (E σ))
    (hdb : (x == ("__debug__" : Str)) = false) : PE X (.Call (.Name x p) [] [] pos) (tMakeE C sp E tNil) := by
  refine ⟨fun pins s σ H Q I h => ?_⟩
  refine wpAny_Call_Name_kw (ld_glob I hg hm ?_ hdb)
  exact PySem.W.callWith_K0 I.kIn M.kp (run_makeE (us := []) M F hr hb (hx σ) I .nil h)
end
end L2
namespace Ev
open PySem L2 PyProof.Rows
/-! ### a thing that changes, known to none -/
section
variable {c : Cn} {H : Hp} {p : Addr} {o o' : HO}
theorem SqT.mutO {K : PySem.W.Frag} {a : Addr} {vs : List V} (hi : ¬ Imm o) (hp : H p = some o) (h : SqT K H a vs) : SqT K (upd H p o') a vs := by
  rcases h with (h | ⟨u, h⟩) | h
  · exact .inl (.inl (by rw [upd_ne (ne_of h hp (fun z => hi (z ▸ trivial)))]; exact h))
  · exact .inl (.inr ⟨u, by rw [upd_ne (ne_of h hp (fun z => hi (z ▸ trivial)))]; exact h⟩)
  · exact .inr h
mutual
theorem RN.mutO (hi : ¬ Imm o) (hp : H p = some o) : ∀ {x : PV} {v : V} {fp : List Addr}, RN c H x v fp → p ∉ fp → RN c (upd H p o') x v fp
  | .non, _, _, h, _ => by simpa [RN] using h
  | .bl _, _, _, h, _ => by simpa [RN] using h
  | .int _, _, _, h, _ => by simpa [RN] using h
  | .str _, _, _, h, _ => by simpa [RN] using h
  | .ref _, _, _, h, _ => by simpa [RN] using h
  | .tup _, _, _, h, f => by
    simp only [RN] at h ⊢
    obtain ⟨a, vs, rfl, s, r⟩ := h
    exact ⟨a, vs, rfl, SqT.mutO hi hp s, RNs.mutO hi hp r f⟩
  | .lst k _, _, _, h, f => by
    simp only [RN] at h ⊢
    obtain ⟨a, vs, fp', rfl, l, r, rfl, z⟩ := h
    refine ⟨a, vs, fp', rfl, ?_, RNs.mutO hi hp r (fun x => f (own_mem x)), rfl, z⟩
    cases k with
    | new => exact ⟨by rw [upd_ne fun e => f (by rw [own_new, ← e]; exact List.mem_cons_self)]; exact l.1, l.2⟩
    | frz => exact l
    | bor => exact l
    | scr => exact l
  | .dK k _ _, _, _, h, f => by
    simp only [RN] at h ⊢
    obtain ⟨a, vs, fp', rfl, l, hl, r, rfl, z⟩ := h
    refine ⟨a, vs, fp', rfl, ?_, hl, RNs.mutO hi hp r (fun x => f (own_mem x)), rfl, z⟩
    cases k with
    | new => exact ⟨by rw [upd_ne fun e => f (by rw [own_new, ← e]; exact List.mem_cons_self)]; exact l.1, l.2⟩
    | frz => exact l
    | bor => exact l
    | scr => exact l
  | .dT k _ _, _, _, h, f => by
    simp only [RN] at h ⊢
    obtain ⟨a, vs, fp', rfl, l, hl, r, rfl, z⟩ := h
    refine ⟨a, vs, fp', rfl, ?_, hl, RNs.mutO hi hp r (fun x => f (own_mem x)), rfl, z⟩
    cases k with
    | new => exact ⟨by rw [upd_ne fun e => f (by rw [own_new, ← e]; exact List.mem_cons_self)]; exact l.1, l.2⟩
    | frz => exact l
    | bor => exact l
    | scr => exact l
theorem RNs.mutO (hi : ¬ Imm o) (hp : H p = some o) : ∀ {xs : List PV} {vs : List V} {fp : List Addr}, RNs c H xs vs fp → p ∉ fp → RNs c (upd H p o') xs vs fp
  | [], _, _, h, _ => by simpa [RNs] using h
  | _ :: _, _, _, h, f => by
    simp only [RNs] at h ⊢
    obtain ⟨v, r, f1, f2, rfl, h1, h2, rfl⟩ := h
    exact ⟨v, r, f1, f2, rfl, RN.mutO hi hp h1 (fun z => f (List.mem_append_left _ z)), RNs.mutO hi hp h2 (fun z => f (List.mem_append_right _ z)), rfl⟩
end
theorem RVk.mutO {κ : Type} (hi : ¬ Imm o) (hp : H p = some o) {xs : List (κ × PV)} {vs : List (κ × V)} (h : RVk c H xs vs) : RVk c (upd H p o') xs vs := Paired.mapP h fun _ _ z => ⟨z.1, RN.mutO hi hp z.2 (fun z => by cases z)⟩
theorem Rel.mutO {S : Store} (R : Rel c S H) (hi : ¬ Imm o) (hp : H p = some o) (h1 : p ∉ c.m) (h2 : c.F p = none) (h3 : c.B p = none) : Rel c S (upd H p o') := by
  refine ⟨R.len, R.nd, fun i u a e1 e2 => ?_, R.mB, R.mF, fun a u e => ?_, fun a u e => ?_⟩
  · have na : a ≠ p := fun z => h1 (by rw [← z]; exact List.mem_of_getElem? e2)
    have ro := R.obj i u a e1 e2
    cases u with
    | lst xs => obtain ⟨vs, q1, q2⟩ := ro; exact ⟨vs, by rw [upd_ne na]; exact q1, RNs.mutO hi hp q2 (fun z => by cases z)⟩
    | dK xs => obtain ⟨vs, q1, q2⟩ := ro; exact ⟨vs, by rw [upd_ne na]; exact q1, q2.mutO hi hp⟩
    | dT xs => obtain ⟨vs, q1, q2⟩ := ro; exact ⟨vs, by rw [upd_ne na]; exact q1, q2.mutO hi hp⟩
    | ins C xs => obtain ⟨dx, vs, q1, q2⟩ := ro; exact ⟨dx, vs, by rw [upd_ne na]; exact q1, q2.mutO hi hp⟩
  · rw [upd_ne fun z => by rw [z, h3] at e; cases e]; exact R.bh a u e
  · rw [upd_ne fun z => by rw [z, h2] at e; cases e]; exact R.fh a u e
/-- what was not there may be anything -/
theorem Tr.mut {c0 : Cn} {H0 : Hp} {o : HO} (t : Tr c0 H0 c H) (hp : H0 p = none) : Tr c0 H0 c (upd H p o) := ⟨t.K, t.B, t.C, t.pre, t.mnew, t.fk, t.fnew, fun a u e h => by rw [upd_ne (ne_of_none e hp)]; exact t.keep a u e h, fun a e => by
  by_cases z : a = p
  · rw [z]; exact hp
  · rw [upd_ne z] at e; exact t.there a e⟩
end
section
end
theorem form_plain {as : List Expr} {env : Env} {cp : Pos} (h : ∀ e, e ∈ as → plainE e = true) : (backTo cp (starEach as env)).all (fun x => !x.1) = true := by
  induction as with
  | nil => rfl
  | cons e es ih =>
    rw [star_plain (h e List.mem_cons_self)]
    show ((false, _) :: backTo cp (starEach es env)).all (fun x => !x.1) = true
    rw [List.all_cons, ih fun x hx => h x (List.mem_cons_of_mem _ hx)]
    rfl
theorem meth_eval {o : Expr} {m : Str} {as : List Expr} {env : Env} {ap cp : Pos} (h : isObj o = true) (h2 : (ap.endLine == cp.line) = true) (hl : as.length < 30) (hp : ∀ e, e ∈ as → plainE e = true) : ∃ pl : Sem Bool, eval (.Call (.Attribute o m ap) as [] cp) env = (do
      let ov ← eval o env
      standAt ap.atName
      let (f, first) ← holding [ov] (getMethod ov m pl)
      callWith cp f first (backTo cp (starEach as env)) (backToKw cp (keywordEach [] env))) := by
  refine ⟨do return (← importBound o env).getD true, ?_⟩
  have hf : methodCallForm (as.length + ([] : List Keyword).length) (backTo cp (starEach as env)) (backToKw cp (keywordEach [] env)) = true := by
    unfold methodCallForm
    rw [form_plain hp]
    show (true && true && decide (as.length + 0 + 0 < 30)) = true
    rw [decide_eq_true (by omega)]
    rfl
  have e1 : eval (.Call (.Attribute o m ap) as [] cp) env = (do
      let ov ← eval o env
      standAt ap.atName
      methodCall o m ap cp env ov (as.length + ([] : List Keyword).length) (backTo cp (starEach as env)) (backToKw cp (keywordEach [] env))) := by
    cases o <;> first | rfl | (simp [isObj] at h; done) | (rename_i f as ks p; cases f <;> first | rfl | (simp [isObj] at h; done) | (cases as <;> first | rfl | (simp [isObj] at h; done)))
  rw [e1]
  have e2 : ∀ ov, methodCall o m ap cp env ov (as.length + ([] : List Keyword).length) (backTo cp (starEach as env)) (backToKw cp (keywordEach [] env)) = (do
      let (f, first) ← holding [ov] (getMethod ov m (do return (← importBound o env).getD true))
      callWith cp f first (backTo cp (starEach as env)) (backToKw cp (keywordEach [] env))) := by
    intro ov
    unfold methodCall calleeOf methodCallPos
    rw [hf, h2]
    rfl
  simp only [e2]
theorem lookup_rvk {c : Cn} {H : Hp} {f : Str} : ∀ {fs : List (Str × PV)} {vs : List (Str × V)}, RVk c H fs vs → (∀ x, fs.lookup f = some x → ∃ v, vs.lookup f = some v ∧ RV c H x v) ∧ (fs.lookup f = none → vs.lookup f = none)
  | [], _, .nil => ⟨(fun x h => by cases h), fun _ => rfl⟩
  | p :: fs, q :: vs, .cons h t => by
    have ih := lookup_rvk (f := f) t
    obtain ⟨p1, p2⟩ := p
    obtain ⟨q1, q2⟩ := q
    obtain ⟨h1, h2⟩ := h
    dsimp only at h1 h2
    subst h1
    rw [List.lookup_cons, List.lookup_cons]
    cases e : f == p1 with
    | true => exact ⟨fun x hx => by cases hx; exact ⟨q2, rfl, h2⟩, fun z => by cases z⟩
    | false => exact ih
theorem putF_rvk {c : Cn} {H : Hp} {f : Str} {x : PV} {v : V} (hx : RV c H x v) : ∀ {fs : List (Str × PV)} {vs : List (Str × V)}, RVk c H fs vs → RVk c H (putFP f x fs) (putF f v vs)
  | [], _, .nil => .cons ⟨rfl, hx⟩ .nil
  | (g, y) :: fs, (g', w) :: vs, .cons h t => by
    obtain ⟨h1, h2⟩ := h
    dsimp only at h1 h2
    subst h1
    unfold putFP putF
    by_cases e : g = f
    · rw [if_pos e, if_pos e]
      exact .cons ⟨rfl, hx⟩ t
    · rw [if_neg e, if_neg e]
      exact .cons ⟨rfl, h2⟩ (putF_rvk hx t)
section
variable {X : Cx} {G : GT} {W : WX} {N : List Str} {sc : Scope}
theorem cls_of (g : GX X G) {ci : Nat} (h : (G.cls.any fun c => decide (c.1 = ci)) = true) : Cls X.K (G.C ci) := by
  obtain ⟨t, ht, e⟩ := List.any_eq_true.mp h
  have e := of_decide_eq_true e
  subst e
  exact (g.cls t ht).1
theorem attr_of (g : GX X G) {ci : Nat} {f : Str} (h : (G.cls.any fun c => decide (c.1 = ci) && c.2.2.contains f) = true) : Cls X.K (G.C ci) ∧ NoAttr X.K (G.C ci) f := by
  obtain ⟨t, ht, e⟩ := List.any_eq_true.mp h
  simp only [Bool.and_eq_true, decide_eq_true_eq] at e
  obtain ⟨e1, e2⟩ := e
  subst e1
  exact ⟨(g.cls t ht).1, (g.cls t ht).2.2 f (by simpa using e2)⟩
/-- the instance at x -/
theorem ins_at {c : Cn} {S : Store} {H : Hp} (R : Rel c S H) {l C : Nat} {fs : List (Str × PV)} {v : V} {fp : List Addr} (h : RN c H (.ref l) v fp) (e : S[l]? = some (.ins C fs)) : ∃ a dx vs, c.m[l]? = some a ∧ v = .ref a ∧ H a = some (.ins (c.C C) dx vs) ∧ RVk c H fs vs := by
  simp only [RN] at h
  obtain ⟨a, hl, rfl, _⟩ := h
  obtain ⟨dx, vs, h1, h2⟩ := R.obj l _ a e hl
  exact ⟨a, dx, vs, hl, rfl, h1, h2⟩
theorem attr_is {ci : Nat} {f : Str} {x r : PV} {S : Store} (h : attrP ci f x S = some r) : ∃ l fs, x = .ref l ∧ S[l]? = some (.ins ci fs) ∧ fs.lookup f = some r := by
  unfold attrP at h
  split at h
  · split at h
    · split at h
      · rename_i e hc
        subst hc
        exact ⟨_, _, rfl, e, h⟩
      · cases h
    · cases h
  · cases h
theorem setat_is {ci : Nat} {f : Str} {x v : PV} {S S' : Store} (h : setatP ci f x v S = some S') : ∃ l fs, x = .ref l ∧ S[l]? = some (.ins ci fs) ∧ fs.length < 100 ∧ S' = S.set l (.ins ci (putFP f v fs)) := by
  unfold setatP at h
  split at h
  · split at h
    · split at h
      · rename_i e hc
        obtain ⟨rfl, hl⟩ := hc
        cases h
        exact ⟨_, _, rfl, e, hl, rfl⟩
      · cases h
    · cases h
  · cases h
theorem s_attr (g : GX X G) {ci : Nat} {a : E} {f : Str} {x : Expr} {p : Pos} (ho : isObj x = true) (hc : (G.cls.any fun c => decide (c.1 = ci) && c.2.2.contains f) = true) (hp : PEx X G W a x) : PEx X G W (.attr ci a f) (.Attribute x f p) := by
  obtain ⟨k1, k2⟩ := attr_of g hc
  refine PE.mono' (pe_fld hp (base_obj ho)) fun σ H Q ⟨c, S, ρ, hK, hC, R, L, P⟩ => ?_
  refine At.step (At0 hK hC R L) P fun c1 S1 v x fp H1 _ A t rn nd fr P => ?_
  cases e : attrP ci f v S1 with
  | none => rw [e] at P; exact P.elim
  | some r =>
    rw [e] at P
    obtain ⟨l, fs, rfl, e1, e2⟩ := attr_is e
    obtain ⟨b, dx, vs, hl, rfl, h1, h2⟩ := ins_at A.rel rn e1
    obtain ⟨w, e3, e4⟩ := (lookup_rvk h2).1 r e2
    rw [A.C] at h1
    exact ⟨b, _, dx, vs, w, rfl, h1, k1, k2, e3, PostG.ret P A e4 List.nodup_nil fun _ h => nomatch h⟩
theorem RNs.cons_ {c : Cn} {H : Hp} {x : PV} {xs : List PV} {v : V} {vs : List V} {f : List Addr} (h : RV c H x v) (r : RNs c H xs vs f) : RNs c H (x :: xs) (v :: vs) f := ⟨v, vs, [], f, rfl, h, r, rfl⟩
theorem rdA_nil {K : PySem.W.Frag} {C : Nat → Addr} {ce : Cl} {σ : L2.St} {H : Hp} {Q : List V → Hp → Prop} (h : rdA K C (evEs ce .nil) W σ H Q) : tNil σ H Q := by
  obtain ⟨c, S, ρ, hK, hC, R, L, P⟩ := h
  exact PostG.ret P (At0 hK hC R L) (x := []) (fp := []) (by simp [RNs]) List.nodup_nil fun _ h => nomatch h
theorem pe_callS0 {X : Cx} {CX : CXT} {k : Nat} {f : Addr} {fd : FuncData} {ps : List Str} {sp : Sp} {E : L2.St → XK} {x : Str} {p pos : Pos} (F : FnOk X.prog X.w X.K X.mg X.base CX k f fd ps sp) (hr : Room k X.A) (hg : Gl X x) (hm : X.mg x = some (.ref f)) (hk : PySem.W.keepIn X.K (.ref f) = true) (hb : Binds X.K fd ps []) (hx : ∀ σ, PassesAt CX X σ (E σ))
    (hdb : (x == ("__debug__" : Str)) = false) : PE X (.Call (.Name x p) [] [] pos) (tCallS sp E tNil) := by
  refine ⟨fun pins s σ H Q I h => ?_⟩
  refine wpAny_Call_Name_kw (ld_glob I hg hm ?_ hdb)
  exact PySem.W.callWith_K0 I.kIn hk (run_fnS F hr hb (hx σ) I .nil h)
theorem s_call0 (g : GX X G) (tk : Takes X W) {m : Md} {f : Nat} {x : Str} {p pos : Pos} (hs : X.env.scope = sc) (hf : ∃ e, G.tab[f]? = some e ∧ e.name = x ∧ e.n = 0 ∧ e.kd = .glob) (hg : isGl sc x = true) (hx : okName x = true) : PEx X G W (.call m f .nil) (.Call (.Name x p) [] [] pos) := by
  obtain ⟨en, e1, rfl, e3, e4⟩ := hf
  obtain ⟨fa, fd, ps, k, hr, hrc, hb, F⟩ := g.fn f en e1
  unfold Reach at hrc
  rw [e4] at hr hrc
  obtain ⟨hm, hk⟩ := hrc
  have ef : G.fs f = G.ce.f f := rfl
  refine PE.mono' (pe_callS0 (E := WE W) F hr (gl_of hs hg) hm hk hb (fun σ => passAt tk σ) (okName_of hx).1) fun σ H Q ⟨c, S, ρ, hK, hC, R, L, P⟩ => rdA_nil (At.step (At0 hK hC R L) P fun c1 S1 vs x fp H1 e A t rn nd fr P => ?_)
  have hl : vs.length = en.n := by
    simp only [evEs] at e
    cases e
    exact e3.symm
  rw [ef]
  cases m with
  | pure => exact callP_ok A rn hl P
  | full => exact callF_ok A rn nd fr hl P
  | trunc => exact P.elim
theorem meth_go {ci f n : Nat} {m : Str} {o : E} {es : Es} {t : TA} {l : Nat} (ef : G.fs f = G.ce.f f) (hl : l + 1 = n)
    (ht : ∀ σ H Q, rdA X.K G.C (evEs G.ce es) W σ H Q → t σ H Q) (hn : ∀ ρ S vs S', evEs G.ce es ρ S = .ok vs S' → vs.length = l) (σ : L2.St) (H : Hp) (Q : VK)
    (h : rdE X.K G.C (evE G.ce (.meth ci f m o es)) W σ H Q) : tMethE (G.C ci) m (spOf X.K G.C n (G.fs f)) (WE W) (rdE X.K G.C (evE G.ce o) W) t σ H Q := by
  obtain ⟨c, S, ρ, hK, hC, R, L, P⟩ := h
  refine At.step (At0 hK hC R L) P fun c1 S1 v x fp H1 _ A t rn nd fr P1 => ?_
  by_cases hi : insP ci m v S1 = true
  · rw [if_pos hi] at P1
    unfold insP at hi
    split at hi
    · rename_i l
      split at hi
      · rename_i C fs e5
        simp only [Bool.and_eq_true, decide_eq_true_eq] at hi
        obtain ⟨rfl, hno⟩ := hi
        obtain ⟨b, dx, vs, hl, rfl, h1, h2⟩ := ins_at A.rel rn e5
        rw [A.C] at h1
        refine ⟨b, dx, vs, rfl, h1, (lookup_rvk h2).2 (by simpa using hno), ht _ _ _ ?_⟩
        refine At.step A P1 fun c2 S2 ws ys fp2 H2 e6 A2 t2 rn2 nd2 fr2 P2 => ?_
        have r0 := rn.tr t2
        have hfp : fp = [] := by simp only [RN] at rn; obtain ⟨_, _, _, z⟩ := rn; exact z
        subst hfp
        rw [ef]
        exact callF_ok A2 (RNs.cons_ r0 rn2) nd2 (fun a ha => A.tr.there a (fr2 a ha)) (by rw [List.length_cons, hn _ _ _ _ e6]; assumption) P2
      · cases hi
    · cases hi
  · rw [if_neg hi] at P1
    exact P1.elim
theorem s_meth (g : GX X G) (tk : Takes X W) {ci f : Nat} {m : Str} {o : E} {es : Es} {x : Expr} {as : List Expr} {ap cp : Pos} (ho : isObj x = true) (hq : (ap.endLine == cp.line) = true) (hl30 : as.length < 30) (hc : (G.cls.any fun c => decide (c.1 = ci)) = true) (hf : ∃ e, G.tab[f]? = some e ∧ e.name = m ∧ as.length + 1 = e.n ∧ e.kd = .met ci)
    (hp : PEx X G W o x) (h : PAx X G W es as) (hpl : ∀ e, e ∈ as → plainE e = true) (hnil : as = [] → es = .nil) (hn : ∀ ρ S vs S', evEs G.ce es ρ S = .ok vs S' → vs.length = as.length) : PEx X G W (.meth ci f m o es) (.Call (.Attribute x m ap) as [] cp) := by
  obtain ⟨en, e1, rfl, e3, e4⟩ := hf
  obtain ⟨fa, fd, ps, k, hr, hrc, hb, F⟩ := g.fn f en e1
  unfold Reach at hrc
  rw [e4] at hr hrc
  have hm : Meth X.K (G.C ci) en.name fa := hrc
  have hr : Room k X.A := hr
  have hcls := cls_of g hc
  have ef : G.fs f = G.ce.f f := rfl
  obtain ⟨pl, ht⟩ := meth_eval (o := x) (m := en.name) (as := as) (env := X.env) (ap := ap) (cp := cp) ho hq hl30 hpl
  cases as with
  | nil =>
    have e := hnil rfl
    subst e
    exact PE.mono' (pe_methE0 (E := WE W) hp hcls hm F hr hb (fun σ => passAt tk σ) ht) fun σ H Q q => meth_go ef e3 (fun _ _ _ h => rdA_nil h) hn σ H Q q
  | cons y ys =>
    exact PE.mono' (pe_methE (E := WE W) hp hcls hm F hr hb (fun σ => passAt tk σ) h (star_plain (hpl y List.mem_cons_self)) (back_plain fun e he => hpl e (List.mem_cons_of_mem _ he)) ht) fun σ H Q q => meth_go ef e3 (fun _ _ _ h => h) hn σ H Q q
theorem makeF_ok {K : PySem.W.Frag} {C : Nat → Addr} {c0 c : Cn} {H0 H : Hp} {S : Store} {ρ : Loc} {σ : L2.St} {W : XK} {Q : VK} {ce : Call} {ci f : Nat} {n : Nat} {args : List PV} {vs : List V} {fp : List Addr}
    (A : At K C c0 H0 c S ρ σ H) (h : RNs c H args vs fp) (nd : fp.Nodup) (fr : ∀ a, a ∈ fp → H0 a = none) (hn : args.length + 1 = n) (P : Post c0 H0 (makeF ce ci f args S) W Q)
    (x dx : Addr) (h1 : H x = none) (h2 : H dx = none) (h3 : dx ≠ x) : spOf K C n (ce f) (.ref x :: vs) (upd (upd H dx (.own x)) x (.ins (C ci) dx [])) (fun v H2 => v = .non ∧ Q (.ref x) H2) W := by
  obtain ⟨c1, e1, R1, r1⟩ := adopts_ok A.rel h nd
  have hl : (V.ref x :: vs).length = n := by rw [List.length_cons, ← h.length]; exact hn
  have f1 : (upd H dx (HO.own x)) x = none := by rw [upd_ne (fun z => h3 z.symm)]; exact h1
  have t1 : Tr c0 H0 c1 H := A.tr.ext e1 fr
  have Rf := (R1.fresh (o := .own x) h2).fresh (o := .ins (C ci) dx []) f1
  have t2 := (t1.trans (Tr.fresh (o := .own x) h2)).trans (Tr.fresh (o := .ins (C ci) dx []) f1)
  obtain ⟨n1, n2, n3⟩ := R1.new h1
  have nw : NewAt c1 (upd (upd H dx (.own x)) x (.ins (C ci) dx [])) x := ⟨⟨_, upd_same⟩, n1, n2, n3⟩
  have eC : c1.C = C := e1.C.trans A.C
  have R2 := Rf.add (po := .ins ci []) nw ⟨dx, [], by rw [upd_same, eC], .nil⟩
  have t3 : Tr c0 H0 (c1.add x) (upd (upd H dx (.own x)) x (.ins (C ci) dx [])) := t2.ext (Cn.add_ext x) fun a ha => by
    rw [List.mem_singleton.mp ha]; exact A.tr.there _ h1
  have hx : (c1.add x).m[(adopts args S).2.length]? = some x := by
    show (c1.m ++ [x])[_]? = _
    rw [← R1.len, List.getElem?_append_right (Nat.le_refl _), Nat.sub_self]
    rfl
  have ta : Tr c1 H (c1.add x) (upd (upd H dx (.own x)) x (.ins (C ci) dx [])) := ((Tr.fresh (c := c1) (o := .own x) h2).trans (Tr.fresh (o := .ins (C ci) dx []) f1)).ext (Cn.add_ext x) fun a ha => by
    rw [List.mem_singleton.mp ha]; exact h1
  have r2 : RVs (c1.add x) (upd (upd H dx (.own x)) x (.ins (C ci) dx [])) (adopts args S).1 vs := RNs.tr ta r1
  have r3 : RV (c1.add x) (upd (upd H dx (.own x)) x (.ins (C ci) dx [])) (.ref (adopts args S).2.length) (.ref x) := by
    simp only [RN]
    exact ⟨x, hx, rfl, trivial⟩
  refine ⟨hl, c1.add x, (adopts args S).2 ++ [.ins ci []], .ref (adopts args S).2.length :: (adopts args S).1, e1.K.trans A.K, eC, R2, RNs.cons_ r3 r2, ?_⟩
  unfold makeF at P
  cases q : ce f (.ref (adopts args S).2.length :: (adopts args S).1) ((adopts args S).2 ++ [.ins ci []]) with
  | fail => rw [q] at P; exact P.elim
  | ok r S' =>
    rw [q] at P
    cases r with
    | non =>
      intro c2 H2 y fp2 t R2' rn nd2 fr2
      simp only [RN] at rn
      refine ⟨rn.1, P c2 H2 (.ref x) [] (t3.trans t) R2' ?_ List.nodup_nil fun _ h => nomatch h⟩
      exact RN.tr t r3
    | _ => exact P.elim
  | exc i p S' =>
    rw [q] at P
    intro c2 H2 d t R2' y
    have := P c2 H2 d (t3.trans t) R2' y
    rw [t3.C]
    exact this
theorem make_go {ci f n l : Nat} {es : Es} {t : TA} (ef : G.fs f = G.ce.f f) (hl : l + 1 = n)
    (ht : ∀ σ H Q, rdA X.K G.C (evEs G.ce es) W σ H Q → t σ H Q) (hn : ∀ ρ S vs S', evEs G.ce es ρ S = .ok vs S' → vs.length = l) (σ : L2.St) (H : Hp) (Q : VK)
    (h : rdE X.K G.C (evE G.ce (.make ci f es)) W σ H Q) : tMakeE (G.C ci) (spOf X.K G.C n (G.fs f)) (WE W) t σ H Q := by
  obtain ⟨c, S, ρ, hK, hC, R, L, P⟩ := h
  refine ht _ _ _ (At.step (At0 hK hC R L) P fun c1 S1 ws ys fp H1 e6 A t rn nd fr P1 => ?_)
  intro x dx h1 h2 h3
  rw [ef]
  exact makeF_ok A rn nd fr (by rw [hn _ _ _ _ e6]; exact hl) P1 x dx h1 h2 h3
theorem s_make (g : GX X G) (tk : Takes X W) {ci f : Nat} {x : Str} {es : Es} {as : List Expr} {p cp : Pos} (hs : X.env.scope = sc) (hg : isGl sc x = true) (hx : okName x = true) (hc : (G.cls.any fun c => decide (c.1 = ci) && decide (c.2.1 = x)) = true) (hf : ∃ e, G.tab[f]? = some e ∧ as.length + 1 = e.n ∧ e.kd = .ini ci)
    (h : PAx X G W es as) (hpl : ∀ e, e ∈ as → plainE e = true) (hnil : as = [] → es = .nil) (hn : ∀ ρ S vs S', evEs G.ce es ρ S = .ok vs S' → vs.length = as.length) : PEx X G W (.make ci f es) (.Call (.Name x p) as [] cp) := by
  obtain ⟨en, e1, e3, e4⟩ := hf
  obtain ⟨fa, fd, ps, k, hr, hrc, hb, F⟩ := g.fn f en e1
  unfold Reach at hrc
  rw [e4] at hr hrc
  have hm : Mk X.K (G.C ci) fa := hrc
  have hr : Room (k + 1) X.A := hr
  have ef : G.fs f = G.ce.f f := rfl
  obtain ⟨t, ht, e⟩ := List.any_eq_true.mp hc
  simp only [Bool.and_eq_true, decide_eq_true_eq] at e
  obtain ⟨rfl, rfl⟩ := e
  have hgl := (g.cls t ht).2.1
  cases as with
  | nil =>
    have e := hnil rfl
    subst e
    exact PE.mono' (pe_makeE0 (E := WE W) hm F hr (gl_of hs hg) hgl hb (fun σ => passAt tk σ) (okName_of hx).1) fun σ H Q q => make_go ef e3 (fun _ _ _ h => rdA_nil h) hn σ H Q q
  | cons y ys =>
    exact PE.mono' (pe_makeE (E := WE W) hm F hr (gl_of hs hg) hgl hb (fun σ => passAt tk σ) h (okName_of hx).1 (star_plain (hpl y List.mem_cons_self)) (back_plain fun e he => hpl e (List.mem_cons_of_mem _ he))) fun σ H Q q => make_go ef e3 (fun _ _ _ h => h) hn σ H Q q
/-! ### written dicts -/
def flat : List (V × V) → List V
  | [] => []
  | p :: r => p.1 :: p.2 :: flat r
def PDx (X : Cx) (G : GT) (W : WX) (es : Es) (ks : List (Option Expr)) (vs : List Expr) : Prop :=
  ∃ trs, (∀ pos, PPs X pos ks vs trs) ∧ ks.all (·.isSome) = true ∧ ks.length = vs.length ∧ ∀ σ H Q Q', rdA X.K G.C (evEs G.ce es) W σ H Q → (∀ ps H2, Q (flat ps) H2 → Q' ps H2) → tPairs trs σ H Q'
theorem d_nil : PDx X G W .nil [] [] := ⟨[], fun _ => pps_nil, rfl, rfl, fun σ H Q Q' h k => k [] H (rdA_nil h)⟩
theorem d_cons {k v : E} {es : Es} {x y : Expr} {ks : List (Option Expr)} {vs : List Expr} (hk : PEx X G W k x) (hv : PEx X G W v y) (r : PDx X G W es ks vs) : PDx X G W (.cons k (.cons v es)) (some x :: ks) (y :: vs) := by
  obtain ⟨trs, r1, r2, r3, r4⟩ := r
  refine ⟨(_, _) :: trs, fun pos => pps_cons hk hv (r1 pos), by rw [List.all_cons, r2]; rfl, by rw [List.length_cons, List.length_cons, r3], fun σ H Q Q' ⟨c, S, ρ, hK, hC, R, L, P⟩ kk => ?_⟩
  show rdE X.K G.C (evE G.ce k) W σ H _
  refine At.step (At0 hK hC R L) P fun c1 S1 v1 x1 fp1 H1 _ A1 t1 rn1 nd1 fr1 P1 => ?_
  show rdE X.K G.C (evE G.ce v) W σ H1 _
  simp only [evEs] at P1
  have P1' : PostG RNs c H ((evE G.ce v ρ S1).bind fun v2 S2 => (evEs G.ce es ρ S2).bind fun vs S => .ok (v1 :: v2 :: vs) S) (fun cls d H' => W cls d σ H') Q := by
    cases q : evE G.ce v ρ S1 with
    | ok a S2 =>
      rw [q] at P1
      simp only [Res.bind_ok] at P1 ⊢
      cases q2 : evEs G.ce es ρ S2 with
      | ok b S3 => rw [q2] at P1; exact P1
      | exc _ _ _ => rw [q2] at P1; exact P1
      | fail => rw [q2] at P1; exact P1
    | exc _ _ _ => rw [q] at P1; exact P1
    | fail => rw [q] at P1; exact P1
  refine At.step A1 P1' fun c2 S2 v2 x2 fp2 H2 _ A2 t2 rn2 nd2 fr2' P2 => ?_
  refine r4 _ _ (fun ws H3 => Q (x1 :: x2 :: ws) H3) _ (At.step A2 P2 fun c3 S3 vs3 ws fp3 H3 _ A3 t3 rn3 nd3 fr3 P3 => ?_) fun ps H3 q => kk _ _ q
  have q1 := apart rn2 nd2 nd3 fr3
  refine PostG.ret P3 A3 (x := x1 :: x2 :: ws) (fp := fp1 ++ (fp2 ++ fp3)) ?_ ?_ ?_
  · simp only [RNs]
    exact ⟨x1, _, fp1, fp2 ++ fp3, rfl, (rn1.tr t2).tr t3, ⟨x2, ws, fp2, fp3, rfl, rn2.tr t3, rn3, rfl⟩, rfl⟩
  · exact apart rn1 nd1 q1 fun a ha => (List.mem_append.mp ha).elim (fr2' a) fun z => t2.there a (fr3 a z)
  · exact fr2 fr1 (fr2 (fun q hq => A1.tr.there q (fr2' q hq)) fun q hq => A2.tr.there q (fr3 q hq))
theorem dsp_rn {c : Cn} {H : Hp} : ∀ {ws : List PV} {ps : List (V × V)} {fp : List Addr} {ks : List Key} {xs : List PV}, RNs c H ws (flat ps) fp → dspP ws = some (ks, xs) → ∃ vs, ps = (ks.zip vs).map (fun kv => (kV kv.1, kv.2)) ∧ ks.length = vs.length ∧ RNs c H xs vs fp
  | [], ps, _, _, _, h, e => by
    simp only [RNs] at h
    unfold dspP at e
    cases e
    cases ps with
    | nil => exact ⟨[], rfl, rfl, by simp [RNs, h.2]⟩
    | cons p r => exact absurd h.1 (by simp [flat])
  | [_], _, _, _, _, _, e => by unfold dspP at e; cases e
  | k :: v :: r, ps, fp, _, _, h, e => by
    unfold dspP at e
    split at e <;> cases e
    rename_i k' p ek ep
    simp only [RNs] at h
    obtain ⟨v1, r1, f1, f2, e1, h1, ⟨v2, r2, g1, g2, e2, h2, h3, rfl⟩, rfl⟩ := h
    subst e2
    cases ps with
    | nil => simp [flat] at e1
    | cons q ps =>
      simp only [flat, List.cons.injEq] at e1
      obtain ⟨rfl, rfl, rfl⟩ := e1
      obtain ⟨a1, a2⟩ := key_sound ek h1
      subst a2
      obtain ⟨vs, b1, b2, b3⟩ := dsp_rn h3 ep
      refine ⟨q.2 :: vs, ?_, by rw [List.length_cons, List.length_cons, b2], ?_⟩
      · rw [List.zip_cons_cons, List.map_cons, ← b1]
        show q :: ps = (kV k', q.2) :: ps
        rw [← a1]
      · simp only [RNs]
        exact ⟨q.2, vs, g1, g2, rfl, h2, b3, rfl⟩
theorem merge_nd : ∀ {more kvs : List (Key × V)}, (kvs.map Prod.fst ++ more.map Prod.fst).Nodup → mergeK kvs more = kvs ++ more
  | [], kvs, _ => by show kvs = kvs ++ []; rw [List.append_nil]
  | p :: r, kvs, h => by
    have hp : putK kvs p.1 p.2 = kvs ++ [p] := by
      unfold putK
      rw [if_neg]
      intro z
      obtain ⟨q, hq, e⟩ := List.any_eq_true.mp z
      have e := of_decide_eq_true e
      rw [List.nodup_append] at h
      exact h.2.2 q.1 (List.mem_map_of_mem hq) p.1 (by rw [List.map_cons]; exact List.mem_cons_self) e
    show mergeK (putK kvs p.1 p.2) r = _
    rw [hp, merge_nd (by rw [List.map_append, List.append_assoc]; exact h), List.append_assoc]
    rfl
theorem s_dsp {es : Es} {ks : List (Option Expr)} {vs : List Expr} {pos : Pos} (h0 : ks ≠ []) (h15 : ks.length ≤ 15) (r : PDx X G W es ks vs) : PEx X G W (.dsp es) (.Dict ks vs pos) := by
  obtain ⟨trs, r1, r2, r3, r4⟩ := r
  refine PE.mono' (pe_disp (r1 pos) r2 r3 h0 h15) fun σ H Q ⟨c, S, ρ, hK, hC, R, L, P⟩ => ?_
  intro p hp
  have Ap : At X.K G.C c H c S ρ σ (upd H p (.dK [])) := ⟨hK, hC, Tr.fresh hp, R.fresh hp, L.tr (Tr.fresh hp)⟩
  have key : rdA X.K G.C (evEs G.ce es) W σ (upd H p (.dK [])) fun ws H2 => ∀ ps, ws = flat ps → H2 p = some (.dK []) ∧ ∃ kvs : List (Key × V), ps = kvs.map (fun kv => (kV kv.1, kv.2)) ∧ kvs.length ≤ 15 ∧ Q (.ref p) (upd H2 p (.dK (mergeK [] kvs))) := by
    refine At.step Ap P fun c1 S1 ws us fp H1 _ A t rn nd fr P1 => ?_
    intro ps eps
    subst eps
    unfold dspV at P1
    split at P1
    · rename_i q eq
      split at P1
      · rename_i hq
        obtain ⟨ks', xs⟩ := q
        obtain ⟨hnd, h15'⟩ := hq
        obtain ⟨us, e1, e2, e3⟩ := dsp_rn rn eq
        obtain ⟨n1, n2, n3⟩ := R.new hp
        have hp1 : H1 p = some (.dK []) := t.keep p _ upd_same (.inl n3)
        obtain ⟨_, f1, f2, f3⟩ := new_tr t ⟨(upd_same : upd H p (.dK []) p = _), n1, n2, n3⟩
        have hl : (ks'.zip us).length ≤ 15 := by rw [List.length_zip, ← e2, Nat.min_self]; exact h15'
        have hm : mergeK [] (ks'.zip us) = ks'.zip us := by
          rw [merge_nd (by rw [List.map_nil, List.nil_append, List.map_fst_zip (Nat.le_of_eq e2)]; exact hnd)]
          rfl
        refine ⟨hp1, ks'.zip us, e1, hl, ?_⟩
        rw [hm]
        have hfp : p ∉ fp := fun z => by
          have := fr p z
          rw [upd_same] at this
          cases this
        refine P1 c1 _ (.ref p) (p :: fp) (A.tr.mut hp) (A.rel.mutO (o := .dK []) (fun h => h) hp1 f3 f1 f2) ?_ (List.nodup_cons.mpr ⟨hfp, nd⟩) ?_
        · simp only [RN]
          exact ⟨p, us, fp, rfl, ⟨upd_same, f1, f2, f3⟩, e2, e3.mutO (o := .dK []) (fun h => h) hp1 hfp, own_new.symm, .inl trivial⟩
        · intro a ha
          rcases List.mem_cons.mp ha with rfl | ha
          · exact hp
          · exact (Tr.fresh (c := c) hp).there a (fr a ha)
      · exact P1.elim
    · exact P1.elim
  exact r4 _ _ _ _ key fun ps H2 q => q ps rfl
end
end Ev
end
set_option Elab.async false
set_option linter.all false
set_option maxRecDepth 100000
/-! EvU: [f(o.fld[k], w) for k in o.fld], a dict walked by its keys while it is locked. -/
noncomputable section
namespace Ev
open PySem L2 PyProof.Rows
mutual
theorem RN.imm {c c' : Cn} {H H' : Hp} (t : ∀ a vs, SqT c.K H a vs → SqT c'.K H' a vs) : ∀ {x : PV} {v : V} {fp : List Addr}, immP x = true → RN c H x v fp → RN c' H' x v fp
  | .non, _, _, _, h => by simpa only [RN] using h
  | .bl _, _, _, _, h => by simpa only [RN] using h
  | .int _, _, _, _, h => by simpa only [RN] using h
  | .str _, _, _, _, h => by simpa only [RN] using h
  | .tup xs, _, _, i, h => by
    simp only [immP] at i
    simp only [RN] at h ⊢
    obtain ⟨a, vs, e, q, r⟩ := h
    exact ⟨a, vs, e, t a vs q, RNs.imm t i r⟩
  | .ref _, _, _, i, _ => by simp [immP] at i
  | .lst _ _, _, _, i, _ => by simp [immP] at i
  | .dK _ _ _, _, _, i, _ => by simp [immP] at i
  | .dT _ _ _, _, _, i, _ => by simp [immP] at i
theorem RNs.imm {c c' : Cn} {H H' : Hp} (t : ∀ a vs, SqT c.K H a vs → SqT c'.K H' a vs) : ∀ {xs : List PV} {vs : List V} {fp : List Addr}, immPs xs = true → RNs c H xs vs fp → RNs c' H' xs vs fp
  | [], _, _, _, h => by simpa only [RNs] using h
  | x :: xs, _, _, i, h => by
    simp only [immPs, Bool.and_eq_true] at i
    simp only [RNs] at h ⊢
    obtain ⟨v, r, f1, f2, e, h1, h2, e2⟩ := h
    exact ⟨v, r, f1, f2, e, RN.imm t i.1 h1, RNs.imm t i.2 h2, e2⟩
end
theorem cdL_at {ce : Call} {f : Nat} {x : Str} : ∀ {vs : List PV} {is : List Int}, cdL ce f x vs = some is → vs.length = is.length ∧ ∀ (j : Nat) v, vs[j]? = some v → immP v = true ∧ ∃ i S', is[j]? = some i ∧ ce f [v, .str x] [] = .ok (.int i) S'
  | [], _, h => by cases h; exact ⟨rfl, fun j v e => by simp at e⟩
  | v :: r, is, h => by
    unfold cdL at h
    split at h
    · rename_i hi
      split at h
      · rename_i i S' e
        cases q : cdL ce f x r with
        | none => rw [q] at h; cases h
        | some js =>
          rw [q] at h
          cases h
          obtain ⟨l, g⟩ := cdL_at q
          refine ⟨by simp [l], fun j w ew => ?_⟩
          cases j with
          | zero => cases ew; exact ⟨hi, i, S', rfl, e⟩
          | succ j => exact g j w (by simpa using ew)
      · cases h
    · cases h
theorem wipe1_get {σ : L2.St} {i k : Nat} {x : V} (h : σ[i]? = some (some x)) (ne : k ≠ i) (y : Option V) : ((wipe σ [k]).set k y)[i]? = some (some x) := by
  show ((σ.set k none).set k y)[i]? = _
  rw [List.getElem?_set_ne ne, List.getElem?_set_ne ne]
  exact h
theorem valV_nodup {kvs : List (Key × V)} {i : Nat} {k : Key} {v : V} (nd : (kvs.map (·.1)).Nodup) (e : kvs[i]? = some (k, v)) : valV kvs k = some v := by
  induction kvs generalizing i with
  | nil => simp at e
  | cons p r ih =>
    rw [List.map_cons, List.nodup_cons] at nd
    unfold valV
    cases i with
    | zero =>
      simp only [List.getElem?_cons_zero, Option.some.injEq] at e
      subst e
      simp
    | succ i =>
      simp only [List.getElem?_cons_succ] at e
      have : p.1 ≠ k := fun z => nd.1 (by rw [z]; exact List.mem_map.mpr ⟨(k, v), List.mem_of_getElem? e, rfl⟩)
      rw [List.find?_cons_of_neg (by simpa using this)]
      exact ih nd.2 e
theorem RNs.ints {c : Cn} {H : Hp} : ∀ is : List Int, RNs c H (is.map PV.int) (is.map V.int) []
  | [] => by simp [RNs]
  | i :: is => by
    simp only [List.map_cons, RNs]
    exact ⟨.int i, _, [], [], rfl, by simp [RN], RNs.ints is, rfl⟩
section
variable {X : Cx} {G : GT} {W : WX}
abbrev noX : WX := fun _ _ _ _ => False
/-- the body, as it stands -/
def teD (X : Cx) (G : GT) (fld : Str) (f s k w : Nat) : TE := tCallS (spOf X.K G.C 2 (G.fs f)) (WE noX) (tCons (tOp (rIxE X.K) (tFld X.K (tVar s) fld) (tVar k)) (tCons (tVar w) tNil))
theorem compD_rd {ci s f k w : Nat} {fld : Str} (k1 : Cls X.K (G.C ci)) (k2 : NoAttr X.K (G.C ci) fld) (ks : k ≠ s) (kw : k ≠ w) {σ : L2.St} {H : Hp} {Q : VK}
    (h : rdE X.K G.C (fun ρ S => ofO (cdV G.ce.f ci s fld f k w ρ S) S) W σ H Q) : tLockE (tLc (iKeys (tFld X.K (tVar s) fld)) (gName k) tYes (teD X G fld f s k w) [k]) σ H Q := by
  obtain ⟨c, S, ρ, hK, hC, R, L, P⟩ := h
  dsimp only at P
  cases e : cdV G.ce.f ci s fld f k w ρ S with
  | none => rw [e] at P; exact P.elim
  | some r =>
    rw [e] at P
    unfold cdV at e
    split at e
    · rename_i o x es ew
      split at e
      · rename_i l ea
        split at e
        · rename_i kvs el
          split at e
          · rename_i hc
            obtain ⟨hfew, hnd, hkl⟩ := hc
            cases ec : cdL G.ce.f f x (kvs.map (·.2)) with
            | none => rw [ec] at e; cases e
            | some is =>
              rw [ec] at e
              cases e
              obtain ⟨hlen, hat⟩ := cdL_at ec
              obtain ⟨l0, fs, rfl, e1, e2⟩ := attr_is ea
              obtain ⟨so, h1, h2⟩ := L.get es
              obtain ⟨b, dx, ivs, hl, rfl, hb, hvs⟩ := ins_at R h2 e1
              obtain ⟨wd, e3, e4⟩ := (lookup_rvk hvs).1 _ e2
              simp only [RN] at e4
              obtain ⟨d, hd, rfl, _⟩ := e4
              obtain ⟨sw, h3, h4⟩ := L.get ew
              simp only [RN] at h4
              obtain ⟨rfl, _⟩ := h4
              obtain ⟨vs, hdk, hrk⟩ := R.obj l _ d el hd
              rw [hC] at hb
              have bd : b ≠ d := fun z => by rw [z, hdk] at hb; cases hb
              have lv : kvs.length = vs.length := Paired.length hrk
              have hkeys : kvs.map (·.1) = vs.map (·.1) := (RVk.vals hrk).2
              have hvals : RVs c H (kvs.map (·.2)) (vs.map (·.2)) := (RVk.vals hrk).1
              have ndv : (vs.map (·.1)).Nodup := by rw [← hkeys]; exact hnd
              refine ⟨d, .dK vs, hdk, trivial, fun od => ?_⟩
              generalize hHl : upd H d (.frz od (.dK vs)) = Hl
              have Hld : Hl d = some (.frz od (.dK vs)) := by rw [← hHl]; exact upd_same
              have Hln : ∀ a, a ≠ d → Hl a = H a := fun a ne => by rw [← hHl]; exact upd_ne ne
              have Hlb : Hl b = some (.ins (G.C ci) dx ivs) := by rw [Hln b bd]; exact hb
              have Hl0 : ∀ a, Hl a = none → a ≠ d ∧ H a = none := fun a ha => by
                have ne : a ≠ d := fun z => by rw [z, Hld] at ha; cases ha
                exact ⟨ne, by rw [← Hln a ne]; exact ha⟩
              have SqTl : ∀ a us, SqT c.K H a us → SqT c.K Hl a us := fun a us q => by
                rcases q with q | q
                · refine .inl ?_
                  have ne : a ≠ d := fun z => by
                    rw [z] at q
                    rcases q with q | ⟨_, q⟩ <;> (rw [hdk] at q; cases q)
                  rcases q with q | ⟨o, q⟩
                  · exact .inl (by rw [Hln a ne]; exact q)
                  · exact .inr ⟨o, by rw [Hln a ne]; exact q⟩
                · exact .inr q
              refine ⟨.ref b, h1, b, _, dx, ivs, .ref d, rfl, Hlb, k1, k2, e3, d, od, rfl, .inl ⟨vs, Hld, fun D hD => ?_⟩⟩
              obtain ⟨Dd, hD0⟩ := Hl0 D hD
              let Wv : Nat → Nat → Hp → Prop := fun i m Hh => m = vs.length - i ∧ i ≤ vs.length ∧ (∀ a o, Hl a = some o → Hh a = some o) ∧ (∀ a, Hh a = none → Hl a = none) ∧ Hh D = some (.lst ((is.take i).map V.int))
              refine ⟨Wv, ⟨vs.length, rfl, Nat.zero_le _, fun a o ha => ?_, fun a ha => ?_, by rw [upd_same]; rfl⟩, ?_⟩
              · rw [upd_ne (ne_of_none ha hD)]; exact ha
              · by_cases z : a = D
                · rw [z, upd_same] at ha; cases ha
                · rw [upd_ne z] at ha; exact ha
              rintro i m Hh ⟨rfl, hi', up, dn, hDv⟩
              have Hhd := up _ _ Hld
              have Hhb := up _ _ Hlb
              by_cases hlt : i < vs.length
              · refine .inr ⟨⟨Hhd, hlt⟩, fun H' => Wv (i + 1) (vs.length - (i + 1)) H', fun H' w => ⟨_, by omega, w⟩, fun y H'' hy => ?_⟩
                obtain ⟨rfl, k0, v0, hv0, rfl⟩ := hy
                refine ⟨by rw [wipe_set List.mem_cons_self, wipe_wipe _ _ fun v hv => hv], ?_⟩
                unfold tYes
                dsimp only
                rw [if_pos rfl]
                have hik : i < kvs.length := by omega
                obtain ⟨p, hp⟩ : ∃ p, kvs[i]? = some p := ⟨_, List.getElem?_eq_getElem hik⟩
                have hpv : (kvs.map (·.2))[i]? = some p.2 := by rw [List.getElem?_map, hp]; rfl
                obtain ⟨him, z, S', hz, hf⟩ := hat i p.2 hpv
                have hrv : RV c H p.2 v0 := by
                  obtain ⟨q, hq, _, e2⟩ := paired_get hrk hp
                  rw [hv0] at hq
                  cases hq
                  exact e2
                have sz : (wipe σ [k]).length = σ.length := wipe_length _ _
                refine ⟨.ref b, wipe1_get h1 ks _, b, _, dx, ivs, .ref d, rfl, Hhb, k1, k2, e3, kV k0, ?_, ?_⟩
                · show ((wipe σ [k]).set k (some (kV k0)))[k]? = _
                  rw [List.getElem?_set_self (by rw [wipe_length, ← Paired.length L]; exact hkl)]
                · refine .inr ⟨d, v0, rfl, .inl ⟨vs, k0, .inr ⟨od, Hhd⟩, rfl, (valV_nodup ndv hv0).symm⟩, .str x, wipe1_get h3 kw _, ?_⟩
                  refine ⟨rfl, lendC c H'', [], [p.2, .str x], hK, hC, Rel.lendC, ?_, ?_⟩
                  · simp only [RVs, RNs]
                    refine ⟨v0, [.str x], [], [], rfl, ?_, ⟨.str x, [], [], [], rfl, by simp [RN], ⟨rfl, rfl⟩, rfl⟩, rfl⟩
                    refine RN.imm (fun a us q => ?_) him hrv
                    rcases SqTl a us q with q | q
                    · rcases q with q | ⟨o, q⟩
                      · exact .inl (.inl (up _ _ q))
                      · exact .inl (.inr ⟨o, up _ _ q⟩)
                    · exact .inr q
                  · rw [show G.fs f = G.ce.f f from rfl, hf]
                    intro c2 H2 y fp2 t R2 rn nd fr
                    simp only [RN] at rn
                    obtain ⟨rfl, rfl⟩ := rn
                    have kp : ∀ a o, H'' a = some o → H2 a = some o := fun a o ha => t.keep a o ha (.inl (fun z => nomatch z))
                    refine ⟨_, kp _ _ hDv, ?_, rfl, by omega, fun a o ha => ?_, fun a ha => ?_, ?_⟩
                    · rw [List.length_map, List.length_take]
                      have := fewn hfew
                      have e16 : sizeLine = 16777216 := sizeLine_eq
                      omega
                    · rw [upd_ne (ne_of_none ha hD)]
                      exact kp _ _ (up _ _ ha)
                    · by_cases z : a = D
                      · rw [z, upd_same] at ha; cases ha
                      · rw [upd_ne z] at ha; exact dn _ (t.there _ ha)
                    · rw [upd_same]
                      have : is.take (i + 1) = is.take i ++ [z] := by
                        rw [List.take_succ, hz]; rfl
                      rw [this, List.map_append]
                      rfl
              · have hie : i = vs.length := by omega
                subst hie
                refine .inl ⟨⟨Hhd, Nat.le_refl _⟩, Hhd, ?_⟩
                have kp : ∀ a o, H a = some o → upd Hh d (.dK vs) a = some o := fun a o ha => by
                  by_cases z : a = d
                  · rw [z, upd_same]; rw [z, hdk] at ha; exact ha
                  · rw [upd_ne z]; exact up _ _ (by rw [Hln a z]; exact ha)
                have th : ∀ a, upd Hh d (.dK vs) a = none → H a = none := fun a ha => by
                  by_cases z : a = d
                  · rw [z, upd_same] at ha; cases ha
                  · rw [upd_ne z] at ha; exact (Hl0 a (dn _ ha)).2
                have t : Tr c H c (upd Hh d (.dK vs)) := ⟨rfl, rfl, rfl, List.prefix_refl _, fun _ h => .inl h, fun _ _ h => h, fun _ _ h => .inl h, fun a o ha _ => kp a o ha, th⟩
                have R' : Rel c S (upd Hh d (.dK vs)) := ⟨R.len, R.nd, fun i o a e1 e2 => by
                  have q := R.obj i o a e1 e2
                  refine RO.tr t ?_ q
                  obtain ⟨u, hu, _⟩ := R.alive (List.mem_of_getElem? e2)
                  rw [hu]; exact kp _ _ hu, R.mB, R.mF, fun a o h => kp a o (R.bh a o h), fun a o h => kp a o (R.fh a o h)⟩
                obtain ⟨n1, n2, n3⟩ := R.new hD0
                refine P c (upd Hh d (.dK vs)) (.ref D) [D] t R' ?_ (by simp) fun a ha => by rw [List.mem_singleton.mp ha]; exact hD0
                simp only [RN]
                refine ⟨D, is.map V.int, [], rfl, ⟨?_, n1, n2, n3⟩, RNs.ints is, own_new.symm, .inl trivial⟩
                rw [upd_ne Dd, hDv]
                have : is.take vs.length = is := List.take_of_length_le (by rw [← hlen, List.length_map]; omega)
                rw [this]
          · cases e
        · cases e
      · cases e
    · cases e
end
end Ev
end
set_option Elab.async false
set_option linter.all false
set_option maxRecDepth 100000
/-! EvK: comprehensions; soundness of every term. -/
noncomputable section
namespace Ev
open PySem L2 PyProof.Rows
/-! ### a list that grows, known to none -/
section
variable {c : Cn} {H : Hp} {p : Addr} {q q' : List V}
theorem RN.mut (hp : H p = some (.lst q)) {x : PV} {v : V} {fp : List Addr} (h : RN c H x v fp) (f : p ∉ fp) : RN c (upd H p (.lst q')) x v fp := RN.mutO (o := .lst q) (fun h => h) hp h f
theorem RNs.mut (hp : H p = some (.lst q)) {x : List PV} {v : List V} {fp : List Addr} (h : RNs c H x v fp) (f : p ∉ fp) : RNs c (upd H p (.lst q')) x v fp := RNs.mutO (o := .lst q) (fun h => h) hp h f
theorem Rel.mut {S : Store} (R : Rel c S H) (hp : H p = some (.lst q)) (h1 : p ∉ c.m) (h2 : c.F p = none) (h3 : c.B p = none) : Rel c S (upd H p (.lst q')) := R.mutO (o := .lst q) (fun h => h) hp h1 h2 h3
end
section
variable {X : Cx} {G : GT} {W : WX} {N : List Str} {sc : Scope}
abbrev noW : WX := fun _ _ _ _ => False
/-- none or one test -/
def tCs (X : Cx) (G : GT) : Es → TT
  | .cons c _ => rdT X.K G.C (evE G.ce c) noW
  | .nil => tYes
theorem rdG.of {α β : Type} {rel : RelT α β} {K : PySem.W.Frag} {C : Nat → Addr} {c0 c : Cn} {H0 H : Hp} {S S1 : Store} {ρ : Loc} {σ : L2.St} {f : Loc → Store → Res α} {v : α} {W : WX} {Q : β → Hp → Prop} (A : At K C c0 H0 c S ρ σ H) (e : f ρ S = .ok v S1)
    (k : ∀ c1 H1 x fp, Tr c H c1 H1 → Rel c1 S1 H1 → rel c1 H1 v x fp → fp.Nodup → (∀ a, a ∈ fp → H a = none) → Q x H1) : rdG rel K C f W σ H Q := by
  refine ⟨c, S, ρ, A.K, A.C, A.rel, A.loc, ?_⟩
  rw [e]
  exact k
theorem compL_ok {body : PV → Store → Res (Option PV)} {g : Option Nat} {all r : List PV} {x : PV} {S : Store} {acc : List PV} {c0 : Cn} {H0 : Hp} {W : XK} {Q : VK}
    (P : Post c0 H0 ((compL body g all (x :: r) S).bind fun vs S => .ok (.lst .new (acc ++ vs)) S) W Q) :
    Gd g all S ∧ ∃ o S1, body x S = .ok o S1 ∧ Post c0 H0 ((compL body g all r S1).bind fun vs S => .ok (.lst .new ((acc ++ o.toList) ++ vs)) S) W Q := by
  unfold compL at P
  by_cases hg : Gd g all S
  · rw [if_pos hg] at P
    refine ⟨hg, ?_⟩
    cases e : body x S with
    | ok o S1 =>
      rw [e] at P
      refine ⟨o, S1, rfl, ?_⟩
      dsimp only at P
      cases e2 : compL body g all r S1 with
      | ok vs S2 =>
        rw [e2] at P
        simp only [Res.bind_ok] at P ⊢
        rw [List.append_assoc]
        exact P
      | exc _ _ _ => rw [e2] at P; exact P.elim
      | fail => rw [e2] at P; exact P.elim
    | exc _ _ _ => rw [e] at P; exact P.elim
    | fail => rw [e] at P; exact P.elim
  · rw [if_neg hg] at P
    exact P.elim
theorem tests_ok {ce : Cl} {cs : Es} {ρ : Loc} {S S1 : Store} {k : Bool} (h : evBs ce cs ρ S = .ok k S1) (hc : cs = .nil ∨ ∃ c, cs = .cons c .nil) : (cs = .nil ∧ k = true ∧ S1 = S) ∨ ∃ c, cs = .cons c .nil ∧ evE ce c ρ S = .ok (.bl k) S1 := by
  rcases hc with rfl | ⟨c, rfl⟩
  · simp only [evBs] at h
    cases h
    exact .inl ⟨rfl, rfl, rfl⟩
  · refine .inr ⟨c, rfl, ?_⟩
    simp only [evBs] at h
    cases e : evE ce c ρ S with
    | ok v S2 =>
      rw [e] at h
      simp only [Res.bind_ok] at h
      cases v with
      | bl b =>
        cases b with
        | true => cases h; rfl
        | false => cases h; rfl
      | _ => cases h
    | exc _ _ _ => rw [e] at h; cases h
    | fail => rw [e] at h; cases h
theorem tCs_ok {c0 c : Cn} {H0 H : Hp} {S S1 : Store} {ρ : Loc} {σ : L2.St} {cs : Es} {k : Bool} {Q : Bool → Hp → Prop} (A : At X.K G.C c0 H0 c S ρ σ H) (h : evBs G.ce cs ρ S = .ok k S1) (hc : cs = .nil ∨ ∃ c, cs = .cons c .nil)
    (q : ∀ c1 H1, Tr c H c1 H1 → Rel c1 S1 H1 → Q k H1) : tCs X G cs σ H Q := by
  rcases tests_ok h hc with ⟨rfl, rfl, rfl⟩ | ⟨e, rfl, he⟩
  · exact q c H (Tr.refl c H) A.rel
  · refine rdG.of A he fun c1 H1 x fp t R rn _ _ => ?_
    simp only [RN] at rn
    exact ⟨k, rn.1, q c1 H1 t R⟩
theorem comp_rd {own : List (Str × Nat)} {tg : Tg} {it : Ev.It} {cs : Es} {e : E} (hin : ∀ j, j ∈ tgs tg → j ∈ own.map (·.2)) (hc : cs = .nil ∨ ∃ c, cs = .cons c .nil) {σ : L2.St} {H : Hp} {Q : VK} (h : rdE X.K G.C (evE G.ce (.comp own tg it cs e)) W σ H Q) :
    tLc (rdI X.K G.C (evIt G.ce it) W) (gTg X.K tg) (tCs X G cs) (rdE X.K G.C (evE G.ce e) noW) (own.map (·.2)) σ H Q := by
  obtain ⟨c, S, ρ, hK, hC, R, L, P⟩ := h
  refine At.step (At0 hK hC R L) P fun c1 S1 p J fp H1 e1 A t1 rn nd fr P => ?_
  obtain ⟨src, rfl⟩ := rn
  obtain ⟨xs, gg⟩ := p
  dsimp only at P src
  by_cases hf : few xs.length = true
  · rw [if_pos hf] at P
    intro D hD
    have hD0 : H D = none := t1.there D hD
    generalize hbody : (fun x S => match bindT tg x (wipeL ρ (own.map (·.2))) with
      | none => Res.fail
      | some ρ' => (evBs G.ce cs ρ' S).bind fun k S => if k = true then (evE G.ce e ρ' S).bind fun v S => .ok (some v) S else .ok none S : PV → Store → Res (Option PV)) = body at P
    let Wv : Nat → Nat → Hp → Prop := fun i m Hh => m = xs.length - i ∧ i ≤ xs.length ∧ ∃ c2 S2 acc accv fa, At X.K G.C c H c2 S2 ρ σ Hh ∧ Tr c1 H1 c2 Hh ∧ Hh D = some (.lst accv) ∧ c2.F D = none ∧ D ∉ c2.m ∧ RNs c2 Hh acc accv fa ∧ fa.Nodup ∧ (∀ a, a ∈ fa → H a = none) ∧ D ∉ fa ∧ acc.length ≤ i ∧
      Post c H ((compL body gg xs (xs.drop i) S2).bind fun vs S => .ok (.lst .new (acc ++ vs)) S) (fun cls d H' => W cls d σ H') Q
    refine ⟨Wv, ⟨xs.length, ⟨rfl, Nat.zero_le _, c1, S1, [], [], [], ⟨A.K0, A.C0, A.tr.trans (Tr.fresh hD), A.rel.fresh hD, A.loc.tr (Tr.fresh hD)⟩, Tr.fresh hD, upd_same, (A.rel.new hD).1, (A.rel.new hD).2.2, by simp [RNs], List.nodup_nil, (fun _ h => nomatch h), (fun h => nomatch h), Nat.le_refl _, P⟩⟩, ?_⟩
    rintro i m Hh ⟨rfl, hi', c2, S2, acc, accv, fa, A2, t2, hDv, dF, dm, ra, nda, fra, dfa, hal, P⟩
    have dB : c2.B D = none := by
      rw [A2.tr.B]
      cases q : c.B D with
      | none => rfl
      | some o => rw [R.bh D o q] at hD0; cases hD0
    by_cases hlt : i < xs.length
    · obtain ⟨x, hx⟩ : ∃ x, xs[i]? = some x := ⟨_, List.getElem?_eq_getElem hlt⟩
      have hdr : xs.drop i = x :: xs.drop (i + 1) := by
        rw [List.drop_eq_getElem_cons hlt]
        rw [List.getElem?_eq_getElem hlt] at hx
        cases hx; rfl
      rw [hdr] at P
      obtain ⟨hgd, o, S3, hbo, P⟩ := compL_ok P
      obtain ⟨go, yl⟩ := src.item c2 S2 Hh i x t2 A2.rel hgd hx
      refine .inr ⟨go, fun H' => Wv (i + 1) (xs.length - (i + 1)) H', fun H' w => ⟨_, by omega, w⟩, fun y H'' hy => ?_⟩
      obtain ⟨t3, R3, r3, keepD⟩ := yl y H'' hy
      rw [← hbody] at hbo
      dsimp only at hbo
      cases eb : bindT tg x (wipeL ρ (own.map (·.2))) with
      | none => rw [eb] at hbo; cases hbo
      | some ρ' =>
        rw [eb] at hbo
        dsimp only at hbo
        have Lw : RLs c2 H'' (wipeL ρ (own.map (·.2))) (L2.wipe σ (own.map (·.2))) := (A2.loc.tr t3).wipe _
        refine bind_ok A2.K eb r3 Lw fun σ' L' hw => ?_
        refine ⟨by rw [hw _ hin, wipe_wipe _ _ fun v hv => hv], ?_⟩
        cases eBs : evBs G.ce cs ρ' S2 with
        | exc _ _ _ => rw [eBs] at hbo; cases hbo
        | fail => rw [eBs] at hbo; cases hbo
        | ok k S4 =>
          rw [eBs] at hbo
          simp only [Res.bind_ok] at hbo
          have A3 : At X.K G.C c2 H'' c2 S2 ρ' σ' H'' := At0 A2.K A2.C R3 L'
          refine tCs_ok A3 eBs hc fun c4 H4 t4 R4 => ?_
          have t24 : Tr c2 Hh c4 H4 := t3.trans t4
          -- the new list has stood
          have live : ∀ {c5 : Cn} {H5 : Hp}, Tr c2 Hh c5 H5 → (∀ o, H'' D = some o → H5 D = some o) → H5 D = some (.lst accv) ∧ c5.F D = none ∧ D ∉ c5.m := fun {c5 H5} t5 k5 => by
            refine ⟨k5 _ (keepD D _ hDv), ?_, fun z => ?_⟩
            · cases q : c5.F D with
              | none => rfl
              | some o =>
                rcases t5.fnew D o q with z | z
                · rw [dF] at z; cases z
                · rw [hDv] at z; cases z
            · rcases t5.mnew D z with z | z
              · exact dm z
              · rw [hDv] at z; cases z
          cases k with
          | false =>
            rw [if_neg Bool.false_ne_true] at hbo ⊢
            cases hbo
            obtain ⟨q1, q2, q3⟩ := live t24 fun o ho => t4.keep D o ho (.inl dm)
            refine ⟨rfl, by omega, c4, S3, acc, accv, fa, ⟨A2.K0, A2.C0, A2.tr.trans t24, R4, A2.loc.tr t24⟩, t2.trans t24, q1, q2, q3, ra.tr t24, nda, fra, dfa, by omega, ?_⟩
            simpa using P
          | true =>
            rw [if_pos rfl] at hbo ⊢
            cases ee : evE G.ce e ρ' S4 with
            | exc _ _ _ => rw [ee] at hbo; cases hbo
            | fail => rw [ee] at hbo; cases hbo
            | ok v S5 =>
              rw [ee] at hbo
              simp only [Res.bind_ok] at hbo
              cases hbo
              have A4 : At X.K G.C c4 H4 c4 S4 ρ' σ' H4 := At0 (t24.K.trans A2.K) (t24.C.trans A2.C) R4 (L'.tr t4)
              refine rdG.of A4 ee fun c5 H5 z fz t5 R5 rz ndz frz => ?_
              have t25 : Tr c2 Hh c5 H5 := t24.trans t5
              have d4 := live t24 fun o ho => t4.keep D o ho (.inl dm)
              obtain ⟨q1, q2, q3⟩ := live t25 fun o ho => t5.keep D o (t4.keep D o ho (.inl dm)) (.inl d4.2.2)
              have dfz : D ∉ fz := fun hz => by
                have := frz D hz
                rw [d4.1] at this; cases this
              have tcD : Tr c H c5 (upd H5 D (.lst (accv ++ [z]))) := (A2.tr.trans t25).mut hD0
              have dB5 : c5.B D = none := by rw [t25.B]; exact dB
              refine ⟨accv, q1, ?_, rfl, by omega, c5, S3, acc ++ [v], accv ++ [z], fa ++ fz, ⟨A2.K0, A2.C0, tcD, R5.mut q1 q3 q2 dB5, L.tr tcD⟩, ((t2.trans t25)).mut hD, upd_same, q2, q3, ?_, ?_, ?_, ?_, ?_, ?_⟩
              · rw [← ra.length]
                have := fewn hf
                have e16 : sizeLine = 16777216 := sizeLine_eq
                omega
              · refine ((ra.tr t25).append (?_ : RNs c5 H5 [v] [z] fz)).mut q1 fun hz => (List.mem_append.mp hz).elim dfa dfz
                simp only [RNs]
                exact ⟨z, [], fz, [], rfl, rz, ⟨rfl, rfl⟩, (List.append_nil _).symm⟩
              · rw [List.nodup_append]
                refine ⟨nda, ndz, fun a ha b hb eq => ?_⟩
                subst eq
                obtain ⟨⟨o, ho⟩, _⟩ := (ra.tr t24).newAt a ha
                rw [frz a hb] at ho; cases ho
              · exact fr2 fra fun a ha => (A2.tr.trans t24).there a (frz a ha)
              · exact fun hz => (List.mem_append.mp hz).elim dfa dfz
              · rw [List.length_append]; show acc.length + 1 ≤ i + 1; omega
              · simpa using P
    · have he' : i = xs.length := by omega
      subst he'
      rw [List.drop_length] at P
      unfold compL at P
      by_cases hgd : Gd gg xs S2
      · rw [if_pos hgd] at P
        simp only [Res.bind_ok, List.append_nil] at P
        refine .inl ⟨src.done c2 S2 Hh _ t2 A2.rel hgd (Nat.le_refl _), ?_⟩
        refine P c2 Hh (.ref D) (D :: fa) A2.tr A2.rel ?_ (List.nodup_cons.mpr ⟨dfa, nda⟩) fun a ha => (List.mem_cons.mp ha).elim (fun z => by rw [z]; exact hD0) (fra a)
        simp only [RN]
        exact ⟨D, accv, fa, rfl, ⟨hDv, dF, dB, dm⟩, ra, own_new.symm, .inl trivial⟩
      · rw [if_neg hgd] at P
        exact P.elim
  · rw [if_neg hf] at P
    exact P.elim
theorem s_comp (g : GX X G) {own : List (Str × Nat)} {tg : Tg} {it : Ev.It} {cs : Es} {e : E} {elt t i : Expr} {ifs : List Expr} {scope : Scope} {pos : Pos} (hN : X.N = N) (hs : X.env.scope = sc) (hb : blkC N sc scope own = true) (htg : chkTg N scope tg t = true)
    (hin : ∀ j, j ∈ tgs tg → j ∈ own.map (·.2)) (hc : cs = .nil ∨ ∃ c, cs = .cons c .nil) (hpl : plainE i = true) (hi : PIx X G W it t i)
    (ht : ∀ (s : Shared) (H : Hp) (C : Addr) (cl : List (Str × Addr)) (fp : List Addr), PTs (X.blk s H scope (compEnvC scope cl C X.env) fp) ifs (tCs X G cs))
    (he : ∀ (s : Shared) (H : Hp) (C : Addr) (cl : List (Str × Addr)) (fp : List Addr), PEx (X.blk s H scope (compEnvC scope cl C X.env) fp) G noW e elt) : PEx X G W (.comp own tg it cs e) (.ListComp elt [⟨t, i, ifs, 0⟩] scope pos) := by
  have ok : BlkOk X.N X.env.scope scope own := by rw [hN, hs]; exact blkOk_by hb
  have hg : ∀ (s : Shared) (H : Hp) (C : Addr) (cl : List (Str × Addr)) (fp : List Addr), PG (X.blk s H scope (compEnvC scope cl C X.env) fp) t (gTg X.K tg) := fun s H C cl fp =>
    pg_tg (X := X.blk s H scope (compEnvC scope cl C X.env) fp) (N := N) hN g.nd g.calm sto_blk htg
  have he' : ∀ (s : Shared) (H : Hp) (C : Addr) (cl : List (Str × Addr)) (fp : List Addr), PE (X.blk s H scope (compEnvC scope cl C X.env) fp) elt (rdE X.K G.C (evE G.ce e) noW) := fun s H C cl fp => he s H C cl fp
  exact PE.mono' (pe_lc g.calm g.nd hi ok hg ht he' (fold_plain hpl)) fun σ H Q h => comp_rd hin hc h
/-- y = [..] on one line, y a local -/
theorem s_setLc (g : GX X G) {own : List (Str × Nat)} {tg : Tg} {it : Ev.It} {cs : Es} {e : E} {elt t i : Expr} {ifs : List Expr} {scope : Scope} {pos spos py : Pos} {j : Nat} {y : Str} (hN : X.N = N) (hs : X.env.scope = sc) (hb : blkC N sc scope own = true) (htg : chkTg N scope tg t = true)
    (hin : ∀ j, j ∈ tgs tg → j ∈ own.map (·.2)) (hc : cs = .nil ∨ ∃ c, cs = .cons c .nil) (hpl : plainE i = true) (hi : PIx X G W it t i)
    (ht : ∀ (s : Shared) (H : Hp) (C : Addr) (cl : List (Str × Addr)) (fp : List Addr), PTs (X.blk s H scope (compEnvC scope cl C X.env) fp) ifs (tCs X G cs))
    (he : ∀ (s : Shared) (H : Hp) (C : Addr) (cl : List (Str × Addr)) (fp : List Addr), PEx (X.blk s H scope (compEnvC scope cl C X.env) fp) G noW e elt)
    (hj : X.N[j]? = some y) (hy : X.env.scope.names.lookup y = some .local) (hsw : swapsWith (.ListComp elt [⟨t, i, ifs, 0⟩] scope pos) (some (.Name y py)) spos.line X.env = pure true) :
    PS X (.Assign [.Name y py] (.ListComp elt [⟨t, i, ifs, 0⟩] scope pos) spos) (tAsg (rdE X.K G.C (evE G.ce (.comp own tg it cs e)) W) (gName j)) := by
  have ok : BlkOk X.N X.env.scope scope own := by rw [hN, hs]; exact blkOk_by hb
  have hg : ∀ (s : Shared) (H : Hp) (C : Addr) (cl : List (Str × Addr)) (fp : List Addr), PG (X.blk s H scope (compEnvC scope cl C X.env) fp) t (gTg X.K tg) := fun s H C cl fp =>
    pg_tg (X := X.blk s H scope (compEnvC scope cl C X.env) fp) (N := N) hN g.nd g.calm sto_blk htg
  have he' : ∀ (s : Shared) (H : Hp) (C : Addr) (cl : List (Str × Addr)) (fp : List Addr), PE (X.blk s H scope (compEnvC scope cl C X.env) fp) elt (rdE X.K G.C (evE G.ce e) noW) := fun s H C cl fp => he s H C cl fp
  exact PS.mono' (ps_setLc g.calm g.nd hj hy hsw hi ok hg ht he' (fold_plain hpl)) fun D σ H h => comp_rd hin hc h
end
/-! ### [f(o.fld[k], w) for k in o.fld] -/
section
variable {X : Cx} {G : GT} {W : WX} {N : List Str} {sc : Scope}
theorem shapeD_eq {a e : E} {ci s f k w : Nat} {fld : Str} (h : shapeD a e = some (ci, s, fld, f, k, w)) : a = .attr ci (.var s) fld ∧ e = .call .pure f (.cons (.ix (.attr ci (.var s) fld) (.var k)) (.cons (.var w) .nil)) ∧ k ≠ s ∧ k ≠ w := by
  unfold shapeD at h
  split at h
  · split at h
    · rename_i hc
      obtain ⟨rfl, rfl, rfl, h1, h2⟩ := hc
      cases h
      exact ⟨rfl, rfl, h1, h2⟩
    · cases h
  · cases h
theorem chkE_var {i : Nat} {e : Expr} (h : chkE G N (.var i) sc e = true) : ∃ x p, e = .Name x p ∧ nameIs N i x = true ∧ isVis sc x = true ∧ okName x = true := by
  cases e <;> try (simp [chkE] at h; done)
  rename_i x p
  simp only [chkE, Bool.and_eq_true] at h
  exact ⟨x, p, rfl, h.1.1, h.1.2, h.2⟩
theorem chkE_ix {a i : E} {e : Expr} (h : chkE G N (.ix a i) sc e = true) : ∃ x y p, e = .Subscript x y p ∧ chkE G N a sc x = true ∧ chkE G N i sc y = true := by
  cases e <;> try (simp [chkE] at h; done)
  simp only [chkE, Bool.and_eq_true] at h
  exact ⟨_, _, _, rfl, h.1, h.2⟩
theorem chkE_attr {ci : Nat} {a : E} {fld : Str} {e : Expr} (h : chkE G N (.attr ci a fld) sc e = true) : ∃ x p, e = .Attribute x fld p ∧ isObj x = true ∧ (G.cls.any fun c => decide (c.1 = ci) && c.2.2.contains fld) = true ∧ chkE G N a sc x = true := by
  simp only [chkE] at h
  split at h
  · rename_i x nm q
    obtain ⟨p, rfl, ho⟩ := asAttr_eq q
    simp only [Bool.and_eq_true, decide_eq_true_eq] at h
    obtain ⟨⟨rfl, h1⟩, h2⟩ := h
    exact ⟨x, p, rfl, ho, h1, h2⟩
  · cases h
theorem chkE_call {m : Md} {f : Nat} {e1 : E} {es : Es} {e : Expr} (h : chkE G N (.call m f (.cons e1 es)) sc e = true) : ∃ x y ys p pos en, e = .Call (.Name x p) (y :: ys) [] pos ∧ G.tab[f]? = some en ∧ en.name = x ∧ (y :: ys).length = en.n ∧ en.kd = .glob ∧ isGl sc x = true ∧ okName x = true ∧ chkE G N e1 sc y = true ∧ chkEs G N es sc ys = true := by
  simp only [chkE] at h
  split at h
  · rename_i x y ys q
    obtain ⟨p, pos, rfl⟩ := asCall_eq q
    simp only [Bool.and_eq_true] at h
    obtain ⟨⟨⟨h1, h2⟩, h3⟩, h4⟩ := h
    split at h1
    · rename_i en q1
      simp only [Bool.and_eq_true, decide_eq_true_eq, lenIs] at h1
      have h4' : (chkE G N e1 sc y && chkEs G N es sc ys) = true := by simpa only [chkEs] using h4
      simp only [Bool.and_eq_true] at h4'
      exact ⟨x, y, ys, p, pos, en, rfl, q1, h1.1.1, h1.1.2, h1.2, h2, h3, h4'.1, h4'.2⟩
    · cases h1
  · split at h
    · rename_i q1 q2
      cases q2
    · cases h
theorem chkE_one {a : E} {xs : List Expr} (h : chkEs G N (.cons a .nil) sc xs = true) : ∃ x, xs = [x] ∧ chkE G N a sc x = true := by
  cases xs with
  | nil => simp [chkEs] at h
  | cons x r =>
    cases r with
    | nil =>
      have : (chkE G N a sc x && chkEs G N .nil sc []) = true := by simpa only [chkEs] using h
      simp only [Bool.and_eq_true] at this
      exact ⟨x, rfl, this.1⟩
    | cons b bs =>
      have : (chkE G N a sc x && chkEs G N .nil sc (b :: bs)) = true := by
        simp only [chkEs] at h ⊢
        exact h
      simp [chkEs] at this
theorem pe_varC (hN : X.N = N) (hs : X.env.scope = sc) {i : Nat} {e : Expr} (h : chkE G N (.var i) sc e = true) : PE X e (tVar i) := by
  obtain ⟨x, p, rfl, h1, h2, h3⟩ := chkE_var h
  obtain ⟨q1, q2, _⟩ := okName_of h3
  exact pe_var (nameIs_of hN h1) (by rw [hs]; exact vis_of h2) q1 q2
theorem pe_fldC (g : GX X G) (hN : X.N = N) (hs : X.env.scope = sc) {ci i : Nat} {fld : Str} {e : Expr} (h : chkE G N (.attr ci (.var i) fld) sc e = true) : PE X e (tFld X.K (tVar i) fld) ∧ Cls X.K (G.C ci) ∧ NoAttr X.K (G.C ci) fld := by
  obtain ⟨x, p, rfl, ho, h1, h2⟩ := chkE_attr h
  obtain ⟨k1, k2⟩ := attr_of g h1
  exact ⟨pe_fld (pe_varC hN hs h2) (base_obj ho), k1, k2⟩
theorem pe_bodyD (g : GX X G) (hN : X.N = N) (hs : X.env.scope = sc) {ci s f k w : Nat} {fld : Str} {e : Expr} (h : chkE G N (.call .pure f (.cons (.ix (.attr ci (.var s) fld) (.var k)) (.cons (.var w) .nil))) sc e = true) : PE X e (teD X G fld f s k w) := by
  obtain ⟨x, y, ys, p, pos, en, rfl, e1, rfl, e3, e4, h2, h3, h4, h5⟩ := chkE_call h
  obtain ⟨z, rfl, h6⟩ := chkE_one h5
  obtain ⟨ya, yi, yp, rfl, h7, h8⟩ := chkE_ix h4
  obtain ⟨q1, _, _⟩ := pe_fldC g hN hs h7
  have q2 := pe_varC hN hs h8
  have q3 := pe_varC hN hs h6
  have pl1 : plainE (.Subscript ya yi yp) = true := rfl
  have pl2 : plainE z = true := chk_plain G N h6
  have pa : PA X [.Subscript ya yi yp, z] (tCons (tOp (rIxE X.K) (tFld X.K (tVar s) fld) (tVar k)) (tCons (tVar w) tNil)) :=
    pa_cons (pe_ix (ix_all g.un) q1 q2 (ix_plain (chk_plain G N h8))) (pa_cons q3 pa_nil (star_plain pl2)) (star_plain pl1)
  obtain ⟨fa, fd, ps, kk, hr, hrc, hb, F⟩ := g.fn f en e1
  unfold Reach at hrc
  rw [e4] at hr hrc
  obtain ⟨hm, hk⟩ := hrc
  have e2 : en.n = 2 := e3.symm
  rw [e2] at F
  exact pe_callS (E := WE noX) F hr (gl_of hs h2) hm hk hb (fun σ => passAt takes0 σ) pa (okName_of h3).1 (star_plain pl1) (back_plain (env := X.env) (pos := pos) fun e he => by rw [List.mem_singleton.mp he]; exact pl2)
theorem compD_is {own : List (Str × Nat)} {a e : E} {ci s f k w : Nat} {fld : Str} (es : shapeD a e = some (ci, s, fld, f, k, w)) : evE G.ce (.compD own a e) = fun ρ S => ofO (cdV G.ce.f ci s fld f k w ρ S) S := by
  funext ρ S
  simp only [evE]
  rw [es]
theorem s_compD (g : GX X G) {own : List (Str × Nat)} {a e : E} {ci s f k w : Nat} {fld : Str} {elt t i : Expr} {scope : Scope} {pos : Pos} (hN : X.N = N) (hs : X.env.scope = sc) (es : shapeD a e = some (ci, s, fld, f, k, w)) (ho : own.map (·.2) = [k]) (htg : chkTg N scope (.name k) t = true) (hb : blkC N sc scope own = true)
    (hpl : plainE i = true) (h4 : chkE G N a sc i = true) (h5 : chkE G N e (relS scope sc) elt = true) : PEx X G W (.compD own a e) (.ListComp elt [⟨t, i, [], 0⟩] scope pos) := by
  obtain ⟨rfl, rfl, n1, n2⟩ := shapeD_eq es
  have ok : BlkOk X.N X.env.scope scope own := by rw [hN, hs]; exact blkOk_by hb
  have hg : ∀ (s : Shared) (H : Hp) (C : Addr) (cl : List (Str × Addr)) (fp : List Addr), PG (X.blk s H scope (compEnvC scope cl C X.env) fp) t (gTg X.K (.name k)) := fun s H C cl fp =>
    pg_tg (X := X.blk s H scope (compEnvC scope cl C X.env) fp) (N := N) hN g.nd g.calm sto_blk htg
  obtain ⟨q1, k1, k2⟩ := pe_fldC g hN hs h4
  have hsc : ∀ (s : Shared) (H : Hp) (C : Addr) (cl : List (Str × Addr)) (fp : List Addr), (X.blk s H scope (compEnvC scope cl C X.env) fp).env.scope = relS scope sc := fun s H C cl fp => by
    show relabel scope X.env = _; rw [← hs]; rfl
  have he : ∀ (s' : Shared) (H : Hp) (C : Addr) (cl : List (Str × Addr)) (fp : List Addr), PE (X.blk s' H scope (compEnvC scope cl C X.env) fp) elt (teD X G fld f s k w) := fun s' H C cl fp =>
    pe_bodyD (X := X.blk s' H scope (compEnvC scope cl C X.env) fp) (g.blk s' H scope _ fp) hN (hsc s' H C cl fp) h5
  refine PE.mono' (pe_lock (pe_lc g.calm g.nd (pi_keys q1) ok hg (fun s H C cl fp => pts_nil) he (fold_plain hpl))) fun σ H Q h => ?_
  rw [compD_is es] at h
  rw [ho]
  exact compD_rd k1 k2 n1 n2 h
/-- y = [..] on one line, y a local -/
theorem s_setLcD (g : GX X G) {own : List (Str × Nat)} {a e : E} {ci s f k w : Nat} {fld : Str} {elt t i : Expr} {scope : Scope} {pos spos py : Pos} {j : Nat} {y : Str} (hN : X.N = N) (hs : X.env.scope = sc) (es : shapeD a e = some (ci, s, fld, f, k, w)) (ho : own.map (·.2) = [k]) (htg : chkTg N scope (.name k) t = true) (hb : blkC N sc scope own = true)
    (hpl : plainE i = true) (h4 : chkE G N a sc i = true) (h5 : chkE G N e (relS scope sc) elt = true)
    (hj : X.N[j]? = some y) (hy : X.env.scope.names.lookup y = some .local) (hsw : swapsWith (.ListComp elt [⟨t, i, [], 0⟩] scope pos) (some (.Name y py)) spos.line X.env = pure true) :
    PS X (.Assign [.Name y py] (.ListComp elt [⟨t, i, [], 0⟩] scope pos) spos) (tAsg (rdE X.K G.C (evE G.ce (.compD own a e)) W) (gName j)) := by
  obtain ⟨rfl, rfl, n1, n2⟩ := shapeD_eq es
  have ok : BlkOk X.N X.env.scope scope own := by rw [hN, hs]; exact blkOk_by hb
  have hg : ∀ (s : Shared) (H : Hp) (C : Addr) (cl : List (Str × Addr)) (fp : List Addr), PG (X.blk s H scope (compEnvC scope cl C X.env) fp) t (gTg X.K (.name k)) := fun s H C cl fp =>
    pg_tg (X := X.blk s H scope (compEnvC scope cl C X.env) fp) (N := N) hN g.nd g.calm sto_blk htg
  obtain ⟨q1, k1, k2⟩ := pe_fldC g hN hs h4
  have hsc : ∀ (s : Shared) (H : Hp) (C : Addr) (cl : List (Str × Addr)) (fp : List Addr), (X.blk s H scope (compEnvC scope cl C X.env) fp).env.scope = relS scope sc := fun s H C cl fp => by
    show relabel scope X.env = _; rw [← hs]; rfl
  have he : ∀ (s' : Shared) (H : Hp) (C : Addr) (cl : List (Str × Addr)) (fp : List Addr), PE (X.blk s' H scope (compEnvC scope cl C X.env) fp) elt (teD X G fld f s k w) := fun s' H C cl fp =>
    pe_bodyD (X := X.blk s' H scope (compEnvC scope cl C X.env) fp) (g.blk s' H scope _ fp) hN (hsc s' H C cl fp) h5
  refine PS.mono' (ps_lock (ps_setLc g.calm g.nd hj hy hsw (pi_keys q1) ok hg (fun s H C cl fp => pts_nil) he (fold_plain hpl))) fun D σ H h => ?_
  unfold tAsg at h
  rw [compD_is es] at h
  rw [ho]
  exact compD_rd k1 k2 n1 n2 h
end
/-! ### every term -/
/-- a test that is its value's truth -/
theorem t_val {X : Cx} {G : GT} {W : WX} {a : E} {e : Expr} (h : PEx X G W a e) (he : ∀ whole, isTrue e X.env whole = (do let v ← whole; standAt e.pos; holding [v] (truthy v)) := by intro _; rfl) : PTx X G W a e := pt_val h he
structure Both (X : Cx) (G : GT) (W : WX) (a : E) (e : Expr) : Prop where
  pe : PEx X G W a e
  pt : PTx X G W a e
theorem t_ite {X : Cx} {G : GT} {W : WX} {c a b : E} {t x y : Expr} {p : Pos} (hc : PTx X G W c t) (ha : PTx X G W a x) (hb : PTx X G W b y) : PTx X G W (.ite c a b) (.IfExp t x y p) := by
  refine ⟨fun pins s σ H Q I h => ?_⟩
  show wpAny _ _ (do if ← isTrue t X.env (eval t X.env) then isTrue x X.env (eval x X.env) else isTrue y X.env (eval y X.env)) _ _ s
  obtain ⟨c, S, ρ, hK, hC, R, L, P⟩ := h
  refine wpAny_bind (thn (hc.run pins s σ H (fun k H1 => if k = true then rdT X.K G.C (evE G.ce a) W σ H1 Q else rdT X.K G.C (evE G.ce b) W σ H1 Q) I ?_) fun k s1 ⟨H1, I1, q⟩ => ?_)
  · refine At.step (At0 hK hC R L) P fun c1 S1 v x fp H1 _ A t rn nd fr P => ?_
    cases v with
    | bl k =>
      simp only [RN] at rn
      obtain ⟨rfl, rfl⟩ := rn
      refine ⟨k, rfl, ?_⟩
      cases k with
      | true => rw [if_pos rfl]; exact A.last P
      | false => rw [if_neg Bool.false_ne_true]; exact A.last P
    | _ => exact P.elim
  · cases k with
    | true => exact ha.run pins s1 σ H1 Q I1 q
    | false => exact hb.run pins s1 σ H1 Q I1 q
theorem Both.val {X : Cx} {G : GT} {W : WX} {a : E} {e : Expr} (h : PEx X G W a e) (he : ∀ whole, isTrue e X.env whole = (do let v ← whole; standAt e.pos; holding [v] (truthy v)) := by intro _; rfl) : Both X G W a e := ⟨h, t_val h he⟩
/-- a context that fits -/
structure Fits (X : Cx) (G : GT) (W : WX) (N : List Str) (sc : Scope) : Prop where
  g : GX X G
  tk : Takes X W
  n : X.N = N
  s : X.env.scope = sc
theorem Fits.blk {X : Cx} {G : GT} {W : WX} {N : List Str} {sc : Scope} (f : Fits X G W N sc) (s : Shared) (H : Hp) (scope : Scope) (C : Addr) (cl : List (Str × Addr)) (fp : List Addr) : Fits (X.blk s H scope (compEnvC scope cl C X.env) fp) G noW N (relS scope sc) :=
  ⟨f.g.blk s H scope _ fp, takes0, f.n, by show relabel scope X.env = _; rw [← f.s]; rfl⟩
section
variable {G : GT} {N : List Str}
mutual
theorem ok_E : ∀ (a : E) {sc : Scope} {e : Expr} {X : Cx} {W : WX}, Fits X G W N sc → chkE G N a sc e = true → Both X G W a e
  | .var i, sc, e, X, W, f, h => by
    cases e <;> try (simp [chkE] at h; done)
    exact .val (s_var f.n f.s h)
  | .con v, sc, e, X, W, f, h => by
    cases e <;> try (simp [chkE] at h; done)
    exact .val (s_con h)
  | .glob j, sc, e, X, W, f, h => by
    cases e <;> try (simp [chkE] at h; done)
    exact .val (s_glob f.g f.s h)
  | .neg a, sc, e, X, W, f, h => by
    cases e <;> try (simp [chkE] at h; done)
    rename_i op x p
    cases op <;> try (simp [chkE] at h; done)
    simp only [chkE] at h
    exact .val (s_neg (ok_E a f h).pe)
  | .nt a, sc, e, X, W, f, h => by
    cases e <;> try (simp [chkE] at h; done)
    rename_i op x p
    cases op <;> try (simp [chkE] at h; done)
    simp only [chkE] at h
    exact ⟨s_nt (ok_E a f h).pe, t_nt (ok_E a f h).pt⟩
  | .bin o a b, sc, e, X, W, f, h => by
    cases e <;> try (simp [chkE] at h; done)
    · simp only [chkE, Bool.and_eq_true] at h
      exact .val (s_bin f.g h.1.1 (ok_E a f h.1.2).pe (ok_E b f h.2).pe)
    · rename_i x ops ys p
      rcases ops with _ | ⟨op, _ | ⟨op2, ops⟩⟩ <;> try (simp [chkE] at h; done)
      rcases ys with _ | ⟨y, _ | ⟨y2, ys⟩⟩ <;> try (simp [chkE] at h; done)
      simp only [chkE, Bool.and_eq_true] at h
      have hy := chk_plain G N h.2
      exact ⟨s_cmp f.g h.1.1 hy (ok_E a f h.1.2).pe (ok_E b f h.2).pe, t_cmp f.g h.1.1 hy (ok_E a f h.1.2).pe (ok_E b f h.2).pe⟩
  | .chain o1 o2 a b c, sc, e, X, W, f, h => by
    cases e <;> try (simp [chkE] at h; done)
    rename_i x ops ys p
    rcases ops with _ | ⟨op, _ | ⟨op2, _ | ⟨op3, ops⟩⟩⟩ <;> try (simp [chkE] at h; done)
    rcases ys with _ | ⟨y, _ | ⟨y2, _ | ⟨y3, ys⟩⟩⟩ <;> try (simp [chkE] at h; done)
    simp only [chkE, Bool.and_eq_true] at h
    have hy := chk_plain G N h.2
    exact ⟨s_chain f.g h.1.1.1.1 h.1.1.1.2 hy (ok_E a f h.1.1.2).pe (ok_E b f h.1.2).pe (ok_E c f h.2).pe, t_chain f.g h.1.1.1.1 h.1.1.1.2 hy (ok_E a f h.1.1.2).pe (ok_E b f h.1.2).pe (ok_E c f h.2).pe⟩
  | .bop k es, sc, e, X, W, f, h => by
    cases e <;> try (cases k <;> simp [chkE] at h; done)
    rename_i op xs p
    cases xs with
    | nil => cases k <;> cases op <;> simp [chkE] at h
    | cons x xs =>
      cases k <;> cases op <;> try (simp [chkE] at h; done)
      · simp only [chkE] at h
        obtain ⟨q1, q2⟩ := ok_B es f h
        obtain ⟨b1, w1⟩ := q2 p
        exact ⟨b1, w1.pt⟩
      · simp only [chkE] at h
        obtain ⟨q1, q2⟩ := ok_B es f h
        obtain ⟨b1, w1⟩ := q1 p
        exact ⟨b1, w1.pt⟩
  | .ite c a b, sc, e, X, W, f, h => by
    cases e <;> try (simp [chkE] at h; done)
    simp only [chkE, Bool.and_eq_true] at h
    exact ⟨s_ite (ok_E c f h.1.1).pt (ok_E a f h.1.2).pe (ok_E b f h.2).pe, t_ite (ok_E c f h.1.1).pt (ok_E a f h.1.2).pt (ok_E b f h.2).pt⟩
  | .tup es, sc, e, X, W, f, h => by
    cases e <;> try (simp [chkE] at h; done)
    rename_i xs k p
    simp only [chkE, Bool.and_eq_true, small, decide_eq_true_eq] at h
    exact .val (s_tup (ok_A es f h.2) h.1 fun ρ S vs S' => evEs_len h.2)
  | .lst es, sc, e, X, W, f, h => by
    cases e <;> try (simp [chkE] at h; done)
    rename_i xs p
    simp only [chkE, Bool.and_eq_true, small, decide_eq_true_eq] at h
    exact .val (s_lst (ok_A es f h.2) h.1 fun ρ S vs S' => evEs_len h.2)
  | .ix a i, sc, e, X, W, f, h => by
    cases e <;> try (simp [chkE] at h; done)
    simp only [chkE, Bool.and_eq_true] at h
    exact .val (s_ix f.g (chk_plain G N h.2) (ok_E a f h.1).pe (ok_E i f h.2).pe)
  | .slc a lo hi, sc, e, X, W, f, h => by
    cases e <;> try (simp [chkE] at h; done)
    rename_i x s p
    cases s <;> try (simp [chkE] at h; done)
    rename_i l u st p2
    cases st <;> try (simp [chkE] at h; done)
    simp only [chkE, Bool.and_eq_true] at h
    exact .val (s_slc (ok_E a f h.1.1).pe (ok_P lo f h.1.2) (ok_P hi f h.2))
  | .rev a, sc, e, X, W, f, h => by
    simp only [chkE] at h
    split at h
    · rename_i x q
      obtain ⟨k, p1, p2, p3, p4, rfl⟩ := asRev_eq q
      exact .val (s_rev (ok_E a f h).pe)
    · cases h
  | .call m j es, sc, e, X, W, f, h => by
    simp only [chkE] at h
    split at h
    · rename_i x y ys q
      obtain ⟨p, pos, rfl⟩ := asCall_eq q
      simp only [Bool.and_eq_true] at h
      obtain ⟨⟨⟨h1, h2⟩, h3⟩, h4⟩ := h
      refine .val (s_call f.g f.tk f.s ?_ h2 h3 (ok_A es f h4) (chkEs_plain h4) fun ρ S vs S' => evEs_len h4)
      split at h1
      · rename_i en e1
        simp only [Bool.and_eq_true, decide_eq_true_eq, lenIs] at h1
        exact ⟨en, e1, h1.1.1, h1.1.2, h1.2⟩
      · cases h1
    · split at h
      · rename_i x q
        obtain ⟨p, pos, rfl⟩ := asMake_eq q
        simp only [Bool.and_eq_true] at h
        obtain ⟨⟨h1, h2⟩, h3⟩ := h
        refine .val (s_call0 f.g f.tk f.s ?_ h2 h3)
        split at h1
        · rename_i en e1
          simp only [Bool.and_eq_true, decide_eq_true_eq] at h1
          exact ⟨en, e1, h1.1.1, h1.1.2, h1.2⟩
        · cases h1
      · cases h
  | .callx fs i es, sc, e, X, W, f, h => by
    simp only [chkE] at h
    split at h
    · rename_i xs ix y ys q
      obtain ⟨p1, p2, pos, rfl⟩ := asCallX_eq q
      simp only [Bool.and_eq_true] at h
      obtain ⟨⟨⟨⟨h1, h2⟩, h3⟩, h4⟩, h5⟩ := h
      exact .val (s_callx f.g f.tk f.s h1 h2 (ok_E i f h3).pe (ok_A es f h4) (chkEs_plain h4) (fun ρ S vs S' => evEs_len h4) (of_decide_eq_true h5))
    · cases h
  | .sIx a i, sc, e, X, W, f, h => by
    cases e <;> try (simp [chkE] at h; done)
    simp only [chkE, Bool.and_eq_true] at h
    exact .val (s_sIx f.g (chk_plain G N h.2) (ok_E a f h.1).pe (ok_E i f h.2).pe)
  | .bi b es, sc, e, X, W, f, h => by
    simp only [chkE] at h
    split at h
    · rename_i x y ys q
      obtain ⟨p, pos, rfl⟩ := asCall_eq q
      simp only [Bool.and_eq_true, decide_eq_true_eq] at h
      obtain ⟨⟨h1, h2⟩, h3⟩ := h
      exact .val (s_bi f.g f.s h1 h2 (ok_A es f h3) (chkEs_plain h3))
    · cases h
  | .isi t a, sc, e, X, W, f, h => by
    simp only [chkE] at h
    split at h
    · rename_i fn x z q
      obtain ⟨p, pos, rfl⟩ := asCall_eq q
      split at h
      · rename_i y q2
        obtain ⟨p2, rfl⟩ := asName_eq q2
        simp only [Bool.and_eq_true, decide_eq_true_eq] at h
        obtain ⟨⟨⟨⟨h1, h2⟩, h3⟩, h4⟩, h5⟩ := h
        exact .val (s_isi f.g f.s h1 h2 h3 h4 (chk_plain G N h5) (ok_E a f h5).pe)
      · cases h
    · cases h
  | .comp own tg it cs a, sc, e, X, W, f, h => by
    simp only [chkE] at h
    split at h
    · rename_i elt t i ifs scope q
      obtain ⟨p, rfl⟩ := asComp_eq q
      simp only [Bool.and_eq_true] at h
      obtain ⟨⟨⟨⟨⟨h1, h2⟩, h3⟩, h4⟩, h5⟩, h6⟩ := h
      refine .val (s_comp f.g f.n f.s h1 h3 (fun j hj => ?_) (chkC_cases G N h5) (chkIt_plain G N h2) (ok_I it f h2) (fun s H C cl fp => ok_C cs (f.blk s H _ C cl fp) h5) fun s H C cl fp => (ok_E a (f.blk s H _ C cl fp) h6).pe)
      have := List.all_eq_true.mp h4 j hj
      simpa using this
    · cases h
  | .compD own a b, sc, e, X, W, f, h => by
    simp only [chkE] at h
    split at h
    · rename_i elt t i ifs scope q
      obtain ⟨p, rfl⟩ := asComp_eq q
      simp only [Bool.and_eq_true] at h
      obtain ⟨⟨⟨⟨h1, h2⟩, h3⟩, h4⟩, h5⟩ := h
      split at h2
      · rename_i ci s fld fn k w es
        simp only [Bool.and_eq_true, decide_eq_true_eq] at h2
        have hn : ifs = [] := by simpa using h1
        subst hn
        exact .val (s_compD f.g f.n f.s es h2.1 h2.2 h3 (chk_plain G N h4) h4 h5)
      · cases h2
    · cases h
  | .p1 o a, sc, e, X, W, f, h => by
    simp only [chkE] at h
    split at h
    · rename_i x gs q
      simp only [Bool.and_eq_true] at h
      have w := (s_p1 f.g f.s q h.1 (chk_plain G N h.2) (ok_E a f h.2).pe)
      obtain ⟨_, _, _, _, rfl⟩ := as1_call q
      exact .val w
    · cases h
  | .p2 o a b, sc, e, X, W, f, h => by
    simp only [chkE] at h
    split at h
    · rename_i x y gs q
      simp only [Bool.and_eq_true] at h
      have w := (s_p2 f.g f.s q h.1.1 (chk_plain G N h.1.2) (chk_plain G N h.2) (ok_E a f h.1.2).pe (ok_E b f h.2).pe)
      obtain ⟨_, _, _, _, rfl⟩ := as2_call q
      exact .val w
    · cases h
  | .p3 o a b c, sc, e, X, W, f, h => by
    simp only [chkE] at h
    split at h
    · rename_i x y z q
      simp only [Bool.and_eq_true] at h
      have w := (s_p3 f.g f.s q (chk_plain G N h.1.1) (chk_plain G N h.1.2) (chk_plain G N h.2) (ok_E a f h.1.1).pe (ok_E b f h.1.2).pe (ok_E c f h.2).pe)
      obtain ⟨_, _, _, _, rfl⟩ := as3_call q
      exact .val w
    · cases h
  | .d0 t, sc, e, X, W, f, h => by
    cases e <;> try (simp [chkE] at h; done)
    rename_i ks vs p
    cases ks <;> cases vs <;> try (simp [chkE] at h; done)
    exact .val s_d0
  | .own a, sc, e, X, W, f, h => by
    simp only [chkE] at h
    have q := ok_E a f h
    exact ⟨s_own q.pe, t_own q.pt⟩
  | .ad a, sc, e, X, W, f, h => by
    simp only [chkE] at h
    have q := ok_E a f h
    exact ⟨s_ad q.pe, t_ad q.pt⟩
  | .attr ci a nm, sc, e, X, W, f, h => by
    simp only [chkE] at h
    split at h
    · rename_i x g q
      obtain ⟨p, rfl, ho⟩ := asAttr_eq q
      simp only [Bool.and_eq_true, decide_eq_true_eq] at h
      obtain ⟨⟨rfl, h1⟩, h2⟩ := h
      exact .val (s_attr f.g ho h1 (ok_E a f h2).pe)
    · cases h
  | .meth ci j m o es, sc, e, X, W, f, h => by
    simp only [chkE] at h
    split at h
    · rename_i x g as q
      obtain ⟨ap, cp, rfl, ho, hq, h30⟩ := asMeth_eq q
      simp only [Bool.and_eq_true, decide_eq_true_eq] at h
      obtain ⟨⟨⟨⟨rfl, h1⟩, h2⟩, h3⟩, h4⟩ := h
      refine .val (s_meth f.g f.tk ho hq h30 h1 ?_ (ok_E o f h3).pe (ok_A es f h4) (chkEs_plain h4) (fun z => ?_) fun ρ S vs S' => evEs_len h4)
      · split at h2
        · rename_i en e1
          simp only [Bool.and_eq_true, decide_eq_true_eq] at h2
          exact ⟨en, e1, h2.1.1, h2.1.2, h2.2⟩
        · cases h2
      · subst z
        cases es with
        | nil => rfl
        | cons _ _ => simp [chkEs] at h4
    · cases h
  | .make ci j es, sc, e, X, W, f, h => by
    simp only [chkE] at h
    split at h
    · rename_i x as q
      obtain ⟨p, cp, rfl⟩ := asMake_eq q
      simp only [Bool.and_eq_true] at h
      obtain ⟨⟨⟨⟨h1, h2⟩, h3⟩, h4⟩, h5⟩ := h
      refine .val (s_make f.g f.tk f.s h1 h2 (by simpa only [Bool.and_eq_true] using h3) ?_ (ok_A es f h5) (chkEs_plain h5) (fun z => ?_) fun ρ S vs S' => evEs_len h5)
      · split at h4
        · rename_i en e1
          simp only [Bool.and_eq_true, decide_eq_true_eq] at h4
          exact ⟨en, e1, h4.1, h4.2⟩
        · cases h4
      · subst z
        cases es with
        | nil => rfl
        | cons _ _ => simp [chkEs] at h5
    · cases h
  | .dsp es, sc, e, X, W, f, h => by
    simp only [chkE] at h
    split at h
    · rename_i ks vs q
      obtain ⟨p, rfl⟩ := asDict_eq q
      simp only [Bool.and_eq_true, decide_eq_true_eq, Bool.not_eq_true', List.isEmpty_eq_false_iff] at h
      exact .val (s_dsp h.1.1 h.1.2 (ok_D es f h.2))
    · cases h
theorem ok_D : ∀ (es : Es) {sc : Scope} {ks : List (Option Expr)} {vs : List Expr} {X : Cx} {W : WX}, Fits X G W N sc → chkD G N es sc ks vs = true → PDx X G W es ks vs
  | .nil, _, [], [], _, _, _, _ => d_nil
  | .nil, _, _ :: _, _, _, _, _, h => by simp [chkD] at h
  | .nil, _, [], _ :: _, _, _, _, h => by simp [chkD] at h
  | .cons _ .nil, _, _, _, _, _, _, h => by simp [chkD] at h
  | .cons k (.cons v es), _, [], _, _, _, _, h => by simp [chkD] at h
  | .cons k (.cons v es), _, none :: _, _, _, _, _, h => by simp [chkD] at h
  | .cons k (.cons v es), _, some _ :: _, [], _, _, _, h => by simp [chkD] at h
  | .cons k (.cons v es), sc, some x :: ks, y :: vs, X, W, f, h => by
    simp only [chkD, Bool.and_eq_true] at h
    exact d_cons (ok_E k f h.1.1).pe (ok_E v f h.1.2).pe (ok_D es f h.2)
theorem ok_A : ∀ (es : Es) {sc : Scope} {xs : List Expr} {X : Cx} {W : WX}, Fits X G W N sc → chkEs G N es sc xs = true → PAx X G W es xs
  | .nil, _, [], _, _, _, _ => a_nil
  | .nil, _, _ :: _, _, _, _, h => by simp [chkEs] at h
  | .cons _ _, _, [], _, _, _, h => by simp [chkEs] at h
  | .cons a es, sc, x :: xs, X, W, f, h => by
    simp only [chkEs, Bool.and_eq_true] at h
    exact a_cons (chk_plain G N h.1) (ok_E a f h.1).pe (ok_A es f h.2)
theorem ok_B : ∀ (es : Es) {sc : Scope} {x : Expr} {xs : List Expr} {X : Cx} {W : WX}, Fits X G W N sc → chkEs G N es sc (x :: xs) = true →
    (∀ p, PBx X G W true es (.BoolOp .And (x :: xs) p) ∧ PWx X G W true es (.BoolOp .And (x :: xs) p)) ∧ (∀ p, PBx X G W false es (.BoolOp .Or (x :: xs) p) ∧ PWx X G W false es (.BoolOp .Or (x :: xs) p))
  | .nil, _, _, _, _, _, _, h => by simp [chkEs] at h
  | .cons a .nil, sc, x, [], X, W, f, h => by
    simp only [chkEs, Bool.and_eq_true] at h
    have q := ok_E a f h.1
    exact ⟨fun p => ⟨b_one q.pe, w_and1 q.pt⟩, fun p => ⟨b_one q.pe, w_or1 q.pt⟩⟩
  | .cons a .nil, _, _, _ :: _, _, _, _, h => by simp [chkEs] at h
  | .cons a (.cons b es), _, _, [], _, _, _, h => by simp [chkEs] at h
  | .cons a (.cons b es), sc, x, y :: xs, X, W, f, h => by
    have h' := h
    simp only [chkEs, Bool.and_eq_true] at h
    have q := ok_E a f h.1
    have r := ok_B (.cons b es) (x := y) (xs := xs) f (by simp only [chkEs, Bool.and_eq_true]; exact h.2)
    exact ⟨fun p => ⟨b_and q.pe (r.1 p).1, w_and q.pt (r.1 p).2⟩, fun p => ⟨b_or q.pe (r.2 p).1, w_or q.pt (r.2 p).2⟩⟩
theorem ok_C : ∀ (es : Es) {sc : Scope} {xs : List Expr} {X : Cx}, Fits X G noW N sc → chkC G N es sc xs = true → PTs X xs (tCs X G es)
  | .nil, _, [], _, _, _ => pts_nil
  | .nil, _, _ :: _, _, _, h => by simp [chkC] at h
  | .cons a .nil, sc, [x], X, f, h => by
    simp only [chkC] at h
    exact pts_one (ok_E a f h).pt
  | .cons a .nil, _, [], _, _, h => by simp [chkC] at h
  | .cons a .nil, _, _ :: _ :: _, _, _, h => by simp [chkC] at h
  | .cons a (.cons b es), _, xs, _, _, h => by simp [chkC] at h
theorem ok_P : ∀ (a : P) {sc : Scope} {e : Option Expr} {X : Cx} {W : WX}, Fits X G W N sc → chkP G N a sc e = true → L2.PO X e (rdP X.K G.C (evP G.ce a) W)
  | .no, _, none, _, _, _, _ => s_no
  | .no, _, some _, _, _, _, h => by simp [chkP] at h
  | .yes _, _, none, _, _, _, h => by simp [chkP] at h
  | .yes a, _, some x, _, _, f, h => by
    simp only [chkP] at h
    exact s_yes (ok_E a f h).pe
theorem ok_I : ∀ (it : Ev.It) {sc : Scope} {e tg : Expr} {X : Cx} {W : WX}, Fits X G W N sc → chkIt G N it sc tg e = true → PIx X G W it tg e
  | .r1 a, sc, e, tg, X, W, f, h => by
    simp only [chkIt] at h
    split at h
    · rename_i x y q
      obtain ⟨p, pos, rfl⟩ := asCall_eq q
      simp only [Bool.and_eq_true, decide_eq_true_eq] at h
      exact i_r1 f.g f.s h.1.1 h.1.2 (chk_plain G N h.2) (ok_E a f h.2).pe
    · cases h
  | .r2 a b, sc, e, tg, X, W, f, h => by
    simp only [chkIt] at h
    split at h
    · rename_i x y z q
      obtain ⟨p, pos, rfl⟩ := asCall_eq q
      simp only [Bool.and_eq_true, decide_eq_true_eq] at h
      exact i_r2 f.g f.s h.1.1.1 h.1.1.2 (chk_plain G N h.1.2) (chk_plain G N h.2) (ok_E a f h.1.2).pe (ok_E b f h.2).pe
    · cases h
  | .seq a, sc, e, tg, X, W, f, h => by
    simp only [chkIt] at h
    exact i_seq (ok_E a f h).pe
  | .enum a, sc, e, tg, X, W, f, h => by
    simp only [chkIt] at h
    split at h
    · rename_i x y q
      obtain ⟨p, pos, rfl⟩ := asCall_eq q
      simp only [Bool.and_eq_true, decide_eq_true_eq] at h
      obtain ⟨es, k, p2, rfl⟩ := isTup_eq h.1.2
      exact i_enum f.g f.s h.1.1.1 h.1.1.2 (chk_plain G N h.2) (ok_E a f h.2).pe
    · cases h
end
end
end Ev
end
set_option Elab.async false
set_option linter.all false
set_option maxRecDepth 100000
/-! EvL: statements; defs. -/
noncomputable section
namespace Ev
open PySem L2 PyProof.Rows
/-! ### the look -/
def isComp : Expr → Bool
  | .ListComp _ _ _ _ => true
  | .SetComp _ _ _ _ => true
  | .DictComp _ _ _ _ _ => true
  | _ => false
def asIf : Stmt → Option (Expr × List Stmt × List Stmt)
  | .If t a b _ => some (t, a, b)
  | _ => none
theorem asIf_eq {s : Stmt} {t : Expr} {a b : List Stmt} (h : asIf s = some (t, a, b)) : ∃ p, s = .If t a b p := by
  unfold asIf at h; split at h
  · cases h; exact ⟨_, rfl⟩
  · cases h
def asFor : Stmt → Option (Expr × Expr × List Stmt)
  | .For t i b [] _ => some (t, i, b)
  | _ => none
theorem asFor_eq {s : Stmt} {t i : Expr} {b : List Stmt} (h : asFor s = some (t, i, b)) : ∃ p, s = .For t i b [] p := by
  unfold asFor at h; split at h
  · cases h; exact ⟨_, rfl⟩
  · cases h
def asWhile : Stmt → Option (Expr × List Stmt)
  | .While t b [] _ => some (t, b)
  | _ => none
theorem asWhile_eq {s : Stmt} {t : Expr} {b : List Stmt} (h : asWhile s = some (t, b)) : ∃ p, s = .While t b [] p := by
  unfold asWhile at h; split at h
  · cases h; exact ⟨_, rfl⟩
  · cases h
/-- x = e, its lines, the line of the statement -/
def asSet : Stmt → Option (Str × Pos × Expr × Pos)
  | .Assign [.Name x p] e q => some (x, p, e, q)
  | _ => none
theorem asSet_eq {s : Stmt} {x : Str} {p q : Pos} {e : Expr} (h : asSet s = some (x, p, e, q)) : s = .Assign [.Name x p] e q := by
  unfold asSet at h; split at h
  · cases h; rfl
  · cases h
def asUnp : Stmt → Option (List Expr × Expr)
  | .Assign [.Tuple es _ _] e _ => some (es, e)
  | _ => none
theorem asUnp_eq {s : Stmt} {es : List Expr} {e : Expr} (h : asUnp s = some (es, e)) : ∃ k p q, s = .Assign [.Tuple es k p] e q := by
  unfold asUnp at h; split at h
  · cases h; exact ⟨_, _, _, rfl⟩
  · cases h
def asSetIx : Stmt → Option (Expr × Expr × Expr)
  | .Assign [.Subscript o i _] e _ => some (o, i, e)
  | _ => none
theorem asSetIx_eq {s : Stmt} {o i e : Expr} (h : asSetIx s = some (o, i, e)) : ∃ p q, s = .Assign [.Subscript o i p] e q := by
  unfold asSetIx at h; split at h
  · cases h; exact ⟨_, _, rfl⟩
  · cases h
def asAug : Stmt → Option (Str × Operator × Expr)
  | .AugAssign (.Name x _) op e _ => some (x, op, e)
  | _ => none
theorem asAug_eq {s : Stmt} {x : Str} {op : Operator} {e : Expr} (h : asAug s = some (x, op, e)) : ∃ p q, s = .AugAssign (.Name x p) op e q := by
  unfold asAug at h; split at h
  · cases h; exact ⟨_, _, rfl⟩
  · cases h
/-- raise X('..') -/
def asRaise : Stmt → Option Str
  | .Raise (some (.Call (.Name x _) [.Constant (.str _) _ _] [] _)) none _ => some x
  | _ => none
theorem asRaise_eq {s : Stmt} {x : Str} (h : asRaise s = some x) : ∃ p m j p2 pos q, s = .Raise (some (.Call (.Name x p) [.Constant (.str m) j p2] [] pos)) none q := by
  unfold asRaise at h; split at h
  · cases h; exact ⟨_, _, _, _, _, _, rfl⟩
  · cases h
/-- whether x = [..] is done by the comprehension's own road -/
def swapsB (sc : Scope) (x : Str) (p : Pos) (e : Expr) : Option Bool := match e with
  | .ListComp _ _ scope pos => some (isLocal sc x && (p.line == pos.line) && !(scope.names.any fun (n, k) => n == x && (k == .local || k == .cell)))
  | .SetComp _ _ _ _ => none
  | .DictComp _ _ _ _ _ => none
  | _ => some false
/-- try: .. except X: .. -/
def asSetAt : Stmt → Option (Expr × Str × Expr)
  | .Assign [.Attribute o f _] e _ => some (o, f, e)
  | _ => none
theorem asSetAt_eq {s : Stmt} {o e : Expr} {f : Str} (h : asSetAt s = some (o, f, e)) : ∃ p q, s = .Assign [.Attribute o f p] e q := by
  unfold asSetAt at h; split at h
  · cases h; exact ⟨_, _, rfl⟩
  · cases h
def asAugAt : Stmt → Option (Expr × Str × Expr)
  | .AugAssign (.Attribute o f _) .Add e _ => some (o, f, e)
  | _ => none
theorem asAugAt_eq {s : Stmt} {o e : Expr} {f : Str} (h : asAugAt s = some (o, f, e)) : ∃ p q, s = .AugAssign (.Attribute o f p) .Add e q := by
  unfold asAugAt at h; split at h
  · cases h; exact ⟨_, _, rfl⟩
  · cases h
def asTry : Stmt → Option (List Stmt × List ExceptHandler)
  | .Try b (h :: hs) [] [] _ => some (b, h :: hs)
  | _ => none
theorem asTry_eq {s : Stmt} {b : List Stmt} {hs : List ExceptHandler} (h : asTry s = some (b, hs)) : ∃ h0 hr p, hs = h0 :: hr ∧ s = .Try b (h0 :: hr) [] [] p := by
  unfold asTry at h; split at h
  · cases h; exact ⟨_, _, _, rfl, rfl⟩
  · cases h
/-- a, b = e, f -/
def asPar : Stmt → Option (Str × Pos × Str × Pos × Expr × Expr)
  | .Assign [.Tuple [.Name x p, .Name y q] _ _] (.Tuple [a, b] _ _) _ => some (x, p, y, q, a, b)
  | _ => none
theorem asPar_eq {s : Stmt} {x y : Str} {p q : Pos} {a b : Expr} (h : asPar s = some (x, p, y, q, a, b)) : ∃ k1 p1 k2 p2 r, s = .Assign [.Tuple [.Name x p, .Name y q] k1 p1] (.Tuple [a, b] k2 p2) r := by
  unfold asPar at h; split at h
  · cases h; exact ⟨_, _, _, _, _, rfl⟩
  · cases h
/-- o[i], p[j] = e, f -/
def asSwp : Stmt → Option (Expr × Expr × Expr × Expr × Expr × Expr)
  | .Assign [.Tuple [.Subscript o i _, .Subscript o2 j _] _ _] (.Tuple [a, b] _ _) _ => some (o, i, o2, j, a, b)
  | _ => none
theorem asSwp_eq {s : Stmt} {o i o2 j a b : Expr} (h : asSwp s = some (o, i, o2, j, a, b)) : ∃ q1 q2 k1 p1 k2 p2 r, s = .Assign [.Tuple [.Subscript o i q1, .Subscript o2 j q2] k1 p1] (.Tuple [a, b] k2 p2) r := by
  unfold asSwp at h; split at h
  · cases h; exact ⟨_, _, _, _, _, _, _, rfl⟩
  · cases h
theorem swap_two {sc : Scope} {env : Env} {x y : Str} {px py pt : Pos} {a b : Expr} {k1 k2 : Nat} {p2 : Pos} (hs : env.scope = sc) (hk : sc.kind = .function) (hx : isLocal sc x = true) (hy : isLocal sc y = true) (ne : x ≠ y) (hl : (py.line == px.line) = true) (pa : plainE a = true) (pb : plainE b = true)
    (f1 : [a, b].all (foldedForSure 8) = false) (f2 : [a, b].all (constantsAlone 8) = false) : swappedStores [.Tuple [.Name x px, .Name y py] k1 pt] (.Tuple [a, b] k2 p2) env = pure (some [x, y]) := by
  have loc : ∀ z, isLocal sc z = true → env.kindOf z = some NameKind.local := fun z hz => by
    unfold Env.kindOf
    unfold isLocal at hz
    rw [hs]
    split at hz
    · rename_i e; rw [e]
    · cases hz
  have bk : env.blockKind = .function := by unfold Env.blockKind; rw [hs, hk]; rfl
  have hl' : py.line = px.line := by simpa using hl
  have ed : [x, y].eraseDups = [x, y] := by
    have : ¬ y = x := fun z => ne z.symm
    simp [List.eraseDups_cons, this]
  unfold swappedStores
  simp only [bk, f1, f2, loc x hx, loc y hy]
  simp [loc x hx, loc y hy, Expr.pos, hl', ed]
  rintro (h | h)
  · cases a <;> first | (simp [plainE] at pa; done) | (exact absurd h (by decide)) | (cases h)
  · cases b <;> first | (simp [plainE] at pb; done) | (exact absurd h (by decide)) | (cases h)
def notOwn : E → Bool
  | .own (.comp _ _ _ _ _) => true
  | .own _ => false
  | .ad _ => false
  | _ => true
def chkLits : List PV → List Expr → Bool
  | [], [] => true
  | v :: vs, .Constant k _ _ :: es => conM v k && chkLits vs es
  | _, _ => false
def asRetS : List Stmt → Option Expr
  | [.Return (some e) _] => some e
  | _ => none
theorem asRetS_eq {b : List Stmt} {e : Expr} (h : asRetS b = some e) : ∃ p, b = [.Return (some e) p] := by
  unfold asRetS at h; split at h
  · cases h; exact ⟨_, rfl⟩
  · cases h
def asSetS : List Stmt → Option (Str × Expr)
  | [.Assign [.Name x _] e _] => some (x, e)
  | _ => none
theorem asSetS_eq {b : List Stmt} {x : Str} {e : Expr} (h : asSetS b = some (x, e)) : ∃ p q, b = [.Assign [.Name x p] e q] := by
  unfold asSetS at h; split at h
  · cases h; exact ⟨_, _, rfl⟩
  · cases h
def asConst : Expr → Option Const
  | .Constant k _ _ => some k
  | _ => none
theorem asConst_eq {e : Expr} {k : Const} (h : asConst e = some k) : ∃ j p, e = .Constant k j p := by
  unfold asConst at h; split at h
  · cases h; exact ⟨_, _, rfl⟩
  · cases h
def asListE : Expr → Option (List Expr)
  | .List es _ => some es
  | _ => none
theorem asListE_eq {e : Expr} {es : List Expr} (h : asListE e = some es) : ∃ p, e = .List es p := by
  unfold asListE at h; split at h
  · cases h; exact ⟨_, rfl⟩
  · cases h
def asExS : List Stmt → Option Expr
  | [.Expr x _] => some x
  | _ => none
theorem asExS_eq {b : List Stmt} {e : Expr} (h : asExS b = some e) : ∃ p, b = [.Expr e p] := by
  unfold asExS at h; split at h
  · cases h; exact ⟨_, rfl⟩
  · cases h
def chkSu (N : List Str) (sc : Scope) (su : Su) (b : List Stmt) : Bool := match su with
  | .ret v => (match (asRetS b).bind asConst with
    | some k => conM v k
    | none => false)
  | .retl vs => (match (asRetS b).bind asListE with
    | some es => small es && chkLits vs es
    | none => false)
  | .set i v => (match asSetS b with
    | some (x, e) => (match asConst e with
      | some k => nameIs N i x && isLoc sc x && conM v k
      | none => false)
    | none => false)
  | .app i v => (match asExS b with
    | some e => (match asM1 e with
      | some (.Name x _, nm, y) => (match asConst y with
        | some k => decide (nm = ("append" : Str)) && nameIs N i x && isVis sc x && okName x && conM v k
        | none => false)
      | _ => false)
    | none => false)
def chkHds (G : GS) (N : List Str) (sc : Scope) : List Hd → List ExceptHandler → Bool
  | [], [] => true
  | h :: r, .ExceptHandler (some (.Name x _)) none (b :: bs) _ :: q => decide (G.exc h.cls = some x) && isGl sc x && okName x && h.yes.all (fun c => G.sub.contains (c, h.cls, true)) && h.no.all (fun c => G.sub.contains (c, h.cls, false)) && chkSu N sc h.su (b :: bs) && chkHds G N sc r q
  | _, _ => false
section
variable (G : GS) (N : List Str)
mutual
def chkS : T → Scope → Stmt → Bool
  | .skip, _, .Pass _ => true
  | .ex e, sc, .Expr x _ => !isComp x && chkE G N e sc x
  | .set i e, sc, s => (match asSet s with
    | some (x, p, v, _) => (match swapsB sc x p v with
      | some k => nameIs N i x && isLoc sc x && chkE G N e sc v && (!k || notOwn e)
      | none => false)
    | none => false)
  | .unp is e, sc, s => (match asUnp s with
    | some (es, v) => chkNames N sc is es && !isComp v && !isTup v && chkE G N e sc v
    | none => false)
  | .setix o i e, sc, s => (match asSetIx s with
    | some (x, y, v) => !isComp v && chkE G N o sc x && chkE G N i sc y && chkE G N e sc v
    | none => false)
  | .aug i o e, sc, s => (match asAug s with
    | some (x, op, v) => nameIs N i x && isLoc sc x && (match o, op with
      | .add, .Add => true
      | .sub, .Sub => true
      | _, _ => false) && chkE G N e sc v
    | none => false)
  | .ret e, sc, .Return (some x) _ => chkE G N e sc x
  | .retn, _, .Return none _ => true
  | .ite c a b, sc, s => (match asIf s with
    | some (t, x, y) => chkE G N c sc t && chkB a sc x && chkB b sc y
    | none => false)
  | .for_ tg it b, sc, s => (match asFor s with
    | some (t, i, x) => chkIt G N it sc t i && chkTg N sc tg t && chkB b sc x
    | none => false)
  | .while_ _ c b, sc, s => (match asWhile s with
    | some (t, x) => chkE G N c sc t && chkB b sc x
    | none => false)
  | .brk, _, .Break _ => true
  | .raise c, sc, s => (match asRaise s with
    | some x => decide (G.exc c = some x) && isGl sc x && okName x
    | none => false)
  | .try_ b hs, sc, s => (match asTry s with
    | some (x, q) => chkB b sc x && chkHds G N sc hs q
    | none => false)
  | .par i j a b, sc, s => (match asPar s with
    | some (x, p, y, q, u, v) => nameIs N i x && nameIs N j y && isLocal sc x && isLocal sc y && !(x == y) && (q.line == p.line) && ![u, v].all (foldedForSure 8) && ![u, v].all (constantsAlone 8) && chkE G N a sc u && chkE G N b sc v
    | none => false)
  | .swp o i o2 j a b, sc, s => (match asSwp s with
    | some (x, y, x2, y2, u, v) => chkE G N o sc x && chkE G N i sc y && chkE G N o2 sc x2 && chkE G N j sc y2 && chkE G N a sc u && chkE G N b sc v
    | none => false)
  | .setat ci o f e, sc, s => (match asSetAt s with
    | some (x, g, v) => decide (g = f) && (G.cls.any fun c => decide (c.1 = ci) && c.2.2.contains f) && chkE G N o sc x && chkE G N e sc v
    | none => false)
  | .augat ci o f e, sc, s => (match asAugAt s with
    | some (x, g, v) => decide (g = f) && (G.cls.any fun c => decide (c.1 = ci) && c.2.2.contains f) && chkE G N o sc x && chkE G N e sc v
    | none => false)
  | _, _, _ => false
def chkB : T → Scope → List Stmt → Bool
  | .skip, _, [] => true
  | .seq a b, sc, s :: r => chkS a sc s && chkB b sc r
  | _, _, _ => false
end
end
/-! ### what a statement must give -/
def PostS (c : Cn) (H : Hp) (r : FR) (W : WX) (D : Ends) : Prop := match r with
  | .next ρ' S' => ∀ c' H' σ', Tr c H c' H' → Rel c' S' H' → RLs c' H' ρ' σ' → D.nx σ' H'
  | .ret v S' => ∀ c' H' x fp, Tr c H c' H' → Rel c' S' H' → RN c' H' v x fp → fp.Nodup → (∀ a, a ∈ fp → H a = none) → D.rt x H'
  | .brk ρ' S' => ∀ c' H' σ', Tr c H c' H' → Rel c' S' H' → RLs c' H' ρ' σ' → D.bk σ' H'
  | .exc i p ρ' S' => ∀ c' H' σ' d, Tr c H c' H' → Rel c' S' H' → RLs c' H' ρ' σ' → XOk c' H' p d → W (.ref (c.C i)) d σ' H'
  | .fail => False
def rdS (K : PySem.W.Frag) (C : Nat → Addr) (f : Ev.Loc → Store → FR) (W : WX) : TS := fun D σ H => ∃ c S ρ, c.K = K ∧ c.C = C ∧ Rel c S H ∧ RLs c H ρ σ ∧ PostS c H (f ρ S) W D
abbrev PSx (X : Cx) (G : GT) (W : WX) (a : T) (s : Stmt) : Prop := PS X s (rdS X.K G.C (evT G.ce a) W)
abbrev PSBx (X : Cx) (G : GT) (W : WX) (a : T) (s : List Stmt) : Prop := PSs X s (rdS X.K G.C (evT G.ce a) W)
section
variable {K : PySem.W.Frag} {C : Nat → Addr} {c0 c : Cn} {H0 H : Hp} {S : Store} {ρ : Ev.Loc} {σ : L2.St} {α β : Type} {relA : RelT α β} {W : WX} {D : Ends}
theorem PostS.mono {r : FR} (t : Tr c0 H0 c H) (h : PostS c0 H0 r W D) : PostS c H r W D := by
  cases r with
  | next ρ' S' => exact fun c' H' σ' t' R L => h c' H' σ' (t.trans t') R L
  | brk ρ' S' => exact fun c' H' σ' t' R L => h c' H' σ' (t.trans t') R L
  | ret v S' => exact fun c' H' x fp t' R rn nd fr => h c' H' x fp (t.trans t') R rn nd fun a ha => t.there a (fr a ha)
  | exc i p ρ' S' => exact fun c' H' σ' d t' R L x => by rw [t.C]; exact h c' H' σ' d (t.trans t') R L x
  | fail => exact h
theorem At.stepS {f : Ev.Loc → Store → Res α} {g : α → Store → FR} {Q1 : β → Hp → Prop} (A : At K C c0 H0 c S ρ σ H) (h : PostS c0 H0 (onE (f ρ S) ρ g) W D)
    (k : ∀ c1 S1 a x fp H1, f ρ S = .ok a S1 → At K C c0 H0 c1 S1 ρ σ H1 → Tr c H c1 H1 → relA c1 H1 a x fp → fp.Nodup → (∀ b, b ∈ fp → H b = none) → PostS c0 H0 (g a S1) W D → Q1 x H1) : rdG relA K C f W σ H Q1 := by
  refine ⟨c, S, ρ, A.K, A.C, A.rel, A.loc, ?_⟩
  cases e : f ρ S with
  | ok a S1 =>
    rw [e] at h
    intro c1 H1 x fp t r rn nd fr
    exact k c1 S1 a x fp H1 e ⟨A.K0, A.C0, A.tr.trans t, r, A.loc.tr t⟩ t rn nd fr h
  | exc i p S1 =>
    rw [e] at h
    intro c1 H1 d t r x
    have := h c1 H1 σ d (A.tr.trans t) r (A.loc.tr t) x
    rw [A.tr.C]
    exact this
  | fail =>
    rw [e] at h
    exact h.elim
theorem At.nextS {ρ' : Ev.Loc} {σ' : L2.St} (A : At K C c0 H0 c S ρ' σ' H) (h : PostS c0 H0 (.next ρ' S) W D) : D.nx σ' H := h c H σ' A.tr A.rel A.loc
theorem At.lastS {f : Ev.Loc → Store → FR} (A : At K C c0 H0 c S ρ σ H) (h : PostS c0 H0 (f ρ S) W D) : rdS K C f W D σ H := ⟨c, S, ρ, A.K, A.C, A.rel, A.loc, h.mono A.tr⟩
end
/-- a value is adopted -/
theorem At.adopt {K : PySem.W.Frag} {C : Nat → Addr} {c0 c : Cn} {H0 H : Hp} {S : Store} {ρ : Ev.Loc} {σ : L2.St} {v : PV} {x : V} {fp : List Addr} (A : At K C c0 H0 c S ρ σ H) (L0 : RLs c0 H0 ρ σ) (h : RN c H v x fp) (nd : fp.Nodup) (fr : ∀ a, a ∈ fp → H0 a = none) :
    ∃ c', At K C c0 H0 c' (Ev.adopt v S).2 ρ σ H ∧ RV c' H (Ev.adopt v S).1 x := by
  obtain ⟨c', e, R, r⟩ := adopt_ok A.rel h nd
  have t := A.tr.ext e fr
  exact ⟨c', ⟨A.K0, A.C0, t, R, L0.tr t⟩, r⟩
section
variable {X : Cx} {G : GT} {W : WX} {N : List Str} {sc : Scope}
/-- a context of statements that fits -/
structure FitS (X : Cx) (G : GT) (W : WX) (N : List Str) (sc : Scope) : Prop where
  f : Fits X G W N sc
  po : PassesOwn (model X.prog X.w) X.A X.env X.xe
  fn : ∀ x, X.fn x = true
  kd : sc.kind = .function
  hs : X.stack = X.env :: X.outer
  hf : X.env.frame = some X.env.locals
theorem FitS.sto (f : FitS X G W N sc) : Sto X sc := sto_def f.f.s f.fn
theorem as1_no {o : O1} {e : Expr} {g : List Comprehension} {sc : Scope} {p : Pos} : as1 o (.ListComp e g sc p) = none := by cases o <;> rfl
theorem as2_no {o : O2} {e : Expr} {g : List Comprehension} {sc : Scope} {p : Pos} : as2 o (.ListComp e g sc p) = none := by cases o <;> rfl
theorem as3_no {o : O3} {e : Expr} {g : List Comprehension} {sc : Scope} {p : Pos} : as3 o (.ListComp e g sc p) = none := by cases o <;> rfl
theorem swaps_plain {v : Expr} {t : Option Expr} {l : Nat} {env : Env} (h : isComp v = false) : swapsWith v t l env = pure false := by
  cases v <;> first | rfl | (simp [isComp] at h)
theorem swaps_sole {v : Expr} {t : Expr} {l : Nat} {env : Env} (h : isComp v = false) : swapsWithSole [t] v l env = pure false := by
  unfold swapsWithSole
  exact swaps_plain h
theorem q_skip {p : Pos} : PSx X G W .skip (.Pass p) := PS.mono' ps_pass fun D σ H ⟨c, S, ρ, hK, hC, R, L, P⟩ => (At0 hK hC R L).nextS P
theorem q_ex {e : E} {x : Expr} {p : Pos} (hc : isComp x = false) (h : PEx X G W e x) : PSx X G W (.ex e) (.Expr x p) := by
  refine PS.mono' (ps_expr h (swaps_plain hc)) fun D σ H ⟨c, S, ρ, hK, hC, R, L, P⟩ => ?_
  exact At.stepS (At0 hK hC R L) P fun c1 S1 v x fp H1 _ A t rn nd fr P => A.nextS P
theorem set_rd {i : Nat} {e : E} {D : Ends} {σ : L2.St} {H : Hp} (h : rdS X.K G.C (evT G.ce (.set i e)) W D σ H) : tAsg (rdE X.K G.C (evE G.ce e) W) (gName i) D σ H := by
  obtain ⟨c, S, ρ, hK, hC, R, L, P⟩ := h
  refine At.stepS (At0 hK hC R L) P fun c1 S1 v x fp H1 _ A t rn nd fr P => ?_
  obtain ⟨c', A', r⟩ := A.adopt L rn nd fr
  have A2 : At X.K G.C c H c' (Ev.adopt v S1).2 (ρ.set i (some (Ev.adopt v S1).1)) (σ.set i (some x)) H1 := ⟨A'.K0, A'.C0, A'.tr, A'.rel, RLs.set (show RL c' H1 (some _) (some x) from r) i A'.loc⟩
  exact A2.nextS P
theorem set_rd_own {i : Nat} {e : E} {D : Ends} {σ : L2.St} {H : Hp} (h : rdS X.K G.C (evT G.ce (.set i (.own e))) W D σ H) : tAsg (rdE X.K G.C (evE G.ce e) W) (gName i) D σ H := by
  obtain ⟨c, S, ρ, hK, hC, R, L, P⟩ := h
  have P : PostS c H (onE (evE G.ce e ρ S) ρ fun x S => .next (ρ.set i (some (Ev.adopt (dig x S).1 (dig x S).2).1)) (Ev.adopt (dig x S).1 (dig x S).2).2) W D := by
    simp only [evT, evE] at P
    cases q : evE G.ce e ρ S <;> (rw [q] at P; exact P)
  refine At.stepS (f := evE G.ce e) (At0 hK hC R L) P fun c1 S1 v x fp H1 _ A t rn nd fr P => ?_
  obtain ⟨c', e', R', r⟩ := dig_ok A.rel rn nd
  have t' := A.tr.ext e' fr
  have A' : At X.K G.C c H c' (dig v S1).2 ρ σ H1 := ⟨A.K0, A.C0, t', R', L.tr t'⟩
  obtain ⟨c'', A'', r''⟩ := A'.adopt L r List.nodup_nil (fun _ h => nomatch h)
  have A2 : At X.K G.C c H c'' (Ev.adopt (dig v S1).1 (dig v S1).2).2 (ρ.set i (some (Ev.adopt (dig v S1).1 (dig v S1).2).1)) (σ.set i (some x)) H1 := ⟨A''.K0, A''.C0, A''.tr, A''.rel, RLs.set (show RL c'' H1 (some _) (some x) from r'') i A''.loc⟩
  exact A2.nextS P
theorem q_set (f : FitS X G W N sc) {i : Nat} {e : E} {x : Str} {v : Expr} {p q : Pos} (h1 : nameIs N i x = true) (h2 : isLoc sc x = true) (hs : swapsWith v (some (.Name x p)) q.line X.env = pure false) (h : PEx X G W e v) : PSx X G W (.set i e) (.Assign [.Name x p] v q) := by
  obtain ⟨q1, q2⟩ := f.sto x h2
  exact PS.mono' (ps_set f.f.g.nd (nameIs_of f.f.n h1) q1 h hs q2) fun D σ H h => set_rd h
theorem q_unp (f : FitS X G W N sc) {is : List Nat} {e : E} {es : List Expr} {v : Expr} {k : Nat} {p q : Pos} (h1 : chkNames N sc is es = true) (h2 : isComp v = false) (h3 : isTup v = false) (h : PEx X G W e v) : PSx X G W (.unp is e) (.Assign [.Tuple es k p] v q) := by
  obtain ⟨q1, q2⟩ := names_plain (env := X.env) h1
  have pg : PG X (.Tuple es k p) (gTup X.K is.length (gNames is)) := pg_tup f.f.g.calm (pgs_names f.f.n f.f.g.nd f.sto h1) q1 q2
  have hw : swappedStores [.Tuple es k p] v X.env = pure none := by cases v <;> first | rfl | (simp [isTup] at h3)
  refine PS.mono' (ps_asg h pg (swaps_sole h2) hw) fun D σ H ⟨c, S, ρ, hK, hC, R, L, P⟩ => ?_
  refine At.stepS (At0 hK hC R L) P fun c1 S1 v x fp H1 _ A t rn nd fr P => ?_
  cases v with
  | tup xs =>
    simp only [RN] at rn
    obtain ⟨a, vs, rfl, s, r⟩ := rn
    rw [A.K] at s
    dsimp only at P
    cases e1 : setAll ρ is (adopts xs S1).1 with
    | none => rw [e1] at P; exact P.elim
    | some ρ' =>
      rw [e1] at P
      obtain ⟨c', ex, R', r'⟩ := adopts_ok A.rel r nd
      have t' := A.tr.ext ex fr
      have hl := setAll_len e1
      refine ⟨a, vs, rfl, s, by rw [← r'.length, ← hl], setAll_ok e1 r' (L.tr t') fun σ' L' _ => ?_⟩
      exact At.nextS (σ' := σ') ⟨A.K0, A.C0, t', R', L'⟩ P
  | _ => exact P.elim
def rSetE : V → V → V → Hp → (Hp → Prop) → Prop := fun o i v H Q => rSetL o i v H Q ∨ rSetD o i v H Q
theorem set_all {X : Cx} (hu : X.A.units + 64 < cLine) : PSet X rSetE := by
  intro pins s σ H o i v ov iv u Q I ro ri rv h
  rcases h with h | h
  · exact set_list pins s σ H o i v ov iv u Q I ro ri rv h
  · exact set_dict (Nat.lt_of_le_of_lt (Nat.add_le_add_left (by decide) _) hu) pins s σ H o i v ov iv u Q I ro ri rv h
theorem RVs.set {c : Cn} {H : Hp} {y : PV} {w : V} (hy : RV c H y w) : ∀ {xs : List PV} {vs : List V} (n : Nat), RVs c H xs vs → RVs c H (xs.set n y) (vs.set n w)
  | [], vs, n, h => by simp only [RNs] at h; rw [h.1]; cases n <;> exact ⟨rfl, rfl⟩
  | x :: xs, vs, n, h => by
    simp only [RNs] at h
    obtain ⟨w0, wr, f1, f2, rfl, h1, h2, e0⟩ := h
    have e1 : f1 = [] := (List.append_eq_nil_iff.mp e0.symm).1
    have e2 : f2 = [] := (List.append_eq_nil_iff.mp e0.symm).2
    subst e1 e2
    cases n with
    | zero => exact ⟨w, wr, [], [], rfl, hy, h2, rfl⟩
    | succ n => exact ⟨w0, _, [], [], rfl, h1, RVs.set hy n h2, rfl⟩
theorem RVk.length {κ : Type} {c : Cn} {H : Hp} : ∀ {kvs : List (κ × PV)} {vs : List (κ × V)}, RVk c H kvs vs → kvs.length = vs.length
  | [], _, .nil => rfl
  | p :: kvs, q :: vs, .cons h r => by rw [List.length_cons, List.length_cons, RVk.length r]
theorem q_setix (f : FitS X G W N sc) {o i e : E} {x y v : Expr} {p q : Pos} (hc : isComp v = false) (hy : plainE y = true) (ho : PEx X G W o x) (hi : PEx X G W i y) (he : PEx X G W e v) : PSx X G W (.setix o i e) (.Assign [.Subscript x y p] v q) := by
  have ha : ∀ v, assign (.Subscript x y p) X.env v = (do
      let ov ← holding [v] (eval x X.env)
      let iv ← holding [v, ov] (eval y X.env)
      standAt p
      holding [v, ov, iv] (setItem ov iv v)
      release [v, ov, iv] []) := by
    intro v
    cases y <;> first | rfl | (simp [plainE] at hy)
  have hw : swappedStores [.Subscript x y p] v X.env = pure none := by cases v <;> rfl
  refine PS.mono' (ps_asg he (pg_sub ho hi (set_all f.f.g.un) ha) (swaps_sole hc) hw) fun D σ H ⟨c, S, ρ, hK, hC, R, L, P⟩ => ?_
  refine At.stepS (At0 hK hC R L) P fun c1 S1 v x fp H1 z1 A1 t1 rn nd fr P => ?_
  refine At.stepS A1 P fun c2 S2 ov ox fp2 H2 z2 A2 t2 rn2 nd2 fr2 P => ?_
  refine At.stepS A2 P fun c3 S3 iv ix fp3 H3 z3 A3 t3 rn3 nd3 fr3 P => ?_
  clear z1 z2 z3
  obtain ⟨c4, A4, rf, hm4, mv⟩ := A3.settle ((rn.tr t2).tr t3) (fun a ha => fr a ha) L
  cases es : setP ov iv (Ev.frz v) S3 with
  | none => rw [es] at P; exact P.elim
  | some S4 =>
    rw [es] at P
    cases ov with
    | ref l =>
      unfold setP at es
      dsimp only at es
      have rn2' := rn2.tr t3
      simp only [RN] at rn2'
      obtain ⟨a, hl, rfl, _⟩ := rn2'
      rw [← hm4] at hl
      cases hS : S3[l]? with
      | none => rw [hS] at es; cases es
      | some ob =>
        rw [hS] at es
        cases ob with
        | lst xs =>
          dsimp only at es
          cases iv with
          | int k =>
            dsimp only at es
            cases hj : ixN xs.length k with
            | none => rw [hj] at es; cases es
            | some j =>
              rw [hj] at es
              cases es
              simp only [RN] at rn3
              obtain ⟨rfl, _⟩ := rn3
              obtain ⟨vs, h1, h2⟩ := A4.rel.obj l _ a hS hl
              have hlen := RNs.length h2
              refine .inl ⟨a, vs, k, j, rfl, rfl, h1, by rw [← hlen]; exact hj, ?_⟩
              exact At.nextS (σ' := σ) (A4.putL hl (RVs.set rf j h2)) P
          | _ => cases es
        | dK kvs =>
          dsimp only at es
          cases hk : keyOf iv with
          | none => rw [hk] at es; cases es
          | some k =>
            rw [hk] at es
            dsimp only at es
            by_cases hf : few kvs.length = true
            · rw [if_pos hf] at es
              cases es
              obtain ⟨rfl, _⟩ := key_sound hk rn3
              obtain ⟨vs, h1, h2⟩ := A4.rel.obj l _ a hS hl
              have hlen := RVk.length h2
              have hn : kvs.length ≤ 1000000 := by simpa [few] using hf
              refine .inr ⟨a, _, rfl, DPut.k h1 (by rw [← hlen, sizeLine_eq]; omega), ?_⟩
              exact At.nextS (σ' := σ) (A4.put (po := .dK (putP kvs k (Ev.frz v))) hl fun t => ⟨_, upd_same, RVk.tr t (putK_rvk rf h2)⟩) P
            · rw [if_neg hf] at es
              cases es
        | _ => cases es
    | _ => simp [setP] at es
theorem swaps_attr {v o : Expr} {f : Str} {p : Pos} {l : Nat} {env : Env} : swapsWith v (some (.Attribute o f p)) l env = pure false := by cases v <;> rfl
theorem q_setat (f : FitS X G W N sc) {ci : Nat} {o e : E} {nm : Str} {x v : Expr} {p q : Pos} (hcl : (G.cls.any fun c => decide (c.1 = ci) && c.2.2.contains nm) = true) (ho : PEx X G W o x) (he : PEx X G W e v) : PSx X G W (.setat ci o nm e) (.Assign [.Attribute x nm p] v q) := by
  obtain ⟨k1, k2⟩ := attr_of f.f.g hcl
  refine PS.mono' (ps_fld ho he swaps_attr) fun D σ H ⟨c, S, ρ, hK, hC, R, L, P⟩ => ?_
  refine At.stepS (At0 hK hC R L) P fun c1 S1 v x fp H1 _ A1 t1 rn nd fr P => ?_
  refine At.stepS A1 P fun c2 S2 ov ox fp2 H2 _ A2 t2 rn2 nd2 fr2 P => ?_
  obtain ⟨c4, A4, rf, hm4, mv⟩ := A2.settle (rn.tr t2) (fun a ha => fr a ha) L
  cases es : setatP ci nm ov (Ev.frz v) S2 with
  | none => rw [es] at P; exact P.elim
  | some S4 =>
    rw [es] at P
    obtain ⟨l, fs, rfl, e1, e2, rfl⟩ := setat_is es
    simp only [RN] at rn2
    obtain ⟨a, hl, rfl, _⟩ := rn2
    rw [← hm4] at hl
    obtain ⟨dx, vs, h1, h2⟩ := A4.rel.obj l _ a e1 hl
    rw [A4.C] at h1
    have hlen := RVk.length h2
    refine ⟨a, _, dx, vs, rfl, h1, k1, k2, by omega, ?_⟩
    have eC := A4.C
    exact At.nextS (σ' := σ) (A4.put (po := .ins ci (putFP nm (Ev.frz v) fs)) hl fun t => ⟨dx, _, by rw [upd_same, eC], RVk.tr t (putF_rvk rf h2)⟩) P
theorem q_augat (f : FitS X G W N sc) {ci : Nat} {o e : E} {nm : Str} {x v : Expr} {p q : Pos} (hcl : (G.cls.any fun c => decide (c.1 = ci) && c.2.2.contains nm) = true) (ho : PEx X G W o x) (he : PEx X G W e v) : PSx X G W (.augat ci o nm e) (.AugAssign (.Attribute x nm p) .Add v q) := by
  obtain ⟨k1, k2⟩ := attr_of f.f.g hcl
  refine PS.mono' (ps_fldaug ho he in_add) fun D σ H ⟨c, S, ρ, hK, hC, R, L, P⟩ => ?_
  refine At.stepS (At0 hK hC R L) P fun c1 S1 ov ox fp2 H1 _ A1 t1 rn2 nd2 fr2 P => ?_
  cases ea : attrP ci nm ov S1 with
  | none => rw [ea] at P; exact P.elim
  | some r =>
    rw [ea] at P
    cases r with
    | int i =>
      obtain ⟨l, fs, rfl, e1, e2⟩ := attr_is ea
      obtain ⟨a, dx, vs, hl, rfl, h1, h2⟩ := ins_at A1.rel rn2 e1
      obtain ⟨w, e3, e4⟩ := (lookup_rvk h2).1 _ e2
      rw [A1.C] at h1
      refine ⟨a, _, dx, vs, w, rfl, h1, k1, k2, e3, ?_⟩
      refine At.stepS A1 P fun c2 S2 v x fp H2 _ A2 t2 rn nd fr P => ?_
      cases v with
      | int j =>
        simp only [RN] at rn e4
        obtain ⟨rfl, _⟩ := rn
        obtain rfl := e4.1
        refine ⟨i, j, rfl, rfl, ?_⟩
        dsimp only at P
        cases es : setatP ci nm (.ref l) (.int (i + j)) S2 with
        | none => rw [es] at P; exact P.elim
        | some S4 =>
          rw [es] at P
          obtain ⟨l', fs', el, q1, q2, rfl⟩ := setat_is es
          cases el
          have hl2 : c2.m[l]? = some a := by
            obtain ⟨z, hz⟩ := t2.pre
            rw [← hz, List.getElem?_append_left (List.getElem?_eq_some_iff.mp hl).1]
            exact hl
          obtain ⟨dx', vs', h3, h4⟩ := A2.rel.obj l _ a q1 hl2
          have eC := A2.C
          rw [eC] at h3
          have hlen := RVk.length h4
          refine ⟨dx', vs', h3, by omega, ?_⟩
          exact At.nextS (σ' := σ) (A2.put (po := .ins ci (putFP nm (.int (i + j)) fs')) hl2 fun t => ⟨dx', _, by rw [upd_same, eC], RVk.tr t (putF_rvk (x := .int (i + j)) (v := .int (i + j)) (by simp [RN]) h4)⟩) P
      | _ => exact P.elim
    | _ => exact P.elim
theorem q_aug (f : FitS X G W N sc) {i : Nat} {o : B2} {op : Operator} {e : E} {x : Str} {v : Expr} {p q : Pos} (h1 : nameIs N i x = true) (h2 : isLoc sc x = true) (ho : (o = .add ∧ op = .Add) ∨ (o = .sub ∧ op = .Sub)) (h : PEx X G W e v) : PSx X G W (.aug i o e) (.AugAssign (.Name x p) op v q) := by
  obtain ⟨q1, q2⟩ := f.sto x h2
  have go : ∀ {fi : Int → Int → Int}, PIp X op (ipI fi) → (∀ ρ S n, ρ[i]? = some (some (.int n)) → evT G.ce (.aug i o e) ρ S = onE (evE G.ce e ρ S) ρ fun v S => match v with
      | .int m => .next (ρ.set i (some (.int (fi n m)))) S
      | _ => .fail) → PSx X G W (.aug i o e) (.AugAssign (.Name x p) op v q) := fun {fi} hop hev => by
    refine PS.mono' (ps_aug f.f.g.nd (nameIs_of f.f.n h1) q1 h hop q2) fun D σ H ⟨c, S, ρ, hK, hC, R, L, P⟩ => ?_
    by_cases hn : ∃ n, ρ[i]? = some (some (.int n))
    · obtain ⟨n, hn⟩ := hn
      rw [hev ρ S n hn] at P
      obtain ⟨w, hw, rw0⟩ := L.get hn
      simp only [RN] at rw0
      obtain ⟨rfl, _⟩ := rw0
      refine ⟨_, hw, At.stepS (At0 hK hC R L) P fun c1 S1 v x fp H1 _ A t rn nd fr P => ?_⟩
      cases v with
      | int m =>
        simp only [RN] at rn
        obtain ⟨rfl, rfl⟩ := rn
        refine ⟨n, m, rfl, rfl, ?_⟩
        exact At.nextS (ρ' := ρ.set i (some (.int (fi n m)))) (σ' := σ.set i (some (.int (fi n m)))) ⟨A.K0, A.C0, A.tr, A.rel, RLs.set (show RL c1 H1 (some (.int (fi n m))) (some (.int (fi n m))) by simp [RL, RN]) i A.loc⟩ P
      | _ => exact P.elim
    · exfalso
      have : evT G.ce (.aug i o e) ρ S = .fail := by
        simp only [evT]
        split
        · rename_i n hn'
          exact absurd ⟨n, hn'⟩ hn
        · rfl
      rw [this] at P
      exact P
  rcases ho with ⟨rfl, rfl⟩ | ⟨rfl, rfl⟩
  · refine go ip_add fun ρ S n hn => ?_
    simp only [evT, hn]
    congr 1
    funext v S
    cases v <;> rfl
  · refine go ip_sub fun ρ S n hn => ?_
    simp only [evT, hn]
    congr 1
    funext v S
    cases v <;> rfl
theorem q_ret {e : E} {x : Expr} {p : Pos} (h : PEx X G W e x) : PSx X G W (.ret e) (.Return (some x) p) := by
  refine PS.mono' (ps_ret h) fun D σ H ⟨c, S, ρ, hK, hC, R, L, P⟩ => ?_
  exact At.stepS (At0 hK hC R L) P fun c1 S1 v x fp H1 _ A t rn nd fr P => P c1 H1 x fp A.tr A.rel rn nd fr
theorem q_retn {p : Pos} : PSx X G W .retn (.Return none p) := PS.mono' ps_retN fun D σ H ⟨c, S, ρ, hK, hC, R, L, P⟩ => P c H .non [] (Tr.refl c H) R (by simp [RN]) List.nodup_nil fun _ h => nomatch h
theorem q_ite {c : E} {a b : T} {t : Expr} {x y : List Stmt} {p : Pos} (hc : PTx X G W c t) (ha : PSBx X G W a x) (hb : PSBx X G W b y) : PSx X G W (.ite c a b) (.If t x y p) := by
  refine PS.mono' (ps_if hc ha hb) fun D σ H ⟨c, S, ρ, hK, hC, R, L, P⟩ => ?_
  refine At.stepS (At0 hK hC R L) P fun c1 S1 v x fp H1 _ A t rn nd fr P => ?_
  cases v with
  | bl k =>
    simp only [RN] at rn
    obtain ⟨rfl, rfl⟩ := rn
    refine ⟨k, rfl, ?_⟩
    cases k with
    | true => rw [if_pos rfl]; exact A.lastS P
    | false => rw [if_neg Bool.false_ne_true]; exact A.lastS P
  | _ => exact P.elim
theorem FitS.tr (f : FitS X G W N sc) {W' : WX} {pn : List (Addr × Obj)} {xe : Value → Shared → Prop} (tk : Takes (X.tr pn xe) W') (po : PassesOwn (model X.prog X.w) X.A X.env xe) : FitS (X.tr pn xe) G W' N sc :=
  ⟨⟨⟨f.f.g.calm, f.f.g.nd, f.f.g.un, f.f.g.blt, f.f.g.con, f.f.g.fn, fun i x e => let ⟨a, b, c, d⟩ := f.f.g.exc i x e; ⟨a, b, c, d⟩, f.f.g.sub, f.f.g.cls, f.f.g.un65⟩, tk, f.f.n, f.f.s⟩, po, f.fn, f.kd, f.hs, f.hf⟩
theorem lits_rel : ∀ {vs : List PV} {es : List Expr}, chkLits vs es = true → ∀ X : Cx, ∃ ws, PA X es (fun σ H Q => Q ws H) ∧ ∀ c H, RVs c H vs ws
  | [], [], _, X => ⟨[], pa_nil, fun c H => ⟨rfl, rfl⟩⟩
  | v :: vs, e :: es, h, X => by
    cases e <;> try (simp [chkLits] at h; done)
    simp only [chkLits, Bool.and_eq_true] at h
    obtain ⟨w, h1, h2⟩ := con_rel (X := X) h.1
    obtain ⟨ws, h3, h4⟩ := lits_rel h.2 X
    refine ⟨w :: ws, ⟨fun pos pins s σ H Q I q => (pa_cons h1 h3 rfl).run pos pins s σ H Q I q⟩, fun c H => ⟨w, ws, [], [], rfl, h2 c H, h4 c H, rfl⟩⟩
  | [], _ :: _, h, _ => by simp [chkLits] at h
  | _ :: _, [], h, _ => by simp [chkLits] at h
theorem lits_len : ∀ {vs : List PV} {es : List Expr}, chkLits vs es = true → vs.length = es.length
  | [], [], _ => rfl
  | v :: vs, e :: es, h => by
    cases e <;> try (simp [chkLits] at h; done)
    simp only [chkLits, Bool.and_eq_true] at h
    rw [List.length_cons, List.length_cons, lits_len h.2]
  | [], _ :: _, h => by simp [chkLits] at h
  | _ :: _, [], h => by simp [chkLits] at h
/-- the suite of an except clause -/
theorem q_su (f : FitS X G W N sc) {su : Su} {b : List Stmt} (h : chkSu N sc su b = true) (a : Addr) (pn : List (Addr × Obj)) (W' : WX) : PSs (X.suite a pn) b (rdS X.K G.C (suF su) W') := by
  unfold chkSu at h
  cases su with
  | ret v =>
    dsimp only at h
    split at h
    · rename_i k hk
      obtain ⟨e, h1, h2⟩ := Option.bind_eq_some_iff.mp hk
      obtain ⟨p, rfl⟩ := asRetS_eq h1
      obtain ⟨j, p2, rfl⟩ := asConst_eq h2
      obtain ⟨w, h3, h4⟩ := con_rel (X := X.suite a pn) (j := j) (p := p2) h
      refine PSs.mono' (pss_one (ps_ret h3)) fun D σ H ⟨c, S, ρ, hK, hC, R, L, P⟩ => ?_
      exact P c H w [] (Tr.refl c H) R (h4 c H) List.nodup_nil fun _ h => nomatch h
    · cases h
  | retl vs =>
    dsimp only at h
    split at h
    · rename_i es hk
      simp only [Bool.and_eq_true, small, decide_eq_true_eq] at h
      obtain ⟨e, h1, h2⟩ := Option.bind_eq_some_iff.mp hk
      obtain ⟨p, rfl⟩ := asRetS_eq h1
      obtain ⟨p2, rfl⟩ := asListE_eq h2
      obtain ⟨ws, h3, h4⟩ := lits_rel h.2 (X.suite a pn)
      refine PSs.mono' (pss_one (ps_ret (pe_lst h3))) fun D σ H ⟨c, S, ρ, hK, hC, R, L, P⟩ => ?_
      have hl : ws.length = es.length := by rw [← lits_len h.2, RNs.length (h4 c H)]
      refine ⟨by rw [hl, sizeLine_eq]; omega, fun q hq => ?_⟩
      refine P c _ (.ref q) [q] (Tr.fresh hq) (R.fresh hq) ?_ (by simp) fun z hz => by rw [List.mem_singleton.mp hz]; exact hq
      simp only [RN]
      exact ⟨q, ws, [], rfl, ⟨upd_same, R.new hq⟩, (h4 c _).tr (Tr.fresh hq) , own_new.symm, .inl trivial⟩
    · cases h
  | set i v =>
    dsimp only at h
    split at h
    · rename_i x e hk
      obtain ⟨p, q, rfl⟩ := asSetS_eq hk
      split at h
      · rename_i k hk2
        obtain ⟨j, p2, rfl⟩ := asConst_eq hk2
        simp only [Bool.and_eq_true] at h
        obtain ⟨q1, q2⟩ := f.sto x h.1.2
        obtain ⟨w, h3, h4⟩ := con_rel (X := X.suite a pn) (j := j) (p := p2) h.2
        have e1 : (X.suite a pn).N[i]? = some x := nameIs_of f.f.n h.1.1
        refine PSs.mono' (pss_one (ps_set (X := X.suite a pn) f.f.g.nd e1 q1 h3 rfl q2)) fun D σ H ⟨c, S, ρ, hK, hC, R, L, P⟩ => ?_
        exact P c H _ (Tr.refl c H) R (RLs.set (show RL c H (some v) (some w) from h4 c H) i L)
      · cases h
    · cases h
  | app i v =>
    dsimp only at h
    split at h
    · rename_i e hk
      obtain ⟨q, rfl⟩ := asExS_eq hk
      split at h
      · rename_i x xp nm y hm
        split at h
        · rename_i k hk2
          obtain ⟨j, p2, rfl⟩ := asConst_eq hk2
          simp only [Bool.and_eq_true, decide_eq_true_eq] at h
          obtain ⟨⟨⟨⟨rfl, h1⟩, h2⟩, h3⟩, h5⟩ := h
          obtain ⟨w, h6, h4⟩ := con_rel (X := X.suite a pn) (j := j) (p := p2) h5
          obtain ⟨q1, q2, _⟩ := okName_of h3
          obtain ⟨ap, cp, rfl, k1, k2⟩ := asM1_eq hm
          have e1 : (X.suite a pn).N[i]? = some x := nameIs_of f.f.n h1
          have key : PE (X.suite a pn) (.Name x xp) _ := pe_var e1 (by show Vis X.env.scope x; rw [f.f.s]; exact vis_of h2) q1 q2
          refine PSs.mono' (pss_one (ps_expr (pe_bm PySem.F.plainAttrs_list PySem.F.slot_list_append PySem.F.type_list_append mt_append key (pa_cons h6 pa_nil (star_plain rfl)) (base_obj k1) (few1 rfl) k2 (star_plain rfl) (by rfl)) (swaps_plain rfl))) fun D σ H ⟨c, S, ρ, hK, hC, R, L, P⟩ => ?_
          simp only [suF] at P
          split at P
          · rename_i l hl
            split at P
            · rename_i xs hS
              split at P
              · rename_i hf
                obtain ⟨vr, g1, g2⟩ := L.get hl
                have g3 := g2
                simp only [RN] at g3
                obtain ⟨b, hb, rfl, _⟩ := g3
                obtain ⟨vs, e2, e3⟩ := R.obj l _ b hS hb
                have hlen := RNs.length e3
                refine ⟨_, g1, .inl ⟨rfl, _, SqL.of e2⟩, b, vs, w, rfl, rfl, e2, ?_, ?_⟩
                · rw [← hlen, sizeLine_eq]
                  have : xs.length ≤ 1000000 := by simpa [few] using hf
                  omega
                · exact ((At0 hK hC R L).putL hb (e3.append (RVs.one (h4 c H)))).nextS P
              · exact P.elim
            · exact P.elim
          · exact P.elim
        · cases h
      · cases h
    · cases h
/-- what the clauses do -/
def hdsTs (K : PySem.W.Frag) (C : Nat → Addr) (W : WX) (hs : List Hd) : List (Value × (Addr → Value → Option Addr → TS)) := hs.map fun h => (.ref (C h.cls), fun _ _ _ => rdS K C (suF h.su) W)
theorem hds_ok (f : FitS X G W N sc) : ∀ {hs : List Hd} {q : List ExceptHandler}, chkHds G.toGS N sc hs q = true → HdsOk X q (hdsTs X.K G.C W hs)
  | [], [], _ => .nil
  | [], _ :: _, h => by simp [chkHds] at h
  | h0 :: r, [], h => by simp [chkHds] at h
  | h0 :: r, .ExceptHandler t n b p :: q, h => by
    rcases t with _ | t
    · simp [chkHds] at h
    cases t <;> try (simp [chkHds] at h; done)
    rcases n with _ | n
    · rcases b with _ | ⟨b, bs⟩
      · simp [chkHds] at h
      simp only [chkHds, Bool.and_eq_true, decide_eq_true_eq] at h
      obtain ⟨⟨⟨⟨⟨⟨h1, h2⟩, h3⟩, h4⟩, h5⟩, h6⟩, h7⟩ := h
      obtain ⟨m1, _⟩ := f.f.g.exc _ _ h1
      exact .cons ⟨gl_of f.f.s h2, (okName_of h3).1, .inl m1⟩ (fun a oe cls d pn _ _ => q_su f h6 a _ W) (hds_ok f h7)
    · simp [chkHds] at h
theorem hds_post (f : FitS X G W N sc) {D : Ends} {c0 : Cn} {H0 : Hp} (hC : c0.C = G.C) (hK : c0.K = X.K) : ∀ {hs : List Hd} {q : List ExceptHandler}, chkHds G.toGS N sc hs q = true → ∀ {i : Nat} {p : Option PV} {ρ' : Ev.Loc} {S' : Store} {c' : Cn} {H' : Hp} {σ' : L2.St} {d : Option Addr},
    PostS c0 H0 (hdsF hs i p ρ' S') W D → Tr c0 H0 c' H' → Rel c' S' H' → RLs c' H' ρ' σ' → XOk c' H' p d → wMany X.K W D (hdsTs X.K G.C W hs) (.ref (G.C i)) d σ' H'
  | [], [], _, i, p, ρ', S', c', H', σ', d, P, t, R, L, x => by
    have := P c' H' σ' d t R L x
    rw [hC] at this
    exact this
  | [], _ :: _, h, _, _, _, _, _, _, _, _, _, _, _, _, _ => by simp [chkHds] at h
  | h0 :: r, [], h, _, _, _, _, _, _, _, _, _, _, _, _, _ => by simp [chkHds] at h
  | h0 :: r, .ExceptHandler t n b p0 :: q, h, i, p, ρ', S', c', H', σ', d, P, tr, R, L, x => by
    rcases t with _ | t
    · simp [chkHds] at h
    cases t <;> try (simp [chkHds] at h; done)
    rcases n with _ | n
    · rcases b with _ | ⟨b, bs⟩
      · simp [chkHds] at h
      simp only [chkHds, Bool.and_eq_true, decide_eq_true_eq] at h
      obtain ⟨⟨⟨⟨⟨⟨h1, h2⟩, h3⟩, h4⟩, h5⟩, h6⟩, h7⟩ := h
      unfold hdsF at P
      by_cases c1 : h0.yes.contains i = true
      · rw [if_pos c1] at P
        have := List.all_eq_true.mp h4 i (by simpa using c1)
        have e := f.f.g.sub (i, h0.cls, true) (by simpa using this)
        refine ⟨true, e, fun _ a _ => ⟨c', S', ρ', tr.K.trans hK, tr.C.trans hC, R, L, P.mono tr⟩, (fun z => (nomatch z))⟩
      · rw [if_neg c1] at P
        by_cases c2 : h0.no.contains i = true
        · rw [if_pos c2] at P
          have := List.all_eq_true.mp h5 i (by simpa using c2)
          have e := f.f.g.sub (i, h0.cls, false) (by simpa using this)
          exact ⟨false, e, (fun z => (nomatch z)), fun _ => hds_post f hC hK h7 P tr R L x⟩
        · rw [if_neg c2] at P
          exact P.elim
    · simp [chkHds] at h
theorem q_par (f : FitS X G W N sc) {i j : Nat} {a b : E} {x y : Str} {px py pt pos : Pos} {u v : Expr} {k1 k2 : Nat} {p2 : Pos} (h1 : nameIs N i x = true) (h2 : nameIs N j y = true) (h3 : isLocal sc x = true) (h4 : isLocal sc y = true) (ne : x ≠ y) (hl : (py.line == px.line) = true) (pu : plainE u = true) (pv : plainE v = true)
    (f1 : [u, v].all (foldedForSure 8) = false) (f2 : [u, v].all (constantsAlone 8) = false) (h : PAx X G W (.cons a (.cons b .nil)) [u, v]) : PSx X G W (.par i j a b) (.Assign [.Tuple [.Name x px, .Name y py] k1 pt] (.Tuple [u, v] k2 p2) pos) := by
  have loc : ∀ z, isLocal sc z = true → X.env.scope.names.lookup z = some .local := fun z hz => by
    unfold isLocal at hz
    rw [f.f.s]
    split at hz
    · assumption
    · cases hz
  have hi := nameIs_of f.f.n h1
  have hj := nameIs_of f.f.n h2
  have hij : i ≠ j := fun z => by
    subst z
    rw [hi] at hj
    cases hj
    exact ne rfl
  refine PS.mono' (ps_par f.f.g.calm f.f.g.nd hi hj hij (loc x h3) (loc y h4) h (swap_two f.f.s f.kd h3 h4 ne hl pu pv f1 f2)) fun D σ H ⟨c, S, ρ, hK, hC, R, L, P⟩ => ?_
  refine At.stepS (At0 hK hC R L) P fun c1 S1 vs x fp H1 _ A t rn nd fr P => ?_
  obtain ⟨c', ex, R', r'⟩ := adopts_ok A.rel rn nd
  have t' := A.tr.ext ex fr
  generalize adopts vs S1 = q at R' r' P
  obtain ⟨ws, S2⟩ := q
  unfold parF at P
  dsimp only at P R' r'
  split at P
  · rename_i w1 w2
    simp only [RNs] at r'
    obtain ⟨v1, r1, f1', f2', rfl, q1, ⟨v2, r2, g1, g2, rfl, q2, ⟨rfl, rfl⟩, e2⟩, e1⟩ := r'
    have z1 : f1' = [] := (List.append_eq_nil_iff.mp e1.symm).1
    have z2 : f2' = [] := (List.append_eq_nil_iff.mp e1.symm).2
    subst z1 z2
    have z3 : g1 = [] := (List.append_eq_nil_iff.mp e2.symm).1
    subst z3
    refine ⟨v1, v2, rfl, ?_⟩
    exact At.nextS (K := X.K) (C := G.C) ⟨hK, hC, t', R', RLs.set (show RL c' H1 (some w2) (some v2) from q2) j (RLs.set (show RL c' H1 (some w1) (some v1) from q1) i (L.tr t'))⟩ P
  · exact P.elim
theorem sub_step (f : FitS X G W N sc) {o i : E} {xv : PV} {vx : V} {c0 c1 : Cn} {H0 H1 : Hp} {S1 : Store} {ρ : Ev.Loc} {σ : L2.St} {D : Ends} {g : Store → FR} {Qf : L2.St → Hp → Prop} (fl : isFlat xv = true) (A : At X.K G.C c0 H0 c1 S1 ρ σ H1) (rn : RN c1 H1 xv vx [])
    (P : PostS c0 H0 (onE (evE G.ce o ρ S1) ρ fun ov S => onE (evE G.ce i ρ S) ρ fun iv S => match setP ov iv xv S with
      | some S => g S
      | none => .fail) W D)
    (nx : ∀ c4 S4 H4, At X.K G.C c0 H0 c4 S4 ρ σ H4 → Tr c1 H1 c4 H4 → PostS c0 H0 (g S4) W D → Qf σ H4) : gSub (rdE X.K G.C (evE G.ce o) W) (rdE X.K G.C (evE G.ce i) W) rSetE vx σ H1 Qf := by
  refine At.stepS A P fun c2 S2 ov ox fp2 H2 z2 A2 t2 rn2 nd2 fr2 P => ?_
  refine At.stepS A2 P fun c3 S3 iv ix fp3 H3 z3 A3 t3 rn3 nd3 fr3 P => ?_
  clear z2 z3
  have rf : RV c3 H3 xv vx := (rn.tr t2).tr t3
  have t23 := t2.trans t3
  cases es : setP ov iv xv S3 with
  | none => rw [es] at P; exact P.elim
  | some S4 =>
    rw [es] at P
    cases ov with
    | ref l =>
      unfold setP at es
      dsimp only at es
      have rn2' := rn2.tr t3
      simp only [RN] at rn2'
      obtain ⟨a, hl, rfl, _⟩ := rn2'
      cases hS : S3[l]? with
      | none => rw [hS] at es; cases es
      | some ob =>
        rw [hS] at es
        cases ob with
        | lst xs =>
          dsimp only at es
          cases iv with
          | int k =>
            dsimp only at es
            cases hj : ixN xs.length k with
            | none => rw [hj] at es; cases es
            | some j =>
              rw [hj] at es
              cases es
              simp only [RN] at rn3
              obtain ⟨rfl, _⟩ := rn3
              obtain ⟨vs, h1, h2⟩ := A3.rel.obj l _ a hS hl
              have hlen := RNs.length h2
              refine .inl ⟨a, vs, k, j, rfl, rfl, h1, by rw [← hlen]; exact hj, ?_⟩
              have A4 := A3.putL (σ := σ) hl (RVs.set rf j h2)
              have hm : a ∈ c3.m := List.mem_of_getElem? hl
              exact nx _ _ _ A4 (t23.trans (Tr.write hm h1 (fun z => z))) P
          | _ => cases es
        | dK kvs =>
          dsimp only at es
          cases hk : keyOf iv with
          | none => rw [hk] at es; cases es
          | some k =>
            rw [hk] at es
            dsimp only at es
            by_cases hf : few kvs.length = true
            · rw [if_pos hf] at es
              cases es
              obtain ⟨rfl, _⟩ := key_sound hk rn3
              obtain ⟨vs, h1, h2⟩ := A3.rel.obj l _ a hS hl
              have hlen := RVk.length h2
              have hn : kvs.length ≤ 1000000 := by simpa [few] using hf
              refine .inr ⟨a, _, rfl, DPut.k h1 (by rw [← hlen, sizeLine_eq]; omega), ?_⟩
              have A4 := A3.put (σ := σ) (po := .dK (putP kvs k xv)) hl fun t => ⟨_, upd_same, RVk.tr t (putK_rvk rf h2)⟩
              have hm : a ∈ c3.m := List.mem_of_getElem? hl
              exact nx _ _ _ A4 (t23.trans (Tr.write hm h1 (fun z => z))) P
            · rw [if_neg hf] at es
              cases es
        | _ => cases es
    | _ => simp [setP] at es
def swpF (ce : Cl) (o i o2 j : E) (ρ : Ev.Loc) : PV → Store → FR
  | .tup [x, y], S => if isFlat x && isFlat y then
      onE (evE ce o ρ S) ρ fun ov S => onE (evE ce i ρ S) ρ fun iv S => match setP ov iv x S with
        | some S => onE (evE ce o2 ρ S) ρ fun ov S => onE (evE ce j ρ S) ρ fun iv S => match setP ov iv y S with
          | some S => .next ρ S
          | none => .fail
        | none => .fail
      else .fail
  | _, _ => .fail
theorem swp_eq (ce : Cl) (o i o2 j a b : E) (ρ : Ev.Loc) (S : Store) : evT ce (.swp o i o2 j a b) ρ S = onE (evE ce (.tup (.cons a (.cons b .nil))) ρ S) ρ (swpF ce o i o2 j ρ) := by
  simp only [evT, evE, evEs]
  cases evE ce a ρ S with
  | ok x S1 =>
    simp only [Res.bind_ok, onE_ok]
    cases evE ce b ρ S1 with
    | ok y S2 => simp only [Res.bind_ok, onE_ok]; rfl
    | exc _ _ _ => rfl
    | fail => rfl
  | exc _ _ _ => rfl
  | fail => rfl
theorem q_swp (f : FitS X G W N sc) {o i o2 j a b : E} {x y x2 y2 u v : Expr} {q1 q2 p1 p2 r : Pos} {k1 k2 : Nat} (hy : plainE y = true) (hy2 : plainE y2 = true) (ho : PEx X G W o x) (hi : PEx X G W i y) (ho2 : PEx X G W o2 x2) (hj : PEx X G W j y2) (he : PEx X G W (.tup (.cons a (.cons b .nil))) (.Tuple [u, v] k2 p2)) :
    PSx X G W (.swp o i o2 j a b) (.Assign [.Tuple [.Subscript x y q1, .Subscript x2 y2 q2] k1 p1] (.Tuple [u, v] k2 p2) r) := by
  have ha : ∀ {x y : Expr} {p : Pos}, plainE y = true → ∀ v, assign (.Subscript x y p) X.env v = (do
      let ov ← holding [v] (eval x X.env)
      let iv ← holding [v, ov] (eval y X.env)
      standAt p
      holding [v, ov, iv] (setItem ov iv v)
      release [v, ov, iv] []) := by
    intro x y p hy v
    cases y <;> first | rfl | (simp [plainE] at hy)
  have hw : swappedStores [.Tuple [.Subscript x y q1, .Subscript x2 y2 q2] k1 p1] (.Tuple [u, v] k2 p2) X.env = pure none := by
    unfold swappedStores
    simp
  have pg : PG X (.Tuple [.Subscript x y q1, .Subscript x2 y2 q2] k1 p1) (gTup X.K 2 (gCons (gSub (rdE X.K G.C (evE G.ce o) W) (rdE X.K G.C (evE G.ce i) W) rSetE) (gCons (gSub (rdE X.K G.C (evE G.ce o2) W) (rdE X.K G.C (evE G.ce j) W) rSetE) gNil))) :=
    pg_tup f.f.g.calm (pgs_cons (pg_sub ho hi (set_all f.f.g.un) (ha hy)) (pgs_cons (pg_sub ho2 hj (set_all f.f.g.un) (ha hy2)) pgs_nil))
  refine PS.mono' (ps_asg he pg (swaps_sole rfl) hw) fun D σ H ⟨c, S, ρ, hK, hC, R, L, P⟩ => ?_
  rw [swp_eq] at P
  refine At.stepS (At0 hK hC R L) P fun c1 S1 v x fp H1 z1 A1 t1 rn nd fr P => ?_
  clear z1
  unfold swpF at P
  split at P
  · rename_i w1 w2
    split at P
    · rename_i fl
      rw [Bool.and_eq_true] at fl
      simp only [RN] at rn
      obtain ⟨a, vs, rfl, s, rs⟩ := rn
      have fz : fp = [] := flats_nil (xs := [w1, w2]) (by simp [fl.1, fl.2]) rs
      subst fz
      rw [A1.K] at s
      simp only [RNs] at rs
      obtain ⟨v1, r1, f1, f2, rfl, h1, ⟨v2, r2, g1, g2, rfl, h2, ⟨rfl, rfl⟩, e2⟩, e1⟩ := rs
      obtain ⟨rfl, rfl⟩ := List.append_eq_nil_iff.mp e1.symm
      obtain ⟨rfl, _⟩ := List.append_eq_nil_iff.mp e2.symm
      refine ⟨a, [v1, v2], rfl, s, rfl, v1, [v2], rfl, ?_⟩
      refine sub_step f fl.1 A1 h1 P fun c4 S4 H4 A4 t4 P => ?_
      refine ⟨v2, [], rfl, ?_⟩
      refine sub_step f fl.2 A4 (h2.tr t4) P fun c5 S5 H5 A5 t5 P => ?_
      exact ⟨rfl, At.nextS (σ' := σ) A5 P⟩
    · exact P.elim
  · exact P.elim
theorem q_try (f : FitS X G W N sc) {b : T} {hs : List Hd} {x : List Stmt} {h0 : ExceptHandler} {hr : List ExceptHandler} {p : Pos} (h : chkHds G.toGS N sc hs (h0 :: hr) = true)
    (hb : ∀ (W' : WX) (pn : List (Addr × Obj)) (xe : Value → Shared → Prop), Takes (X.tr pn xe) W' → PassesOwn (model X.prog X.w) X.A X.env xe → PSBx (X.tr pn xe) G W' b x) : PSx X G W (.try_ b hs) (.Try x (h0 :: hr) [] [] p) := by
  refine PS.mono' (ps_try_many (tb := fun W' => rdS X.K G.C (evT G.ce b) W') f.hs f.hf f.f.tk (fun W' pn xe tk po => hb W' pn xe tk po) (hds_ok f h)) fun D σ H ⟨c, S, ρ, hK, hC, R, L, P⟩ => ?_
  refine ⟨c, S, ρ, hK, hC, R, L, ?_⟩
  have P : PostS c H (tryF (evT G.ce b ρ S) hs) W D := P
  cases e : evT G.ce b ρ S with
  | exc i p ρ' S' =>
    rw [e] at P
    intro c' H' σ' d t R' L' xo
    rw [hC]
    exact hds_post f hC hK h P t R' L' xo
  | _ =>
    rw [e] at P
    exact P
theorem q_brk {p : Pos} : PSx X G W .brk (.Break p) := PS.mono' ps_break fun D σ H ⟨c, S, ρ, hK, hC, R, L, P⟩ => P c H σ (Tr.refl c H) R L
theorem q_raise (f : Fits X G W N sc) {i : Nat} {x m : Str} {j : Nat} {p p2 pos q : Pos} (he : G.exc i = some x) (hg : isGl sc x = true) (hx : okName x = true) : PSx X G W (.raise i) (.Raise (some (.Call (.Name x p) [.Constant (.str m) j p2] [] pos)) none q) := by
  obtain ⟨h1, h2, h3, h4⟩ := f.g.exc i x he
  refine PS.mono' (ps_raise f.g.calm f.tk (pmk_own PySem.F.excBase_ValueError h3 h1 h2 h4 (gl_of f.s hg) (okName_of hx).1)) fun D σ H ⟨c, S, ρ, hK, hC, R, L, P⟩ => ?_
  have := P c H σ none (Tr.refl c H) R L rfl
  rw [hC] at this
  exact this
theorem q_for (f : FitS X G W N sc) {tg : Tg} {it : Ev.It} {b : T} {t i : Expr} {x : List Stmt} {p : Pos} (htg : chkTg N sc tg t = true) (hpl : plainE i = true) (hi : PIx X G W it t i) (hb : PSBx X G W b x) : PSx X G W (.for_ tg it b) (.For t i x [] p) := by
  have pg := pg_tg f.f.n f.f.g.nd f.f.g.calm f.sto htg
  refine PS.mono' (ps_for f.po f.f.g.calm hi pg hb (fold_plain hpl)) fun D σ H ⟨c, S, ρ, hK, hC, R, L, P⟩ => ?_
  refine At.stepS (At0 hK hC R L) P fun c1 S1 p J fp H1 e1 A t1 rn nd fr P => ?_
  obtain ⟨src, rfl⟩ := rn
  obtain ⟨xs, gg⟩ := p
  dsimp only at P src
  let Wv : Nat → Nat → L2.St → Hp → Prop := fun i m σ2 Hh => m = xs.length - i ∧ i ≤ xs.length ∧ ∃ c2 S2 ρ2, At X.K G.C c H c2 S2 ρ2 σ2 Hh ∧ Tr c1 H1 c2 Hh ∧ PostS c H (forL (evT G.ce b) tg gg xs (xs.drop i) ρ2 S2) W D
  refine ⟨Wv, ⟨xs.length, rfl, Nat.zero_le _, c1, S1, ρ, A, Tr.refl _ _, P⟩, ?_⟩
  rintro i m σ2 Hh ⟨rfl, hi', c2, S2, ρ2, A2, t2, P⟩
  by_cases hlt : i < xs.length
  · obtain ⟨x, hx⟩ : ∃ x, xs[i]? = some x := ⟨_, List.getElem?_eq_getElem hlt⟩
    have hdr : xs.drop i = x :: xs.drop (i + 1) := by
      rw [List.drop_eq_getElem_cons hlt]
      rw [List.getElem?_eq_getElem hlt] at hx
      cases hx; rfl
    rw [hdr] at P
    unfold forL at P
    by_cases hgd : Gd gg xs S2
    · rw [if_pos hgd] at P
      obtain ⟨go, yl⟩ := src.item c2 S2 Hh i x t2 A2.rel hgd hx
      refine .inr ⟨go, fun σ' H' => Wv (i + 1) (xs.length - (i + 1)) σ' H', fun σ' H' w => ⟨_, by omega, w⟩, fun y H'' hy => ?_⟩
      obtain ⟨t3, R3, r3, _⟩ := yl y H'' hy
      cases eb : bindT tg x ρ2 with
      | none => rw [eb] at P; exact P.elim
      | some ρ' =>
        rw [eb] at P
        dsimp only at P
        refine bind_ok A2.K eb r3 (A2.loc.tr t3) fun σ' L' _ => ?_
        refine ⟨c2, S2, ρ', A2.K, A2.C, R3, L', ?_⟩
        have t23 := A2.tr.trans t3
        cases q : evT G.ce b ρ' S2 with
        | next ρ3 S3 =>
          rw [q] at P
          intro c3 H3 σ3 t R' L3
          exact ⟨rfl, by omega, c3, S3, ρ3, ⟨A2.K0, A2.C0, t23.trans t, R', L3⟩, (t2.trans t3).trans t, P⟩
        | brk ρ3 S3 =>
          rw [q] at P
          intro c3 H3 σ3 t R' L3
          exact P c3 H3 σ3 (t23.trans t) R' L3
        | ret v S3 => rw [q] at P; exact PostS.mono (r := .ret v S3) (D := D) t23 P
        | exc i p ρ3 S3 => rw [q] at P; exact PostS.mono (r := .exc i p ρ3 S3) (D := D) t23 P
        | fail => rw [q] at P; exact P.elim
    · rw [if_neg hgd] at P
      exact P.elim
  · have he' : i = xs.length := by omega
    subst he'
    rw [List.drop_length] at P
    unfold forL at P
    by_cases hgd : Gd gg xs S2
    · rw [if_pos hgd] at P
      exact .inl ⟨src.done c2 S2 Hh _ t2 A2.rel hgd (Nat.le_refl _), A2.nextS P⟩
    · rw [if_neg hgd] at P
      exact P.elim
theorem q_while (f : FitS X G W N sc) {n : Nat} {e : E} {b : T} {t : Expr} {x : List Stmt} {p : Pos} (he : PTx X G W e t) (hb : PSBx X G W b x) : PSx X G W (.while_ n e b) (.While t x [] p) := by
  refine PS.mono' (ps_while f.po he hb) fun D σ H ⟨c, S, ρ, hK, hC, R, L, P⟩ => ?_
  let Wv : Nat → L2.St → Hp → Prop := fun m σ2 Hh => ∃ c2 S2 ρ2, At X.K G.C c H c2 S2 ρ2 σ2 Hh ∧ PostS c H (whileL (evE G.ce e) (evT G.ce b) m ρ2 S2) W D
  refine ⟨Wv, ⟨n, c, S, ρ, At0 hK hC R L, P⟩, ?_⟩
  rintro m σ2 Hh ⟨c2, S2, ρ2, A2, P⟩
  cases m with
  | zero => exact P.elim
  | succ m =>
    unfold whileL at P
    refine At.stepS A2 P fun c3 S3 v x fp H3 _ A3 t3 rn nd fr P => ?_
    cases v with
    | bl k =>
      simp only [RN] at rn
      obtain ⟨rfl, rfl⟩ := rn
      refine ⟨k, rfl, ?_⟩
      cases k with
      | false => rw [if_neg Bool.false_ne_true]; exact A3.nextS P
      | true =>
        rw [if_pos rfl]
        refine ⟨fun σ' H' => Wv m σ' H', fun σ' H' w => ⟨m, Nat.lt_succ_self m, w⟩, c3, S3, ρ2, A3.K, A3.C, A3.rel, A3.loc, ?_⟩
        dsimp only at P
        cases q : evT G.ce b ρ2 S3 with
        | next ρ4 S4 =>
          rw [q] at P
          intro c4 H4 σ4 t R' L4
          exact ⟨c4, S4, ρ4, ⟨A3.K0, A3.C0, A3.tr.trans t, R', L4⟩, P⟩
        | brk ρ4 S4 =>
          rw [q] at P
          intro c4 H4 σ4 t R' L4
          exact P c4 H4 σ4 (A3.tr.trans t) R' L4
        | ret v S4 => rw [q] at P; exact PostS.mono (r := .ret v S4) (D := D) A3.tr P
        | exc i p ρ4 S4 => rw [q] at P; exact PostS.mono (r := .exc i p ρ4 S4) (D := D) A3.tr P
        | fail => rw [q] at P; exact P.elim
    | _ => exact P.elim
theorem q_nil : PSBx X G W .skip [] := PSs.mono' pss_nil fun D σ H ⟨c, S, ρ, hK, hC, R, L, P⟩ => (At0 hK hC R L).nextS P
theorem q_cons {a b : T} {s : Stmt} {r : List Stmt} (ha : PSx X G W a s) (hb : PSBx X G W b r) : PSBx X G W (.seq a b) (s :: r) := by
  refine PSs.mono' (pss_cons ha hb) fun D σ H ⟨c, S, ρ, hK, hC, R, L, P⟩ => ?_
  refine ⟨c, S, ρ, hK, hC, R, L, ?_⟩
  simp only [evT] at P
  cases q : evT G.ce a ρ S with
  | next ρ' S' =>
    rw [q] at P
    simp only [FR.then_next] at P
    exact fun c' H' σ' t R' L' => ⟨c', S', ρ', t.K.trans hK, t.C.trans hC, R', L', P.mono t⟩
  | brk ρ' S' => rw [q] at P; exact P
  | ret v S' => rw [q] at P; exact P
  | exc i p ρ' S' => rw [q] at P; exact P
  | fail => rw [q] at P; exact P
end
section
variable {G : GT} {N : List Str}
mutual
theorem ok_S : ∀ (a : T) {sc : Scope} {s : Stmt} {X : Cx} {W : WX}, FitS X G W N sc → chkS G N a sc s = true → PSx X G W a s
  | .skip, sc, s, X, W, f, h => by
    cases s <;> try (simp [chkS] at h; done)
    exact q_skip
  | .ex e, sc, s, X, W, f, h => by
    cases s <;> try (simp [chkS] at h; done)
    simp only [chkS, Bool.and_eq_true, Bool.not_eq_true'] at h
    exact q_ex h.1 (ok_E e f.f h.2).pe
  | .set i e, sc, s, X, W, f, h => by
    simp only [chkS] at h
    split at h
    · rename_i x p v q q1
      obtain rfl := asSet_eq q1
      split at h
      · rename_i b hb
        simp only [Bool.and_eq_true] at h
        obtain ⟨⟨⟨h1, h2⟩, h3⟩, hno⟩ := h
        by_cases hc : isComp v = false
        · exact q_set f h1 h2 (swaps_plain hc) (ok_E e f.f h3).pe
        · -- a comprehension
          have hlc : ∃ elt gs scope pos, v = .ListComp elt gs scope pos := by
            cases v <;> first
              | exact ⟨_, _, _, _, rfl⟩
              | (simp [isComp] at hc; done)
              | (simp [swapsB] at hb; done)
          obtain ⟨elt, gs, scope, pos, rfl⟩ := hlc
          have e1 : swapsWith (.ListComp elt gs scope pos) (some (.Name x p)) q.line X.env = pure b := by
            have hbk : X.env.blockKind = .function := by unfold Env.blockKind; rw [f.f.s, f.kd]; rfl
            unfold swapsWith
            simp only [hbk, Expr.pos]
            unfold swapsB at hb
            cases hb
            have ek : (X.env.kindOf x == some NameKind.local) = isLocal sc x := by
              unfold Env.kindOf isLocal
              rw [f.f.s]
              cases q : sc.names.lookup x with
              | none => rfl
              | some k => cases k <;> rfl
            rw [ek]
            rfl
          cases b with
          | false => exact q_set f h1 h2 e1 (ok_E e f.f h3).pe
          | true =>
            have hy : X.env.scope.names.lookup x = some .local := by
              unfold swapsB at hb
              have hb := Option.some.inj hb
              simp only [Bool.and_eq_true] at hb
              have := hb.1.1
              unfold isLocal at this
              rw [f.f.s]
              split at this
              · assumption
              · cases this
            have main : ∀ {e0 : E}, (match e0 with | .comp _ _ _ _ _ => True | _ => False) → chkE G.toGS N e0 sc (.ListComp elt gs scope pos) = true → PS X (.Assign [.Name x p] (.ListComp elt gs scope pos) q) (tAsg (rdE X.K G.C (evE G.ce e0) W) (gName i)) := by
              intro e0 hcm h3
              cases e0 <;> try (exact hcm.elim)
              rename_i own tg it cs e
              simp only [chkE] at h3
              split at h3
              · rename_i elt' t i ifs scope' q2
                obtain ⟨p2, e2⟩ := asComp_eq q2
                cases e2
                simp only [Bool.and_eq_true] at h3
                obtain ⟨⟨⟨⟨⟨g1, g2⟩, g3⟩, g4⟩, g5⟩, g6⟩ := h3
                refine s_setLc f.f.g f.f.n f.f.s g1 g3 (fun j hj => ?_) (chkC_cases G N g5) (chkIt_plain G N g2) (ok_I it f.f g2) (fun s H C cl fp => ok_C cs (f.f.blk s H _ C cl fp) g5) (fun s H C cl fp => (ok_E e (f.f.blk s H _ C cl fp) g6).pe) (nameIs_of f.f.n h1) hy e1
                have := List.all_eq_true.mp g4 j hj
                simpa using this
              · cases h3
            cases e <;> try first | (simp [chkE, asRev, asCall, asCallX, asAttr, asMeth, asMake, asDict, as1_no, as2_no, as3_no] at h3; done)
            · exact PS.mono' (main trivial h3) fun D σ H h => set_rd h
            · rename_i a
              cases a <;> try (simp [notOwn] at hno; done)
              simp only [chkE] at h3
              exact PS.mono' (main trivial (by simpa only [chkE] using h3)) fun D σ H h => set_rd_own h
            · simp [notOwn] at hno
            · -- over a dict
              rename_i own a b
              simp only [chkE] at h3
              split at h3
              · rename_i elt' t i ifs scope' q2
                obtain ⟨p2, e2⟩ := asComp_eq q2
                cases e2
                simp only [Bool.and_eq_true] at h3
                obtain ⟨⟨⟨⟨g1, g2⟩, g3⟩, g4⟩, g5⟩ := h3
                split at g2
                · rename_i es
                  simp only [Bool.and_eq_true, decide_eq_true_eq] at g2
                  have hn : ifs = [] := by simpa using g1
                  subst hn
                  exact PS.mono' (s_setLcD f.f.g f.f.n f.f.s es g2.1 g2.2 g3 (chk_plain G.toGS N g4) g4 g5 (nameIs_of f.f.n h1) hy e1) fun D σ H h => set_rd h
                · cases g2
              · cases h3
      · cases h
    · cases h
  | .unp is e, sc, s, X, W, f, h => by
    simp only [chkS] at h
    split at h
    · rename_i es v q1
      obtain ⟨k, p, q, rfl⟩ := asUnp_eq q1
      simp only [Bool.and_eq_true, Bool.not_eq_true'] at h
      exact q_unp f h.1.1.1 h.1.1.2 h.1.2 (ok_E e f.f h.2).pe
    · cases h
  | .setix o i e, sc, s, X, W, f, h => by
    simp only [chkS] at h
    split at h
    · rename_i x y v q1
      obtain ⟨p, q, rfl⟩ := asSetIx_eq q1
      simp only [Bool.and_eq_true, Bool.not_eq_true'] at h
      exact q_setix f h.1.1.1 (chk_plain G N h.1.2) (ok_E o f.f h.1.1.2).pe (ok_E i f.f h.1.2).pe (ok_E e f.f h.2).pe
    · cases h
  | .aug i o e, sc, s, X, W, f, h => by
    simp only [chkS] at h
    split at h
    · rename_i x op v q1
      obtain ⟨p, q, rfl⟩ := asAug_eq q1
      simp only [Bool.and_eq_true] at h
      refine q_aug f h.1.1.1 h.1.1.2 ?_ (ok_E e f.f h.2).pe
      have h3 := h.1.2
      split at h3
      · exact .inl ⟨rfl, rfl⟩
      · exact .inr ⟨rfl, rfl⟩
      · cases h3
    · cases h
  | .ret e, sc, s, X, W, f, h => by
    cases s <;> try (simp [chkS] at h; done)
    rename_i v p
    cases v <;> try (simp [chkS] at h; done)
    simp only [chkS] at h
    exact q_ret (ok_E e f.f h).pe
  | .retn, sc, s, X, W, f, h => by
    cases s <;> try (simp [chkS] at h; done)
    rename_i v p
    cases v <;> try (simp [chkS] at h; done)
    exact q_retn
  | .ite c a b, sc, s, X, W, f, h => by
    simp only [chkS] at h
    split at h
    · rename_i t x y q1
      obtain ⟨p, rfl⟩ := asIf_eq q1
      simp only [Bool.and_eq_true] at h
      exact q_ite (ok_E c f.f h.1.1).pt (ok_T a f h.1.2) (ok_T b f h.2)
    · cases h
  | .for_ tg it b, sc, s, X, W, f, h => by
    simp only [chkS] at h
    split at h
    · rename_i t i x q1
      obtain ⟨p, rfl⟩ := asFor_eq q1
      simp only [Bool.and_eq_true] at h
      exact q_for f h.1.2 (chkIt_plain G N h.1.1) (ok_I it f.f h.1.1) (ok_T b f h.2)
    · cases h
  | .while_ n c b, sc, s, X, W, f, h => by
    simp only [chkS] at h
    split at h
    · rename_i t x q1
      obtain ⟨p, rfl⟩ := asWhile_eq q1
      simp only [Bool.and_eq_true] at h
      exact q_while f (ok_E c f.f h.1).pt (ok_T b f h.2)
    · cases h
  | .brk, sc, s, X, W, f, h => by
    cases s <;> try (simp [chkS] at h; done)
    exact q_brk
  | .raise c, sc, s, X, W, f, h => by
    simp only [chkS] at h
    split at h
    · rename_i x q1
      obtain ⟨p, m, j, p2, pos, q, rfl⟩ := asRaise_eq q1
      simp only [Bool.and_eq_true, decide_eq_true_eq] at h
      exact q_raise f.f h.1.1 h.1.2 h.2
    · cases h
  | .try_ b hs, sc, s, X, W, f, h => by
    simp only [chkS] at h
    split at h
    · rename_i x q q1
      obtain ⟨h0, hr, p, rfl, rfl⟩ := asTry_eq q1
      simp only [Bool.and_eq_true] at h
      exact q_try f h.2 fun W' pn xe tk po => ok_T b (f.tr tk po) h.1
    · cases h
  | .par i j a b, sc, s, X, W, f, h => by
    simp only [chkS] at h
    split at h
    · rename_i x p y q u v q1
      obtain ⟨k1, p1, k2, p2, r, rfl⟩ := asPar_eq q1
      simp only [Bool.and_eq_true, Bool.not_eq_true'] at h
      obtain ⟨⟨⟨⟨⟨⟨⟨⟨⟨h1, h2⟩, h3⟩, h4⟩, h5⟩, h6⟩, h7⟩, h8⟩, h9⟩, h10⟩ := h
      have pu := chk_plain G N h9
      have pv := chk_plain G N h10
      exact q_par f h1 h2 h3 h4 (by simpa using h5) h6 pu pv h7 h8 (a_cons pu (ok_E a f.f h9).pe (a_cons pv (ok_E b f.f h10).pe a_nil))
    · cases h
  | .swp o i o2 j a b, sc, s, X, W, f, h => by
    simp only [chkS] at h
    split at h
    · rename_i x y x2 y2 u v q1
      obtain ⟨p1, p2, k1, p3, k2, p4, r, rfl⟩ := asSwp_eq q1
      simp only [Bool.and_eq_true] at h
      obtain ⟨⟨⟨⟨⟨h1, h2⟩, h3⟩, h4⟩, h5⟩, h6⟩ := h
      have pu := chk_plain G N h5
      have pv := chk_plain G N h6
      have hn : ∀ ρ S vs S', evEs G.ce (.cons a (.cons b .nil)) ρ S = .ok vs S' → vs.length = [u, v].length := fun ρ S vs S' => evEs_len (G := G) (N := N) (sc := sc) (es := .cons a (.cons b .nil)) (xs := [u, v]) (by simp only [chkEs, Bool.and_eq_true]; exact ⟨h5, h6, trivial⟩)
      exact q_swp f (chk_plain G N h2) (chk_plain G N h4) (ok_E o f.f h1).pe (ok_E i f.f h2).pe (ok_E o2 f.f h3).pe (ok_E j f.f h4).pe (s_tup (a_cons pu (ok_E a f.f h5).pe (a_cons pv (ok_E b f.f h6).pe a_nil)) (by show 2 ≤ _; decide) hn)
    · cases h
  | .setat ci o nm e, sc, s, X, W, f, h => by
    simp only [chkS] at h
    split at h
    · rename_i x g v q
      obtain ⟨p, q, rfl⟩ := asSetAt_eq q
      simp only [Bool.and_eq_true, decide_eq_true_eq] at h
      obtain ⟨⟨⟨rfl, h2⟩, h3⟩, h4⟩ := h
      exact q_setat f h2 (ok_E o f.f h3).pe (ok_E e f.f h4).pe
    · cases h
  | .augat ci o nm e, sc, s, X, W, f, h => by
    simp only [chkS] at h
    split at h
    · rename_i x g v q
      obtain ⟨p, q, rfl⟩ := asAugAt_eq q
      simp only [Bool.and_eq_true, decide_eq_true_eq] at h
      obtain ⟨⟨⟨rfl, h2⟩, h3⟩, h4⟩ := h
      exact q_augat f h2 (ok_E o f.f h3).pe (ok_E e f.f h4).pe
    · cases h
  | .seq a b, sc, s, X, W, f, h => by simp [chkS] at h
theorem ok_T : ∀ (a : T) {sc : Scope} {s : List Stmt} {X : Cx} {W : WX}, FitS X G W N sc → chkB G N a sc s = true → PSBx X G W a s
  | .skip, _, [], _, _, _, _ => q_nil
  | .skip, _, _ :: _, _, _, _, h => by simp [chkB] at h
  | .seq a b, _, [], _, _, _, h => by simp [chkB] at h
  | .seq a b, sc, s :: r, X, W, f, h => by
    simp only [chkB, Bool.and_eq_true] at h
    exact q_cons (ok_S a f h.1) (ok_T b f h.2)
  | .ex _, _, _, _, _, _, h => by simp [chkB] at h
  | .set _ _, _, _, _, _, _, h => by simp [chkB] at h
  | .unp _ _, _, _, _, _, _, h => by simp [chkB] at h
  | .setix _ _ _, _, _, _, _, _, h => by simp [chkB] at h
  | .aug _ _ _, _, _, _, _, _, h => by simp [chkB] at h
  | .ret _, _, _, _, _, _, h => by simp [chkB] at h
  | .retn, _, _, _, _, _, h => by simp [chkB] at h
  | .ite _ _ _, _, _, _, _, _, h => by simp [chkB] at h
  | .for_ _ _ _, _, _, _, _, _, h => by simp [chkB] at h
  | .while_ _ _ _, _, _, _, _, _, h => by simp [chkB] at h
  | .brk, _, _, _, _, _, h => by simp [chkB] at h
  | .raise _, _, _, _, _, _, h => by simp [chkB] at h
  | .try_ _ _, _, _, _, _, _, h => by simp [chkB] at h
  | .par _ _ _ _, _, _, _, _, _, h => by simp [chkB] at h
  | .swp _ _ _ _ _ _, _, _, _, _, _, h => by simp [chkB] at h
  | .setat _ _ _ _, _, _, _, _, _, h => by simp [chkB] at h
  | .augat _ _ _ _, _, _, _, _, _, h => by simp [chkB] at h
end
end
/-! ### a def -/
/-- what is asked of the program, where a def of level k + 1 stands -/
structure GK (P : Program) (w : World) (K : PySem.W.Frag) (mg : Str → Option Value) (base : Heap) (G : GT) (k : Nat) : Prop where
  sub : ∀ t, t ∈ G.sub → PySem.W.exmOne K (.ref (G.C t.1)) (.ref (G.C t.2.1)) = some t.2.2
  blt : ∀ x, x ∈ blt → mg x = none
  con : ∀ (j : Nat) p, G.con[j]? = some p → ∃ u w, mg p.1 = some u ∧ RelV w u ∧ ∀ c H, c.K = K → RV c H p.2 w
  fn : ∀ (i : Nat) e, G.tab[i]? = some e → ∃ f fd ps j, e.kd.lv j ≤ k ∧ Reach K mg G.C e f ∧ Binds K fd ps [] ∧ FnOk P w K mg base (L2.CX P w) j f fd ps (spOf K G.C e.n (G.fs i))
  cls : ∀ t, t ∈ G.cls → Cls K (G.C t.1) ∧ mg t.2.1 = some (.ref (G.C t.1)) ∧ ∀ f, f ∈ t.2.2 → NoAttr K (G.C t.1) f
  exc : ∀ i x, G.exc i = some x → mg x = some (.ref (G.C i)) ∧ PySem.W.keepIn K (.ref (G.C i)) = true ∧ PySem.W.excIn K (G.C i) [.type "ValueError", .type "Exception", .type "BaseException", .type "object"] "ValueError.__new__" = true ∧ PySem.W.subIn K (.ref (G.C i)) (.type "BaseException") = some true ∧ PySem.W.typeIn K (.ref (G.C i)) = some (.type "type")
theorem start_rel {c : Cn} {H : Hp} : ∀ {args : List PV} {vs : List V}, RVs c H args vs → RLs c H (args.map some) (vs.map some)
  | [], _, h => by simp only [RNs] at h; rw [h.1]; exact .nil
  | x :: xs, _, h => by
    simp only [RNs] at h
    obtain ⟨v, r, f1, f2, rfl, h1, h2, e0⟩ := h
    have e1 : f1 = [] := (List.append_eq_nil_iff.mp e0.symm).1
    have e2 : f2 = [] := (List.append_eq_nil_iff.mp e0.symm).2
    subst e1 e2
    exact .cons h1 (start_rel h2)
theorem nones_rel {c : Cn} {H : Hp} : ∀ n : Nat, RLs c H (List.replicate n none) (List.replicate n none)
  | 0 => .nil
  | n + 1 => .cons trivial (nones_rel n)
theorem fn_ok {P : Program} {w : World} {K : PySem.W.Frag} {mg : Str → Option Value} {base : Heap} {G : GT} {k : Nat} {x qual : Str} {st : Stmt} {f : Addr} {fd : FuncData} {N ps : List Str} {ir : T} (F : Fun K x qual st f fd) (Sc : FnScope N ps (defScope st)) (gk : GK P w K mg base G k)
    (h : chkB G N ir (defScope st) (defBody st) = true) : FnOk P w K mg base (L2.CX P w) (k + 1) f fd ps (spOf K G.C ps.length (runF G.ce N.length ir)) := by
  refine F.okX Sc (fun vs H Q E h => h.1) fun cdv A outer s H vs Q E hr hsp => ?_
  obtain ⟨hl, c, S, args, hK, hC, R, ra, P'⟩ := hsp
  let X := cxOf (L2.CX P w) P w K mg base N qual (defScope st) f cdv A outer s H E
  have tk : Takes X (fun cls d _ H => E cls d H) := takes_of rfl rfl rfl rfl
  have un := hr.units
  have un65 : (A.deeper (envOfC qual (defScope st) s.heap.objs.size f cdv)).units + 65 < cLine := by have := hr.un; omega
  have gx : GX X G := ⟨rfl, Sc.nd, un, gk.blt, gk.con, fun i e h => by
    obtain ⟨f, fd, ps, j, hj, h1, h2, h3⟩ := gk.fn i e h
    exact ⟨f, fd, ps, j, hr.mono hj, h1, h2, h3⟩, fun i x h => by
    obtain ⟨h1, h2, h3, h4, h5⟩ := gk.exc i x h
    exact ⟨h1, h2, h3, raises_own h4 h5⟩, gk.sub, gk.cls, un65⟩
  have ft : FitS X G (fun cls d _ H => E cls d H) N (defScope st) := ⟨⟨gx, tk, rfl, rfl⟩, passes_of rfl, fun _ => rfl, Sc.kind, rfl, rfl⟩
  refine ⟨_, ok_T ir ft h, ?_⟩
  have L : RLs c H (args.map some ++ List.replicate (N.length - args.length) none) (L2.start N vs) := by
    unfold L2.start
    rw [show args.length = vs.length from RNs.length ra]
    exact (pairedApp (start_rel ra) (nones_rel _))
  refine ⟨c, S, _, hK, hC, R, L, ?_⟩
  unfold runF at P'
  cases q : evT G.ce ir (args.map some ++ List.replicate (N.length - args.length) none) S with
  | next ρ S' => rw [q] at P'; exact fun c' H' σ' t R' L' => P' c' H' .non [] t R' (by simp [RN]) List.nodup_nil fun _ h => nomatch h
  | ret v S' => rw [q] at P'; exact P'
  | brk ρ S' => rw [q] at P'; exact P'.elim
  | exc i p ρ S' => rw [q] at P'; exact fun c' H' σ' d t R' L' x => P' c' H' d t R' x
  | fail => rw [q] at P'; exact P'.elim
/-- what a def does, told otherwise -/
theorem spOf_imp {K : PySem.W.Frag} {C : Nat → Addr} {n : Nat} {F F' : List PV → Store → Res PV} (h : ∀ args S, args.length = n → F' args S ≠ .fail → F args S = F' args S) {vs : List V} {H : Hp} {Q : VK} {E : XK} (s : spOf K C n F' vs H Q E) : spOf K C n F vs H Q E := by
  obtain ⟨hl, c, S, args, hK, hC, R, ra, P⟩ := s
  refine ⟨hl, c, S, args, hK, hC, R, ra, ?_⟩
  have hn : args.length = n := (RNs.length ra).trans hl
  rw [h args S hn fun z => by rw [z] at P; exact P.elim]
  exact P
end Ev
end
set_option Elab.async false
set_option linter.all false
set_option maxRecDepth 100000
/-! EvM: the chain of defs; the law's end. -/
noncomputable section
namespace Ev
open PySem L2 PyProof.Rows
section
variable {P : Program} {w : World} {K : PySem.W.Frag} {mg : Str → Option Value} {base : Heap} {tab : List FnE} {fs : Nat → List PV → Store → Res PV} {con : List (Str × PV)} {exc : Nat → Option Str} {sub : List (Nat × Nat × Bool)} {cls : List (Nat × Str × List Str)} {kd : FK} {C : Nat → Addr} {k : Nat} {x qual : Str} {st : Stmt} {f : Addr} {fd : FuncData} {N ps : List Str} {ir : T}
theorem GK.mono {G : GT} (gk : GK P w K mg base G k) {j : Nat} (h : k ≤ j) : GK P w K mg base G j :=
  ⟨gk.sub, gk.blt, gk.con, fun i e he => by
    obtain ⟨f, fd, ps, l, hl, r⟩ := gk.fn i e he
    exact ⟨f, fd, ps, l, Nat.le_trans hl h, r⟩, gk.cls, gk.exc⟩
def put1 (fs : Nat → List PV → Store → Res PV) (n : Nat) (F : List PV → Store → Res PV) : Nat → List PV → Store → Res PV := fun i => if i = n then F else fs i
/-- a def is told -/
theorem GK.tell (gk : GK P w K mg base ⟨⟨tab, con, exc, sub, cls⟩, C, fs⟩ k) {n : Nat} {F : List PV → Store → Res PV} {j : Nat} (hb : Binds K fd ps []) (hm : Reach K mg C ⟨x, n, kd⟩ f) (hn : ps.length = n) (hj : kd.lv j ≤ k) (h : FnOk P w K mg base (L2.CX P w) j f fd ps (spOf K C n F)) : GK P w K mg base ⟨⟨tab ++ [⟨x, n, kd⟩], con, exc, sub, cls⟩, C, put1 fs tab.length F⟩ k := by
  refine ⟨gk.sub, gk.blt, gk.con, fun i e he => ?_, gk.cls, gk.exc⟩
  by_cases hi : i < tab.length
  · have := gk.fn i e ((List.getElem?_append_left hi).symm.trans he)
    have ne : ¬ i = tab.length := by omega
    simp only [put1, if_neg ne]
    exact this
  · have hi : tab.length ≤ i := Nat.le_of_not_lt hi
    have he2 := (List.getElem?_append_right hi).symm.trans he
    have h0 : i - tab.length = 0 := by
      cases q : i - tab.length with
      | zero => rfl
      | succ m => rw [q] at he2; simp at he2
    have hi2 : i = tab.length := by omega
    rw [h0] at he2
    cases he2
    simp only [put1, if_pos hi2]
    exact ⟨f, fd, ps, j, hj, hm, hb, h⟩
variable {nm : Str}
/-- one def more -/
theorem GK.add (gk : GK P w K mg base ⟨⟨tab, con, exc, sub, cls⟩, C, fs⟩ k) (Fn : Fun K x qual st f fd) (Sc : FnScope N ps (defScope st)) (hb : Binds K fd ps []) (hm : mg x = some (.ref f)) (chk : chkB ⟨tab, con, exc, sub, cls⟩ N ir (defScope st) (defBody st) = true) :
    GK P w K mg base ⟨⟨tab ++ [⟨x, ps.length, .glob⟩], con, exc, sub, cls⟩, C, put1 fs tab.length (runF (ceOf con fs) N.length ir)⟩ (k + 1) :=
  (gk.mono (Nat.le_succ k)).tell hb ⟨hm, Fn.kp⟩ rfl (Nat.le_refl _) (fn_ok Fn Sc gk chk)
/-- a def by another name -/
theorem GK.addA {y : Str} (gk : GK P w K mg base ⟨⟨tab, con, exc, sub, cls⟩, C, fs⟩ k) (Fn : Fun K x qual st f fd) (Sc : FnScope N ps (defScope st)) (hb : Binds K fd ps []) (hm : mg y = some (.ref f)) (chk : chkB ⟨tab, con, exc, sub, cls⟩ N ir (defScope st) (defBody st) = true) :
    GK P w K mg base ⟨⟨tab ++ [⟨y, ps.length, .glob⟩], con, exc, sub, cls⟩, C, put1 fs tab.length (runF (ceOf con fs) N.length ir)⟩ (k + 1) :=
  (gk.mono (Nat.le_succ k)).tell hb ⟨hm, Fn.kp⟩ rfl (Nat.le_refl _) (fn_ok Fn Sc gk chk)
/-- one method more -/
theorem GK.addM (gk : GK P w K mg base ⟨⟨tab, con, exc, sub, cls⟩, C, fs⟩ k) (Fn : Fun K x qual st f fd) (Sc : FnScope N ps (defScope st)) (hb : Binds K fd ps []) {ci : Nat} (hm : Meth K (C ci) nm f) (chk : chkB ⟨tab, con, exc, sub, cls⟩ N ir (defScope st) (defBody st) = true) :
    GK P w K mg base ⟨⟨tab ++ [⟨nm, ps.length, .met ci⟩], con, exc, sub, cls⟩, C, put1 fs tab.length (runF (ceOf con fs) N.length ir)⟩ (k + 1) :=
  (gk.mono (Nat.le_succ k)).tell hb hm rfl (Nat.le_refl _) (fn_ok Fn Sc gk chk)
/-- one maker more -/
theorem GK.addI (gk : GK P w K mg base ⟨⟨tab, con, exc, sub, cls⟩, C, fs⟩ k) (Fn : Fun K x qual st f fd) (Sc : FnScope N ps (defScope st)) (hb : Binds K fd ps []) {ci : Nat} (hm : Mk K (C ci) f) (chk : chkB ⟨tab, con, exc, sub, cls⟩ N ir (defScope st) (defBody st) = true) :
    GK P w K mg base ⟨⟨tab ++ [⟨nm, ps.length, .ini ci⟩], con, exc, sub, cls⟩, C, put1 fs tab.length (runF (ceOf con fs) N.length ir)⟩ (k + 2) :=
  (gk.mono (Nat.le_add_right k 2)).tell (kd := .ini ci) hb hm rfl (Nat.le_refl _) (fn_ok Fn Sc gk chk)
/-- a def that calls itself: d times in the depth -/
def deep (con : List (Str × PV)) (fs : Nat → List PV → Store → Res PV) (i n : Nat) (ir : T) : Nat → List PV → Store → Res PV
  | 0 => fun _ _ => .fail
  | d + 1 => runF (ceOf con (put1 fs i (deep con fs i n ir d))) n ir
theorem GK.recur (gk : GK P w K mg base ⟨⟨tab, con, exc, sub, cls⟩, C, fs⟩ k) (Fn : Fun K x qual st f fd) (Sc : FnScope N ps (defScope st)) (hb : Binds K fd ps []) (hm : mg x = some (.ref f)) (chk : chkB ⟨tab ++ [⟨x, ps.length, .glob⟩], con, exc, sub, cls⟩ N ir (defScope st) (defBody st) = true) :
    ∀ d, GK P w K mg base ⟨⟨tab ++ [⟨x, ps.length, .glob⟩], con, exc, sub, cls⟩, C, put1 fs tab.length (deep con fs tab.length N.length ir d)⟩ (k + d)
  | 0 => gk.tell (kd := .glob) hb ⟨hm, Fn.kp⟩ rfl (Nat.zero_le _) (j := 0) (by
    have no : ∀ vs H Q E, ¬ spOf K C ps.length (fun _ _ => .fail) vs H Q E := fun vs H Q E ⟨_, _, _, _, _, _, _, _, z⟩ => z
    exact ⟨fun vs H Q E h => (no _ _ _ _ h).elim, fun A outer s H args us vs Q E hr he hb hv hs => (no _ _ _ _ hs).elim⟩)
  | d + 1 => (gk.mono (by omega)).tell (kd := .glob) hb ⟨hm, Fn.kp⟩ rfl (Nat.le_refl _) (fn_ok Fn Sc (GK.recur gk Fn Sc hb hm chk d) chk)
end
/-- a written tuple of texts -/
theorem strs_rel {c : Cn} {H : Hp} : ∀ xs : List Str, RVs c H (xs.map .str) (xs.map V.str)
  | [] => ⟨rfl, rfl⟩
  | n :: ns => ⟨_, _, [], [], rfl, ⟨rfl, rfl⟩, strs_rel ns, rfl⟩
theorem tup_con2 {K : PySem.W.Frag} {c : Cn} {H : Hp} (hK : c.K = K) {x y : Str} {t u : Tok} {a : Addr} {od : Option Addr} {n : Nat} {sl : Array (Option Value)} (h : K.lookup a = some ⟨.type "tuple", od, .seq #[.str x t, .str y u] n, sl⟩) : RV c H (.tup [.str x, .str y]) (.ref a) := by
  refine ⟨a, [.str x, .str y], rfl, .inr ⟨_, _, _, by rw [hK]; exact h, rfl, rfl, ?_, ?_⟩, strs_rel [x, y]⟩
  · rw [sizeLine_eq]; show 2 ≤ 16777216; decide
  · exact .cons ⟨_, rfl⟩ (.cons ⟨_, rfl⟩ .nil)
/-- the promise of law -/
def spLaw (K : PySem.W.Frag) : Sp := fun vs H Q _ => ∃ (a : Addr) (ns : List Int), vs = [.ref a] ∧ SqL K H a (ns.map V.int) ∧ ns.length ≤ 63 ∧ (∀ z ∈ ns, Builtin.Int.intBits z ≤ 1048576) ∧ ∀ H', Q (.bl true) H'
def Holds (F : List PV → Store → Res PV) : Prop := ∀ ns : List Int, ns.length ≤ 63 → (∀ z ∈ ns, Builtin.Int.intBits z ≤ 1048576) → ∃ S', F [.lst .scr (ns.map .int)] [] = .ok (.bl true) S'
theorem ints_rel {c : Cn} {H : Hp} : ∀ ns : List Int, RVs c H (ns.map .int) (ns.map V.int)
  | [] => ⟨rfl, rfl⟩
  | n :: ns => ⟨_, _, [], [], rfl, ⟨rfl, rfl⟩, ints_rel ns, rfl⟩
theorem law_sp {K : PySem.W.Frag} {C : Nat → Addr} {F : List PV → Store → Res PV} (h : Holds F) {vs : List V} {H : Hp} {Q : VK} {E : XK} (s : spLaw K vs H Q E) : spOf K C 1 F vs H Q E := by
  obtain ⟨a, ns, rfl, hS, hl, hb, k⟩ := s
  obtain ⟨S', e⟩ := h ns hl hb
  refine ⟨rfl, ⟨K, H, fun _ => none, [], C⟩, [], [.lst .scr (ns.map .int)], rfl, rfl, ⟨rfl, List.nodup_nil, fun i o a h => (by simp at h), fun a h => (by simp at h), fun a h => (by simp at h), fun a o h => h, fun a o h => (by cases h)⟩, ?_, ?_⟩
  · exact ⟨_, [], [], [], rfl, ⟨a, ns.map V.int, [], rfl, hS, ints_rel ns, rfl, .inr rfl⟩, ⟨rfl, rfl⟩, rfl⟩
  · rw [e]
    intro c' H' x fp t R rn nd fr
    obtain ⟨rfl, rfl⟩ := rn
    exact k H'
theorem walk {l : PySem.W.OpenLaw} {kk : Nat} {q : Program} {loose : List Str} {XP : (Str → Option Value) → Heap → Prop} {YP : World → Heap → Prop} {d : DefRec} {K : Params → PySem.W.Frag} {x : Str} {Fl : List PV → Store → Res PV} (hn : l.most = some 63) (hdf : d.params.defaults = []) (hr : Room kk callerA) (hl : Holds Fl)
    (hY : ∀ (w : World) (h : Heap), YP w h → (K w.params).In h)
    (F : ∀ (w : World) (mg : Str → Option Value) (fa : Addr) (h : Heap), (K w.params).In h → h.Ns mainGlobals mg → mg d.name = some (.ref fa) →
      ∃ fd : FuncData, (∀ (s : Shared) (u : Value), BindsTo s fd ⟨[u], []⟩ [(x, u)]) ∧ ∀ base : Heap, (K w.params).In base → base.Ns mainGlobals mg → ∃ C, FnOk l.prog w (K w.params) mg base (L2.CX l.prog w) kk fa fd [x] (spOf (K w.params) C 1 Fl)) :
    PySem.W.WalkO q loose XP YP l.row.toRowW d [] (fun f vs => PySem.call f vs) := by
  refine L2.walk_ofB (n := 63) (k := kk) (x := x) (CX := fun w => L2.CX l.prog w) (sp := fun w => spLaw (K w.params)) hn (by decide) hdf hr hY ?_ (fun w H a ns hl hb _ hS => ⟨a, ns, rfl, hS, hl, hb, fun _ => rfl⟩) ?_
  · intro w mg fa h KX G hmg
    obtain ⟨fd, h1, h2⟩ := F w mg fa h KX G hmg
    refine ⟨fd, h1, fun base b1 b2 => ?_⟩
    obtain ⟨C, h3⟩ := h2 base b1 b2
    exact h3.imp fun vs H Q E s => law_sp hl s
  · intro w H s e s' z
    obtain ⟨a, B, H', cls, d, _, _, _, _, _, _, _, z⟩ := z
    exact z
end Ev
end
set_option Elab.async false
set_option linter.all false
noncomputable section
namespace Lw
open PySem L2 Ev
-- def law_open
def law_open_1 : T :=
  .ret (.lst (.cons (.bi .list (.cons (.slc (.var 0) .no (.yes (.con (.int 63)))) .nil)) (.cons (.con (.int 0)) (.cons (.con (.int 0)) (.cons (.con (.int 29)) .nil)))))
def ir_law_open : T :=
  (.seq (.ret (.lst (.cons (.bi .list (.cons (.slc (.var 0) .no (.yes (.con (.int 63)))) .nil)) (.cons (.con (.int 0)) (.cons (.con (.int 0)) (.cons (.con (.int 29)) .nil)))))) .skip)
theorem eq_law_open : ir_law_open = (.seq law_open_1 .skip) := rfl
-- def law_pull
def law_pull_1t_1 : T :=
  .set 2 (.ix (.ix (.var 0) (.con (.int 0))) (.ix (.var 0) (.con (.int 1))))
def law_pull_1t_2 : T :=
  .setix (.var 0) (.con (.int 1)) (.bin .add (.ix (.var 0) (.con (.int 1))) (.con (.int 1)))
def law_pull_1t_3 : T :=
  .setix (.var 0) (.con (.int 2)) (.con (.int 0))
def law_pull_1t_4t_1 : T :=
  .setix (.var 0) (.con (.int 2)) (.var 2)
def law_pull_1t_4t : T :=
  (.seq law_pull_1t_4t_1 .skip)
def law_pull_1t_4e_1 : T :=
  .setix (.var 0) (.con (.int 3)) (.bin .mod (.bin .add (.bin .add (.bin .mul (.ix (.var 0) (.con (.int 3))) (.con (.int 48271))) (.bin .mul (.bin .mod (.var 2) (.con (.int 2147483629))) (.con (.int 69621)))) (.con (.int 12345))) (.con (.int 2147483647)))
def law_pull_1t_4e : T :=
  (.seq law_pull_1t_4e_1 .skip)
def law_pull_1t_4 : T :=
  .ite (.bin .ge (.var 2) (.bin .pow (.con (.int 10)) (.con (.int 18)))) law_pull_1t_4t law_pull_1t_4e
def law_pull_1t : T :=
  (.seq law_pull_1t_1 (.seq law_pull_1t_2 (.seq law_pull_1t_3 (.seq law_pull_1t_4 .skip))))
def law_pull_1 : T :=
  .ite (.bop true (.cons (.bin .lt (.ix (.var 0) (.con (.int 2))) (.var 1)) (.cons (.bin .lt (.ix (.var 0) (.con (.int 1))) (.bi .len (.cons (.ix (.var 0) (.con (.int 0))) .nil))) .nil))) law_pull_1t .skip
def law_pull_2t_1 : T :=
  .set 3 (.bin .mod (.ix (.var 0) (.con (.int 2))) (.var 1))
def law_pull_2t_2 : T :=
  .setix (.var 0) (.con (.int 2)) (.bin .fdiv (.ix (.var 0) (.con (.int 2))) (.var 1))
def law_pull_2t_3 : T :=
  .ret (.var 3)
def law_pull_2t : T :=
  (.seq law_pull_2t_1 (.seq law_pull_2t_2 (.seq law_pull_2t_3 .skip)))
def law_pull_2 : T :=
  .ite (.bin .ge (.ix (.var 0) (.con (.int 2))) (.var 1)) law_pull_2t .skip
def law_pull_3 : T :=
  .set 4 (.ix (.var 0) (.con (.int 3)))
def law_pull_4 : T :=
  .setix (.var 0) (.con (.int 3)) (.bin .mod (.bin .add (.bin .add (.bin .mul (.bin .mod (.bin .mul (.var 4) (.var 4)) (.con (.int 2147483629))) (.con (.int 5))) (.bin .mul (.var 4) (.con (.int 16811)))) (.con (.int 2531011))) (.con (.int 2147483647)))
def law_pull_5 : T :=
  .ret (.bin .mod (.bin .add (.bin .fdiv (.ix (.var 0) (.con (.int 3))) (.con (.int 59))) (.bin .mul (.bin .mod (.ix (.var 0) (.con (.int 3))) (.con (.int 8191))) (.con (.int 31)))) (.var 1))
def ir_law_pull : T :=
  (.seq (.ite (.bop true (.cons (.bin .lt (.ix (.var 0) (.con (.int 2))) (.var 1)) (.cons (.bin .lt (.ix (.var 0) (.con (.int 1))) (.bi .len (.cons (.ix (.var 0) (.con (.int 0))) .nil))) .nil))) (.seq (.set 2 (.ix (.ix (.var 0) (.con (.int 0))) (.ix (.var 0) (.con (.int 1))))) (.seq (.setix (.var 0) (.con (.int 1)) (.bin .add (.ix (.var 0) (.con (.int 1))) (.con (.int 1)))) (.seq (.setix (.var 0) (.con (.int 2)) (.con (.int 0))) (.seq (.ite (.bin .ge (.var 2) (.bin .pow (.con (.int 10)) (.con (.int 18)))) (.seq (.setix (.var 0) (.con (.int 2)) (.var 2)) .skip) (.seq (.setix (.var 0) (.con (.int 3)) (.bin .mod (.bin .add (.bin .add (.bin .mul (.ix (.var 0) (.con (.int 3))) (.con (.int 48271))) (.bin .mul (.bin .mod (.var 2) (.con (.int 2147483629))) (.con (.int 69621)))) (.con (.int 12345))) (.con (.int 2147483647)))) .skip)) .skip)))) .skip) (.seq (.ite (.bin .ge (.ix (.var 0) (.con (.int 2))) (.var 1)) (.seq (.set 3 (.bin .mod (.ix (.var 0) (.con (.int 2))) (.var 1))) (.seq (.setix (.var 0) (.con (.int 2)) (.bin .fdiv (.ix (.var 0) (.con (.int 2))) (.var 1))) (.seq (.ret (.var 3)) .skip))) .skip) (.seq (.set 4 (.ix (.var 0) (.con (.int 3)))) (.seq (.setix (.var 0) (.con (.int 3)) (.bin .mod (.bin .add (.bin .add (.bin .mul (.bin .mod (.bin .mul (.var 4) (.var 4)) (.con (.int 2147483629))) (.con (.int 5))) (.bin .mul (.var 4) (.con (.int 16811)))) (.con (.int 2531011))) (.con (.int 2147483647)))) (.seq (.ret (.bin .mod (.bin .add (.bin .fdiv (.ix (.var 0) (.con (.int 3))) (.con (.int 59))) (.bin .mul (.bin .mod (.ix (.var 0) (.con (.int 3))) (.con (.int 8191))) (.con (.int 31)))) (.var 1))) .skip)))))
theorem eq_law_pull : ir_law_pull = (.seq law_pull_1 (.seq law_pull_2 (.seq law_pull_3 (.seq law_pull_4 (.seq law_pull_5 .skip))))) := rfl
-- def law_far
def law_far_1 (f_law_pull : Nat) : T :=
  .set 1 (.call .full f_law_pull (.cons (.var 0) (.cons (.bin .pow (.con (.int 10)) (.con (.int 9))) .nil)))
def law_far_2t_1 : T :=
  .set 1 (.bin .add (.var 1) (.bin .pow (.con (.int 10)) (.con (.int 25))))
def law_far_2t : T :=
  (.seq law_far_2t_1 .skip)
def law_far_2 (f_law_pull : Nat) : T :=
  .ite (.bin .eq (.call .full f_law_pull (.cons (.var 0) (.cons (.con (.int 2)) .nil))) (.con (.int 0))) law_far_2t .skip
def law_far_3t_1 : T :=
  .ret (.bin .sub (.neg (.con (.int 1))) (.var 1))
def law_far_3t : T :=
  (.seq law_far_3t_1 .skip)
def law_far_3 (f_law_pull : Nat) : T :=
  .ite (.bin .eq (.call .full f_law_pull (.cons (.var 0) (.cons (.con (.int 2)) .nil))) (.con (.int 0))) law_far_3t .skip
def law_far_4 : T :=
  .ret (.var 1)
def ir_law_far (f_law_pull : Nat) : T :=
  (.seq (.set 1 (.call .full f_law_pull (.cons (.var 0) (.cons (.bin .pow (.con (.int 10)) (.con (.int 9))) .nil)))) (.seq (.ite (.bin .eq (.call .full f_law_pull (.cons (.var 0) (.cons (.con (.int 2)) .nil))) (.con (.int 0))) (.seq (.set 1 (.bin .add (.var 1) (.bin .pow (.con (.int 10)) (.con (.int 25))))) .skip) .skip) (.seq (.ite (.bin .eq (.call .full f_law_pull (.cons (.var 0) (.cons (.con (.int 2)) .nil))) (.con (.int 0))) (.seq (.ret (.bin .sub (.neg (.con (.int 1))) (.var 1))) .skip) .skip) (.seq (.ret (.var 1)) .skip))))
theorem eq_law_far (f_law_pull : Nat) : ir_law_far f_law_pull = (.seq (law_far_1 f_law_pull) (.seq (law_far_2 f_law_pull) (.seq (law_far_3 f_law_pull) (.seq law_far_4 .skip)))) := rfl
-- def law_bent_coin
def law_bent_coin_1 (f_law_pull : Nat) : T :=
  .set 2 (.call .full f_law_pull (.cons (.var 0) (.cons (.con (.int 12)) .nil)))
def law_bent_coin_2 : T :=
  .unp [3, 4, 5, 6, 7] (.var 1)
def law_bent_coin_3 (f_law_pull : Nat) : T :=
  .set 8 (.ix (.lst (.cons (.tup (.cons (.con (.int 1)) (.cons (.con (.int 0)) .nil))) (.cons (.tup (.cons (.con (.int 3)) (.cons (.con (.int 3)) .nil))) (.cons (.tup (.cons (.con (.int 8)) .nil)) (.cons (.tup (.cons (.neg (.con (.int 1))) (.cons (.con (.int 2)) .nil))) (.cons (.tup (.cons (.con (.int 0)) (.cons (.con (.int 9)) .nil))) (.cons (.tup (.cons (.con (.int 7)) (.cons (.bin .pow (.con (.int 10)) (.con (.int 20))) .nil))) .nil))))))) (.call .full f_law_pull (.cons (.var 0) (.cons (.con (.int 6)) .nil))))
def law_bent_coin_4 (f_law_far f_law_pull : Nat) : T :=
  .set 9 (.ix (.lst (.cons (.con (.int 0)) (.cons (.con (.int 100)) (.cons (.neg (.con (.int 1))) (.cons (.call .full f_law_far (.cons (.var 0) .nil)) .nil))))) (.call .full f_law_pull (.cons (.var 0) (.cons (.con (.int 4)) .nil))))
def law_bent_coin_5t_1 : T :=
  .ret (.tup (.cons (.var 9) (.cons (.var 4) (.cons (.var 5) (.cons (.var 6) (.cons (.var 7) .nil))))))
def law_bent_coin_5t : T :=
  (.seq law_bent_coin_5t_1 .skip)
def law_bent_coin_5 : T :=
  .ite (.bin .eq (.var 2) (.con (.int 0))) law_bent_coin_5t .skip
def law_bent_coin_6t_1 : T :=
  .ret (.tup (.cons (.var 3) (.cons (.var 8) (.cons (.var 5) (.cons (.var 6) (.cons (.var 7) .nil))))))
def law_bent_coin_6t : T :=
  (.seq law_bent_coin_6t_1 .skip)
def law_bent_coin_6 : T :=
  .ite (.bin .eq (.var 2) (.con (.int 1))) law_bent_coin_6t .skip
def law_bent_coin_7t_1 : T :=
  .ret (.tup (.cons (.var 3) (.cons (.var 4) (.cons (.var 9) (.cons (.var 6) (.cons (.var 7) .nil))))))
def law_bent_coin_7t : T :=
  (.seq law_bent_coin_7t_1 .skip)
def law_bent_coin_7 : T :=
  .ite (.bin .eq (.var 2) (.con (.int 2))) law_bent_coin_7t .skip
def law_bent_coin_8t_1 : T :=
  .ret (.tup (.cons (.var 3) (.cons (.var 4) (.cons (.var 5) (.cons (.var 8) (.cons (.var 7) .nil))))))
def law_bent_coin_8t : T :=
  (.seq law_bent_coin_8t_1 .skip)
def law_bent_coin_8 : T :=
  .ite (.bin .eq (.var 2) (.con (.int 3))) law_bent_coin_8t .skip
def law_bent_coin_9t_1 (f_law_far f_law_pull : Nat) : T :=
  .ret (.tup (.cons (.var 3) (.cons (.var 4) (.cons (.var 5) (.cons (.var 6) (.cons (.ix (.lst (.cons (.neg (.con (.int 1))) (.cons (.con (.int 10000)) (.cons (.con (.int 9999)) (.cons (.call .full f_law_far (.cons (.var 0) .nil)) .nil))))) (.call .full f_law_pull (.cons (.var 0) (.cons (.con (.int 4)) .nil)))) .nil))))))
def law_bent_coin_9t (f_law_far f_law_pull : Nat) : T :=
  (.seq (law_bent_coin_9t_1 f_law_far f_law_pull) .skip)
def law_bent_coin_9 (f_law_far f_law_pull : Nat) : T :=
  .ite (.bin .eq (.var 2) (.con (.int 4))) (law_bent_coin_9t f_law_far f_law_pull) .skip
def law_bent_coin_10 : T :=
  .ret (.var 1)
def ir_law_bent_coin (f_law_pull f_law_far : Nat) : T :=
  (.seq (.set 2 (.call .full f_law_pull (.cons (.var 0) (.cons (.con (.int 12)) .nil)))) (.seq (.unp [3, 4, 5, 6, 7] (.var 1)) (.seq (.set 8 (.ix (.lst (.cons (.tup (.cons (.con (.int 1)) (.cons (.con (.int 0)) .nil))) (.cons (.tup (.cons (.con (.int 3)) (.cons (.con (.int 3)) .nil))) (.cons (.tup (.cons (.con (.int 8)) .nil)) (.cons (.tup (.cons (.neg (.con (.int 1))) (.cons (.con (.int 2)) .nil))) (.cons (.tup (.cons (.con (.int 0)) (.cons (.con (.int 9)) .nil))) (.cons (.tup (.cons (.con (.int 7)) (.cons (.bin .pow (.con (.int 10)) (.con (.int 20))) .nil))) .nil))))))) (.call .full f_law_pull (.cons (.var 0) (.cons (.con (.int 6)) .nil))))) (.seq (.set 9 (.ix (.lst (.cons (.con (.int 0)) (.cons (.con (.int 100)) (.cons (.neg (.con (.int 1))) (.cons (.call .full f_law_far (.cons (.var 0) .nil)) .nil))))) (.call .full f_law_pull (.cons (.var 0) (.cons (.con (.int 4)) .nil))))) (.seq (.ite (.bin .eq (.var 2) (.con (.int 0))) (.seq (.ret (.tup (.cons (.var 9) (.cons (.var 4) (.cons (.var 5) (.cons (.var 6) (.cons (.var 7) .nil))))))) .skip) .skip) (.seq (.ite (.bin .eq (.var 2) (.con (.int 1))) (.seq (.ret (.tup (.cons (.var 3) (.cons (.var 8) (.cons (.var 5) (.cons (.var 6) (.cons (.var 7) .nil))))))) .skip) .skip) (.seq (.ite (.bin .eq (.var 2) (.con (.int 2))) (.seq (.ret (.tup (.cons (.var 3) (.cons (.var 4) (.cons (.var 9) (.cons (.var 6) (.cons (.var 7) .nil))))))) .skip) .skip) (.seq (.ite (.bin .eq (.var 2) (.con (.int 3))) (.seq (.ret (.tup (.cons (.var 3) (.cons (.var 4) (.cons (.var 5) (.cons (.var 8) (.cons (.var 7) .nil))))))) .skip) .skip) (.seq (.ite (.bin .eq (.var 2) (.con (.int 4))) (.seq (.ret (.tup (.cons (.var 3) (.cons (.var 4) (.cons (.var 5) (.cons (.var 6) (.cons (.ix (.lst (.cons (.neg (.con (.int 1))) (.cons (.con (.int 10000)) (.cons (.con (.int 9999)) (.cons (.call .full f_law_far (.cons (.var 0) .nil)) .nil))))) (.call .full f_law_pull (.cons (.var 0) (.cons (.con (.int 4)) .nil)))) .nil))))))) .skip) .skip) (.seq (.ret (.var 1)) .skip))))))))))
theorem eq_law_bent_coin (f_law_pull f_law_far : Nat) : ir_law_bent_coin f_law_pull f_law_far = (.seq (law_bent_coin_1 f_law_pull) (.seq law_bent_coin_2 (.seq (law_bent_coin_3 f_law_pull) (.seq (law_bent_coin_4 f_law_far f_law_pull) (.seq law_bent_coin_5 (.seq law_bent_coin_6 (.seq law_bent_coin_7 (.seq law_bent_coin_8 (.seq (law_bent_coin_9 f_law_far f_law_pull) (.seq law_bent_coin_10 .skip)))))))))) := rfl
-- def law_some_marks
def law_some_marks_1 (f_law_pull : Nat) : T :=
  .ret (.bi .tuple (.cons (.comp [("_law_spot", 2)] (.name 2) (.r1 (.con (.int 8))) (.cons (.bin .eq (.call .full f_law_pull (.cons (.var 0) (.cons (.var 1) .nil))) (.con (.int 0))) .nil) (.var 2)) .nil))
def ir_law_some_marks (f_law_pull : Nat) : T :=
  (.seq (.ret (.bi .tuple (.cons (.comp [("_law_spot", 2)] (.name 2) (.r1 (.con (.int 8))) (.cons (.bin .eq (.call .full f_law_pull (.cons (.var 0) (.cons (.var 1) .nil))) (.con (.int 0))) .nil) (.var 2)) .nil))) .skip)
theorem eq_law_some_marks (f_law_pull : Nat) : ir_law_some_marks f_law_pull = (.seq (law_some_marks_1 f_law_pull) .skip) := rfl
-- def law_drawn_coin
def law_drawn_coin_1 (f_law_pull : Nat) : T :=
  .set 1 (.bin .add (.con (.int 1)) (.call .full f_law_pull (.cons (.var 0) (.cons (.ix (.tup (.cons (.con (.int 9)) (.cons (.con (.int 99)) .nil))) (.call .full f_law_pull (.cons (.var 0) (.cons (.con (.int 2)) .nil)))) .nil))))
def law_drawn_coin_2 (f_law_pull : Nat) : T :=
  .set 2 (.bin .add (.con (.int 1)) (.call .full f_law_pull (.cons (.var 0) (.cons (.ix (.tup (.cons (.con (.int 9)) (.cons (.con (.int 99)) .nil))) (.call .full f_law_pull (.cons (.var 0) (.cons (.con (.int 2)) .nil)))) .nil))))
def law_drawn_coin_3 (f_law_pull : Nat) : T :=
  .set 3 (.ix (.tup (.cons (.con (.int 2)) (.cons (.con (.int 5)) (.cons (.con (.int 20)) .nil)))) (.call .full f_law_pull (.cons (.var 0) (.cons (.con (.int 3)) .nil))))
def law_drawn_coin_4 (f_law_pull : Nat) : T :=
  .set 4 (.ix (.lst (.cons (.con (.int 0)) (.cons (.con (.int 1)) (.cons (.con (.int 9999)) (.cons (.con (.int 7)) (.cons (.bin .add (.con (.int 1)) (.call .full f_law_pull (.cons (.var 0) (.cons (.con (.int 9999)) .nil)))) .nil)))))) (.call .full f_law_pull (.cons (.var 0) (.cons (.con (.int 5)) .nil))))
def law_drawn_coin_5 (f_law_some_marks : Nat) : T :=
  .ret (.tup (.cons (.var 1) (.cons (.call .full f_law_some_marks (.cons (.var 0) (.cons (.var 3) .nil))) (.cons (.var 2) (.cons (.call .full f_law_some_marks (.cons (.var 0) (.cons (.var 3) .nil))) (.cons (.var 4) .nil))))))
def ir_law_drawn_coin (f_law_pull f_law_some_marks : Nat) : T :=
  (.seq (.set 1 (.bin .add (.con (.int 1)) (.call .full f_law_pull (.cons (.var 0) (.cons (.ix (.tup (.cons (.con (.int 9)) (.cons (.con (.int 99)) .nil))) (.call .full f_law_pull (.cons (.var 0) (.cons (.con (.int 2)) .nil)))) .nil))))) (.seq (.set 2 (.bin .add (.con (.int 1)) (.call .full f_law_pull (.cons (.var 0) (.cons (.ix (.tup (.cons (.con (.int 9)) (.cons (.con (.int 99)) .nil))) (.call .full f_law_pull (.cons (.var 0) (.cons (.con (.int 2)) .nil)))) .nil))))) (.seq (.set 3 (.ix (.tup (.cons (.con (.int 2)) (.cons (.con (.int 5)) (.cons (.con (.int 20)) .nil)))) (.call .full f_law_pull (.cons (.var 0) (.cons (.con (.int 3)) .nil))))) (.seq (.set 4 (.ix (.lst (.cons (.con (.int 0)) (.cons (.con (.int 1)) (.cons (.con (.int 9999)) (.cons (.con (.int 7)) (.cons (.bin .add (.con (.int 1)) (.call .full f_law_pull (.cons (.var 0) (.cons (.con (.int 9999)) .nil)))) .nil)))))) (.call .full f_law_pull (.cons (.var 0) (.cons (.con (.int 5)) .nil))))) (.seq (.ret (.tup (.cons (.var 1) (.cons (.call .full f_law_some_marks (.cons (.var 0) (.cons (.var 3) .nil))) (.cons (.var 2) (.cons (.call .full f_law_some_marks (.cons (.var 0) (.cons (.var 3) .nil))) (.cons (.var 4) .nil))))))) .skip)))))
theorem eq_law_drawn_coin (f_law_pull f_law_some_marks : Nat) : ir_law_drawn_coin f_law_pull f_law_some_marks = (.seq (law_drawn_coin_1 f_law_pull) (.seq (law_drawn_coin_2 f_law_pull) (.seq (law_drawn_coin_3 f_law_pull) (.seq (law_drawn_coin_4 f_law_pull) (.seq (law_drawn_coin_5 f_law_some_marks) .skip))))) := rfl
-- def law_marks_ok
def law_marks_ok_1 : T :=
  .ret (.bin .eq (.bi .list (.cons (.var 0) .nil)) (.comp [("_law_spot", 1)] (.name 1) (.r1 (.con (.int 8))) (.cons (.bin .isin (.var 1) (.var 0)) .nil) (.var 1)))
def ir_law_marks_ok : T :=
  (.seq (.ret (.bin .eq (.bi .list (.cons (.var 0) .nil)) (.comp [("_law_spot", 1)] (.name 1) (.r1 (.con (.int 8))) (.cons (.bin .isin (.var 1) (.var 0)) .nil) (.var 1)))) .skip)
theorem eq_law_marks_ok : ir_law_marks_ok = (.seq law_marks_ok_1 .skip) := rfl
-- def law_coin_ok
def law_coin_ok_1t_1 : T :=
  .ret (.con (.bl false))
def law_coin_ok_1t : T :=
  (.seq law_coin_ok_1t_1 .skip)
def law_coin_ok_1 : T :=
  .ite (.bop false (.cons (.nt (.chain .le .le (.con (.int 1)) (.ix (.var 0) (.con (.int 0))) (.con (.int 99)))) (.cons (.nt (.chain .le .le (.con (.int 1)) (.ix (.var 0) (.con (.int 2))) (.con (.int 99)))) (.cons (.nt (.chain .le .le (.con (.int 0)) (.ix (.var 0) (.con (.int 4))) (.con (.int 9999)))) .nil)))) law_coin_ok_1t .skip
def law_coin_ok_2 (f_law_marks_ok : Nat) : T :=
  .ret (.bop true (.cons (.call .pure f_law_marks_ok (.cons (.ix (.var 0) (.con (.int 1))) .nil)) (.cons (.call .pure f_law_marks_ok (.cons (.ix (.var 0) (.con (.int 3))) .nil)) .nil)))
def ir_law_coin_ok (f_law_marks_ok : Nat) : T :=
  (.seq (.ite (.bop false (.cons (.nt (.chain .le .le (.con (.int 1)) (.ix (.var 0) (.con (.int 0))) (.con (.int 99)))) (.cons (.nt (.chain .le .le (.con (.int 1)) (.ix (.var 0) (.con (.int 2))) (.con (.int 99)))) (.cons (.nt (.chain .le .le (.con (.int 0)) (.ix (.var 0) (.con (.int 4))) (.con (.int 9999)))) .nil)))) (.seq (.ret (.con (.bl false))) .skip) .skip) (.seq (.ret (.bop true (.cons (.call .pure f_law_marks_ok (.cons (.ix (.var 0) (.con (.int 1))) .nil)) (.cons (.call .pure f_law_marks_ok (.cons (.ix (.var 0) (.con (.int 3))) .nil)) .nil)))) .skip))
theorem eq_law_coin_ok (f_law_marks_ok : Nat) : ir_law_coin_ok f_law_marks_ok = (.seq law_coin_ok_1 (.seq (law_coin_ok_2 f_law_marks_ok) .skip)) := rfl
-- def law_coin_words
def law_coin_words_1 : T :=
  .set 1 (.lst .nil)
def law_coin_words_2b_1 : T :=
  .set 4 (.p2 .join (.con (.str "")) (.comp [("_law_spot", 5)] (.name 5) (.seq (.var 3)) .nil (.sIx (.con (.str "01234567")) (.var 5))))
def law_coin_words_2b_2 : T :=
  .ex (.p2 .append (.var 1) (.bin .add (.bin .add (.bi .strI (.cons (.var 2) .nil)) (.con (.str "/"))) (.ite (.bin .ne (.var 4) (.con (.str ""))) (.var 4) (.con (.str "-")))))
def law_coin_words_2b : T :=
  (.seq law_coin_words_2b_1 (.seq law_coin_words_2b_2 .skip))
def law_coin_words_2 : T :=
  .for_ (.tup [2, 3]) (.seq (.lst (.cons (.tup (.cons (.ix (.var 0) (.con (.int 0))) (.cons (.ix (.var 0) (.con (.int 1))) .nil))) (.cons (.tup (.cons (.ix (.var 0) (.con (.int 2))) (.cons (.ix (.var 0) (.con (.int 3))) .nil))) .nil)))) law_coin_words_2b
def law_coin_words_3 : T :=
  .ret (.p2 .join (.con (.str " ")) (.bin .add (.var 1) (.lst (.cons (.ite (.bin .gt (.ix (.var 0) (.con (.int 4))) (.con (.int 0))) (.bi .strI (.cons (.ix (.var 0) (.con (.int 4))) .nil)) (.con (.str "-"))) .nil))))
def ir_law_coin_words : T :=
  (.seq (.set 1 (.lst .nil)) (.seq (.for_ (.tup [2, 3]) (.seq (.lst (.cons (.tup (.cons (.ix (.var 0) (.con (.int 0))) (.cons (.ix (.var 0) (.con (.int 1))) .nil))) (.cons (.tup (.cons (.ix (.var 0) (.con (.int 2))) (.cons (.ix (.var 0) (.con (.int 3))) .nil))) .nil)))) (.seq (.set 4 (.p2 .join (.con (.str "")) (.comp [("_law_spot", 5)] (.name 5) (.seq (.var 3)) .nil (.sIx (.con (.str "01234567")) (.var 5))))) (.seq (.ex (.p2 .append (.var 1) (.bin .add (.bin .add (.bi .strI (.cons (.var 2) .nil)) (.con (.str "/"))) (.ite (.bin .ne (.var 4) (.con (.str ""))) (.var 4) (.con (.str "-")))))) .skip))) (.seq (.ret (.p2 .join (.con (.str " ")) (.bin .add (.var 1) (.lst (.cons (.ite (.bin .gt (.ix (.var 0) (.con (.int 4))) (.con (.int 0))) (.bi .strI (.cons (.ix (.var 0) (.con (.int 4))) .nil)) (.con (.str "-"))) .nil))))) .skip)))
theorem eq_law_coin_words : ir_law_coin_words = (.seq law_coin_words_1 (.seq law_coin_words_2 (.seq law_coin_words_3 .skip))) := rfl
-- def law_num
def law_num_1 : T :=
  .ret (.bop true (.cons (.isi .int (.var 0)) (.cons (.nt (.isi .bool (.var 0))) .nil)))
def ir_law_num : T :=
  (.seq (.ret (.bop true (.cons (.isi .int (.var 0)) (.cons (.nt (.isi .bool (.var 0))) .nil)))) .skip)
theorem eq_law_num : ir_law_num = (.seq law_num_1 .skip) := rfl
-- def law_like
def law_like_1t_1 : T :=
  .ret (.bin .isN (.var 0) (.con .non))
def law_like_1t : T :=
  (.seq law_like_1t_1 .skip)
def law_like_1 : T :=
  .ite (.bin .isN (.var 1) (.con .non)) law_like_1t .skip
def law_like_2t_1 : T :=
  .ret (.bop true (.cons (.isi .bool (.var 0)) (.cons (.bin .eq (.var 0) (.var 1)) .nil)))
def law_like_2t : T :=
  (.seq law_like_2t_1 .skip)
def law_like_2 : T :=
  .ite (.isi .bool (.var 1)) law_like_2t .skip
def law_like_3t_1 (f_law_num : Nat) : T :=
  .ret (.bop true (.cons (.call .pure f_law_num (.cons (.var 0) .nil)) (.cons (.bin .eq (.var 0) (.var 1)) .nil)))
def law_like_3t (f_law_num : Nat) : T :=
  (.seq (law_like_3t_1 f_law_num) .skip)
def law_like_3 (f_law_num : Nat) : T :=
  .ite (.isi .int (.var 1)) (law_like_3t f_law_num) .skip
def law_like_4t_1 : T :=
  .ret (.bop true (.cons (.isi .str (.var 0)) (.cons (.bin .eq (.var 0) (.var 1)) .nil)))
def law_like_4t : T :=
  (.seq law_like_4t_1 .skip)
def law_like_4 : T :=
  .ite (.isi .str (.var 1)) law_like_4t .skip
def law_like_5t_1 : T :=
  .ret (.con (.bl false))
def law_like_5t : T :=
  (.seq law_like_5t_1 .skip)
def law_like_5 : T :=
  .ite (.bop false (.cons (.bin .ne (.isi .tuple (.var 1)) (.isi .tuple (.var 0))) (.cons (.bin .ne (.isi .list (.var 1)) (.isi .list (.var 0))) .nil))) law_like_5t .skip
def law_like_6t_1 : T :=
  .ret (.con (.bl false))
def law_like_6t : T :=
  (.seq law_like_6t_1 .skip)
def law_like_6 : T :=
  .ite (.bin .ne (.bi .len (.cons (.var 0) .nil)) (.bi .len (.cons (.var 1) .nil))) law_like_6t .skip
def law_like_7 (f_law_like : Nat) : T :=
  .ret (.bi .all (.cons (.comp [("_law_k", 2)] (.name 2) (.r1 (.bi .len (.cons (.var 1) .nil))) .nil (.call .pure f_law_like (.cons (.ix (.var 0) (.var 2)) (.cons (.ix (.var 1) (.var 2)) .nil)))) .nil))
def ir_law_like (f_law_num f_law_like : Nat) : T :=
  (.seq (.ite (.bin .isN (.var 1) (.con .non)) (.seq (.ret (.bin .isN (.var 0) (.con .non))) .skip) .skip) (.seq (.ite (.isi .bool (.var 1)) (.seq (.ret (.bop true (.cons (.isi .bool (.var 0)) (.cons (.bin .eq (.var 0) (.var 1)) .nil)))) .skip) .skip) (.seq (.ite (.isi .int (.var 1)) (.seq (.ret (.bop true (.cons (.call .pure f_law_num (.cons (.var 0) .nil)) (.cons (.bin .eq (.var 0) (.var 1)) .nil)))) .skip) .skip) (.seq (.ite (.isi .str (.var 1)) (.seq (.ret (.bop true (.cons (.isi .str (.var 0)) (.cons (.bin .eq (.var 0) (.var 1)) .nil)))) .skip) .skip) (.seq (.ite (.bop false (.cons (.bin .ne (.isi .tuple (.var 1)) (.isi .tuple (.var 0))) (.cons (.bin .ne (.isi .list (.var 1)) (.isi .list (.var 0))) .nil))) (.seq (.ret (.con (.bl false))) .skip) .skip) (.seq (.ite (.bin .ne (.bi .len (.cons (.var 0) .nil)) (.bi .len (.cons (.var 1) .nil))) (.seq (.ret (.con (.bl false))) .skip) .skip) (.seq (.ret (.bi .all (.cons (.comp [("_law_k", 2)] (.name 2) (.r1 (.bi .len (.cons (.var 1) .nil))) .nil (.call .pure f_law_like (.cons (.ix (.var 0) (.var 2)) (.cons (.ix (.var 1) (.var 2)) .nil)))) .nil))) .skip)))))))
theorem eq_law_like (f_law_num f_law_like : Nat) : ir_law_like f_law_num f_law_like = (.seq law_like_1 (.seq law_like_2 (.seq (law_like_3 f_law_num) (.seq law_like_4 (.seq law_like_5 (.seq law_like_6 (.seq (law_like_7 f_law_like) .skip))))))) := rfl
-- def good_marks
def good_marks_1 : T :=
  .set 1 (.neg (.con (.int 1)))
def good_marks_2b_1t_1 : T :=
  .ret (.con (.bl false))
def good_marks_2b_1t : T :=
  (.seq good_marks_2b_1t_1 .skip)
def good_marks_2b_1 (g_SPOTS : Nat) : T :=
  .ite (.bop false (.cons (.bin .le (.var 2) (.var 1)) (.cons (.bin .ge (.var 2) (.glob g_SPOTS)) .nil))) good_marks_2b_1t .skip
def good_marks_2b_2 : T :=
  .set 1 (.var 2)
def good_marks_2b (g_SPOTS : Nat) : T :=
  (.seq (good_marks_2b_1 g_SPOTS) (.seq good_marks_2b_2 .skip))
def good_marks_2 (g_SPOTS : Nat) : T :=
  .for_ (.name 2) (.seq (.var 0)) (good_marks_2b g_SPOTS)
def good_marks_3 : T :=
  .ret (.con (.bl true))
def ir_good_marks (g_SPOTS : Nat) : T :=
  (.seq (.set 1 (.neg (.con (.int 1)))) (.seq (.for_ (.name 2) (.seq (.var 0)) (.seq (.ite (.bop false (.cons (.bin .le (.var 2) (.var 1)) (.cons (.bin .ge (.var 2) (.glob g_SPOTS)) .nil))) (.seq (.ret (.con (.bl false))) .skip) .skip) (.seq (.set 1 (.var 2)) .skip))) (.seq (.ret (.con (.bl true))) .skip)))
theorem eq_good_marks (g_SPOTS : Nat) : ir_good_marks g_SPOTS = (.seq good_marks_1 (.seq (good_marks_2 g_SPOTS) (.seq good_marks_3 .skip))) := rfl
-- def good_coin
def good_coin_1 : T :=
  .unp [1, 2, 3, 4, 5] (.var 0)
def good_coin_2t_1 : T :=
  .ret (.con (.bl false))
def good_coin_2t : T :=
  (.seq good_coin_2t_1 .skip)
def good_coin_2 (g_MOST_DIES : Nat) : T :=
  .ite (.bop false (.cons (.bin .lt (.var 1) (.con (.int 1))) (.cons (.bin .gt (.var 1) (.glob g_MOST_DIES)) (.cons (.bin .lt (.var 3) (.con (.int 1))) (.cons (.bin .gt (.var 3) (.glob g_MOST_DIES)) .nil))))) good_coin_2t .skip
def good_coin_3 (f_good_marks g_LAST_YEAR : Nat) : T :=
  .ret (.bop true (.cons (.call .pure f_good_marks (.cons (.var 2) .nil)) (.cons (.call .pure f_good_marks (.cons (.var 4) .nil)) (.cons (.chain .le .le (.con (.int 0)) (.var 5) (.glob g_LAST_YEAR)) .nil))))
def ir_good_coin (f_good_marks g_MOST_DIES g_LAST_YEAR : Nat) : T :=
  (.seq (.unp [1, 2, 3, 4, 5] (.var 0)) (.seq (.ite (.bop false (.cons (.bin .lt (.var 1) (.con (.int 1))) (.cons (.bin .gt (.var 1) (.glob g_MOST_DIES)) (.cons (.bin .lt (.var 3) (.con (.int 1))) (.cons (.bin .gt (.var 3) (.glob g_MOST_DIES)) .nil))))) (.seq (.ret (.con (.bl false))) .skip) .skip) (.seq (.ret (.bop true (.cons (.call .pure f_good_marks (.cons (.var 2) .nil)) (.cons (.call .pure f_good_marks (.cons (.var 4) .nil)) (.cons (.chain .le .le (.con (.int 0)) (.var 5) (.glob g_LAST_YEAR)) .nil))))) .skip)))
theorem eq_good_coin (f_good_marks g_MOST_DIES g_LAST_YEAR : Nat) : ir_good_coin f_good_marks g_MOST_DIES g_LAST_YEAR = (.seq good_coin_1 (.seq (good_coin_2 g_MOST_DIES) (.seq (good_coin_3 f_good_marks g_LAST_YEAR) .skip))) := rfl
-- def marks_text
def marks_text_1t_1 : T :=
  .ret (.con (.str "-"))
def marks_text_1t : T :=
  (.seq marks_text_1t_1 .skip)
def marks_text_1 : T :=
  .ite (.bin .eq (.bi .len (.cons (.var 0) .nil)) (.con (.int 0))) marks_text_1t .skip
def marks_text_2 : T :=
  .ret (.p2 .join (.con (.str "")) (.comp [("spot", 1)] (.name 1) (.seq (.var 0)) .nil (.bi .strI (.cons (.var 1) .nil))))
def ir_marks_text : T :=
  (.seq (.ite (.bin .eq (.bi .len (.cons (.var 0) .nil)) (.con (.int 0))) (.seq (.ret (.con (.str "-"))) .skip) .skip) (.seq (.ret (.p2 .join (.con (.str "")) (.comp [("spot", 1)] (.name 1) (.seq (.var 0)) .nil (.bi .strI (.cons (.var 1) .nil))))) .skip))
theorem eq_marks_text : ir_marks_text = (.seq marks_text_1 (.seq marks_text_2 .skip)) := rfl
-- def side_text
def side_text_1 (f_marks_text : Nat) : T :=
  .ret (.bin .add (.bin .add (.bi .strI (.cons (.var 0) .nil)) (.con (.str "/"))) (.call .pure f_marks_text (.cons (.var 1) .nil)))
def ir_side_text (f_marks_text : Nat) : T :=
  (.seq (.ret (.bin .add (.bin .add (.bi .strI (.cons (.var 0) .nil)) (.con (.str "/"))) (.call .pure f_marks_text (.cons (.var 1) .nil)))) .skip)
theorem eq_side_text (f_marks_text : Nat) : ir_side_text f_marks_text = (.seq (side_text_1 f_marks_text) .skip) := rfl
-- def coin_text
def coin_text_1t_1 (x_BadCoin : Nat) : T :=
  .raise x_BadCoin
def coin_text_1t (x_BadCoin : Nat) : T :=
  (.seq (coin_text_1t_1 x_BadCoin) .skip)
def coin_text_1 (f_good_coin x_BadCoin : Nat) : T :=
  .ite (.nt (.call .pure f_good_coin (.cons (.var 0) .nil))) (coin_text_1t x_BadCoin) .skip
def coin_text_2 : T :=
  .set 1 (.ite (.bin .eq (.ix (.var 0) (.con (.int 4))) (.con (.int 0))) (.con (.str "-")) (.bi .strI (.cons (.ix (.var 0) (.con (.int 4))) .nil)))
def coin_text_3 (f_side_text : Nat) : T :=
  .ret (.p2 .join (.con (.str " ")) (.lst (.cons (.call .pure f_side_text (.cons (.ix (.var 0) (.con (.int 0))) (.cons (.ix (.var 0) (.con (.int 1))) .nil))) (.cons (.call .pure f_side_text (.cons (.ix (.var 0) (.con (.int 2))) (.cons (.ix (.var 0) (.con (.int 3))) .nil))) (.cons (.var 1) .nil)))))
def ir_coin_text (f_good_coin f_side_text x_BadCoin : Nat) : T :=
  (.seq (.ite (.nt (.call .pure f_good_coin (.cons (.var 0) .nil))) (.seq (.raise x_BadCoin) .skip) .skip) (.seq (.set 1 (.ite (.bin .eq (.ix (.var 0) (.con (.int 4))) (.con (.int 0))) (.con (.str "-")) (.bi .strI (.cons (.ix (.var 0) (.con (.int 4))) .nil)))) (.seq (.ret (.p2 .join (.con (.str " ")) (.lst (.cons (.call .pure f_side_text (.cons (.ix (.var 0) (.con (.int 0))) (.cons (.ix (.var 0) (.con (.int 1))) .nil))) (.cons (.call .pure f_side_text (.cons (.ix (.var 0) (.con (.int 2))) (.cons (.ix (.var 0) (.con (.int 3))) .nil))) (.cons (.var 1) .nil)))))) .skip)))
theorem eq_coin_text (f_good_coin f_side_text x_BadCoin : Nat) : ir_coin_text f_good_coin f_side_text x_BadCoin = (.seq (coin_text_1 f_good_coin x_BadCoin) (.seq coin_text_2 (.seq (coin_text_3 f_side_text) .skip))) := rfl
-- def law_asked
def law_asked_1b_1 (f_coin_text : Nat) : T :=
  .ret (.call .pure f_coin_text (.cons (.var 0) .nil))
def law_asked_1b (f_coin_text : Nat) : T :=
  (.seq (law_asked_1b_1 f_coin_text) .skip)
def law_asked_1h (x_BadCoin : Nat) : List Hd :=
  [⟨[x_BadCoin], [], x_BadCoin, .retl [(.str "refused")]⟩]
def law_asked_1 (f_coin_text x_BadCoin : Nat) : T :=
  .try_ (law_asked_1b f_coin_text) (law_asked_1h x_BadCoin)
def ir_law_asked (f_coin_text x_BadCoin : Nat) : T :=
  (.seq (.try_ (.seq (.ret (.call .pure f_coin_text (.cons (.var 0) .nil))) .skip) [⟨[x_BadCoin], [], x_BadCoin, .retl [(.str "refused")]⟩]) .skip)
theorem eq_law_asked (f_coin_text x_BadCoin : Nat) : ir_law_asked f_coin_text x_BadCoin = (.seq (law_asked_1 f_coin_text x_BadCoin) .skip) := rfl
-- def law
def law_1 (f_law_open : Nat) : T :=
  .set 1 (.call .pure f_law_open (.cons (.var 0) .nil))
def law_2b_1 (f_law_bent_coin f_law_drawn_coin : Nat) : T :=
  .set 3 (.call .full f_law_bent_coin (.cons (.var 1) (.cons (.call .full f_law_drawn_coin (.cons (.var 1) .nil)) .nil)))
def law_2b_2 (f_law_coin_ok f_law_coin_words : Nat) : T :=
  .set 4 (.ite (.call .pure f_law_coin_ok (.cons (.var 3) .nil)) (.call .pure f_law_coin_words (.cons (.var 3) .nil)) (.lst (.cons (.con (.str "refused")) .nil)))
def law_2b_3t_1 : T :=
  .ret (.con (.bl false))
def law_2b_3t : T :=
  (.seq law_2b_3t_1 .skip)
def law_2b_3 (f_law_like f_law_asked : Nat) : T :=
  .ite (.nt (.call .pure f_law_like (.cons (.call .pure f_law_asked (.cons (.var 3) .nil)) (.cons (.var 4) .nil)))) law_2b_3t .skip
def law_2b (f_law_bent_coin f_law_drawn_coin f_law_coin_ok f_law_coin_words f_law_like f_law_asked : Nat) : T :=
  (.seq (law_2b_1 f_law_bent_coin f_law_drawn_coin) (.seq (law_2b_2 f_law_coin_ok f_law_coin_words) (.seq (law_2b_3 f_law_like f_law_asked) .skip)))
def law_2 (f_law_bent_coin f_law_drawn_coin f_law_coin_ok f_law_coin_words f_law_like f_law_asked : Nat) : T :=
  .for_ (.name 2) (.r1 (.con (.int 8))) (law_2b f_law_bent_coin f_law_drawn_coin f_law_coin_ok f_law_coin_words f_law_like f_law_asked)
def law_3 : T :=
  .ret (.con (.bl true))
def ir_law (f_law_open f_law_bent_coin f_law_drawn_coin f_law_coin_ok f_law_coin_words f_law_like f_law_asked : Nat) : T :=
  (.seq (.set 1 (.call .pure f_law_open (.cons (.var 0) .nil))) (.seq (.for_ (.name 2) (.r1 (.con (.int 8))) (.seq (.set 3 (.call .full f_law_bent_coin (.cons (.var 1) (.cons (.call .full f_law_drawn_coin (.cons (.var 1) .nil)) .nil)))) (.seq (.set 4 (.ite (.call .pure f_law_coin_ok (.cons (.var 3) .nil)) (.call .pure f_law_coin_words (.cons (.var 3) .nil)) (.lst (.cons (.con (.str "refused")) .nil)))) (.seq (.ite (.nt (.call .pure f_law_like (.cons (.call .pure f_law_asked (.cons (.var 3) .nil)) (.cons (.var 4) .nil)))) (.seq (.ret (.con (.bl false))) .skip) .skip) .skip)))) (.seq (.ret (.con (.bl true))) .skip)))
theorem eq_law (f_law_open f_law_bent_coin f_law_drawn_coin f_law_coin_ok f_law_coin_words f_law_like f_law_asked : Nat) : ir_law f_law_open f_law_bent_coin f_law_drawn_coin f_law_coin_ok f_law_coin_words f_law_like f_law_asked = (.seq (law_1 f_law_open) (.seq (law_2 f_law_bent_coin f_law_drawn_coin f_law_coin_ok f_law_coin_words f_law_like f_law_asked) (.seq law_3 .skip))) := rfl
-- def need_coins
def need_coins_1t_1 (x_TooMany : Nat) : T :=
  .raise x_TooMany
def need_coins_1t (x_TooMany : Nat) : T :=
  (.seq (need_coins_1t_1 x_TooMany) .skip)
def need_coins_1 (g_MOST_COINS x_TooMany : Nat) : T :=
  .ite (.bin .gt (.bi .len (.cons (.var 0) .nil)) (.glob g_MOST_COINS)) (need_coins_1t x_TooMany) .skip
def need_coins_2b_1t_1 (x_BadCoin : Nat) : T :=
  .raise x_BadCoin
def need_coins_2b_1t (x_BadCoin : Nat) : T :=
  (.seq (need_coins_2b_1t_1 x_BadCoin) .skip)
def need_coins_2b_1 (f_good_coin x_BadCoin : Nat) : T :=
  .ite (.nt (.call .pure f_good_coin (.cons (.var 1) .nil))) (need_coins_2b_1t x_BadCoin) .skip
def need_coins_2b (f_good_coin x_BadCoin : Nat) : T :=
  (.seq (need_coins_2b_1 f_good_coin x_BadCoin) .skip)
def need_coins_2 (f_good_coin x_BadCoin : Nat) : T :=
  .for_ (.name 1) (.seq (.var 0)) (need_coins_2b f_good_coin x_BadCoin)
def ir_need_coins (f_good_coin g_MOST_COINS x_TooMany x_BadCoin : Nat) : T :=
  (.seq (.ite (.bin .gt (.bi .len (.cons (.var 0) .nil)) (.glob g_MOST_COINS)) (.seq (.raise x_TooMany) .skip) .skip) (.seq (.for_ (.name 1) (.seq (.var 0)) (.seq (.ite (.nt (.call .pure f_good_coin (.cons (.var 1) .nil))) (.seq (.raise x_BadCoin) .skip) .skip) .skip)) .skip))
theorem eq_need_coins (f_good_coin g_MOST_COINS x_TooMany x_BadCoin : Nat) : ir_need_coins f_good_coin g_MOST_COINS x_TooMany x_BadCoin = (.seq (need_coins_1 g_MOST_COINS x_TooMany) (.seq (need_coins_2 f_good_coin x_BadCoin) .skip)) := rfl
-- def need_side
def need_side_1t_1 (x_BadSide : Nat) : T :=
  .raise x_BadSide
def need_side_1t (x_BadSide : Nat) : T :=
  (.seq (need_side_1t_1 x_BadSide) .skip)
def need_side_1 (g_SIDES x_BadSide : Nat) : T :=
  .ite (.bin .notin (.var 0) (.glob g_SIDES)) (need_side_1t x_BadSide) .skip
def ir_need_side (g_SIDES x_BadSide : Nat) : T :=
  (.seq (.ite (.bin .notin (.var 0) (.glob g_SIDES)) (.seq (.raise x_BadSide) .skip) .skip) .skip)
theorem eq_need_side (g_SIDES x_BadSide : Nat) : ir_need_side g_SIDES x_BadSide = (.seq (need_side_1 g_SIDES x_BadSide) .skip) := rfl
-- def die_of
def die_of_1t_1 : T :=
  .ret (.ix (.var 0) (.con (.int 0)))
def die_of_1t : T :=
  (.seq die_of_1t_1 .skip)
def die_of_1 : T :=
  .ite (.bin .eq (.var 1) (.con (.str "lower"))) die_of_1t .skip
def die_of_2 : T :=
  .ret (.ix (.var 0) (.con (.int 2)))
def ir_die_of : T :=
  (.seq (.ite (.bin .eq (.var 1) (.con (.str "lower"))) (.seq (.ret (.ix (.var 0) (.con (.int 0)))) .skip) .skip) (.seq (.ret (.ix (.var 0) (.con (.int 2)))) .skip))
theorem eq_die_of : ir_die_of = (.seq die_of_1 (.seq die_of_2 .skip)) := rfl
-- def law_order_of
def law_order_of_1 : T :=
  .set 2 (.bi .list (.cons (.var 1) .nil))
def law_order_of_2 : T :=
  .set 3 (.lst .nil)
def law_order_of_3b_1 (f_law_pull : Nat) : T :=
  .ex (.p2 .append (.var 3) (.p2 .popAt (.var 2) (.call .full f_law_pull (.cons (.var 0) (.cons (.bi .len (.cons (.var 2) .nil)) .nil)))))
def law_order_of_3b (f_law_pull : Nat) : T :=
  (.seq (law_order_of_3b_1 f_law_pull) .skip)
def law_order_of_3 (f_law_pull : Nat) : T :=
  .for_ (.name 4) (.r1 (.bi .len (.cons (.var 1) .nil))) (law_order_of_3b f_law_pull)
def law_order_of_4 : T :=
  .ret (.var 3)
def ir_law_order_of (f_law_pull : Nat) : T :=
  (.seq (.set 2 (.bi .list (.cons (.var 1) .nil))) (.seq (.set 3 (.lst .nil)) (.seq (.for_ (.name 4) (.r1 (.bi .len (.cons (.var 1) .nil))) (.seq (.ex (.p2 .append (.var 3) (.p2 .popAt (.var 2) (.call .full f_law_pull (.cons (.var 0) (.cons (.bi .len (.cons (.var 2) .nil)) .nil)))))) .skip)) (.seq (.ret (.var 3)) .skip))))
theorem eq_law_order_of (f_law_pull : Nat) : ir_law_order_of f_law_pull = (.seq law_order_of_1 (.seq law_order_of_2 (.seq (law_order_of_3 f_law_pull) (.seq law_order_of_4 .skip)))) := rfl
-- def law_any_coin
def law_any_coin_1 : T :=
  .set 1 (.lst (.cons (.tup .nil) (.cons (.tup (.cons (.con (.int 0)) .nil)) (.cons (.tup (.cons (.con (.int 0)) (.cons (.con (.int 1)) .nil))) (.cons (.tup (.cons (.con (.int 1)) .nil)) (.cons (.tup (.cons (.con (.int 0)) (.cons (.con (.int 1)) (.cons (.con (.int 2)) .nil)))) (.cons (.tup (.cons (.con (.int 0)) (.cons (.con (.int 1)) (.cons (.con (.int 2)) (.cons (.con (.int 7)) .nil))))) (.cons (.tup (.cons (.con (.int 2)) .nil)) .nil))))))))
def law_any_coin_2 (f_law_pull : Nat) : T :=
  .set 2 (.ix (.var 1) (.call .full f_law_pull (.cons (.var 0) (.cons (.ix (.tup (.cons (.con (.int 4)) (.cons (.con (.int 7)) .nil))) (.p1 .intB (.bin .eq (.call .full f_law_pull (.cons (.var 0) (.cons (.con (.int 4)) .nil))) (.con (.int 0))))) .nil))))
def law_any_coin_3 (f_law_pull : Nat) : T :=
  .set 3 (.ix (.var 1) (.call .full f_law_pull (.cons (.var 0) (.cons (.con (.int 5)) .nil))))
def law_any_coin_4 (f_law_pull : Nat) : T :=
  .set 4 (.ix (.lst (.cons (.con (.int 0)) (.cons (.con (.int 0)) (.cons (.con (.int 1400)) (.cons (.con (.int 1400)) (.cons (.con (.int 1401)) (.cons (.con (.int 1)) .nil))))))) (.call .full f_law_pull (.cons (.var 0) (.cons (.con (.int 6)) .nil))))
def law_any_coin_5 (f_law_pull : Nat) : T :=
  .ret (.tup (.cons (.bin .add (.con (.int 1)) (.call .full f_law_pull (.cons (.var 0) (.cons (.con (.int 3)) .nil)))) (.cons (.var 2) (.cons (.bin .add (.con (.int 1)) (.call .full f_law_pull (.cons (.var 0) (.cons (.con (.int 4)) .nil)))) (.cons (.var 3) (.cons (.var 4) .nil))))))
def ir_law_any_coin (f_law_pull : Nat) : T :=
  (.seq (.set 1 (.lst (.cons (.tup .nil) (.cons (.tup (.cons (.con (.int 0)) .nil)) (.cons (.tup (.cons (.con (.int 0)) (.cons (.con (.int 1)) .nil))) (.cons (.tup (.cons (.con (.int 1)) .nil)) (.cons (.tup (.cons (.con (.int 0)) (.cons (.con (.int 1)) (.cons (.con (.int 2)) .nil)))) (.cons (.tup (.cons (.con (.int 0)) (.cons (.con (.int 1)) (.cons (.con (.int 2)) (.cons (.con (.int 7)) .nil))))) (.cons (.tup (.cons (.con (.int 2)) .nil)) .nil))))))))) (.seq (.set 2 (.ix (.var 1) (.call .full f_law_pull (.cons (.var 0) (.cons (.ix (.tup (.cons (.con (.int 4)) (.cons (.con (.int 7)) .nil))) (.p1 .intB (.bin .eq (.call .full f_law_pull (.cons (.var 0) (.cons (.con (.int 4)) .nil))) (.con (.int 0))))) .nil))))) (.seq (.set 3 (.ix (.var 1) (.call .full f_law_pull (.cons (.var 0) (.cons (.con (.int 5)) .nil))))) (.seq (.set 4 (.ix (.lst (.cons (.con (.int 0)) (.cons (.con (.int 0)) (.cons (.con (.int 1400)) (.cons (.con (.int 1400)) (.cons (.con (.int 1401)) (.cons (.con (.int 1)) .nil))))))) (.call .full f_law_pull (.cons (.var 0) (.cons (.con (.int 6)) .nil))))) (.seq (.ret (.tup (.cons (.bin .add (.con (.int 1)) (.call .full f_law_pull (.cons (.var 0) (.cons (.con (.int 3)) .nil)))) (.cons (.var 2) (.cons (.bin .add (.con (.int 1)) (.call .full f_law_pull (.cons (.var 0) (.cons (.con (.int 4)) .nil)))) (.cons (.var 3) (.cons (.var 4) .nil))))))) .skip)))))
theorem eq_law_any_coin (f_law_pull : Nat) : ir_law_any_coin f_law_pull = (.seq law_any_coin_1 (.seq (law_any_coin_2 f_law_pull) (.seq (law_any_coin_3 f_law_pull) (.seq (law_any_coin_4 f_law_pull) (.seq (law_any_coin_5 f_law_pull) .skip))))) := rfl
-- def law_seated
def law_seated_1t_1 : T :=
  .ex (.p2 .append (.var 1) (.var 2))
def law_seated_1t_2 : T :=
  .ret (.bin .add (.var 2) (.con (.int 1)))
def law_seated_1t : T :=
  (.seq law_seated_1t_1 (.seq law_seated_1t_2 .skip))
def law_seated_1 (f_law_pull : Nat) : T :=
  .ite (.bop false (.cons (.bin .eq (.bi .len (.cons (.var 1) .nil)) (.con (.int 0))) (.cons (.bop true (.cons (.bin .lt (.bi .len (.cons (.var 1) .nil)) (.var 3)) (.cons (.bin .eq (.call .full f_law_pull (.cons (.var 0) (.cons (.con (.int 3)) .nil))) (.con (.int 0))) .nil))) .nil))) law_seated_1t .skip
def law_seated_2t_1 (f_law_pull : Nat) : T :=
  .setix (.var 1) (.call .full f_law_pull (.cons (.var 0) (.cons (.bi .len (.cons (.var 1) .nil)) .nil))) (.var 2)
def law_seated_2t_2 : T :=
  .ret (.bin .add (.var 2) (.con (.int 1)))
def law_seated_2t (f_law_pull : Nat) : T :=
  (.seq (law_seated_2t_1 f_law_pull) (.seq law_seated_2t_2 .skip))
def law_seated_2 (f_law_pull : Nat) : T :=
  .ite (.bin .eq (.call .full f_law_pull (.cons (.var 0) (.cons (.con (.int 5)) .nil))) (.con (.int 0))) (law_seated_2t f_law_pull) .skip
def law_seated_3 : T :=
  .ret (.var 2)
def ir_law_seated (f_law_pull : Nat) : T :=
  (.seq (.ite (.bop false (.cons (.bin .eq (.bi .len (.cons (.var 1) .nil)) (.con (.int 0))) (.cons (.bop true (.cons (.bin .lt (.bi .len (.cons (.var 1) .nil)) (.var 3)) (.cons (.bin .eq (.call .full f_law_pull (.cons (.var 0) (.cons (.con (.int 3)) .nil))) (.con (.int 0))) .nil))) .nil))) (.seq (.ex (.p2 .append (.var 1) (.var 2))) (.seq (.ret (.bin .add (.var 2) (.con (.int 1)))) .skip)) .skip) (.seq (.ite (.bin .eq (.call .full f_law_pull (.cons (.var 0) (.cons (.con (.int 5)) .nil))) (.con (.int 0))) (.seq (.setix (.var 1) (.call .full f_law_pull (.cons (.var 0) (.cons (.bi .len (.cons (.var 1) .nil)) .nil))) (.var 2)) (.seq (.ret (.bin .add (.var 2) (.con (.int 1)))) .skip)) .skip) (.seq (.ret (.var 2)) .skip)))
theorem eq_law_seated (f_law_pull : Nat) : ir_law_seated f_law_pull = (.seq (law_seated_1 f_law_pull) (.seq (law_seated_2 f_law_pull) (.seq law_seated_3 .skip))) := rfl
-- def law_struck
def law_struck_1 : T :=
  .set 3 (.lst .nil)
def law_struck_2 : T :=
  .set 4 (.con (.int 1))
def law_struck_3 : T :=
  .set 5 (.d0 false)
def law_struck_4 (f_law_pull : Nat) : T :=
  .set 6 (.ix (.lst (.cons (.con (.int 0)) (.cons (.con (.int 1)) (.cons (.con (.int 1350)) .nil)))) (.call .full f_law_pull (.cons (.var 0) (.cons (.con (.int 3)) .nil))))
def law_struck_5 (f_law_pull : Nat) : T :=
  .set 7 (.bin .add (.con (.int 1)) (.call .full f_law_pull (.cons (.var 0) (.cons (.con (.int 96)) .nil))))
def law_struck_6 (f_law_pull : Nat) : T :=
  .set 8 (.bin .add (.con (.int 2)) (.call .full f_law_pull (.cons (.var 0) (.cons (.con (.int 4)) .nil))))
def law_struck_7 (f_law_pull : Nat) : T :=
  .set 9 (.bi .max2 (.cons (.con (.int 0)) (.cons (.bin .sub (.call .full f_law_pull (.cons (.var 0) (.cons (.con (.int 9)) .nil))) (.con (.int 6))) .nil)))
def law_struck_8 : T :=
  .set 10 (.lst .nil)
def law_struck_9b_1 (f_law_seated : Nat) : T :=
  .set 4 (.call .full f_law_seated (.cons (.var 0) (.cons (.var 3) (.cons (.var 4) (.cons (.var 2) .nil)))))
def law_struck_9b_2 (f_law_pull : Nat) : T :=
  .set 12 (.tup (.cons (.ix (.var 3) (.call .full f_law_pull (.cons (.var 0) (.cons (.bi .len (.cons (.var 3) .nil)) .nil)))) (.cons (.bin .add (.con (.int 50)) (.call .full f_law_pull (.cons (.var 0) (.cons (.bin .add (.con (.int 2)) (.var 2)) .nil)))) .nil)))
def law_struck_9b_3b_1t_1 (f_law_pull : Nat) : T :=
  .set 14 (.call .full f_law_pull (.cons (.var 0) (.cons (.con (.int 8)) .nil)))
def law_struck_9b_3b_1t_2 : T :=
  .setix (.var 5) (.var 13) (.bi .tuple (.cons (.comp [("_law_one", 17)] (.name 17) (.r1 (.con (.int 8))) (.cons (.bop false (.cons (.bin .eq (.var 17) (.var 14)) (.cons (.bin .isin (.var 17) (.p3 .get2 (.var 5) (.var 13) (.tup .nil))) .nil))) .nil) (.var 17)) .nil))
def law_struck_9b_3b_1t (f_law_pull : Nat) : T :=
  (.seq (law_struck_9b_3b_1t_1 f_law_pull) (.seq law_struck_9b_3b_1t_2 .skip))
def law_struck_9b_3b_1 (f_law_pull : Nat) : T :=
  .ite (.bin .eq (.call .full f_law_pull (.cons (.var 0) (.cons (.var 8) .nil))) (.con (.int 0))) (law_struck_9b_3b_1t f_law_pull) .skip
def law_struck_9b_3b (f_law_pull : Nat) : T :=
  (.seq (law_struck_9b_3b_1 f_law_pull) .skip)
def law_struck_9b_3 (f_law_pull : Nat) : T :=
  .for_ (.name 13) (.seq (.var 12)) (law_struck_9b_3b f_law_pull)
def law_struck_9b_4t_1 (f_law_pull : Nat) : T :=
  .set 6 (.bi .min2 (.cons (.con (.int 9999)) (.cons (.bin .add (.bin .add (.var 6) (.con (.int 1))) (.call .full f_law_pull (.cons (.var 0) (.cons (.con (.int 9)) .nil)))) .nil)))
def law_struck_9b_4t (f_law_pull : Nat) : T :=
  (.seq (law_struck_9b_4t_1 f_law_pull) .skip)
def law_struck_9b_4 (f_law_pull : Nat) : T :=
  .ite (.bin .eq (.call .full f_law_pull (.cons (.var 0) (.cons (.con (.int 5)) .nil))) (.con (.int 0))) (law_struck_9b_4t f_law_pull) .skip
def law_struck_9b_5 : T :=
  .set 15 (.comp [("_law_key", 13)] (.name 13) (.seq (.var 12)) .nil (.bin .add (.bin .add (.con (.int 1)) (.var 9)) (.bin .mod (.bin .mul (.var 13) (.var 7)) (.con (.int 97)))))
def law_struck_9b_6 (f_law_pull : Nat) : T :=
  .set 16 (.bin .mul (.var 6) (.p1 .intB (.bin .gt (.call .full f_law_pull (.cons (.var 0) (.cons (.con (.int 4)) .nil))) (.con (.int 0)))))
def law_struck_9b_7 : T :=
  .ex (.p2 .append (.var 10) (.tup (.cons (.ix (.var 15) (.con (.int 0))) (.cons (.p3 .get2 (.var 5) (.ix (.var 12) (.con (.int 0))) (.tup .nil)) (.cons (.ix (.var 15) (.con (.int 1))) (.cons (.p3 .get2 (.var 5) (.ix (.var 12) (.con (.int 1))) (.tup .nil)) (.cons (.var 16) .nil)))))))
def law_struck_9b (f_law_seated f_law_pull : Nat) : T :=
  (.seq (law_struck_9b_1 f_law_seated) (.seq (law_struck_9b_2 f_law_pull) (.seq (law_struck_9b_3 f_law_pull) (.seq (law_struck_9b_4 f_law_pull) (.seq law_struck_9b_5 (.seq (law_struck_9b_6 f_law_pull) (.seq law_struck_9b_7 .skip)))))))
def law_struck_9 (f_law_seated f_law_pull : Nat) : T :=
  .for_ (.name 11) (.r1 (.var 1)) (law_struck_9b f_law_seated f_law_pull)
def law_struck_10 : T :=
  .ret (.var 10)
def ir_law_struck (f_law_pull f_law_seated : Nat) : T :=
  (.seq (.set 3 (.lst .nil)) (.seq (.set 4 (.con (.int 1))) (.seq (.set 5 (.d0 false)) (.seq (.set 6 (.ix (.lst (.cons (.con (.int 0)) (.cons (.con (.int 1)) (.cons (.con (.int 1350)) .nil)))) (.call .full f_law_pull (.cons (.var 0) (.cons (.con (.int 3)) .nil))))) (.seq (.set 7 (.bin .add (.con (.int 1)) (.call .full f_law_pull (.cons (.var 0) (.cons (.con (.int 96)) .nil))))) (.seq (.set 8 (.bin .add (.con (.int 2)) (.call .full f_law_pull (.cons (.var 0) (.cons (.con (.int 4)) .nil))))) (.seq (.set 9 (.bi .max2 (.cons (.con (.int 0)) (.cons (.bin .sub (.call .full f_law_pull (.cons (.var 0) (.cons (.con (.int 9)) .nil))) (.con (.int 6))) .nil)))) (.seq (.set 10 (.lst .nil)) (.seq (.for_ (.name 11) (.r1 (.var 1)) (.seq (.set 4 (.call .full f_law_seated (.cons (.var 0) (.cons (.var 3) (.cons (.var 4) (.cons (.var 2) .nil)))))) (.seq (.set 12 (.tup (.cons (.ix (.var 3) (.call .full f_law_pull (.cons (.var 0) (.cons (.bi .len (.cons (.var 3) .nil)) .nil)))) (.cons (.bin .add (.con (.int 50)) (.call .full f_law_pull (.cons (.var 0) (.cons (.bin .add (.con (.int 2)) (.var 2)) .nil)))) .nil)))) (.seq (.for_ (.name 13) (.seq (.var 12)) (.seq (.ite (.bin .eq (.call .full f_law_pull (.cons (.var 0) (.cons (.var 8) .nil))) (.con (.int 0))) (.seq (.set 14 (.call .full f_law_pull (.cons (.var 0) (.cons (.con (.int 8)) .nil)))) (.seq (.setix (.var 5) (.var 13) (.bi .tuple (.cons (.comp [("_law_one", 17)] (.name 17) (.r1 (.con (.int 8))) (.cons (.bop false (.cons (.bin .eq (.var 17) (.var 14)) (.cons (.bin .isin (.var 17) (.p3 .get2 (.var 5) (.var 13) (.tup .nil))) .nil))) .nil) (.var 17)) .nil))) .skip)) .skip) .skip)) (.seq (.ite (.bin .eq (.call .full f_law_pull (.cons (.var 0) (.cons (.con (.int 5)) .nil))) (.con (.int 0))) (.seq (.set 6 (.bi .min2 (.cons (.con (.int 9999)) (.cons (.bin .add (.bin .add (.var 6) (.con (.int 1))) (.call .full f_law_pull (.cons (.var 0) (.cons (.con (.int 9)) .nil)))) .nil)))) .skip) .skip) (.seq (.set 15 (.comp [("_law_key", 13)] (.name 13) (.seq (.var 12)) .nil (.bin .add (.bin .add (.con (.int 1)) (.var 9)) (.bin .mod (.bin .mul (.var 13) (.var 7)) (.con (.int 97)))))) (.seq (.set 16 (.bin .mul (.var 6) (.p1 .intB (.bin .gt (.call .full f_law_pull (.cons (.var 0) (.cons (.con (.int 4)) .nil))) (.con (.int 0)))))) (.seq (.ex (.p2 .append (.var 10) (.tup (.cons (.ix (.var 15) (.con (.int 0))) (.cons (.p3 .get2 (.var 5) (.ix (.var 12) (.con (.int 0))) (.tup .nil)) (.cons (.ix (.var 15) (.con (.int 1))) (.cons (.p3 .get2 (.var 5) (.ix (.var 12) (.con (.int 1))) (.tup .nil)) (.cons (.var 16) .nil)))))))) .skip)))))))) (.seq (.ret (.var 10)) .skip))))))))))
theorem eq_law_struck (f_law_pull f_law_seated : Nat) : ir_law_struck f_law_pull f_law_seated = (.seq law_struck_1 (.seq law_struck_2 (.seq law_struck_3 (.seq (law_struck_4 f_law_pull) (.seq (law_struck_5 f_law_pull) (.seq (law_struck_6 f_law_pull) (.seq (law_struck_7 f_law_pull) (.seq law_struck_8 (.seq (law_struck_9 f_law_seated f_law_pull) (.seq law_struck_10 .skip)))))))))) := rfl
-- def law_opened
def law_opened_1 : T :=
  .set 2 (.p2 .lr2 (.con (.int 1)) (.bin .add (.bin .add (.bin .fdiv (.var 1) (.con (.int 2))) (.bin .mod (.var 1) (.con (.int 2)))) (.con (.int 1))))
def law_opened_2 (f_law_order_of : Nat) : T :=
  .set 3 (.bin .add (.var 2) (.slc (.call .full f_law_order_of (.cons (.var 0) (.cons (.var 2) .nil))) .no (.yes (.bin .fdiv (.var 1) (.con (.int 2))))))
def law_opened_3 (f_law_pull : Nat) : T :=
  .set 4 (.call .full f_law_pull (.cons (.var 0) (.cons (.con (.int 3)) .nil)))
def law_opened_4 : T :=
  .set 5 (.lst .nil)
def law_opened_5b_1 : T :=
  .set 7 (.ix (.lst (.cons (.bin .add (.con (.int 1000)) (.var 6)) (.cons (.con (.int 0)) (.cons (.bin .add (.con (.int 1)) (.bin .fdiv (.bin .mul (.con (.int 2)) (.var 6)) (.bi .max2 (.cons (.con (.int 1)) (.cons (.var 1) .nil))))) .nil)))) (.var 4))
def law_opened_5b_2 (f_law_pull : Nat) : T :=
  .ex (.p2 .append (.var 5) (.tup (.cons (.ix (.var 3) (.var 6)) (.cons (.tup .nil) (.cons (.bin .add (.con (.int 1)) (.call .full f_law_pull (.cons (.var 0) (.cons (.con (.int 9)) .nil)))) (.cons (.tup .nil) (.cons (.var 7) .nil)))))))
def law_opened_5b (f_law_pull : Nat) : T :=
  (.seq law_opened_5b_1 (.seq (law_opened_5b_2 f_law_pull) .skip))
def law_opened_5 (f_law_pull : Nat) : T :=
  .for_ (.name 6) (.r1 (.var 1)) (law_opened_5b f_law_pull)
def law_opened_6 : T :=
  .ret (.var 5)
def ir_law_opened (f_law_order_of f_law_pull : Nat) : T :=
  (.seq (.set 2 (.p2 .lr2 (.con (.int 1)) (.bin .add (.bin .add (.bin .fdiv (.var 1) (.con (.int 2))) (.bin .mod (.var 1) (.con (.int 2)))) (.con (.int 1))))) (.seq (.set 3 (.bin .add (.var 2) (.slc (.call .full f_law_order_of (.cons (.var 0) (.cons (.var 2) .nil))) .no (.yes (.bin .fdiv (.var 1) (.con (.int 2))))))) (.seq (.set 4 (.call .full f_law_pull (.cons (.var 0) (.cons (.con (.int 3)) .nil)))) (.seq (.set 5 (.lst .nil)) (.seq (.for_ (.name 6) (.r1 (.var 1)) (.seq (.set 7 (.ix (.lst (.cons (.bin .add (.con (.int 1000)) (.var 6)) (.cons (.con (.int 0)) (.cons (.bin .add (.con (.int 1)) (.bin .fdiv (.bin .mul (.con (.int 2)) (.var 6)) (.bi .max2 (.cons (.con (.int 1)) (.cons (.var 1) .nil))))) .nil)))) (.var 4))) (.seq (.ex (.p2 .append (.var 5) (.tup (.cons (.ix (.var 3) (.var 6)) (.cons (.tup .nil) (.cons (.bin .add (.con (.int 1)) (.call .full f_law_pull (.cons (.var 0) (.cons (.con (.int 9)) .nil)))) (.cons (.tup .nil) (.cons (.var 7) .nil)))))))) .skip))) (.seq (.ret (.var 5)) .skip))))))
theorem eq_law_opened (f_law_order_of f_law_pull : Nat) : ir_law_opened f_law_order_of f_law_pull = (.seq law_opened_1 (.seq (law_opened_2 f_law_order_of) (.seq (law_opened_3 f_law_pull) (.seq law_opened_4 (.seq (law_opened_5 f_law_pull) (.seq law_opened_6 .skip)))))) := rfl
-- def law_list
def law_list_1 (f_law_pull : Nat) : T :=
  .set 2 (.call .full f_law_pull (.cons (.var 0) (.cons (.bin .add (.var 1) (.con (.int 1))) .nil)))
def law_list_2 (f_law_pull : Nat) : T :=
  .set 3 (.bin .add (.con (.int 1)) (.call .full f_law_pull (.cons (.var 0) (.cons (.con (.int 3)) .nil))))
def law_list_3 (f_law_pull : Nat) : T :=
  .set 4 (.call .full f_law_pull (.cons (.var 0) (.cons (.con (.int 5)) .nil)))
def law_list_4t_1 (f_law_any_coin : Nat) : T :=
  .ret (.tup (.cons (.comp [("_law_k", 9)] (.name 9) (.r1 (.var 2)) .nil (.call .full f_law_any_coin (.cons (.var 0) .nil))) (.cons (.var 3) .nil)))
def law_list_4t (f_law_any_coin : Nat) : T :=
  (.seq (law_list_4t_1 f_law_any_coin) .skip)
def law_list_4 (f_law_any_coin : Nat) : T :=
  .ite (.bin .eq (.var 4) (.con (.int 0))) (law_list_4t f_law_any_coin) .skip
def law_list_5t_1 (f_law_pull : Nat) : T :=
  .set 3 (.bin .add (.con (.int 1)) (.call .full f_law_pull (.cons (.var 0) (.cons (.con (.int 6)) .nil))))
def law_list_5t (f_law_pull : Nat) : T :=
  (.seq (law_list_5t_1 f_law_pull) .skip)
def law_list_5 (f_law_pull : Nat) : T :=
  .ite (.bin .eq (.var 4) (.con (.int 4))) (law_list_5t f_law_pull) .skip
def law_list_6 (f_law_opened f_law_struck : Nat) : T :=
  .set 5 (.ite (.bin .eq (.var 4) (.con (.int 4))) (.call .full f_law_opened (.cons (.var 0) (.cons (.var 2) .nil))) (.call .full f_law_struck (.cons (.var 0) (.cons (.var 2) (.cons (.var 3) .nil)))))
def law_list_7 (f_law_order_of : Nat) : T :=
  .set 5 (.comp [("_law_at", 6)] (.name 6) (.seq (.call .full f_law_order_of (.cons (.var 0) (.cons (.p1 .lr1 (.var 2)) .nil)))) .nil (.ix (.var 5) (.var 6)))
def law_list_8t_1 (f_law_pull : Nat) : T :=
  .set 6 (.call .full f_law_pull (.cons (.var 0) (.cons (.var 2) .nil)))
def law_list_8t_2 : T :=
  .set 7 (.ix (.var 5) (.var 6))
def law_list_8t_3 (f_law_pull : Nat) : T :=
  .set 8 (.ix (.var 5) (.call .full f_law_pull (.cons (.var 0) (.cons (.var 2) .nil))))
def law_list_8t_4 (f_law_pull : Nat) : T :=
  .setix (.var 5) (.var 6) (.tup (.cons (.ix (.var 7) (.con (.int 0))) (.cons (.ix (.var 8) (.con (.int 1))) (.cons (.ix (.var 8) (.con (.int 2))) (.cons (.ix (.var 7) (.con (.int 3))) (.cons (.ix (.lst (.cons (.ix (.var 7) (.con (.int 4))) (.cons (.ix (.var 8) (.con (.int 4))) (.cons (.con (.int 9999)) .nil)))) (.call .full f_law_pull (.cons (.var 0) (.cons (.con (.int 3)) .nil)))) .nil))))))
def law_list_8t (f_law_pull : Nat) : T :=
  (.seq (law_list_8t_1 f_law_pull) (.seq law_list_8t_2 (.seq (law_list_8t_3 f_law_pull) (.seq (law_list_8t_4 f_law_pull) .skip))))
def law_list_8 (f_law_pull : Nat) : T :=
  .ite (.bop true (.cons (.bin .eq (.var 4) (.con (.int 1))) (.cons (.bin .gt (.var 2) (.con (.int 0))) .nil))) (law_list_8t f_law_pull) .skip
def law_list_9t_1 : T :=
  .set 3 (.con (.int 1))
def law_list_9t : T :=
  (.seq law_list_9t_1 .skip)
def law_list_9 : T :=
  .ite (.bin .eq (.var 4) (.con (.int 2))) law_list_9t .skip
def law_list_10 : T :=
  .ret (.tup (.cons (.var 5) (.cons (.var 3) .nil)))
def ir_law_list (f_law_pull f_law_any_coin f_law_opened f_law_struck f_law_order_of : Nat) : T :=
  (.seq (.set 2 (.call .full f_law_pull (.cons (.var 0) (.cons (.bin .add (.var 1) (.con (.int 1))) .nil)))) (.seq (.set 3 (.bin .add (.con (.int 1)) (.call .full f_law_pull (.cons (.var 0) (.cons (.con (.int 3)) .nil))))) (.seq (.set 4 (.call .full f_law_pull (.cons (.var 0) (.cons (.con (.int 5)) .nil)))) (.seq (.ite (.bin .eq (.var 4) (.con (.int 0))) (.seq (.ret (.tup (.cons (.comp [("_law_k", 9)] (.name 9) (.r1 (.var 2)) .nil (.call .full f_law_any_coin (.cons (.var 0) .nil))) (.cons (.var 3) .nil)))) .skip) .skip) (.seq (.ite (.bin .eq (.var 4) (.con (.int 4))) (.seq (.set 3 (.bin .add (.con (.int 1)) (.call .full f_law_pull (.cons (.var 0) (.cons (.con (.int 6)) .nil))))) .skip) .skip) (.seq (.set 5 (.ite (.bin .eq (.var 4) (.con (.int 4))) (.call .full f_law_opened (.cons (.var 0) (.cons (.var 2) .nil))) (.call .full f_law_struck (.cons (.var 0) (.cons (.var 2) (.cons (.var 3) .nil)))))) (.seq (.set 5 (.comp [("_law_at", 6)] (.name 6) (.seq (.call .full f_law_order_of (.cons (.var 0) (.cons (.p1 .lr1 (.var 2)) .nil)))) .nil (.ix (.var 5) (.var 6)))) (.seq (.ite (.bop true (.cons (.bin .eq (.var 4) (.con (.int 1))) (.cons (.bin .gt (.var 2) (.con (.int 0))) .nil))) (.seq (.set 6 (.call .full f_law_pull (.cons (.var 0) (.cons (.var 2) .nil)))) (.seq (.set 7 (.ix (.var 5) (.var 6))) (.seq (.set 8 (.ix (.var 5) (.call .full f_law_pull (.cons (.var 0) (.cons (.var 2) .nil))))) (.seq (.setix (.var 5) (.var 6) (.tup (.cons (.ix (.var 7) (.con (.int 0))) (.cons (.ix (.var 8) (.con (.int 1))) (.cons (.ix (.var 8) (.con (.int 2))) (.cons (.ix (.var 7) (.con (.int 3))) (.cons (.ix (.lst (.cons (.ix (.var 7) (.con (.int 4))) (.cons (.ix (.var 8) (.con (.int 4))) (.cons (.con (.int 9999)) .nil)))) (.call .full f_law_pull (.cons (.var 0) (.cons (.con (.int 3)) .nil)))) .nil))))))) .skip)))) .skip) (.seq (.ite (.bin .eq (.var 4) (.con (.int 2))) (.seq (.set 3 (.con (.int 1))) .skip) .skip) (.seq (.ret (.tup (.cons (.var 5) (.cons (.var 3) .nil)))) .skip))))))))))
theorem eq_law_list (f_law_pull f_law_any_coin f_law_opened f_law_struck f_law_order_of : Nat) : ir_law_list f_law_pull f_law_any_coin f_law_opened f_law_struck f_law_order_of = (.seq (law_list_1 f_law_pull) (.seq (law_list_2 f_law_pull) (.seq (law_list_3 f_law_pull) (.seq (law_list_4 f_law_any_coin) (.seq (law_list_5 f_law_pull) (.seq (law_list_6 f_law_opened f_law_struck) (.seq (law_list_7 f_law_order_of) (.seq (law_list_8 f_law_pull) (.seq law_list_9 (.seq law_list_10 .skip)))))))))) := rfl
-- def law_bent_list
def law_bent_list_1t_1 (f_law_pull : Nat) : T :=
  .set 2 (.call .full f_law_pull (.cons (.var 0) (.cons (.bi .len (.cons (.var 1) .nil)) .nil)))
def law_bent_list_1t_2 (f_law_bent_coin : Nat) : T :=
  .set 1 (.bin .add (.bin .add (.slc (.var 1) .no (.yes (.var 2))) (.lst (.cons (.call .full f_law_bent_coin (.cons (.var 0) (.cons (.ix (.var 1) (.var 2)) .nil))) .nil))) (.slc (.var 1) (.yes (.bin .add (.var 2) (.con (.int 1)))) .no))
def law_bent_list_1t (f_law_pull f_law_bent_coin : Nat) : T :=
  (.seq (law_bent_list_1t_1 f_law_pull) (.seq (law_bent_list_1t_2 f_law_bent_coin) .skip))
def law_bent_list_1 (f_law_pull f_law_bent_coin : Nat) : T :=
  .ite (.bop true (.cons (.bin .gt (.bi .len (.cons (.var 1) .nil)) (.con (.int 0))) (.cons (.bin .eq (.call .full f_law_pull (.cons (.var 0) (.cons (.con (.int 4)) .nil))) (.con (.int 0))) .nil))) (law_bent_list_1t f_law_pull f_law_bent_coin) .skip
def law_bent_list_2t_1 (f_law_pull : Nat) : T :=
  .set 1 (.slc (.bin .mul (.var 1) (.con (.int 10))) .no (.yes (.ix (.lst (.cons (.con (.int 10)) (.cons (.con (.int 11)) (.cons (.con (.int 9)) .nil)))) (.call .full f_law_pull (.cons (.var 0) (.cons (.con (.int 3)) .nil))))))
def law_bent_list_2t (f_law_pull : Nat) : T :=
  (.seq (law_bent_list_2t_1 f_law_pull) .skip)
def law_bent_list_2 (f_law_pull : Nat) : T :=
  .ite (.bop true (.cons (.bin .gt (.bi .len (.cons (.var 1) .nil)) (.con (.int 0))) (.cons (.bin .eq (.call .full f_law_pull (.cons (.var 0) (.cons (.con (.int 8)) .nil))) (.con (.int 0))) .nil))) (law_bent_list_2t f_law_pull) .skip
def law_bent_list_3 : T :=
  .ret (.var 1)
def ir_law_bent_list (f_law_pull f_law_bent_coin : Nat) : T :=
  (.seq (.ite (.bop true (.cons (.bin .gt (.bi .len (.cons (.var 1) .nil)) (.con (.int 0))) (.cons (.bin .eq (.call .full f_law_pull (.cons (.var 0) (.cons (.con (.int 4)) .nil))) (.con (.int 0))) .nil))) (.seq (.set 2 (.call .full f_law_pull (.cons (.var 0) (.cons (.bi .len (.cons (.var 1) .nil)) .nil)))) (.seq (.set 1 (.bin .add (.bin .add (.slc (.var 1) .no (.yes (.var 2))) (.lst (.cons (.call .full f_law_bent_coin (.cons (.var 0) (.cons (.ix (.var 1) (.var 2)) .nil))) .nil))) (.slc (.var 1) (.yes (.bin .add (.var 2) (.con (.int 1)))) .no))) .skip)) .skip) (.seq (.ite (.bop true (.cons (.bin .gt (.bi .len (.cons (.var 1) .nil)) (.con (.int 0))) (.cons (.bin .eq (.call .full f_law_pull (.cons (.var 0) (.cons (.con (.int 8)) .nil))) (.con (.int 0))) .nil))) (.seq (.set 1 (.slc (.bin .mul (.var 1) (.con (.int 10))) .no (.yes (.ix (.lst (.cons (.con (.int 10)) (.cons (.con (.int 11)) (.cons (.con (.int 9)) .nil)))) (.call .full f_law_pull (.cons (.var 0) (.cons (.con (.int 3)) .nil))))))) .skip) .skip) (.seq (.ret (.var 1)) .skip)))
theorem eq_law_bent_list (f_law_pull f_law_bent_coin : Nat) : ir_law_bent_list f_law_pull f_law_bent_coin = (.seq (law_bent_list_1 f_law_pull f_law_bent_coin) (.seq (law_bent_list_2 f_law_pull) (.seq law_bent_list_3 .skip))) := rfl
-- def law_list_word
def law_list_word_1t_1 : T :=
  .ret (.con (.str "TooMany"))
def law_list_word_1t : T :=
  (.seq law_list_word_1t_1 .skip)
def law_list_word_1 : T :=
  .ite (.bin .gt (.bi .len (.cons (.var 0) .nil)) (.con (.int 9))) law_list_word_1t .skip
def law_list_word_2t_1 : T :=
  .ret (.con (.str "BadCoin"))
def law_list_word_2t : T :=
  (.seq law_list_word_2t_1 .skip)
def law_list_word_2 (f_law_coin_ok : Nat) : T :=
  .ite (.nt (.bi .all (.cons (.comp [("_law_coin", 1)] (.name 1) (.seq (.var 0)) .nil (.call .pure f_law_coin_ok (.cons (.var 1) .nil))) .nil))) law_list_word_2t .skip
def law_list_word_3 : T :=
  .ret (.con (.str ""))
def ir_law_list_word (f_law_coin_ok : Nat) : T :=
  (.seq (.ite (.bin .gt (.bi .len (.cons (.var 0) .nil)) (.con (.int 9))) (.seq (.ret (.con (.str "TooMany"))) .skip) .skip) (.seq (.ite (.nt (.bi .all (.cons (.comp [("_law_coin", 1)] (.name 1) (.seq (.var 0)) .nil (.call .pure f_law_coin_ok (.cons (.var 1) .nil))) .nil))) (.seq (.ret (.con (.str "BadCoin"))) .skip) .skip) (.seq (.ret (.con (.str ""))) .skip)))
theorem eq_law_list_word (f_law_coin_ok : Nat) : ir_law_list_word f_law_coin_ok = (.seq law_list_word_1 (.seq (law_list_word_2 f_law_coin_ok) (.seq law_list_word_3 .skip))) := rfl
-- def law_side
def law_side_1t_1 (f_law_pull : Nat) : T :=
  .ret (.ix (.lst (.cons (.con (.str "")) (.cons (.con (.str "Lower")) (.cons (.con (.str "both")) (.cons (.con (.str "upper ")) .nil))))) (.call .full f_law_pull (.cons (.var 0) (.cons (.con (.int 4)) .nil))))
def law_side_1t (f_law_pull : Nat) : T :=
  (.seq (law_side_1t_1 f_law_pull) .skip)
def law_side_1 (f_law_pull : Nat) : T :=
  .ite (.bin .eq (.call .full f_law_pull (.cons (.var 0) (.cons (.con (.int 14)) .nil))) (.con (.int 9))) (law_side_1t f_law_pull) .skip
def law_side_2 (f_law_pull : Nat) : T :=
  .ret (.ix (.lst (.cons (.con (.str "lower")) (.cons (.con (.str "upper")) .nil))) (.call .full f_law_pull (.cons (.var 0) (.cons (.con (.int 2)) .nil))))
def ir_law_side (f_law_pull : Nat) : T :=
  (.seq (.ite (.bin .eq (.call .full f_law_pull (.cons (.var 0) (.cons (.con (.int 14)) .nil))) (.con (.int 9))) (.seq (.ret (.ix (.lst (.cons (.con (.str "")) (.cons (.con (.str "Lower")) (.cons (.con (.str "both")) (.cons (.con (.str "upper ")) .nil))))) (.call .full f_law_pull (.cons (.var 0) (.cons (.con (.int 4)) .nil))))) .skip) .skip) (.seq (.ret (.ix (.lst (.cons (.con (.str "lower")) (.cons (.con (.str "upper")) .nil))) (.call .full f_law_pull (.cons (.var 0) (.cons (.con (.int 2)) .nil))))) .skip))
theorem eq_law_side (f_law_pull : Nat) : ir_law_side f_law_pull = (.seq (law_side_1 f_law_pull) (.seq (law_side_2 f_law_pull) .skip)) := rfl
end Lw
end
set_option Elab.async false
set_option linter.all false
set_option maxRecDepth 100000
set_option maxHeartbeats 0
noncomputable section
namespace Lw
open PySem L2 Ev PyProof.Rows
def con : List (Str × PV) := [("SPOTS", .int 8), ("MOST_DIES", .int 99), ("LAST_YEAR", .int 9999)]
def exc : Nat → Option Str := fun i => ([("BadCoin" : Str)] : List Str)[i]?
def sub : List (Nat × Nat × Bool) := [(0, 0, true)]
def cls : List (Nat × Str × List Str) := []
def tb0 : List FnE := []
def fs0 : Nat → List PV → Store → Res PV := fun _ _ _ => .fail
def N_law_open : List Str := ["_law_script"]
theorem sc_law_open : FnScope N_law_open ["_law_script"] (defScope st_law_open) := ⟨rfl, rfl, rfl, by decide +kernel, rfl, by decide +kernel, by decide +kernel⟩
def tb1 : List FnE := tb0 ++ [⟨"_law_open", 1, .glob⟩]
def F_law_open : List PV → Store → Res PV := runF (ceOf con fs0) 1 (ir_law_open)
theorem ck_law_open : chkB ⟨tb0, con, exc, sub, cls⟩ N_law_open (ir_law_open) (defScope st_law_open) (defBody st_law_open) = true := by decide +kernel
def fs1 : Nat → List PV → Store → Res PV := put1 fs0 0 F_law_open
def N_law_pull : List Str := ["_law_draw", "_law_total_of", "_law_cell", "_law_got", "_law_seed"]
theorem sc_law_pull : FnScope N_law_pull ["_law_draw", "_law_total_of"] (defScope st_law_pull) := ⟨rfl, rfl, rfl, by decide +kernel, rfl, by decide +kernel, by decide +kernel⟩
def tb2 : List FnE := tb1 ++ [⟨"_law_pull", 2, .glob⟩]
def F_law_pull : List PV → Store → Res PV := runF (ceOf con fs1) 5 (ir_law_pull)
theorem ck_law_pull : chkB ⟨tb1, con, exc, sub, cls⟩ N_law_pull (ir_law_pull) (defScope st_law_pull) (defBody st_law_pull) = true := by decide +kernel
def fs2 : Nat → List PV → Store → Res PV := put1 fs1 1 F_law_pull
def N_law_far : List Str := ["_law_draw", "_law_number"]
theorem sc_law_far : FnScope N_law_far ["_law_draw"] (defScope st_law_far) := ⟨rfl, rfl, rfl, by decide +kernel, rfl, by decide +kernel, by decide +kernel⟩
def tb3 : List FnE := tb2 ++ [⟨"_law_far", 1, .glob⟩]
def F_law_far : List PV → Store → Res PV := runF (ceOf con fs2) 2 (ir_law_far 1)
theorem ck_law_far : chkB ⟨tb2, con, exc, sub, cls⟩ N_law_far (ir_law_far 1) (defScope st_law_far) (defBody st_law_far) = true := by decide +kernel
def fs3 : Nat → List PV → Store → Res PV := put1 fs2 2 F_law_far
def N_law_bent_coin : List Str := ["_law_draw", "_law_coin", "_law_way", "_law_lower", "_law_lower_marks", "_law_upper", "_law_upper_marks", "_law_year", "_law_odd", "_law_number"]
theorem sc_law_bent_coin : FnScope N_law_bent_coin ["_law_draw", "_law_coin"] (defScope st_law_bent_coin) := ⟨rfl, rfl, rfl, by decide +kernel, rfl, by decide +kernel, by decide +kernel⟩
def tb4 : List FnE := tb3 ++ [⟨"_law_bent_coin", 2, .glob⟩]
def F_law_bent_coin : List PV → Store → Res PV := runF (ceOf con fs3) 10 (ir_law_bent_coin 1 2)
theorem ck_law_bent_coin : chkB ⟨tb3, con, exc, sub, cls⟩ N_law_bent_coin (ir_law_bent_coin 1 2) (defScope st_law_bent_coin) (defBody st_law_bent_coin) = true := by decide +kernel
def fs4 : Nat → List PV → Store → Res PV := put1 fs3 3 F_law_bent_coin
def N_law_some_marks : List Str := ["_law_draw", "_law_often", "_law_spot"]
theorem sc_law_some_marks : FnScope N_law_some_marks ["_law_draw", "_law_often"] (defScope st_law_some_marks) := ⟨rfl, rfl, rfl, by decide +kernel, rfl, by decide +kernel, by decide +kernel⟩
def tb5 : List FnE := tb4 ++ [⟨"_law_some_marks", 2, .glob⟩]
def F_law_some_marks : List PV → Store → Res PV := runF (ceOf con fs4) 3 (ir_law_some_marks 1)
theorem ck_law_some_marks : chkB ⟨tb4, con, exc, sub, cls⟩ N_law_some_marks (ir_law_some_marks 1) (defScope st_law_some_marks) (defBody st_law_some_marks) = true := by decide +kernel
def fs5 : Nat → List PV → Store → Res PV := put1 fs4 4 F_law_some_marks
def N_law_drawn_coin : List Str := ["_law_draw", "_law_lower", "_law_upper", "_law_often", "_law_year"]
theorem sc_law_drawn_coin : FnScope N_law_drawn_coin ["_law_draw"] (defScope st_law_drawn_coin) := ⟨rfl, rfl, rfl, by decide +kernel, rfl, by decide +kernel, by decide +kernel⟩
def tb6 : List FnE := tb5 ++ [⟨"_law_drawn_coin", 1, .glob⟩]
def F_law_drawn_coin : List PV → Store → Res PV := runF (ceOf con fs5) 5 (ir_law_drawn_coin 1 4)
theorem ck_law_drawn_coin : chkB ⟨tb5, con, exc, sub, cls⟩ N_law_drawn_coin (ir_law_drawn_coin 1 4) (defScope st_law_drawn_coin) (defBody st_law_drawn_coin) = true := by decide +kernel
def fs6 : Nat → List PV → Store → Res PV := put1 fs5 5 F_law_drawn_coin
def N_law_marks_ok : List Str := ["_law_marks", "_law_spot"]
theorem sc_law_marks_ok : FnScope N_law_marks_ok ["_law_marks"] (defScope st_law_marks_ok) := ⟨rfl, rfl, rfl, by decide +kernel, rfl, by decide +kernel, by decide +kernel⟩
def tb7 : List FnE := tb6 ++ [⟨"_law_marks_ok", 1, .glob⟩]
def F_law_marks_ok : List PV → Store → Res PV := runF (ceOf con fs6) 2 (ir_law_marks_ok)
theorem ck_law_marks_ok : chkB ⟨tb6, con, exc, sub, cls⟩ N_law_marks_ok (ir_law_marks_ok) (defScope st_law_marks_ok) (defBody st_law_marks_ok) = true := by decide +kernel
def fs7 : Nat → List PV → Store → Res PV := put1 fs6 6 F_law_marks_ok
def N_law_coin_ok : List Str := ["_law_coin"]
theorem sc_law_coin_ok : FnScope N_law_coin_ok ["_law_coin"] (defScope st_law_coin_ok) := ⟨rfl, rfl, rfl, by decide +kernel, rfl, by decide +kernel, by decide +kernel⟩
def tb8 : List FnE := tb7 ++ [⟨"_law_coin_ok", 1, .glob⟩]
def F_law_coin_ok : List PV → Store → Res PV := runF (ceOf con fs7) 1 (ir_law_coin_ok 6)
theorem ck_law_coin_ok : chkB ⟨tb7, con, exc, sub, cls⟩ N_law_coin_ok (ir_law_coin_ok 6) (defScope st_law_coin_ok) (defBody st_law_coin_ok) = true := by decide +kernel
def fs8 : Nat → List PV → Store → Res PV := put1 fs7 7 F_law_coin_ok
def N_law_coin_words : List Str := ["_law_coin", "_law_words", "_law_die", "_law_marks", "_law_figures", "_law_spot"]
theorem sc_law_coin_words : FnScope N_law_coin_words ["_law_coin"] (defScope st_law_coin_words) := ⟨rfl, rfl, rfl, by decide +kernel, rfl, by decide +kernel, by decide +kernel⟩
def tb9 : List FnE := tb8 ++ [⟨"_law_coin_words", 1, .glob⟩]
def F_law_coin_words : List PV → Store → Res PV := runF (ceOf con fs8) 6 (ir_law_coin_words)
theorem ck_law_coin_words : chkB ⟨tb8, con, exc, sub, cls⟩ N_law_coin_words (ir_law_coin_words) (defScope st_law_coin_words) (defBody st_law_coin_words) = true := by decide +kernel
def fs9 : Nat → List PV → Store → Res PV := put1 fs8 8 F_law_coin_words
def N_law_num : List Str := ["_law_found"]
theorem sc_law_num : FnScope N_law_num ["_law_found"] (defScope st_law_num) := ⟨rfl, rfl, rfl, by decide +kernel, rfl, by decide +kernel, by decide +kernel⟩
def tb10 : List FnE := tb9 ++ [⟨"_law_num", 1, .glob⟩]
def F_law_num : List PV → Store → Res PV := runF (ceOf con fs9) 1 (ir_law_num)
theorem ck_law_num : chkB ⟨tb9, con, exc, sub, cls⟩ N_law_num (ir_law_num) (defScope st_law_num) (defBody st_law_num) = true := by decide +kernel
def fs10 : Nat → List PV → Store → Res PV := put1 fs9 9 F_law_num
def N_law_like : List Str := ["_law_found", "_law_due", "_law_k"]
theorem sc_law_like : FnScope N_law_like ["_law_found", "_law_due"] (defScope st_law_like) := ⟨rfl, rfl, rfl, by decide +kernel, rfl, by decide +kernel, by decide +kernel⟩
def tb11 : List FnE := tb10 ++ [⟨"_law_like", 2, .glob⟩]
def F_law_like : List PV → Store → Res PV := deep (con := con) fs10 10 3 (ir_law_like 9 10) 6
theorem ck_law_like : chkB ⟨tb11, con, exc, sub, cls⟩ N_law_like (ir_law_like 9 10) (defScope st_law_like) (defBody st_law_like) = true := by decide +kernel
def fs11 : Nat → List PV → Store → Res PV := put1 fs10 10 F_law_like
def N_good_marks : List Str := ["marks", "ahead", "spot"]
theorem sc_good_marks : FnScope N_good_marks ["marks"] (defScope st_good_marks) := ⟨rfl, rfl, rfl, by decide +kernel, rfl, by decide +kernel, by decide +kernel⟩
def tb12 : List FnE := tb11 ++ [⟨"good_marks", 1, .glob⟩]
def F_good_marks : List PV → Store → Res PV := runF (ceOf con fs11) 3 (ir_good_marks 0)
theorem ck_good_marks : chkB ⟨tb11, con, exc, sub, cls⟩ N_good_marks (ir_good_marks 0) (defScope st_good_marks) (defBody st_good_marks) = true := by decide +kernel
def fs12 : Nat → List PV → Store → Res PV := put1 fs11 11 F_good_marks
def N_good_coin : List Str := ["coin", "lower", "lower_marks", "upper", "upper_marks", "year"]
theorem sc_good_coin : FnScope N_good_coin ["coin"] (defScope st_good_coin) := ⟨rfl, rfl, rfl, by decide +kernel, rfl, by decide +kernel, by decide +kernel⟩
def tb13 : List FnE := tb12 ++ [⟨"good_coin", 1, .glob⟩]
def F_good_coin : List PV → Store → Res PV := runF (ceOf con fs12) 6 (ir_good_coin 11 1 2)
theorem ck_good_coin : chkB ⟨tb12, con, exc, sub, cls⟩ N_good_coin (ir_good_coin 11 1 2) (defScope st_good_coin) (defBody st_good_coin) = true := by decide +kernel
def fs13 : Nat → List PV → Store → Res PV := put1 fs12 12 F_good_coin
def N_marks_text : List Str := ["marks", "spot"]
theorem sc_marks_text : FnScope N_marks_text ["marks"] (defScope st_marks_text) := ⟨rfl, rfl, rfl, by decide +kernel, rfl, by decide +kernel, by decide +kernel⟩
def tb14 : List FnE := tb13 ++ [⟨"marks_text", 1, .glob⟩]
def F_marks_text : List PV → Store → Res PV := runF (ceOf con fs13) 2 (ir_marks_text)
theorem ck_marks_text : chkB ⟨tb13, con, exc, sub, cls⟩ N_marks_text (ir_marks_text) (defScope st_marks_text) (defBody st_marks_text) = true := by decide +kernel
def fs14 : Nat → List PV → Store → Res PV := put1 fs13 13 F_marks_text
def N_side_text : List Str := ["die", "marks"]
theorem sc_side_text : FnScope N_side_text ["die", "marks"] (defScope st_side_text) := ⟨rfl, rfl, rfl, by decide +kernel, rfl, by decide +kernel, by decide +kernel⟩
def tb15 : List FnE := tb14 ++ [⟨"side_text", 2, .glob⟩]
def F_side_text : List PV → Store → Res PV := runF (ceOf con fs14) 2 (ir_side_text 13)
theorem ck_side_text : chkB ⟨tb14, con, exc, sub, cls⟩ N_side_text (ir_side_text 13) (defScope st_side_text) (defBody st_side_text) = true := by decide +kernel
def fs15 : Nat → List PV → Store → Res PV := put1 fs14 14 F_side_text
def N_coin_text : List Str := ["coin", "year"]
theorem sc_coin_text : FnScope N_coin_text ["coin"] (defScope st_coin_text) := ⟨rfl, rfl, rfl, by decide +kernel, rfl, by decide +kernel, by decide +kernel⟩
def tb16 : List FnE := tb15 ++ [⟨"coin_text", 1, .glob⟩]
def F_coin_text : List PV → Store → Res PV := runF (ceOf con fs15) 2 (ir_coin_text 12 14 0)
theorem ck_coin_text : chkB ⟨tb15, con, exc, sub, cls⟩ N_coin_text (ir_coin_text 12 14 0) (defScope st_coin_text) (defBody st_coin_text) = true := by decide +kernel
def fs16 : Nat → List PV → Store → Res PV := put1 fs15 15 F_coin_text
def N_law_asked : List Str := ["_law_coin"]
theorem sc_law_asked : FnScope N_law_asked ["_law_coin"] (defScope st_law_asked) := ⟨rfl, rfl, rfl, by decide +kernel, rfl, by decide +kernel, by decide +kernel⟩
def tb17 : List FnE := tb16 ++ [⟨"_law_asked", 1, .glob⟩]
def F_law_asked : List PV → Store → Res PV := runF (ceOf con fs16) 1 (ir_law_asked 15 0)
theorem ck_law_asked : chkB ⟨tb16, con, exc, sub, cls⟩ N_law_asked (ir_law_asked 15 0) (defScope st_law_asked) (defBody st_law_asked) = true := by decide +kernel
def fs17 : Nat → List PV → Store → Res PV := put1 fs16 16 F_law_asked
def N_law : List Str := ["_law_script", "_law_draw", "_law_turn", "_law_coin", "_law_due"]
theorem sc_law : FnScope N_law ["_law_script"] (defScope st_law) := ⟨rfl, rfl, rfl, by decide +kernel, rfl, by decide +kernel, by decide +kernel⟩
def tb18 : List FnE := tb17 ++ [⟨"law", 1, .glob⟩]
def F_law : List PV → Store → Res PV := runF (ceOf con fs17) 5 (ir_law 0 3 5 7 8 10 16)
theorem ck_law : chkB ⟨tb17, con, exc, sub, cls⟩ N_law (ir_law 0 3 5 7 8 10 16) (defScope st_law) (defBody st_law) = true := by decide +kernel
def fs18 : Nat → List PV → Store → Res PV := put1 fs17 17 F_law
section
variable {P : Program} {w : World} {K : PySem.W.Frag} {mg : Str → Option Value} {base : Heap} {C : Nat → Addr}
theorem all_ok (g0 : GK P w K mg base ⟨⟨tb0, con, exc, sub, cls⟩, C, fs0⟩ 0)
    {a_law_open : Addr} {d_law_open : FuncData} (h_law_open : Fun K "_law_open" "_law_open" st_law_open a_law_open d_law_open) (b_law_open : Binds K d_law_open ["_law_script"] []) (m_law_open : mg "_law_open" = some (.ref a_law_open))
    {a_law_pull : Addr} {d_law_pull : FuncData} (h_law_pull : Fun K "_law_pull" "_law_pull" st_law_pull a_law_pull d_law_pull) (b_law_pull : Binds K d_law_pull ["_law_draw", "_law_total_of"] []) (m_law_pull : mg "_law_pull" = some (.ref a_law_pull))
    {a_law_far : Addr} {d_law_far : FuncData} (h_law_far : Fun K "_law_far" "_law_far" st_law_far a_law_far d_law_far) (b_law_far : Binds K d_law_far ["_law_draw"] []) (m_law_far : mg "_law_far" = some (.ref a_law_far))
    {a_law_bent_coin : Addr} {d_law_bent_coin : FuncData} (h_law_bent_coin : Fun K "_law_bent_coin" "_law_bent_coin" st_law_bent_coin a_law_bent_coin d_law_bent_coin) (b_law_bent_coin : Binds K d_law_bent_coin ["_law_draw", "_law_coin"] []) (m_law_bent_coin : mg "_law_bent_coin" = some (.ref a_law_bent_coin))
    {a_law_some_marks : Addr} {d_law_some_marks : FuncData} (h_law_some_marks : Fun K "_law_some_marks" "_law_some_marks" st_law_some_marks a_law_some_marks d_law_some_marks) (b_law_some_marks : Binds K d_law_some_marks ["_law_draw", "_law_often"] []) (m_law_some_marks : mg "_law_some_marks" = some (.ref a_law_some_marks))
    {a_law_drawn_coin : Addr} {d_law_drawn_coin : FuncData} (h_law_drawn_coin : Fun K "_law_drawn_coin" "_law_drawn_coin" st_law_drawn_coin a_law_drawn_coin d_law_drawn_coin) (b_law_drawn_coin : Binds K d_law_drawn_coin ["_law_draw"] []) (m_law_drawn_coin : mg "_law_drawn_coin" = some (.ref a_law_drawn_coin))
    {a_law_marks_ok : Addr} {d_law_marks_ok : FuncData} (h_law_marks_ok : Fun K "_law_marks_ok" "_law_marks_ok" st_law_marks_ok a_law_marks_ok d_law_marks_ok) (b_law_marks_ok : Binds K d_law_marks_ok ["_law_marks"] []) (m_law_marks_ok : mg "_law_marks_ok" = some (.ref a_law_marks_ok))
    {a_law_coin_ok : Addr} {d_law_coin_ok : FuncData} (h_law_coin_ok : Fun K "_law_coin_ok" "_law_coin_ok" st_law_coin_ok a_law_coin_ok d_law_coin_ok) (b_law_coin_ok : Binds K d_law_coin_ok ["_law_coin"] []) (m_law_coin_ok : mg "_law_coin_ok" = some (.ref a_law_coin_ok))
    {a_law_coin_words : Addr} {d_law_coin_words : FuncData} (h_law_coin_words : Fun K "_law_coin_words" "_law_coin_words" st_law_coin_words a_law_coin_words d_law_coin_words) (b_law_coin_words : Binds K d_law_coin_words ["_law_coin"] []) (m_law_coin_words : mg "_law_coin_words" = some (.ref a_law_coin_words))
    {a_law_num : Addr} {d_law_num : FuncData} (h_law_num : Fun K "_law_num" "_law_num" st_law_num a_law_num d_law_num) (b_law_num : Binds K d_law_num ["_law_found"] []) (m_law_num : mg "_law_num" = some (.ref a_law_num))
    {a_law_like : Addr} {d_law_like : FuncData} (h_law_like : Fun K "_law_like" "_law_like" st_law_like a_law_like d_law_like) (b_law_like : Binds K d_law_like ["_law_found", "_law_due"] []) (m_law_like : mg "_law_like" = some (.ref a_law_like))
    {a_good_marks : Addr} {d_good_marks : FuncData} (h_good_marks : Fun K "good_marks" "good_marks" st_good_marks a_good_marks d_good_marks) (b_good_marks : Binds K d_good_marks ["marks"] []) (m_good_marks : mg "good_marks" = some (.ref a_good_marks))
    {a_good_coin : Addr} {d_good_coin : FuncData} (h_good_coin : Fun K "good_coin" "good_coin" st_good_coin a_good_coin d_good_coin) (b_good_coin : Binds K d_good_coin ["coin"] []) (m_good_coin : mg "good_coin" = some (.ref a_good_coin))
    {a_marks_text : Addr} {d_marks_text : FuncData} (h_marks_text : Fun K "marks_text" "marks_text" st_marks_text a_marks_text d_marks_text) (b_marks_text : Binds K d_marks_text ["marks"] []) (m_marks_text : mg "marks_text" = some (.ref a_marks_text))
    {a_side_text : Addr} {d_side_text : FuncData} (h_side_text : Fun K "side_text" "side_text" st_side_text a_side_text d_side_text) (b_side_text : Binds K d_side_text ["die", "marks"] []) (m_side_text : mg "side_text" = some (.ref a_side_text))
    {a_coin_text : Addr} {d_coin_text : FuncData} (h_coin_text : Fun K "coin_text" "coin_text" st_coin_text a_coin_text d_coin_text) (b_coin_text : Binds K d_coin_text ["coin"] []) (m_coin_text : mg "coin_text" = some (.ref a_coin_text))
    {a_law_asked : Addr} {d_law_asked : FuncData} (h_law_asked : Fun K "_law_asked" "_law_asked" st_law_asked a_law_asked d_law_asked) (b_law_asked : Binds K d_law_asked ["_law_coin"] []) (m_law_asked : mg "_law_asked" = some (.ref a_law_asked))
    {a : Addr} {d : FuncData} (h : Fun K "law" "law" st_law a d) : FnOk P w K mg base (L2.CX P w) 23 a d ["_law_script"] (spOf K C 1 F_law) := by
  have g1 : GK P w K mg base ⟨⟨tb1, con, exc, sub, cls⟩, C, fs1⟩ 1 := g0.add h_law_open sc_law_open b_law_open m_law_open ck_law_open
  have g2 : GK P w K mg base ⟨⟨tb2, con, exc, sub, cls⟩, C, fs2⟩ 2 := g1.add h_law_pull sc_law_pull b_law_pull m_law_pull ck_law_pull
  have g3 : GK P w K mg base ⟨⟨tb3, con, exc, sub, cls⟩, C, fs3⟩ 3 := g2.add h_law_far sc_law_far b_law_far m_law_far ck_law_far
  have g4 : GK P w K mg base ⟨⟨tb4, con, exc, sub, cls⟩, C, fs4⟩ 4 := g3.add h_law_bent_coin sc_law_bent_coin b_law_bent_coin m_law_bent_coin ck_law_bent_coin
  have g5 : GK P w K mg base ⟨⟨tb5, con, exc, sub, cls⟩, C, fs5⟩ 5 := g4.add h_law_some_marks sc_law_some_marks b_law_some_marks m_law_some_marks ck_law_some_marks
  have g6 : GK P w K mg base ⟨⟨tb6, con, exc, sub, cls⟩, C, fs6⟩ 6 := g5.add h_law_drawn_coin sc_law_drawn_coin b_law_drawn_coin m_law_drawn_coin ck_law_drawn_coin
  have g7 : GK P w K mg base ⟨⟨tb7, con, exc, sub, cls⟩, C, fs7⟩ 7 := g6.add h_law_marks_ok sc_law_marks_ok b_law_marks_ok m_law_marks_ok ck_law_marks_ok
  have g8 : GK P w K mg base ⟨⟨tb8, con, exc, sub, cls⟩, C, fs8⟩ 8 := g7.add h_law_coin_ok sc_law_coin_ok b_law_coin_ok m_law_coin_ok ck_law_coin_ok
  have g9 : GK P w K mg base ⟨⟨tb9, con, exc, sub, cls⟩, C, fs9⟩ 9 := g8.add h_law_coin_words sc_law_coin_words b_law_coin_words m_law_coin_words ck_law_coin_words
  have g10 : GK P w K mg base ⟨⟨tb10, con, exc, sub, cls⟩, C, fs10⟩ 10 := g9.add h_law_num sc_law_num b_law_num m_law_num ck_law_num
  have g11 : GK P w K mg base ⟨⟨tb11, con, exc, sub, cls⟩, C, fs11⟩ 16 := g10.recur h_law_like sc_law_like b_law_like m_law_like ck_law_like 6
  have g12 : GK P w K mg base ⟨⟨tb12, con, exc, sub, cls⟩, C, fs12⟩ 17 := g11.add h_good_marks sc_good_marks b_good_marks m_good_marks ck_good_marks
  have g13 : GK P w K mg base ⟨⟨tb13, con, exc, sub, cls⟩, C, fs13⟩ 18 := g12.add h_good_coin sc_good_coin b_good_coin m_good_coin ck_good_coin
  have g14 : GK P w K mg base ⟨⟨tb14, con, exc, sub, cls⟩, C, fs14⟩ 19 := g13.add h_marks_text sc_marks_text b_marks_text m_marks_text ck_marks_text
  have g15 : GK P w K mg base ⟨⟨tb15, con, exc, sub, cls⟩, C, fs15⟩ 20 := g14.add h_side_text sc_side_text b_side_text m_side_text ck_side_text
  have g16 : GK P w K mg base ⟨⟨tb16, con, exc, sub, cls⟩, C, fs16⟩ 21 := g15.add h_coin_text sc_coin_text b_coin_text m_coin_text ck_coin_text
  have g17 : GK P w K mg base ⟨⟨tb17, con, exc, sub, cls⟩, C, fs17⟩ 22 := g16.add h_law_asked sc_law_asked b_law_asked m_law_asked ck_law_asked
  exact fn_ok h sc_law g17 ck_law
end
theorem all_mk {l : PySem.W.OpenLaw} {w : World} {K : PySem.W.Frag} {h : Heap} {mg : Str → Option Value} {fa : Addr} (X : K.In h) (G : h.Ns mainGlobals mg) (hfa : mg "law" = some (.ref fa))
    {f_law_open : Addr} {od_law_open an_law_open : Option Addr} {sl_law_open : Array (Option Value)} {oc_law_open kV_law_open dc_law_open pm_law_open cd_law_open ct_law_open : Value}
    (a_law_open : PySem.W.nsIn K mainGlobals "_law_open" = some (some (.ref f_law_open))) (l_law_open : K.lookup f_law_open = some ⟨oc_law_open, od_law_open, .func (PySem.W.fnOf "_law_open" "_law_open" (defArgs st_law_open) (defBody st_law_open) (defScope st_law_open) .none kV_law_open dc_law_open pm_law_open an_law_open cd_law_open ct_law_open), sl_law_open⟩) (c_law_open : PySem.W.codeIn K cd_law_open "_law_open" = true) (k_law_open : PySem.W.keepIn K (.ref f_law_open) = true)
    {f_law_pull : Addr} {od_law_pull an_law_pull : Option Addr} {sl_law_pull : Array (Option Value)} {oc_law_pull kV_law_pull dc_law_pull pm_law_pull cd_law_pull ct_law_pull : Value}
    (a_law_pull : PySem.W.nsIn K mainGlobals "_law_pull" = some (some (.ref f_law_pull))) (l_law_pull : K.lookup f_law_pull = some ⟨oc_law_pull, od_law_pull, .func (PySem.W.fnOf "_law_pull" "_law_pull" (defArgs st_law_pull) (defBody st_law_pull) (defScope st_law_pull) .none kV_law_pull dc_law_pull pm_law_pull an_law_pull cd_law_pull ct_law_pull), sl_law_pull⟩) (c_law_pull : PySem.W.codeIn K cd_law_pull "_law_pull" = true) (k_law_pull : PySem.W.keepIn K (.ref f_law_pull) = true)
    {f_law_far : Addr} {od_law_far an_law_far : Option Addr} {sl_law_far : Array (Option Value)} {oc_law_far kV_law_far dc_law_far pm_law_far cd_law_far ct_law_far : Value}
    (a_law_far : PySem.W.nsIn K mainGlobals "_law_far" = some (some (.ref f_law_far))) (l_law_far : K.lookup f_law_far = some ⟨oc_law_far, od_law_far, .func (PySem.W.fnOf "_law_far" "_law_far" (defArgs st_law_far) (defBody st_law_far) (defScope st_law_far) .none kV_law_far dc_law_far pm_law_far an_law_far cd_law_far ct_law_far), sl_law_far⟩) (c_law_far : PySem.W.codeIn K cd_law_far "_law_far" = true) (k_law_far : PySem.W.keepIn K (.ref f_law_far) = true)
    {f_law_bent_coin : Addr} {od_law_bent_coin an_law_bent_coin : Option Addr} {sl_law_bent_coin : Array (Option Value)} {oc_law_bent_coin kV_law_bent_coin dc_law_bent_coin pm_law_bent_coin cd_law_bent_coin ct_law_bent_coin : Value}
    (a_law_bent_coin : PySem.W.nsIn K mainGlobals "_law_bent_coin" = some (some (.ref f_law_bent_coin))) (l_law_bent_coin : K.lookup f_law_bent_coin = some ⟨oc_law_bent_coin, od_law_bent_coin, .func (PySem.W.fnOf "_law_bent_coin" "_law_bent_coin" (defArgs st_law_bent_coin) (defBody st_law_bent_coin) (defScope st_law_bent_coin) .none kV_law_bent_coin dc_law_bent_coin pm_law_bent_coin an_law_bent_coin cd_law_bent_coin ct_law_bent_coin), sl_law_bent_coin⟩) (c_law_bent_coin : PySem.W.codeIn K cd_law_bent_coin "_law_bent_coin" = true) (k_law_bent_coin : PySem.W.keepIn K (.ref f_law_bent_coin) = true)
    {f_law_some_marks : Addr} {od_law_some_marks an_law_some_marks : Option Addr} {sl_law_some_marks : Array (Option Value)} {oc_law_some_marks kV_law_some_marks dc_law_some_marks pm_law_some_marks cd_law_some_marks ct_law_some_marks : Value}
    (a_law_some_marks : PySem.W.nsIn K mainGlobals "_law_some_marks" = some (some (.ref f_law_some_marks))) (l_law_some_marks : K.lookup f_law_some_marks = some ⟨oc_law_some_marks, od_law_some_marks, .func (PySem.W.fnOf "_law_some_marks" "_law_some_marks" (defArgs st_law_some_marks) (defBody st_law_some_marks) (defScope st_law_some_marks) .none kV_law_some_marks dc_law_some_marks pm_law_some_marks an_law_some_marks cd_law_some_marks ct_law_some_marks), sl_law_some_marks⟩) (c_law_some_marks : PySem.W.codeIn K cd_law_some_marks "_law_some_marks" = true) (k_law_some_marks : PySem.W.keepIn K (.ref f_law_some_marks) = true)
    {f_law_drawn_coin : Addr} {od_law_drawn_coin an_law_drawn_coin : Option Addr} {sl_law_drawn_coin : Array (Option Value)} {oc_law_drawn_coin kV_law_drawn_coin dc_law_drawn_coin pm_law_drawn_coin cd_law_drawn_coin ct_law_drawn_coin : Value}
    (a_law_drawn_coin : PySem.W.nsIn K mainGlobals "_law_drawn_coin" = some (some (.ref f_law_drawn_coin))) (l_law_drawn_coin : K.lookup f_law_drawn_coin = some ⟨oc_law_drawn_coin, od_law_drawn_coin, .func (PySem.W.fnOf "_law_drawn_coin" "_law_drawn_coin" (defArgs st_law_drawn_coin) (defBody st_law_drawn_coin) (defScope st_law_drawn_coin) .none kV_law_drawn_coin dc_law_drawn_coin pm_law_drawn_coin an_law_drawn_coin cd_law_drawn_coin ct_law_drawn_coin), sl_law_drawn_coin⟩) (c_law_drawn_coin : PySem.W.codeIn K cd_law_drawn_coin "_law_drawn_coin" = true) (k_law_drawn_coin : PySem.W.keepIn K (.ref f_law_drawn_coin) = true)
    {f_law_marks_ok : Addr} {od_law_marks_ok an_law_marks_ok : Option Addr} {sl_law_marks_ok : Array (Option Value)} {oc_law_marks_ok kV_law_marks_ok dc_law_marks_ok pm_law_marks_ok cd_law_marks_ok ct_law_marks_ok : Value}
    (a_law_marks_ok : PySem.W.nsIn K mainGlobals "_law_marks_ok" = some (some (.ref f_law_marks_ok))) (l_law_marks_ok : K.lookup f_law_marks_ok = some ⟨oc_law_marks_ok, od_law_marks_ok, .func (PySem.W.fnOf "_law_marks_ok" "_law_marks_ok" (defArgs st_law_marks_ok) (defBody st_law_marks_ok) (defScope st_law_marks_ok) .none kV_law_marks_ok dc_law_marks_ok pm_law_marks_ok an_law_marks_ok cd_law_marks_ok ct_law_marks_ok), sl_law_marks_ok⟩) (c_law_marks_ok : PySem.W.codeIn K cd_law_marks_ok "_law_marks_ok" = true) (k_law_marks_ok : PySem.W.keepIn K (.ref f_law_marks_ok) = true)
    {f_law_coin_ok : Addr} {od_law_coin_ok an_law_coin_ok : Option Addr} {sl_law_coin_ok : Array (Option Value)} {oc_law_coin_ok kV_law_coin_ok dc_law_coin_ok pm_law_coin_ok cd_law_coin_ok ct_law_coin_ok : Value}
    (a_law_coin_ok : PySem.W.nsIn K mainGlobals "_law_coin_ok" = some (some (.ref f_law_coin_ok))) (l_law_coin_ok : K.lookup f_law_coin_ok = some ⟨oc_law_coin_ok, od_law_coin_ok, .func (PySem.W.fnOf "_law_coin_ok" "_law_coin_ok" (defArgs st_law_coin_ok) (defBody st_law_coin_ok) (defScope st_law_coin_ok) .none kV_law_coin_ok dc_law_coin_ok pm_law_coin_ok an_law_coin_ok cd_law_coin_ok ct_law_coin_ok), sl_law_coin_ok⟩) (c_law_coin_ok : PySem.W.codeIn K cd_law_coin_ok "_law_coin_ok" = true) (k_law_coin_ok : PySem.W.keepIn K (.ref f_law_coin_ok) = true)
    {f_law_coin_words : Addr} {od_law_coin_words an_law_coin_words : Option Addr} {sl_law_coin_words : Array (Option Value)} {oc_law_coin_words kV_law_coin_words dc_law_coin_words pm_law_coin_words cd_law_coin_words ct_law_coin_words : Value}
    (a_law_coin_words : PySem.W.nsIn K mainGlobals "_law_coin_words" = some (some (.ref f_law_coin_words))) (l_law_coin_words : K.lookup f_law_coin_words = some ⟨oc_law_coin_words, od_law_coin_words, .func (PySem.W.fnOf "_law_coin_words" "_law_coin_words" (defArgs st_law_coin_words) (defBody st_law_coin_words) (defScope st_law_coin_words) .none kV_law_coin_words dc_law_coin_words pm_law_coin_words an_law_coin_words cd_law_coin_words ct_law_coin_words), sl_law_coin_words⟩) (c_law_coin_words : PySem.W.codeIn K cd_law_coin_words "_law_coin_words" = true) (k_law_coin_words : PySem.W.keepIn K (.ref f_law_coin_words) = true)
    {f_law_num : Addr} {od_law_num an_law_num : Option Addr} {sl_law_num : Array (Option Value)} {oc_law_num kV_law_num dc_law_num pm_law_num cd_law_num ct_law_num : Value}
    (a_law_num : PySem.W.nsIn K mainGlobals "_law_num" = some (some (.ref f_law_num))) (l_law_num : K.lookup f_law_num = some ⟨oc_law_num, od_law_num, .func (PySem.W.fnOf "_law_num" "_law_num" (defArgs st_law_num) (defBody st_law_num) (defScope st_law_num) .none kV_law_num dc_law_num pm_law_num an_law_num cd_law_num ct_law_num), sl_law_num⟩) (c_law_num : PySem.W.codeIn K cd_law_num "_law_num" = true) (k_law_num : PySem.W.keepIn K (.ref f_law_num) = true)
    {f_law_like : Addr} {od_law_like an_law_like : Option Addr} {sl_law_like : Array (Option Value)} {oc_law_like kV_law_like dc_law_like pm_law_like cd_law_like ct_law_like : Value}
    (a_law_like : PySem.W.nsIn K mainGlobals "_law_like" = some (some (.ref f_law_like))) (l_law_like : K.lookup f_law_like = some ⟨oc_law_like, od_law_like, .func (PySem.W.fnOf "_law_like" "_law_like" (defArgs st_law_like) (defBody st_law_like) (defScope st_law_like) .none kV_law_like dc_law_like pm_law_like an_law_like cd_law_like ct_law_like), sl_law_like⟩) (c_law_like : PySem.W.codeIn K cd_law_like "_law_like" = true) (k_law_like : PySem.W.keepIn K (.ref f_law_like) = true)
    {f_good_marks : Addr} {od_good_marks an_good_marks : Option Addr} {sl_good_marks : Array (Option Value)} {oc_good_marks kV_good_marks dc_good_marks pm_good_marks cd_good_marks ct_good_marks : Value}
    (a_good_marks : PySem.W.nsIn K mainGlobals "good_marks" = some (some (.ref f_good_marks))) (l_good_marks : K.lookup f_good_marks = some ⟨oc_good_marks, od_good_marks, .func (PySem.W.fnOf "good_marks" "good_marks" (defArgs st_good_marks) (defBody st_good_marks) (defScope st_good_marks) .none kV_good_marks dc_good_marks pm_good_marks an_good_marks cd_good_marks ct_good_marks), sl_good_marks⟩) (c_good_marks : PySem.W.codeIn K cd_good_marks "good_marks" = true) (k_good_marks : PySem.W.keepIn K (.ref f_good_marks) = true)
    {f_good_coin : Addr} {od_good_coin an_good_coin : Option Addr} {sl_good_coin : Array (Option Value)} {oc_good_coin kV_good_coin dc_good_coin pm_good_coin cd_good_coin ct_good_coin : Value}
    (a_good_coin : PySem.W.nsIn K mainGlobals "good_coin" = some (some (.ref f_good_coin))) (l_good_coin : K.lookup f_good_coin = some ⟨oc_good_coin, od_good_coin, .func (PySem.W.fnOf "good_coin" "good_coin" (defArgs st_good_coin) (defBody st_good_coin) (defScope st_good_coin) .none kV_good_coin dc_good_coin pm_good_coin an_good_coin cd_good_coin ct_good_coin), sl_good_coin⟩) (c_good_coin : PySem.W.codeIn K cd_good_coin "good_coin" = true) (k_good_coin : PySem.W.keepIn K (.ref f_good_coin) = true)
    {f_marks_text : Addr} {od_marks_text an_marks_text : Option Addr} {sl_marks_text : Array (Option Value)} {oc_marks_text kV_marks_text dc_marks_text pm_marks_text cd_marks_text ct_marks_text : Value}
    (a_marks_text : PySem.W.nsIn K mainGlobals "marks_text" = some (some (.ref f_marks_text))) (l_marks_text : K.lookup f_marks_text = some ⟨oc_marks_text, od_marks_text, .func (PySem.W.fnOf "marks_text" "marks_text" (defArgs st_marks_text) (defBody st_marks_text) (defScope st_marks_text) .none kV_marks_text dc_marks_text pm_marks_text an_marks_text cd_marks_text ct_marks_text), sl_marks_text⟩) (c_marks_text : PySem.W.codeIn K cd_marks_text "marks_text" = true) (k_marks_text : PySem.W.keepIn K (.ref f_marks_text) = true)
    {f_side_text : Addr} {od_side_text an_side_text : Option Addr} {sl_side_text : Array (Option Value)} {oc_side_text kV_side_text dc_side_text pm_side_text cd_side_text ct_side_text : Value}
    (a_side_text : PySem.W.nsIn K mainGlobals "side_text" = some (some (.ref f_side_text))) (l_side_text : K.lookup f_side_text = some ⟨oc_side_text, od_side_text, .func (PySem.W.fnOf "side_text" "side_text" (defArgs st_side_text) (defBody st_side_text) (defScope st_side_text) .none kV_side_text dc_side_text pm_side_text an_side_text cd_side_text ct_side_text), sl_side_text⟩) (c_side_text : PySem.W.codeIn K cd_side_text "side_text" = true) (k_side_text : PySem.W.keepIn K (.ref f_side_text) = true)
    {f_coin_text : Addr} {od_coin_text an_coin_text : Option Addr} {sl_coin_text : Array (Option Value)} {oc_coin_text kV_coin_text dc_coin_text pm_coin_text cd_coin_text ct_coin_text : Value}
    (a_coin_text : PySem.W.nsIn K mainGlobals "coin_text" = some (some (.ref f_coin_text))) (l_coin_text : K.lookup f_coin_text = some ⟨oc_coin_text, od_coin_text, .func (PySem.W.fnOf "coin_text" "coin_text" (defArgs st_coin_text) (defBody st_coin_text) (defScope st_coin_text) .none kV_coin_text dc_coin_text pm_coin_text an_coin_text cd_coin_text ct_coin_text), sl_coin_text⟩) (c_coin_text : PySem.W.codeIn K cd_coin_text "coin_text" = true) (k_coin_text : PySem.W.keepIn K (.ref f_coin_text) = true)
    {f_law_asked : Addr} {od_law_asked an_law_asked : Option Addr} {sl_law_asked : Array (Option Value)} {oc_law_asked kV_law_asked dc_law_asked pm_law_asked cd_law_asked ct_law_asked : Value}
    (a_law_asked : PySem.W.nsIn K mainGlobals "_law_asked" = some (some (.ref f_law_asked))) (l_law_asked : K.lookup f_law_asked = some ⟨oc_law_asked, od_law_asked, .func (PySem.W.fnOf "_law_asked" "_law_asked" (defArgs st_law_asked) (defBody st_law_asked) (defScope st_law_asked) .none kV_law_asked dc_law_asked pm_law_asked an_law_asked cd_law_asked ct_law_asked), sl_law_asked⟩) (c_law_asked : PySem.W.codeIn K cd_law_asked "_law_asked" = true) (k_law_asked : PySem.W.keepIn K (.ref f_law_asked) = true)
    {f_law : Addr} {od_law an_law : Option Addr} {sl_law : Array (Option Value)} {oc_law kV_law dc_law pm_law cd_law ct_law : Value}
    (a_law : PySem.W.nsIn K mainGlobals "law" = some (some (.ref f_law))) (l_law : K.lookup f_law = some ⟨oc_law, od_law, .func (PySem.W.fnOf "law" "law" (defArgs st_law) (defBody st_law) (defScope st_law) .none kV_law dc_law pm_law an_law cd_law ct_law), sl_law⟩) (c_law : PySem.W.codeIn K cd_law "law" = true) (k_law : PySem.W.keepIn K (.ref f_law) = true)
    {tc_SPOTS : Tok} (q_SPOTS : PySem.W.nsIn K mainGlobals "SPOTS" = some (some (.int 8 tc_SPOTS)))
    {tc_MOST_DIES : Tok} (q_MOST_DIES : PySem.W.nsIn K mainGlobals "MOST_DIES" = some (some (.int 99 tc_MOST_DIES)))
    {tc_LAST_YEAR : Tok} (q_LAST_YEAR : PySem.W.nsIn K mainGlobals "LAST_YEAR" = some (some (.int 9999 tc_LAST_YEAR)))
    {C_BadCoin : Addr} (x1_BadCoin : PySem.W.nsIn K mainGlobals "BadCoin" = some (some (.ref C_BadCoin))) (x2_BadCoin : PySem.W.keepIn K (.ref C_BadCoin) = true) (x3_BadCoin : PySem.W.excIn K C_BadCoin [.type "ValueError", .type "Exception", .type "BaseException", .type "object"] "ValueError.__new__" = true) (x4_BadCoin : PySem.W.subIn K (.ref C_BadCoin) (.type "BaseException") = some true) (x5_BadCoin : PySem.W.typeIn K (.ref C_BadCoin) = some (.type "type"))
    (x6_BadCoin : PySem.W.hasDictIn K C_BadCoin = true)
    (s_BadCoin_BadCoin : PySem.W.subIn K (.ref C_BadCoin) (.ref C_BadCoin) = some true)
    (z_len : PySem.W.nsIn K mainGlobals "len" = some none)
    (z_list : PySem.W.nsIn K mainGlobals "list" = some none)
    (z_tuple : PySem.W.nsIn K mainGlobals "tuple" = some none)
    (z_all : PySem.W.nsIn K mainGlobals "all" = some none)
    (z_any : PySem.W.nsIn K mainGlobals "any" = some none)
    (z_sum : PySem.W.nsIn K mainGlobals "sum" = some none)
    (z_sorted : PySem.W.nsIn K mainGlobals "sorted" = some none)
    (z_min : PySem.W.nsIn K mainGlobals "min" = some none)
    (z_max : PySem.W.nsIn K mainGlobals "max" = some none)
    (z_int : PySem.W.nsIn K mainGlobals "int" = some none)
    (z_str : PySem.W.nsIn K mainGlobals "str" = some none)
    (z_bool : PySem.W.nsIn K mainGlobals "bool" = some none)
    (z_dict : PySem.W.nsIn K mainGlobals "dict" = some none)
    (z_isinstance : PySem.W.nsIn K mainGlobals "isinstance" = some none)
    (z_range : PySem.W.nsIn K mainGlobals "range" = some none)
    (z_enumerate : PySem.W.nsIn K mainGlobals "enumerate" = some none)
    (z_set : PySem.W.nsIn K mainGlobals "set" = some none) :
    ∃ fd : FuncData, (∀ (s : Shared) (u : Value), BindsTo s fd ⟨[u], []⟩ [("_law_script", u)]) ∧ ∀ base : Heap, K.In base → base.Ns mainGlobals mg → ∃ C, FnOk l.prog w K mg base (L2.CX l.prog w) 23 fa fd ["_law_script"] (spOf K C 1 F_law) := by
  have e := hfa.symm.trans (PySem.W.mg_of X G a_law)
  cases e
  have F_law_open := fun_mk (st := st_law_open) l_law_open c_law_open k_law_open
  have b_law_open := F_law_open.binds (ps := ["_law_script"]) fun _ _ _ _ _ _ us hl => match us, hl with | [_], _ => rfl
  have F_law_pull := fun_mk (st := st_law_pull) l_law_pull c_law_pull k_law_pull
  have b_law_pull := F_law_pull.binds (ps := ["_law_draw", "_law_total_of"]) fun _ _ _ _ _ _ us hl => match us, hl with | [_, _], _ => rfl
  have F_law_far := fun_mk (st := st_law_far) l_law_far c_law_far k_law_far
  have b_law_far := F_law_far.binds (ps := ["_law_draw"]) fun _ _ _ _ _ _ us hl => match us, hl with | [_], _ => rfl
  have F_law_bent_coin := fun_mk (st := st_law_bent_coin) l_law_bent_coin c_law_bent_coin k_law_bent_coin
  have b_law_bent_coin := F_law_bent_coin.binds (ps := ["_law_draw", "_law_coin"]) fun _ _ _ _ _ _ us hl => match us, hl with | [_, _], _ => rfl
  have F_law_some_marks := fun_mk (st := st_law_some_marks) l_law_some_marks c_law_some_marks k_law_some_marks
  have b_law_some_marks := F_law_some_marks.binds (ps := ["_law_draw", "_law_often"]) fun _ _ _ _ _ _ us hl => match us, hl with | [_, _], _ => rfl
  have F_law_drawn_coin := fun_mk (st := st_law_drawn_coin) l_law_drawn_coin c_law_drawn_coin k_law_drawn_coin
  have b_law_drawn_coin := F_law_drawn_coin.binds (ps := ["_law_draw"]) fun _ _ _ _ _ _ us hl => match us, hl with | [_], _ => rfl
  have F_law_marks_ok := fun_mk (st := st_law_marks_ok) l_law_marks_ok c_law_marks_ok k_law_marks_ok
  have b_law_marks_ok := F_law_marks_ok.binds (ps := ["_law_marks"]) fun _ _ _ _ _ _ us hl => match us, hl with | [_], _ => rfl
  have F_law_coin_ok := fun_mk (st := st_law_coin_ok) l_law_coin_ok c_law_coin_ok k_law_coin_ok
  have b_law_coin_ok := F_law_coin_ok.binds (ps := ["_law_coin"]) fun _ _ _ _ _ _ us hl => match us, hl with | [_], _ => rfl
  have F_law_coin_words := fun_mk (st := st_law_coin_words) l_law_coin_words c_law_coin_words k_law_coin_words
  have b_law_coin_words := F_law_coin_words.binds (ps := ["_law_coin"]) fun _ _ _ _ _ _ us hl => match us, hl with | [_], _ => rfl
  have F_law_num := fun_mk (st := st_law_num) l_law_num c_law_num k_law_num
  have b_law_num := F_law_num.binds (ps := ["_law_found"]) fun _ _ _ _ _ _ us hl => match us, hl with | [_], _ => rfl
  have F_law_like := fun_mk (st := st_law_like) l_law_like c_law_like k_law_like
  have b_law_like := F_law_like.binds (ps := ["_law_found", "_law_due"]) fun _ _ _ _ _ _ us hl => match us, hl with | [_, _], _ => rfl
  have F_good_marks := fun_mk (st := st_good_marks) l_good_marks c_good_marks k_good_marks
  have b_good_marks := F_good_marks.binds (ps := ["marks"]) fun _ _ _ _ _ _ us hl => match us, hl with | [_], _ => rfl
  have F_good_coin := fun_mk (st := st_good_coin) l_good_coin c_good_coin k_good_coin
  have b_good_coin := F_good_coin.binds (ps := ["coin"]) fun _ _ _ _ _ _ us hl => match us, hl with | [_], _ => rfl
  have F_marks_text := fun_mk (st := st_marks_text) l_marks_text c_marks_text k_marks_text
  have b_marks_text := F_marks_text.binds (ps := ["marks"]) fun _ _ _ _ _ _ us hl => match us, hl with | [_], _ => rfl
  have F_side_text := fun_mk (st := st_side_text) l_side_text c_side_text k_side_text
  have b_side_text := F_side_text.binds (ps := ["die", "marks"]) fun _ _ _ _ _ _ us hl => match us, hl with | [_, _], _ => rfl
  have F_coin_text := fun_mk (st := st_coin_text) l_coin_text c_coin_text k_coin_text
  have b_coin_text := F_coin_text.binds (ps := ["coin"]) fun _ _ _ _ _ _ us hl => match us, hl with | [_], _ => rfl
  have F_law_asked := fun_mk (st := st_law_asked) l_law_asked c_law_asked k_law_asked
  have b_law_asked := F_law_asked.binds (ps := ["_law_coin"]) fun _ _ _ _ _ _ us hl => match us, hl with | [_], _ => rfl
  have F_law := fun_mk (st := st_law) l_law c_law k_law
  refine ⟨PySem.W.fnOf "law" "law" (defArgs st_law) (defBody st_law) (defScope st_law) .none kV_law dc_law pm_law an_law cd_law ct_law, fun s v => .of_eq rfl, fun base _ _ => ⟨fun i => ([C_BadCoin] : List Addr).getD i default, ?_⟩⟩
  refine all_ok (mg := mg) ⟨fun t ht => ?_, fun x hx => ?_, fun j p hp => ?_, fun i e he => (by cases i <;> cases he), fun t ht => ?_, fun i x hx => ?_⟩ F_law_open b_law_open (PySem.W.mg_of X G a_law_open) F_law_pull b_law_pull (PySem.W.mg_of X G a_law_pull) F_law_far b_law_far (PySem.W.mg_of X G a_law_far) F_law_bent_coin b_law_bent_coin (PySem.W.mg_of X G a_law_bent_coin) F_law_some_marks b_law_some_marks (PySem.W.mg_of X G a_law_some_marks) F_law_drawn_coin b_law_drawn_coin (PySem.W.mg_of X G a_law_drawn_coin) F_law_marks_ok b_law_marks_ok (PySem.W.mg_of X G a_law_marks_ok) F_law_coin_ok b_law_coin_ok (PySem.W.mg_of X G a_law_coin_ok) F_law_coin_words b_law_coin_words (PySem.W.mg_of X G a_law_coin_words) F_law_num b_law_num (PySem.W.mg_of X G a_law_num) F_law_like b_law_like (PySem.W.mg_of X G a_law_like) F_good_marks b_good_marks (PySem.W.mg_of X G a_good_marks) F_good_coin b_good_coin (PySem.W.mg_of X G a_good_coin) F_marks_text b_marks_text (PySem.W.mg_of X G a_marks_text) F_side_text b_side_text (PySem.W.mg_of X G a_side_text) F_coin_text b_coin_text (PySem.W.mg_of X G a_coin_text) F_law_asked b_law_asked (PySem.W.mg_of X G a_law_asked) F_law
  · simp only [sub, List.mem_cons, List.not_mem_nil, or_false] at ht
    rcases ht with rfl
    · exact PySem.W.exm_ref x4_BadCoin x6_BadCoin x5_BadCoin s_BadCoin_BadCoin
  · simp only [blt, List.mem_cons, List.not_mem_nil, or_false] at hx
    rcases hx with rfl | rfl | rfl | rfl | rfl | rfl | rfl | rfl | rfl | rfl | rfl | rfl | rfl | rfl | rfl | rfl | rfl
    · exact PySem.W.mg_none_of X G z_len
    · exact PySem.W.mg_none_of X G z_list
    · exact PySem.W.mg_none_of X G z_tuple
    · exact PySem.W.mg_none_of X G z_all
    · exact PySem.W.mg_none_of X G z_any
    · exact PySem.W.mg_none_of X G z_sum
    · exact PySem.W.mg_none_of X G z_sorted
    · exact PySem.W.mg_none_of X G z_min
    · exact PySem.W.mg_none_of X G z_max
    · exact PySem.W.mg_none_of X G z_int
    · exact PySem.W.mg_none_of X G z_str
    · exact PySem.W.mg_none_of X G z_bool
    · exact PySem.W.mg_none_of X G z_dict
    · exact PySem.W.mg_none_of X G z_isinstance
    · exact PySem.W.mg_none_of X G z_range
    · exact PySem.W.mg_none_of X G z_enumerate
    · exact PySem.W.mg_none_of X G z_set
  · match j, hp with
    | 0, hp => cases hp; exact ⟨_, .int 8, PySem.W.mg_of X G q_SPOTS, ⟨_, rfl⟩, fun c H _ => by constructor <;> rfl⟩
    | 1, hp => cases hp; exact ⟨_, .int 99, PySem.W.mg_of X G q_MOST_DIES, ⟨_, rfl⟩, fun c H _ => by constructor <;> rfl⟩
    | 2, hp => cases hp; exact ⟨_, .int 9999, PySem.W.mg_of X G q_LAST_YEAR, ⟨_, rfl⟩, fun c H _ => by constructor <;> rfl⟩
    | n + 3, hp => cases hp
  · cases ht
  · match i, hx with
    | 0, hx => cases hx; exact ⟨PySem.W.mg_of X G x1_BadCoin, x2_BadCoin, x3_BadCoin, x4_BadCoin, x5_BadCoin⟩
    | n + 1, hx => cases hx
end Lw
end
set_option Elab.async false
set_option linter.all false
set_option maxRecDepth 100000
/-! PlA: plain rules about the evaluator. -/
namespace Ev
open PySem L2
theorem few_of {n : Nat} (h : n ≤ 1000) : few n = true := decide_eq_true (Nat.le_trans h (by decide))
theorem few_le1 {n : Nat} (h : few n = true) : n ≤ 1000000 := of_decide_eq_true h
theorem forL_rule {body : Loc → Store → FR} {tg : Tg} {g : Option Nat} {all : List PV} (I : List PV → Loc → Store → Prop) (Q : FR → Prop)
    (step : ∀ x r ρ S, I (x :: r) ρ S → Gd g all S ∧ ∃ ρ', bindT tg x ρ = some ρ' ∧ (match body ρ' S with
      | .next ρ'' S'' => I r ρ'' S''
      | .brk ρ'' S'' => Q (.next ρ'' S'')
      | q => Q q))
    (done : ∀ ρ S, I [] ρ S → Gd g all S ∧ Q (.next ρ S)) : ∀ xs ρ S, I xs ρ S → Q (forL body tg g all xs ρ S)
  | [], ρ, S, h => by
    obtain ⟨a, b⟩ := done ρ S h
    unfold forL
    rw [if_pos a]
    exact b
  | x :: r, ρ, S, h => by
    obtain ⟨a, ρ', e, c⟩ := step x r ρ S h
    unfold forL
    rw [if_pos a, e]
    dsimp only
    cases q : body ρ' S <;> rw [q] at c <;> dsimp only at c ⊢
    case next => exact forL_rule I Q step done r _ _ c
    all_goals exact c
theorem compL_rule {body : PV → Store → Res (Option PV)} {g : Option Nat} {all : List PV} (I : List PV → List PV → Store → Prop)
    (step : ∀ x r acc S, I (x :: r) acc S → Gd g all S ∧ ∃ o S', body x S = .ok o S' ∧ I r (acc ++ o.toList) S')
    (done : ∀ acc S, I [] acc S → Gd g all S) : ∀ xs acc S, I xs acc S → ∃ ys S', compL body g all xs S = .ok ys S' ∧ I [] (acc ++ ys) S'
  | [], acc, S, h => ⟨[], S, by unfold compL; rw [if_pos (done acc S h)], by rw [List.append_nil]; exact h⟩
  | x :: r, acc, S, h => by
    obtain ⟨a, o, S', e, i⟩ := step x r acc S h
    obtain ⟨ys, S2, e2, i2⟩ := compL_rule I step done r _ _ i
    refine ⟨o.toList ++ ys, S2, ?_, by rw [← List.append_assoc]; exact i2⟩
    unfold compL
    rw [if_pos a, e]
    dsimp only
    rw [e2]
/-- a comprehension that changes nothing -/
theorem compL_pure {body : PV → Store → Res (Option PV)} {g : Option Nat} {all : List PV} {S : Store} {f : PV → Option PV} (hg : Gd g all S) : ∀ xs : List PV, (∀ x, x ∈ xs → body x S = .ok (f x) S) → compL body g all xs S = .ok (xs.filterMap f) S
  | [], _ => by unfold compL; rw [if_pos hg]; rfl
  | x :: r, h => by
    unfold compL
    rw [if_pos hg, h x List.mem_cons_self]
    dsimp only
    rw [compL_pure hg r fun y hy => h y (List.mem_cons_of_mem _ hy)]
    dsimp only
    cases e : f x <;> simp [List.filterMap_cons, e]
end Ev
set_option Elab.async false
set_option linter.all false
set_option maxRecDepth 100000
/-! PlS: the evaluator's equations, for simp. -/
noncomputable section
namespace Ev
open PySem L2
def brT (v : PV) (A B : FR) : FR := match v with
  | .bl true => A
  | .bl false => B
  | _ => .fail
def brR {α : Type} (v : PV) (A B : Res α) : Res α := match v with
  | .bl true => A
  | .bl false => B
  | _ => .fail
@[simp] theorem brT_bl (k : Bool) (A B : FR) : brT (.bl k) A B = if k = true then A else B := by cases k <;> rfl
@[simp] theorem brR_bl {α : Type} (k : Bool) (A B : Res α) : brR (.bl k) A B = if k = true then A else B := by cases k <;> rfl
@[simp] theorem ofO_some {α : Type} (a : α) (S : Store) : ofO (some a) S = .ok a S := rfl
@[simp] theorem ofO_none {α : Type} (S : Store) : ofO (none : Option α) S = .fail := rfl
section
variable (ce : Cl) (ρ : Ev.Loc) (S : Store)
def getL (o : Option (Option PV)) (S : Store) : Res PV := match o with
  | some (some v) => .ok v S
  | _ => .fail
@[simp] theorem getL_some (v : PV) : getL (some (some v)) S = .ok v S := rfl
@[simp] theorem evE_var (i : Nat) : evE ce (.var i) ρ S = getL ρ[i]? S := by simp only [evE]; rfl
@[simp] theorem evE_con (v : PV) : evE ce (.con v) ρ S = .ok v S := by simp only [evE]
@[simp] theorem evE_glob (j : Nat) : evE ce (.glob j) ρ S = .ok (ce.g j) S := by simp only [evE]
def negP (v : PV) (S : Store) : Res PV := match v with
  | .int i => .ok (.int (-i)) S
  | _ => .fail
@[simp] theorem negP_int (i : Int) : negP (.int i) S = .ok (.int (-i)) S := rfl
@[simp] theorem evE_neg (a : E) : evE ce (.neg a) ρ S = (evE ce a ρ S).bind negP := by simp only [evE]; rfl
def ntP (v : PV) (S : Store) : Res PV := match v with
  | .bl b => .ok (.bl (!b)) S
  | _ => .fail
@[simp] theorem ntP_bl (b : Bool) : ntP (.bl b) S = .ok (.bl (!b)) S := rfl
@[simp] theorem evE_nt (a : E) : evE ce (.nt a) ρ S = (evE ce a ρ S).bind ntP := by simp only [evE]; rfl
@[simp] theorem evE_bin (o : B2) (a b : E) : evE ce (.bin o a b) ρ S = (evE ce a ρ S).bind fun x S => (evE ce b ρ S).bind fun y S => ofO (op2 o x y S) S := by simp only [evE]
@[simp] theorem evE_bop (k : Bool) (es : Es) : evE ce (.bop k es) ρ S = evBop ce k es ρ S := by simp only [evE]
@[simp] theorem evE_ite (c a b : E) : evE ce (.ite c a b) ρ S = (evE ce c ρ S).bind fun v S => brR v (evE ce a ρ S) (evE ce b ρ S) := by
  simp only [evE]
  rfl
def chK (o : Option PV) (A : Res PV) (S : Store) : Res PV := match o with
    | some (.bl true) => A
    | some (.bl false) => .ok (.bl false) S
    | _ => .fail
@[simp] theorem chK_bl (k : Bool) (A : Res PV) : chK (some (.bl k)) A S = if k = true then A else .ok (.bl false) S := by cases k <;> rfl
@[simp] theorem evE_chain (o1 o2 : B2) (a b c : E) : evE ce (.chain o1 o2 a b c) ρ S = (evE ce a ρ S).bind fun x S => (evE ce b ρ S).bind fun y S => chK (op2 o1 x y S) ((evE ce c ρ S).bind fun z S => ofO (op2 o2 y z S) S) S := by
  simp only [evE]
  rfl
@[simp] theorem evE_tup (es : Es) : evE ce (.tup es) ρ S = (evEs ce es ρ S).bind fun vs S => .ok (.tup vs) S := by simp only [evE]
@[simp] theorem evE_lst (es : Es) : evE ce (.lst es) ρ S = (evEs ce es ρ S).bind fun vs S => .ok (.lst .new vs) S := by simp only [evE]
@[simp] theorem evE_ix (a i : E) : evE ce (.ix a i) ρ S = (evE ce a ρ S).bind fun x S => (evE ce i ρ S).bind fun y S => ofO (ixP x y S) S := by simp only [evE]
@[simp] theorem evE_slc (a : E) (lo hi : P) : evE ce (.slc a lo hi) ρ S = (evE ce a ρ S).bind fun x S => (evP ce lo ρ S).bind fun l S => (evP ce hi ρ S).bind fun h S => ofO (slP x l h S) S := by simp only [evE]
@[simp] theorem evE_rev (a : E) : evE ce (.rev a) ρ S = (evE ce a ρ S).bind fun x S => ofO (revP x S) S := by simp only [evE]
@[simp] theorem evE_callP (f : Nat) (es : Es) : evE ce (.call .pure f es) ρ S = (evEs ce es ρ S).bind fun vs S => callP ce.f f vs S := by simp only [evE]
@[simp] theorem evE_callF (f : Nat) (es : Es) : evE ce (.call .full f es) ρ S = (evEs ce es ρ S).bind fun vs S => callF ce.f f vs S := by simp only [evE]
theorem evE_callxP {fs : List (Md × Nat)} {i : E} {es : Es} {k : Int} {f : Nat} {S1 : Store} (h1 : evE ce i ρ S = .ok (.int k) S1) (h2 : pickF fs k = some (.pure, f)) : evE ce (.callx fs i es) ρ S = (evEs ce es ρ S1).bind fun vs S => callP ce.f f vs S := by
  simp only [evE, h1, Res.bind_ok, h2]
theorem evE_callxF {fs : List (Md × Nat)} {i : E} {es : Es} {k : Int} {f : Nat} {S1 : Store} (h1 : evE ce i ρ S = .ok (.int k) S1) (h2 : pickF fs k = some (.full, f)) : evE ce (.callx fs i es) ρ S = (evEs ce es ρ S1).bind fun vs S => callF ce.f f vs S := by
  simp only [evE, h1, Res.bind_ok, h2]
@[simp] theorem evE_sIx (a i : E) : evE ce (.sIx a i) ρ S = (evE ce a ρ S).bind fun x S => (evE ce i ρ S).bind fun y S => ofO (sixP x y) S := by simp only [evE]
@[simp] theorem evE_bi (b : Bi) (es : Es) : evE ce (.bi b es) ρ S = (evEs ce es ρ S).bind fun vs S => ofO (biP b vs S) S := by simp only [evE]
@[simp] theorem evE_isi (t : Ty) (a : E) : evE ce (.isi t a) ρ S = (evE ce a ρ S).bind fun x S => ofO ((isTy S t x).map .bl) S := by simp only [evE]
def compB (own : List (Str × Nat)) (tg : Tg) (cs : Es) (e : E) (x : PV) (S : Store) : Res (Option PV) := match bindT tg x (wipeL ρ (own.map (·.2))) with
      | none => .fail
      | some ρ' => (evBs ce cs ρ' S).bind fun k S => if k then (evE ce e ρ' S).bind fun v S => .ok (some v) S else .ok none S
def compR (own : List (Str × Nat)) (tg : Tg) (cs : Es) (e : E) (p : List PV × Option Nat) (S : Store) : Res PV := if few p.1.length then (compL (compB ce ρ own tg cs e) p.2 p.1 p.1 S).bind fun vs S => .ok (.lst .new vs) S else .fail
@[simp] theorem evE_comp (own : List (Str × Nat)) (tg : Tg) (it : Ev.It) (cs : Es) (e : E) : evE ce (.comp own tg it cs e) ρ S = (evIt ce it ρ S).bind (compR ce ρ own tg cs e) := by
  simp only [evE]
  rfl
@[simp] theorem evE_p1 (o : O1) (a : E) : evE ce (.p1 o a) ρ S = (evE ce a ρ S).bind fun x S => ofP (pr1 o x S) := by simp only [evE]
@[simp] theorem evE_p2 (o : O2) (a b : E) : evE ce (.p2 o a b) ρ S = (evE ce a ρ S).bind fun x S => if ob2 o x S then (evE ce b ρ S).bind fun y S => ofP (pr2 o x y S) else .fail := by simp only [evE]
@[simp] theorem evE_p3 (o : O3) (a b c : E) : evE ce (.p3 o a b c) ρ S = (evE ce a ρ S).bind fun x S => if ob3 o x S then (evE ce b ρ S).bind fun y S => (evE ce c ρ S).bind fun z S => ofP (pr3 o x y z S) else .fail := by simp only [evE]
@[simp] theorem evE_own (a : E) : evE ce (.own a) ρ S = (evE ce a ρ S).bind fun x S => .ok (dig x S).1 (dig x S).2 := by simp only [evE]
@[simp] theorem evE_d0K : evE ce (.d0 false) ρ S = .ok (.dK .new [] []) S := by simp only [evE]; rfl
@[simp] theorem ofP_some (v : PV) (S' : Store) : ofP (some (v, S')) = .ok v S' := rfl
@[simp] theorem ofP_none : ofP none = .fail := rfl
@[simp] theorem evEs_nil : evEs ce .nil ρ S = .ok [] S := by simp only [evEs]
@[simp] theorem evEs_cons (e : E) (es : Es) : evEs ce (.cons e es) ρ S = (evE ce e ρ S).bind fun v S => (evEs ce es ρ S).bind fun vs S => .ok (v :: vs) S := by simp only [evEs]
def bopP (k : Bool) (v : PV) (A : Res PV) (S : Store) : Res PV := match v with
    | .bl b => if b = k then A else .ok (.bl b) S
    | _ => .fail
@[simp] theorem bopT_bl (b : Bool) (A : Res PV) : bopP true (.bl b) A S = if b = true then A else .ok (.bl false) S := by cases b <;> rfl
@[simp] theorem bopF_bl (b : Bool) (A : Res PV) : bopP false (.bl b) A S = if b = true then .ok (.bl true) S else A := by cases b <;> rfl
@[simp] theorem evBop_one (k : Bool) (e : E) : evBop ce k (.cons e .nil) ρ S = evE ce e ρ S := by simp only [evBop]
@[simp] theorem evBop_more (k : Bool) (e e' : E) (es : Es) : evBop ce k (.cons e (.cons e' es)) ρ S = (evE ce e ρ S).bind fun v S => bopP k v (evBop ce k (.cons e' es) ρ S) S := by
  conv => lhs; unfold evBop
  rfl
@[simp] theorem evBs_nil : evBs ce .nil ρ S = .ok true S := by simp only [evBs]
@[simp] theorem evBs_cons (e : E) (es : Es) : evBs ce (.cons e es) ρ S = (evE ce e ρ S).bind fun v S => brR v (evBs ce es ρ S) (.ok false S) := by
  simp only [evBs]
  rfl
def asI (v : PV) (S : Store) : Res (Option Int) := match v with
    | .int i => .ok (some i) S
    | _ => .fail
@[simp] theorem asI_int (i : Int) : asI (.int i) S = .ok (some i) S := rfl
@[simp] theorem evP_no : evP ce .no ρ S = .ok none S := by simp only [evP]
@[simp] theorem evP_yes (e : E) : evP ce (.yes e) ρ S = (evE ce e ρ S).bind asI := by simp only [evP]; rfl
/-- told by a decision that nothing can reckon: else Lean's core would go down the number one by one -/
def r1P (v : PV) (S : Store) : Res (List PV × Option Nat) := match v with
    | .int n => @ite _ (n < 2 ^ 62 ∧ -(2 ^ 62) ≤ n) (Classical.propDecidable _) (.ok ((List.range n.toNat).map (fun (k : Nat) => .int (k : Int)), none) S) .fail
    | _ => .fail
theorem r1P_int {n : Int} (h : n < 2 ^ 62 ∧ -(2 ^ 62) ≤ n) : r1P (.int n) S = .ok ((List.range n.toNat).map (fun (k : Nat) => .int (k : Int)), none) S := by unfold r1P; dsimp only; rw [if_pos h]
def r2P (v w : PV) (S : Store) : Res (List PV × Option Nat) := match v, w with
    | .int m, .int n => @ite _ (-(2 ^ 62) ≤ m ∧ m < 2 ^ 62 ∧ -(2 ^ 62) ≤ n ∧ n < 2 ^ 62) (Classical.propDecidable _) (.ok ((List.range (n - m).toNat).map (fun (k : Nat) => .int (m + (k : Int))), none) S) .fail
    | _, _ => .fail
def seqI (v : PV) (S : Store) : Res (List PV × Option Nat) := match v with
    | .ref l => (match S[l]? with
      | some (.lst xs) => .ok (xs, some l) S
      | _ => .fail)
    | .tup xs => .ok (frzs xs, none) S
    | .lst .new xs => .ok (frzs xs, none) S
    | .lst _ xs => .ok (xs, none) S
    | _ => .fail
@[simp] theorem seqI_tup (xs : List PV) : seqI (.tup xs) S = .ok (frzs xs, none) S := rfl
@[simp] theorem seqI_new (xs : List PV) : seqI (.lst .new xs) S = .ok (frzs xs, none) S := rfl
@[simp] theorem seqI_bor (xs : List PV) : seqI (.lst .bor xs) S = .ok (xs, none) S := rfl
@[simp] theorem seqI_frz (xs : List PV) : seqI (.lst .frz xs) S = .ok (xs, none) S := rfl
@[simp] theorem seqI_scr (xs : List PV) : seqI (.lst .scr xs) S = .ok (xs, none) S := rfl
theorem seqI_ref {l : Nat} {xs : List PV} (h : S[l]? = some (.lst xs)) : seqI (.ref l) S = .ok (xs, some l) S := by unfold seqI; dsimp only; rw [h]
def enI (v : PV) (S : Store) : Res (List PV × Option Nat) := match v with
    | .lst .new _ => .fail
    | .lst _ xs => .ok (enumP 0 xs, none) S
    | _ => .fail
@[simp] theorem evIt_r1 (a : E) : evIt ce (.r1 a) ρ S = (evE ce a ρ S).bind r1P := by
  simp only [evIt]
  congr 1
  funext v S
  unfold r1P
  cases v with
  | int n =>
    dsimp only
    by_cases h : n < 2 ^ 62 ∧ -(2 ^ 62) ≤ n
    · rw [if_pos h, if_pos h]
    · rw [if_neg h, if_neg h]
  | _ => rfl
@[simp] theorem evIt_r2 (a b : E) : evIt ce (.r2 a b) ρ S = (evE ce a ρ S).bind fun v S => (evE ce b ρ S).bind fun w S => r2P v w S := by
  simp only [evIt]
  congr 1
  funext v S
  congr 1
  funext w S
  unfold r2P
  cases v with
  | int m =>
    cases w with
    | int n =>
      dsimp only
      by_cases h : -(2 ^ 62) ≤ m ∧ m < 2 ^ 62 ∧ -(2 ^ 62) ≤ n ∧ n < 2 ^ 62
      · rw [if_pos h, if_pos h]
      · rw [if_neg h, if_neg h]
    | _ => rfl
  | _ => cases w <;> rfl
@[simp] theorem evIt_seq (a : E) : evIt ce (.seq a) ρ S = (evE ce a ρ S).bind seqI := by simp only [evIt]; rfl
@[simp] theorem evIt_enum (a : E) : evIt ce (.enum a) ρ S = (evE ce a ρ S).bind enI := by simp only [evIt]; rfl
/-! statements -/
@[simp] theorem evT_skip : evT ce .skip ρ S = .next ρ S := by simp only [evT]
@[simp] theorem evT_seq (a b : T) : evT ce (.seq a b) ρ S = (evT ce a ρ S).then (evT ce b) := by simp only [evT]
@[simp] theorem evT_ex (e : E) : evT ce (.ex e) ρ S = onE (evE ce e ρ S) ρ fun _ S => .next ρ S := by simp only [evT]
def setK (ρ : Ev.Loc) (i : Nat) (p : PV × Store) : FR := .next (ρ.set i (some p.1)) p.2
@[simp] theorem setK_mk (i : Nat) (v : PV) : setK ρ i (v, S) = .next (ρ.set i (some v)) S := rfl
@[simp] theorem evT_set (i : Nat) (e : E) : evT ce (.set i e) ρ S = onE (evE ce e ρ S) ρ fun v S => setK ρ i (adopt v S) := by simp only [evT]; rfl
def unpK (ρ : Ev.Loc) (is : List Nat) (v : PV) (S : Store) : FR := match v with
    | .tup xs => (match setAll ρ is (adopts xs S).1 with
      | some ρ => .next ρ (adopts xs S).2
      | none => .fail)
    | _ => .fail
@[simp] theorem evT_unp (is : List Nat) (e : E) : evT ce (.unp is e) ρ S = onE (evE ce e ρ S) ρ (unpK ρ is) := by simp only [evT]; rfl
@[simp] theorem unpK_tup (is : List Nat) (xs : List PV) : unpK ρ is (.tup xs) S = (match setAll ρ is (adopts xs S).1 with
      | some ρ => .next ρ (adopts xs S).2
      | none => .fail) := rfl
@[simp] theorem setAll_nil : setAll ρ [] [] = some ρ := rfl
@[simp] theorem setAll_cons (i : Nat) (is : List Nat) (x : PV) (xs : List PV) : setAll ρ (i :: is) (x :: xs) = setAll (ρ.set i (some x)) is xs := rfl
def nxO (ρ : Ev.Loc) (o : Option Store) : FR := match o with
    | some S => .next ρ S
    | none => .fail
@[simp] theorem nxO_some : nxO ρ (some S) = .next ρ S := rfl
@[simp] theorem evT_setix (o i e : E) : evT ce (.setix o i e) ρ S = onE (evE ce e ρ S) ρ fun v S => onE (evE ce o ρ S) ρ fun x S => onE (evE ce i ρ S) ρ fun y S => nxO ρ (setP x y (frz v) S) := by simp only [evT]; rfl
@[simp] theorem evT_ret (e : E) : evT ce (.ret e) ρ S = onE (evE ce e ρ S) ρ fun v S => .ret v S := by simp only [evT]
@[simp] theorem evT_retn : evT ce .retn ρ S = .ret .non S := by simp only [evT]
@[simp] theorem evT_ite (c : E) (a b : T) : evT ce (.ite c a b) ρ S = onE (evE ce c ρ S) ρ fun v S => brT v (evT ce a ρ S) (evT ce b ρ S) := by
  simp only [evT]
  rfl
@[simp] theorem evT_for (tg : Tg) (it : Ev.It) (b : T) : evT ce (.for_ tg it b) ρ S = onE (evIt ce it ρ S) ρ fun p S => forL (evT ce b) tg p.2 p.1 p.1 ρ S := by simp only [evT]
@[simp] theorem evT_while (n : Nat) (c : E) (b : T) : evT ce (.while_ n c b) ρ S = whileL (evE ce c) (evT ce b) n ρ S := by simp only [evT]
@[simp] theorem evT_try (b : T) (hs : List Hd) : evT ce (.try_ b hs) ρ S = tryF (evT ce b ρ S) hs := by simp only [evT]
@[simp] theorem tryF_next (hs : List Hd) : tryF (.next ρ S) hs = .next ρ S := rfl
@[simp] theorem tryF_ret (v : PV) (hs : List Hd) : tryF (.ret v S) hs = .ret v S := rfl
@[simp] theorem tryF_exc (i : Nat) (p : Option PV) (hs : List Hd) : tryF (.exc i p ρ S) hs = hdsF hs i p ρ S := rfl
@[simp] theorem hdsF_nil (i : Nat) (p : Option PV) : hdsF [] i p ρ S = .exc i p ρ S := rfl
@[simp] theorem hdsF_cons (h : Hd) (r : List Hd) (i : Nat) (p : Option PV) : hdsF (h :: r) i p ρ S = if h.yes.contains i then suF h.su ρ S else if h.no.contains i then hdsF r i p ρ S else .fail := rfl
@[simp] theorem suF_ret (v : PV) : suF (.ret v) ρ S = .ret v S := rfl
@[simp] theorem suF_retl (vs : List PV) : suF (.retl vs) ρ S = .ret (.lst .new vs) S := rfl
@[simp] theorem suF_set (i : Nat) (v : PV) : suF (.set i v) ρ S = .next (ρ.set i (some v)) S := rfl
@[simp] theorem evT_par (i j : Nat) (a b : E) : evT ce (.par i j a b) ρ S = onE (evEs ce (.cons a (.cons b .nil)) ρ S) ρ fun vs S => parF ρ i j (adopts vs S) := by simp only [evT]
@[simp] theorem parF_two (i j : Nat) (x y : PV) : parF ρ i j ([x, y], S) = .next ((ρ.set i (some x)).set j (some y)) S := rfl
@[simp] theorem evT_brk : evT ce .brk ρ S = .brk ρ S := by simp only [evT]
@[simp] theorem evT_raise (c : Nat) : evT ce (.raise c) ρ S = .exc c none ρ S := by simp only [evT]
def augA (i : Nat) (o : B2) (x : Int) (v : PV) (S : Store) : FR := match o, v with
      | .add, .int y => .next (ρ.set i (some (.int (x + y)))) S
      | .sub, .int y => .next (ρ.set i (some (.int (x - y)))) S
      | _, _ => .fail
@[simp] theorem augA_add (i : Nat) (x y : Int) : augA ρ i .add x (.int y) S = .next (ρ.set i (some (.int (x + y)))) S := rfl
@[simp] theorem augA_sub (i : Nat) (x y : Int) : augA ρ i .sub x (.int y) S = .next (ρ.set i (some (.int (x - y)))) S := rfl
theorem evT_aug {i : Nat} {o : B2} {e : E} {x : Int} (h : ρ[i]? = some (some (.int x))) : evT ce (.aug i o e) ρ S = onE (evE ce e ρ S) ρ (augA ρ i o x) := by
  simp only [evT, h]
  rfl
def fin (r : FR) : Res PV := match r with
  | .next _ S => .ok .non S
  | .ret v S => .ok v S
  | .exc c p _ S => .exc c p S
  | .brk _ _ => .fail
  | .fail => .fail
@[simp] theorem fin_next : fin (.next ρ S) = .ok .non S := rfl
@[simp] theorem fin_ret (v : PV) : fin (.ret v S) = .ok v S := rfl
@[simp] theorem fin_exc (c : Nat) (p : Option PV) : fin (.exc c p ρ S) = .exc c p S := rfl
theorem runF_eq (n : Nat) (b : T) (args : List PV) : runF ce n b args S = fin (evT ce b (args.map some ++ List.replicate (n - args.length) none) S) := rfl
end
def hdT : T → T
  | .seq a _ => a
  | x => x
def tlT : T → T
  | .seq _ b => b
  | x => x
/-! values -/
section
variable (S : Store)
@[simp] theorem adopt_int (i : Int) : adopt (.int i) S = (.int i, S) := rfl
@[simp] theorem adopt_bl (b : Bool) : adopt (.bl b) S = (.bl b, S) := rfl
@[simp] theorem adopt_non : adopt .non S = (.non, S) := rfl
@[simp] theorem adopt_str (x : Str) : adopt (.str x) S = (.str x, S) := rfl
@[simp] theorem adopt_ref (l : Nat) : adopt (.ref l) S = (.ref l, S) := rfl
@[simp] theorem adopt_tup (xs : List PV) : adopt (.tup xs) S = (.tup (frzs xs), S) := rfl
@[simp] theorem adopt_new (xs : List PV) : adopt (.lst .new xs) S = (.ref S.length, S ++ [.lst (frzs xs)]) := rfl
@[simp] theorem adopt_bor (xs : List PV) : adopt (.lst .bor xs) S = (.lst .bor xs, S) := rfl
@[simp] theorem adopt_frz (xs : List PV) : adopt (.lst .frz xs) S = (.lst .frz xs, S) := rfl
@[simp] theorem adopt_scr (xs : List PV) : adopt (.lst .scr xs) S = (.lst .scr xs, S) := rfl
@[simp] theorem adopt_dK (ks : List Key) (xs : List PV) : adopt (.dK .new ks xs) S = (.ref S.length, S ++ [.dK (ks.zip (frzs xs))]) := rfl
@[simp] theorem adopts_nil : adopts [] S = ([], S) := rfl
@[simp] theorem adopts_cons (x : PV) (xs : List PV) : adopts (x :: xs) S = ((adopt x S).1 :: (adopts xs (adopt x S).2).1, (adopts xs (adopt x S).2).2) := rfl
@[simp] theorem dig_int (i : Int) : dig (.int i) S = (.int i, S) := by simp only [dig]
@[simp] theorem dig_bl (i : Bool) : dig (.bl i) S = (.bl i, S) := by simp only [dig]
@[simp] theorem dig_non : dig .non S = (.non, S) := by simp only [dig]
@[simp] theorem dig_str (i : Str) : dig (.str i) S = (.str i, S) := by simp only [dig]
@[simp] theorem dig_ref (i : Nat) : dig (.ref i) S = (.ref i, S) := by simp only [dig]
@[simp] theorem dig_tup (xs : List PV) : dig (.tup xs) S = (.tup (digs xs S).1, (digs xs S).2) := by simp only [dig]
@[simp] theorem dig_new (xs : List PV) : dig (.lst .new xs) S = (.ref (digs xs S).2.length, (digs xs S).2 ++ [.lst (digs xs S).1]) := by simp only [dig]
@[simp] theorem digs_nil : digs [] S = ([], S) := by simp only [digs]
@[simp] theorem digs_cons (x : PV) (xs : List PV) : digs (x :: xs) S = ((dig x S).1 :: (digs xs (dig x S).2).1, (digs xs (dig x S).2).2) := by simp only [digs]
@[simp] theorem digs_ints (ns : List Int) : digs (ns.map PV.int) S = (ns.map PV.int, S) := by
  induction ns with
  | nil => simp
  | cons x xs ih => simp [ih]
@[simp] theorem frz_int (i : Int) : frz (.int i) = .int i := by simp only [frz]
@[simp] theorem frz_bl (i : Bool) : frz (.bl i) = .bl i := by simp only [frz]
@[simp] theorem frz_non : frz .non = .non := by simp only [frz]
@[simp] theorem frz_str (i : Str) : frz (.str i) = .str i := by simp only [frz]
@[simp] theorem frz_ref (i : Nat) : frz (.ref i) = .ref i := by simp only [frz]
@[simp] theorem frz_tup (xs : List PV) : frz (.tup xs) = .tup (frzs xs) := by simp only [frz]
@[simp] theorem frzs_nil : frzs [] = [] := by simp only [frzs]
@[simp] theorem frzs_cons (x : PV) (xs : List PV) : frzs (x :: xs) = frz x :: frzs xs := by simp only [frzs]
@[simp] theorem frzs_ints (ns : List Int) : frzs (ns.map PV.int) = ns.map PV.int := by
  induction ns with
  | nil => rfl
  | cons x xs ih => simp [ih]
@[simp] theorem frz_new (xs : List PV) : frz (.lst .new xs) = .lst .frz (frzs xs) := by simp [frz]
@[simp] theorem op2_addI (i j : Int) : op2 .add (.int i) (.int j) S = some (.int (i + j)) := rfl
@[simp] theorem op2_subI (i j : Int) : op2 .sub (.int i) (.int j) S = some (.int (i - j)) := rfl
@[simp] theorem op2_lt (i j : Int) : op2 .lt (.int i) (.int j) S = some (.bl (decide (i < j))) := rfl
@[simp] theorem op2_le (i j : Int) : op2 .le (.int i) (.int j) S = some (.bl (decide (i ≤ j))) := rfl
@[simp] theorem op2_gt (i j : Int) : op2 .gt (.int i) (.int j) S = some (.bl (decide (j < i))) := rfl
@[simp] theorem op2_ge (i j : Int) : op2 .ge (.int i) (.int j) S = some (.bl (decide (j ≤ i))) := rfl
@[simp] theorem op2_eqI (i j : Int) : op2 .eq (.int i) (.int j) S = some (.bl (decide (i = j))) := rfl
@[simp] theorem op2_neI (i j : Int) : op2 .ne (.int i) (.int j) S = some (.bl (!decide (i = j))) := rfl
@[simp] theorem op2_eqB (i j : Bool) : op2 .eq (.bl i) (.bl j) S = some (.bl (i == j)) := rfl
@[simp] theorem op2_neB (i j : Bool) : op2 .ne (.bl i) (.bl j) S = some (.bl (!(i == j))) := rfl
@[simp] theorem op2_eqS (i j : Str) : op2 .eq (.str i) (.str j) S = some (.bl (i == j)) := rfl
@[simp] theorem op2_neS (i j : Str) : op2 .ne (.str i) (.str j) S = some (.bl (!(i == j))) := rfl
@[simp] theorem op2_isN (x : PV) : op2 .isN x .non S = some (.bl (isNon x)) := rfl
@[simp] theorem op2_notN (x : PV) : op2 .notN x .non S = some (.bl (!isNon x)) := rfl
theorem op2_mul {i j : Int} (h : i.natAbs < 2 ^ 64 ∨ j.natAbs < 2 ^ 64) : op2 .mul (.int i) (.int j) S = some (.int (i * j)) := by unfold op2; dsimp only; rw [if_pos h]
theorem op2_mulR {i j : Int} (h : j.natAbs < 2 ^ 64) : op2 .mul (.int i) (.int j) S = some (.int (i * j)) := op2_mul S (.inr h)
theorem op2_fdiv {i j : Int} (h : 0 < j ∧ j < 18446744073709551616) : op2 .fdiv (.int i) (.int j) S = some (.int (i / j)) := by unfold op2; dsimp only; rw [if_pos h]
theorem op2_mod {i j : Int} (h : 0 < j) : op2 .mod (.int i) (.int j) S = some (.int (i % j)) := by unfold op2; dsimp only; rw [if_pos h]
theorem op2_pow {i j : Int} (h : 0 ≤ j ∧ j ≤ 1000000 ∧ i.natAbs < 2 ^ 64) : op2 .pow (.int i) (.int j) S = some (.int (i ^ j.toNat)) := by unfold op2; dsimp only; rw [if_pos h]
theorem op2_addT {xs ys : List PV} (h : few (xs.length + ys.length) = true) : op2 .add (.tup xs) (.tup ys) S = some (.tup (xs ++ ys)) := by unfold op2; dsimp only; rw [if_pos h]
@[simp] theorem isNon_int (i : Int) : isNon (.int i) = false := rfl
@[simp] theorem isNon_bl (i : Bool) : isNon (.bl i) = false := rfl
@[simp] theorem isNon_str (i : Str) : isNon (.str i) = false := rfl
@[simp] theorem isNon_tup (i : List PV) : isNon (.tup i) = false := rfl
@[simp] theorem isNon_lst (k : Kd) (i : List PV) : isNon (.lst k i) = false := rfl
@[simp] theorem isNon_non : isNon .non = true := rfl
@[simp] theorem isTy_int (t : Ty) (i : Int) : isTy S t (.int i) = some (match t with | .int => true | _ => false) := rfl
@[simp] theorem isTy_bl (t : Ty) (i : Bool) : isTy S t (.bl i) = some (match t with | .bool => true | .int => true | _ => false) := rfl
@[simp] theorem isTy_non (t : Ty) : isTy S t .non = some false := rfl
@[simp] theorem isTy_str (t : Ty) (i : Str) : isTy S t (.str i) = some (match t with | .str => true | _ => false) := rfl
@[simp] theorem isTy_tup (t : Ty) (i : List PV) : isTy S t (.tup i) = some (match t with | .tuple => true | _ => false) := rfl
@[simp] theorem isTy_lst (t : Ty) (k : Kd) (i : List PV) : isTy S t (.lst k i) = some (match t with | .list => true | _ => false) := rfl
@[simp] theorem slP_tup (xs : List PV) (lo hi : Option Int) : slP (.tup xs) lo hi S = some (.tup (cutP xs lo hi)) := rfl
@[simp] theorem revP_tup (xs : List PV) : revP (.tup xs) S = some (.tup xs.reverse) := rfl
@[simp] theorem bi_listT (xs : List PV) : biP .list [.tup xs] S = some (.lst .new xs) := rfl
@[simp] theorem bi_tupleN (k : Kd) (xs : List PV) : biP .tuple [.lst k xs] S = some (.tup xs) := rfl
@[simp] theorem bi_lenT (xs : List PV) : biP .len [.tup xs] S = some (.int xs.length) := rfl
@[simp] theorem bi_lenL (k : Kd) (xs : List PV) : biP .len [.lst k xs] S = some (.int xs.length) := rfl
@[simp] theorem ixP_tup (xs : List PV) (k : Int) : ixP (.tup xs) (.int k) S = atI xs k := rfl
@[simp] theorem ixP_lst (q : Kd) (xs : List PV) (k : Int) : ixP (.lst q xs) (.int k) S = atI xs k := rfl
def lstO : Option PO → Option (List PV)
  | some (.lst xs) => some xs
  | _ => none
@[simp] theorem lstO_some (xs : List PV) : lstO (some (.lst xs)) = some xs := rfl
theorem lstOf_ref (l : Nat) : lstOf S (.ref l) = lstO S[l]? := by
  unfold lstOf lstO
  dsimp only
  all_goals (cases S[l]? with
    | none => rfl
    | some o => cases o <;> rfl)
theorem seqOf_ref (l : Nat) : seqOf S (.ref l) = lstO S[l]? := lstOf_ref S l
def ixO (o : Option PO) (i : PV) : Option PV := match o with
  | some (.lst xs) => (match i with
    | .int k => atI xs k
    | _ => none)
  | some (.dK kvs) => (match keyOf i with
    | some k => valP kvs k
    | none => none)
  | _ => none
@[simp] theorem ixO_lst (xs : List PV) (k : Int) : ixO (some (.lst xs)) (.int k) = atI xs k := rfl
@[simp] theorem ixO_dKi (kvs : List (Key × PV)) (k : Int) : ixO (some (.dK kvs)) (.int k) = valP kvs (Sum.inl k) := rfl
@[simp] theorem ixO_dKs (kvs : List (Key × PV)) (k : Str) : ixO (some (.dK kvs)) (.str k) = valP kvs (Sum.inr k) := rfl
theorem dK_ref (l : Nat) : dK_of S (.ref l) = (match S[l]? with
    | some (.dK kvs) => some kvs
    | _ => none) := rfl
@[simp] theorem ixP_ref' (l : Nat) (i : PV) : ixP (.ref l) i S = ixO S[l]? i := by
  unfold ixP
  rw [seqOf_ref, dK_ref]
  cases S[l]? with
  | none => rfl
  | some o =>
    cases o with
    | dK kvs =>
      show (match some kvs, keyOf i with
        | some kvs, some k => valP kvs k
        | _, _ => none) = (match keyOf i with
        | some k => valP kvs k
        | none => none)
      cases keyOf i <;> rfl
    | _ => rfl
@[simp] theorem bi_lenR (l : Nat) : biP .len [.ref l] S = (lstO S[l]?).map fun xs => .int xs.length := by
  unfold biP
  dsimp only
  rw [seqOf_ref]
@[simp] theorem bi_listR (l : Nat) : biP .list [.ref l] S = (lstO S[l]?).map fun xs => .lst .new xs := by
  unfold biP
  dsimp only
  rw [seqOf_ref]
@[simp] theorem bi_tupleR (l : Nat) : biP .tuple [.ref l] S = (lstO S[l]?).map .tup := by
  unfold biP
  dsimp only
  rw [seqOf_ref]
def setO (o : Option PO) (l : Nat) (i v : PV) (S : Store) : Option Store := match o with
    | some (.lst xs) => (match i with
      | .int k => match ixN xs.length k with
        | some j => some (S.set l (.lst (xs.set j v)))
        | none => none
      | _ => none)
    | some (.dK kvs) => (match keyOf i with
      | some k => if few kvs.length then some (S.set l (.dK (putP kvs k v))) else none
      | none => none)
    | _ => none
@[simp] theorem setP_ref' (l : Nat) (i v : PV) : setP (.ref l) i v S = setO S[l]? l i v S := rfl
@[simp] theorem setO_lst (xs : List PV) (l : Nat) (k : Int) (v : PV) : setO (some (.lst xs)) l (.int k) v S = (ixN xs.length k).map fun j => S.set l (.lst (xs.set j v)) := by
  unfold setO
  dsimp only
  cases ixN xs.length k <;> rfl
theorem setO_dKi {kvs : List (Key × PV)} (l : Nat) (k : Int) (v : PV) (h : few kvs.length = true) : setO (some (.dK kvs)) l (.int k) v S = some (S.set l (.dK (putP kvs (Sum.inl k) v))) := by
  show (if few kvs.length then some (S.set l (.dK (putP kvs (Sum.inl k) v))) else none) = _
  rw [if_pos h]
@[simp] theorem seqI_ref' (l : Nat) : seqI (.ref l) S = ofO ((lstO S[l]?).map fun xs => (xs, some l)) S := by
  unfold seqI lstO
  dsimp only
  cases S[l]? with
  | none => rfl
  | some o => cases o <;> rfl
@[simp] theorem ixN_0 (n : Nat) : ixN (n + 1) 0 = some 0 := by unfold ixN; rw [if_pos (by omega), if_pos (by omega)]; rfl
@[simp] theorem ixN_1 (n : Nat) : ixN (n + 2) 1 = some 1 := by unfold ixN; rw [if_pos (by omega), if_pos (by omega)]; rfl
@[simp] theorem ixN_2 (n : Nat) : ixN (n + 3) 2 = some 2 := by unfold ixN; rw [if_pos (by omega), if_pos (by omega)]; rfl
@[simp] theorem ixN_3 (n : Nat) : ixN (n + 4) 3 = some 3 := by unfold ixN; rw [if_pos (by omega), if_pos (by omega)]; rfl
@[simp] theorem ixN_4 (n : Nat) : ixN (n + 5) 4 = some 4 := by unfold ixN; rw [if_pos (by omega), if_pos (by omega)]; rfl
@[simp] theorem atI_0 {α : Type} (a : α) (xs : List α) : atI (a :: xs) 0 = some a := by simp [atI]
@[simp] theorem atI_1 {α : Type} (a b : α) (xs : List α) : atI (a :: b :: xs) 1 = some b := by simp [atI]
@[simp] theorem atI_2 {α : Type} (a b c : α) (xs : List α) : atI (a :: b :: c :: xs) 2 = some c := by simp [atI]
@[simp] theorem atI_3 {α : Type} (a b c d : α) (xs : List α) : atI (a :: b :: c :: d :: xs) 3 = some d := by simp [atI]
@[simp] theorem atI_4 {α : Type} (a b c d e : α) (xs : List α) : atI (a :: b :: c :: d :: e :: xs) 4 = some e := by simp [atI]
theorem ixN_nat {n : Nat} {k : Int} (h0 : 0 ≤ k) (h1 : k < n) : ixN n k = some k.toNat := by unfold ixN; rw [if_pos h0, if_pos h1]
theorem atI_nat {α : Type} {xs : List α} {k : Int} (h0 : 0 ≤ k) (h1 : k < xs.length) : atI xs k = some (xs[k.toNat]'(by omega)) := by
  unfold atI
  rw [ixN_nat h0 h1]
  simp
theorem lend_int (n : Nat) (i : Int) : lend S n (.int i) = some (.int i) := by cases n <;> simp only [lend]
theorem lend_bl (n : Nat) (i : Bool) : lend S n (.bl i) = some (.bl i) := by cases n <;> simp only [lend]
theorem lend_non (n : Nat) : lend S n .non = some .non := by cases n <;> simp only [lend]
theorem lend_str (n : Nat) (i : Str) : lend S n (.str i) = some (.str i) := by cases n <;> simp only [lend]
theorem lend_tup (n : Nat) (xs : List PV) : lend S (n + 1) (.tup xs) = (mapO (lend S n) xs).map .tup := by simp only [lend]
theorem lend_new (n : Nat) (xs : List PV) : lend S (n + 1) (.lst .new xs) = (mapO (lend S n) xs).map (.lst .bor) := by simp only [lend]
theorem lend_bor (n : Nat) (xs : List PV) : lend S (n + 1) (.lst .bor xs) = (mapO (lend S n) xs).map (.lst .bor) := by simp only [lend]
theorem lend_frz (n : Nat) (xs : List PV) : lend S (n + 1) (.lst .frz xs) = (mapO (lend S n) xs).map (.lst .bor) := by simp only [lend]
theorem lend_scr (n : Nat) (xs : List PV) : lend S (n + 1) (.lst .scr xs) = (mapO (lend S n) xs).map (.lst .scr) := by simp only [lend]
def lendO (S : Store) (n : Nat) (o : Option PO) : Option PV := match o with
    | some (.lst xs) => (mapO (lend S n) xs).map (.lst .bor)
    | some (.dK kvs) => (mapO (lend S n) (kvs.map (·.2))).map (.dK .bor (kvs.map (·.1)))
    | some (.dT kvs) => (mapO (lend S n) (kvs.map (·.2))).map (.dT .bor (kvs.map (·.1)))
    | _ => none
@[simp] theorem lendO_lst (n : Nat) (xs : List PV) : lendO S n (some (.lst xs)) = (mapO (lend S n) xs).map (.lst .bor) := rfl
theorem lend_ref (n l : Nat) : lend S (n + 1) (.ref l) = lendO S n S[l]? := by
  conv => lhs; unfold lend
  rfl
@[simp] theorem mapO_nil {α β : Type} (f : α → Option β) : mapO f [] = some [] := rfl
@[simp] theorem mapO_consE {α β : Type} (f : α → Option β) (x : α) (xs : List α) : mapO f (x :: xs) = (f x).bind fun y => (mapO f xs).map (y :: ·) := by
  conv => lhs; unfold mapO
  cases f x <;> cases mapO f xs <;> rfl
theorem mapO_of {α β : Type} {f : α → Option β} {g : α → β} : ∀ {xs : List α}, (∀ x, x ∈ xs → f x = some (g x)) → mapO f xs = some (xs.map g)
  | [], _ => rfl
  | x :: xs, h => by rw [mapO_consE, h x List.mem_cons_self, mapO_of fun y hy => h y (List.mem_cons_of_mem _ hy)]; rfl
@[simp] theorem lend_ints (n : Nat) (ns : List Int) : mapO (lend S n) (ns.map .int) = some (ns.map .int) := by
  rw [mapO_of (g := id)]
  · simp
  · intro x hx
    obtain ⟨i, _, rfl⟩ := List.mem_map.mp hx
    exact lend_int S n i
@[simp] theorem cleans_ints (ns : List Int) : cleans (ns.map .int) = true := by
  induction ns with
  | nil => rfl
  | cons x xs ih => simp [cleans, clean, ih]
def giveP (r : PV) (S' S : Store) : Res PV := match give S' r with
      | some (r', _) => .ok r' S
      | none => .fail
def endP (r : Res PV) (S : Store) : Res PV := match r with
    | .ok r S' => giveP r S' S
    | .exc c p _ => (match p with
      | none => .exc c none S
      | some p => if clean p then .exc c (some p) S else .fail)
    | .fail => .fail
def callO (ce : Call) (f : Nat) (o : Option (List PV)) (S : Store) : Res PV := match o with
  | none => .fail
  | some args => endP (ce f args []) S
theorem callP_eq (ce : Call) (f : Nat) (vs : List PV) (S : Store) : callP ce f vs S = callO ce f (mapO (lend S 9) vs) S := rfl
@[simp] theorem callO_some (ce : Call) (f : Nat) (vs : List PV) : callO ce f (some vs) S = endP (ce f vs []) S := rfl
@[simp] theorem endP_ok (r : PV) (S' : Store) : endP (.ok r S') S = giveP r S' S := rfl
@[simp] theorem endP_exc (c : Nat) (S' : Store) : endP (.exc c none S') S = .exc c none S := rfl
@[simp] theorem giveP_int (S' : Store) (i : Int) : giveP (.int i) S' S = .ok (.int i) S := rfl
@[simp] theorem giveP_bl (S' : Store) (i : Bool) : giveP (.bl i) S' S = .ok (.bl i) S := rfl
@[simp] theorem giveP_str (S' : Store) (i : Str) : giveP (.str i) S' S = .ok (.str i) S := rfl
@[simp] theorem giveP_non (S' : Store) : giveP .non S' S = .ok .non S := rfl
theorem giveP_tup {S' : Store} {xs : List PV} (h : cleans xs = true) : giveP (.tup xs) S' S = .ok (.tup xs) S := by unfold giveP give; dsimp only; rw [if_pos h]
theorem giveP_lst {S' : Store} {k : Kd} {xs : List PV} (h : clean (.lst k xs) = true) : giveP (.lst k xs) S' S = .ok (.lst k xs) S := by unfold giveP give; dsimp only; rw [if_pos h]
theorem giveP_ref {S' : Store} {l : Nat} {xs : List PV} (h1 : S'[l]? = some (.lst xs)) (h : cleans xs = true) : giveP (.ref l) S' S = .ok (.lst .new xs) S := by unfold giveP give; dsimp only; rw [h1]; dsimp only; rw [if_pos h]
@[simp] theorem callF_eq (ce : Call) (f : Nat) (vs : List PV) : callF ce f vs S = ce f (adopts vs S).1 (adopts vs S).2 := rfl
theorem cutP_ints (ns : List Int) (lo hi : Option Int) : ∃ ms : List Int, cutP (ns.map .int) lo hi = ms.map .int ∧ ms.length ≤ ns.length := by
  unfold cutP
  simp only [List.length_map]
  rw [← List.map_drop, ← List.map_take]
  exact ⟨_, rfl, by simp only [List.length_take, List.length_drop]; omega⟩
@[simp] theorem slP_lst (k : Kd) (xs : List PV) (lo hi : Option Int) : slP (.lst k xs) lo hi S = some (.lst .new (cutP xs lo hi)) := by cases k <;> rfl
@[simp] theorem slP_ref (l : Nat) (lo hi : Option Int) : slP (.ref l) lo hi S = (lstO S[l]?).map fun xs => .lst .new (cutP xs lo hi) := by
  unfold slP
  dsimp only
  rw [lstOf_ref]
  cases lstO S[l]? <;> rfl
@[simp] theorem bi_listN (k : Kd) (xs : List PV) : biP .list [.lst k xs] S = some (.lst .new xs) := by cases k <;> rfl
theorem dat_int (n : Nat) (i : Int) : dat S n (.int i) = some (.int i) := by cases n <;> simp only [dat]
theorem dat_bl (n : Nat) (i : Bool) : dat S n (.bl i) = some (.bool i) := by cases n <;> simp only [dat]
theorem dat_non (n : Nat) : dat S n .non = some .none := by cases n <;> simp only [dat]
theorem dat_tup (n : Nat) (xs : List PV) : dat S (n + 1) (.tup xs) = (mapO (dat S n) xs).map .tuple := by simp only [dat]
theorem dat_lst (n : Nat) (k : Kd) (xs : List PV) : dat S (n + 1) (.lst k xs) = (mapO (dat S n) xs).map .list := by simp only [dat]
@[simp] theorem dat_ints (n : Nat) (ns : List Int) : mapO (dat S n) (ns.map .int) = some (ns.map .int) := by
  induction ns with
  | nil => rfl
  | cons x xs ih => rw [List.map_cons, mapO_consE, dat_int, ih]; rfl
@[simp] theorem eqv_ints : ∀ a b : List Int, PyData.eqvAll (a.map .int) (b.map .int) = decide (a = b)
  | [], [] => rfl
  | [], y :: ys => by simp [PyData.eqvAll]
  | x :: xs, [] => by simp [PyData.eqvAll]
  | x :: xs, y :: ys => by
    simp only [List.map_cons, PyData.eqvAll, PyData.eqv, eqv_ints xs ys, List.cons.injEq, Bool.decide_and]
    rfl
@[simp] theorem eqL_ints (k k' : Kd) (a b : List Int) : op2 .eq (.lst k (a.map .int)) (.lst k' (b.map .int)) S = some (.bl (decide (a = b))) := by
  show (eqP S (.lst k (a.map .int)) (.lst k' (b.map .int))).map PV.bl = _
  unfold eqP
  rw [if_neg (by simp [isFlat])]
  simp [dat_lst, PyData.eqv]
@[simp] theorem eqT_ints (a b : List Int) : op2 .eq (.tup (a.map .int)) (.tup (b.map .int)) S = some (.bl (decide (a = b))) := by
  show (eqP S (.tup (a.map .int)) (.tup (b.map .int))).map PV.bl = _
  unfold eqP
  rw [if_neg (by simp [isFlat])]
  simp [dat_tup, PyData.eqv]
theorem flat_ints (ns : List Int) : (ns.map PV.int).all isFlat = true := by
  induction ns with
  | nil => rfl
  | cons x xs ih => simp [isFlat]
theorem any_ints (i : Int) (ns : List Int) : ((ns.map PV.int).any fun y => eqF y (.int i)) = decide (i ∈ ns) := by
  induction ns with
  | nil => rfl
  | cons x xs ih =>
    rw [List.map_cons, List.any_cons, ih]
    have : eqF (.int x) (.int i) = decide (x = i) := rfl
    rw [this]
    by_cases c : x = i
    · simp [c]
    · have c' : ¬ i = x := fun z => c z.symm
      simp [c, c']
@[simp] theorem isin_tup (i : Int) (ns : List Int) : op2 .isin (.int i) (.tup (ns.map .int)) S = some (.bl (decide (i ∈ ns))) := by
  show (inP S (.int i) (.tup (ns.map .int))).map PV.bl = _
  unfold inP seqOf
  dsimp only
  rw [if_pos (by rw [flat_ints]; rfl), any_ints]
  rfl
@[simp] theorem isin_lst (i : Int) (k : Kd) (ns : List Int) : op2 .isin (.int i) (.lst k (ns.map .int)) S = some (.bl (decide (i ∈ ns))) := by
  show (inP S (.int i) (.lst k (ns.map .int))).map PV.bl = _
  have e : seqOf S (.lst k (ns.map .int)) = some (ns.map .int) := by cases k <;> rfl
  unfold inP
  rw [e]
  dsimp only
  rw [if_pos (by rw [flat_ints]; rfl), any_ints]
  rfl
theorem op2_notin (i : Int) (ns : List Int) : op2 .notin (.int i) (.tup (ns.map .int)) S = some (.bl (!decide (i ∈ ns))) := by
  show (inP S (.int i) (.tup (ns.map .int))).map (fun k => PV.bl (!k)) = _
  unfold inP seqOf
  dsimp only
  rw [if_pos (by rw [flat_ints]; rfl), any_ints]
  rfl
theorem comp_use {ce : Cl} {ρ : Ev.Loc} {own : List (Str × Nat)} {tg : Tg} {cs : Es} {e : E} {p : List PV × Option Nat} {S : Store} {r : Res PV} (hr : compR ce ρ own tg cs e p S = r) (I : List PV → List PV → Store → Prop) (hf : few p.1.length = true) (st : I p.1 [] S)
    (step : ∀ x r acc S, I (x :: r) acc S → Gd p.2 p.1 S ∧ ∃ o S', compB ce ρ own tg cs e x S = .ok o S' ∧ I r (acc ++ o.toList) S')
    (done : ∀ acc S, I [] acc S → Gd p.2 p.1 S) : ∃ ys S', r = .ok (.lst .new ys) S' ∧ I [] ys S' := by
  obtain ⟨ys, S', e, i⟩ := compL_rule I step done p.1 [] S st
  refine ⟨ys, S', ?_, i⟩
  rw [← hr]
  unfold compR
  rw [if_pos hf, e]
  rfl
theorem for_use {body : Ev.Loc → Store → FR} {tg : Tg} {g : Option Nat} {all xs : List PV} {ρ : Ev.Loc} {S : Store} {r : FR} (hr : forL body tg g all xs ρ S = r) (I : List PV → Ev.Loc → Store → Prop) (Q : FR → Prop) (st : I xs ρ S)
    (step : ∀ x r ρ S, I (x :: r) ρ S → Gd g all S ∧ ∃ ρ', bindT tg x ρ = some ρ' ∧ (match body ρ' S with
      | .next ρ'' S'' => I r ρ'' S''
      | .brk ρ'' S'' => Q (.next ρ'' S'')
      | q => Q q))
    (done : ∀ ρ S, I [] ρ S → Gd g all S ∧ Q (.next ρ S)) : Q r := hr ▸ forL_rule I Q step done xs ρ S st
@[simp] theorem pr1_intB (b : Bool) : pr1 .intB (.bl b) S = some (.int (if b then 1 else 0), S) := rfl
@[simp] theorem intsOf_map (ns : List Int) : intsOf (ns.map .int) = some ns := by
  induction ns with
  | nil => rfl
  | cons x xs ih => simp [intsOf, ih]
theorem pr1_ascT {ns : List Int} (h : ns.length < 64) : pr1 .asc (.tup (ns.map .int)) S = some (.lst .new ((ascOf ns).map .int), S) := by
  unfold pr1 seqOf
  dsimp only
  rw [intsOf_map]
  dsimp only
  rw [if_pos (by omega)]
theorem pr1_ascL' {k : Kd} {ns : List Int} (h : ns.length ≤ 1000) : pr1 .asc (.lst k (ns.map .int)) S = some (.lst .new ((ascOf ns).map .int), S) := by
  have e : seqOf S (.lst k (ns.map .int)) = some (ns.map .int) := by cases k <;> rfl
  unfold pr1
  dsimp only
  rw [e]
  dsimp only
  rw [intsOf_map]
  dsimp only
  rw [if_pos h]
theorem pr1_ascL {k : Kd} {ns : List Int} (h : ns.length < 64) : pr1 .asc (.lst k (ns.map .int)) S = some (.lst .new ((ascOf ns).map .int), S) := pr1_ascL' S (by omega)
@[simp] theorem refL_ref (l : Nat) : refL S (.ref l) = (lstO S[l]?).isSome := by
  unfold refL lstO
  dsimp only
  cases S[l]? with
  | none => rfl
  | some o => cases o <;> rfl
@[simp] theorem ob2_app (x : PV) : ob2 .append x S = refL S x := rfl
@[simp] theorem ob2_pop (x : PV) : ob2 .popAt x S = refL S x := rfl
theorem pr2_app {l : Nat} {xs : List PV} {v : PV} (h : S[l]? = some (.lst xs)) (hf : few xs.length = true) : pr2 .append (.ref l) v S = some (.non, S.set l (.lst (xs ++ [frz v]))) := by
  show (match S[l]? with
      | some (.lst xs) => if few xs.length then some (PV.non, S.set l (.lst (xs ++ [frz v]))) else none
      | _ => none) = _
  rw [h]
  dsimp only
  rw [if_pos hf]
theorem pr2_pop {l : Nat} {xs : List PV} {i : Int} (h : S[l]? = some (.lst xs)) (hf : few xs.length = true) (h0 : 0 ≤ i) (h1 : i < xs.length) : pr2 .popAt (.ref l) (.int i) S = some (xs[i.toNat]'(by omega), S.set l (.lst (xs.eraseIdx i.toNat))) := by
  show (match S[l]? with
      | some (.lst xs) => if few xs.length then match ixN xs.length i with
        | some j => (xs[j]?).map fun v => (v, S.set l (.lst (xs.eraseIdx j)))
        | none => none
        else none
      | _ => none) = _
  rw [h]
  dsimp only
  rw [if_pos hf, ixN_nat h0 h1]
  dsimp only
  rw [List.getElem?_eq_getElem (by omega)]
  rfl
@[simp] theorem Gd_none (all : List PV) : Gd none all S := trivial
@[simp] theorem bindT_name (i : Nat) (x : PV) (ρ : Ev.Loc) : bindT (.name i) x ρ = some (ρ.set i (some x)) := rfl
end
end Ev
end
set_option Elab.async false
set_option linter.all false
set_option maxRecDepth 100000
/-! PlW: what an outcome must meet; the draw; loops. -/
noncomputable section
namespace Ev
open PySem L2
def Res.satP {α : Type} (r : Res α) (P : α → Store → Prop) : Prop := match r with
  | .ok a S => P a S
  | _ => False
/-- a structure, so that nothing looks within -/
structure Res.sat {α : Type} (r : Res α) (P : α → Store → Prop) : Prop where
  out : r.satP P
section
variable {α β : Type} {P : α → Store → Prop}
@[simp] theorem sat_ok (a : α) (S : Store) : (Res.ok a S).sat P ↔ P a S := ⟨fun h => h.out, fun h => ⟨h⟩⟩
@[simp] theorem sat_exc (c : Nat) (p : Option PV) (S : Store) : (Res.exc c p S : Res α).sat P ↔ False := ⟨fun h => h.out, fun h => ⟨h⟩⟩
@[simp] theorem sat_fail : (Res.fail : Res α).sat P ↔ False := ⟨fun h => h.out, fun h => ⟨h⟩⟩
@[simp] theorem sat_bind (r : Res β) (f : β → Store → Res α) : (r.bind f).sat P ↔ r.sat fun a S => (f a S).sat P := by cases r <;> simp
@[simp] theorem sat_ite (c : Prop) [Decidable c] (A B : Res α) : (if c then A else B).sat P ↔ (c → A.sat P) ∧ (¬ c → B.sat P) := by
  by_cases h : c <;> simp [h]
theorem sat_ex (r : Res α) : r.sat P ↔ ∃ a S, r = .ok a S ∧ P a S := by
  cases r with
  | ok a S => exact ⟨fun h => ⟨a, S, rfl, h.out⟩, fun ⟨a', S', e, h⟩ => by cases e; exact ⟨h⟩⟩
  | exc _ _ _ => exact ⟨fun h => h.out.elim, fun ⟨_, _, e, _⟩ => by cases e⟩
  | fail => exact ⟨fun h => h.out.elim, fun ⟨_, _, e, _⟩ => by cases e⟩
theorem Res.sat.mono {P' : α → Store → Prop} {r : Res α} (h : r.sat P) (k : ∀ a S, P a S → P' a S) : r.sat P' := by cases r <;> first | exact ⟨k _ _ h.out⟩ | exact h.out.elim
theorem ofO_sat {o : Option α} {S : Store} : (ofO o S).sat P ↔ ∃ v, o = some v ∧ P v S := by cases o <;> simp
end
def FR.satP (r : FR) (N : Ev.Loc → Store → Prop) (R : PV → Store → Prop) (B : Ev.Loc → Store → Prop) : Prop := match r with
  | .next ρ S => N ρ S
  | .ret v S => R v S
  | .brk ρ S => B ρ S
  | _ => False
structure FR.sat (r : FR) (N : Ev.Loc → Store → Prop) (R : PV → Store → Prop) (B : Ev.Loc → Store → Prop) : Prop where
  out : r.satP N R B
section
variable {N : Ev.Loc → Store → Prop} {R : PV → Store → Prop} {B : Ev.Loc → Store → Prop}
@[simp] theorem fr_next (ρ : Ev.Loc) (S : Store) : (FR.next ρ S).sat N R B ↔ N ρ S := ⟨fun h => h.out, fun h => ⟨h⟩⟩
@[simp] theorem fr_ret (v : PV) (S : Store) : (FR.ret v S).sat N R B ↔ R v S := ⟨fun h => h.out, fun h => ⟨h⟩⟩
@[simp] theorem fr_brk (ρ : Ev.Loc) (S : Store) : (FR.brk ρ S).sat N R B ↔ B ρ S := ⟨fun h => h.out, fun h => ⟨h⟩⟩
@[simp] theorem fr_exc (c : Nat) (p : Option PV) (ρ : Ev.Loc) (S : Store) : (FR.exc c p ρ S).sat N R B ↔ False := ⟨fun h => h.out, fun h => ⟨h⟩⟩
@[simp] theorem fr_fail : FR.fail.sat N R B ↔ False := ⟨fun h => h.out, fun h => ⟨h⟩⟩
@[simp] theorem fr_then (r : FR) (f : Ev.Loc → Store → FR) : (r.then f).sat N R B ↔ r.sat (fun ρ S => (f ρ S).sat N R B) R B := by cases r <;> simp
@[simp] theorem fr_onE {α : Type} (r : Res α) (ρ : Ev.Loc) (f : α → Store → FR) : (onE r ρ f).sat N R B ↔ r.sat fun a S => (f a S).sat N R B := by cases r <;> simp
@[simp] theorem fr_ite (c : Prop) [Decidable c] (a b : FR) : (if c then a else b).sat N R B ↔ (c → a.sat N R B) ∧ (¬ c → b.sat N R B) := by
  by_cases h : c <;> simp [h]
@[simp] theorem sat_fin (r : FR) (P : PV → Store → Prop) : (fin r).sat P ↔ r.sat (fun _ S => P .non S) P (fun _ _ => False) := by
  cases r <;> first | (simp; done) | exact ⟨fun h => (h.out : False).elim, fun h => (h.out : False).elim⟩
theorem FR.sat.mono {r : FR} {N' : Ev.Loc → Store → Prop} {R' : PV → Store → Prop} {B' : Ev.Loc → Store → Prop} (h : r.sat N R B) (k1 : ∀ ρ S, N ρ S → N' ρ S) (k2 : ∀ v S, R v S → R' v S) (k3 : ∀ ρ S, B ρ S → B' ρ S) : r.sat N' R' B' := by
  cases r <;> first | exact ⟨k1 _ _ h.out⟩ | exact ⟨k2 _ _ h.out⟩ | exact ⟨k3 _ _ h.out⟩ | exact h.out.elim
/-- a def's outcome -/
theorem runF_sat {ce : Cl} {n : Nat} {b : T} {args : List PV} {S : Store} {P : PV → Store → Prop} (h : (evT ce b (args.map some ++ List.replicate (n - args.length) none) S).sat (fun _ S => P .non S) P (fun _ _ => False)) : (runF ce n b args S).sat P := by
  rw [runF_eq, sat_fin]
  exact h
/-- one statement, then the rest -/
theorem seq_sat {ce : Cl} {a b : T} {ρ : Ev.Loc} {S : Store} (h : (evT ce a ρ S).sat (fun ρ S => (evT ce b ρ S).sat N R B) R B) : (evT ce (.seq a b) ρ S).sat N R B := by
  rw [evT_seq, fr_then]
  exact h
theorem skip_sat {ce : Cl} {ρ : Ev.Loc} {S : Store} (h : N ρ S) : (evT ce .skip ρ S).sat N R B := by
  rw [evT_skip]
  exact ⟨h⟩
/-! loops -/
theorem for_sat {body : Ev.Loc → Store → FR} {tg : Tg} {g : Option Nat} {all : List PV} (I : List PV → Ev.Loc → Store → Prop)
    (step : ∀ x r ρ S, I (x :: r) ρ S → Gd g all S ∧ ∃ ρ', bindT tg x ρ = some ρ' ∧ ∀ K : Ev.Loc → Store → Prop, (∀ ρ S, I r ρ S → K ρ S) → (body ρ' S).sat K R N)
    (done : ∀ ρ S, I [] ρ S → Gd g all S ∧ N ρ S) : ∀ {xs : List PV} {ρ : Ev.Loc} {S : Store}, I xs ρ S → (forL body tg g all xs ρ S).sat N R B
  | [], ρ, S, h => by
    obtain ⟨a, b⟩ := done ρ S h
    unfold forL
    rw [if_pos a]
    exact ⟨b⟩
  | x :: r, ρ, S, h => by
    obtain ⟨a, ρ', e, c⟩ := step x r ρ S h
    have c := c (I r) fun _ _ h => h
    unfold forL
    rw [if_pos a, e]
    dsimp only
    cases q : body ρ' S with
    | next ρ2 S2 => rw [q] at c; exact for_sat I step done (by simpa using c)
    | brk ρ2 S2 => rw [q] at c; simpa using c
    | ret v S2 => rw [q] at c; simpa using c
    | exc _ _ _ _ => rw [q] at c; simpa using c
    | fail => rw [q] at c; simpa using c
theorem for_cons {body : Ev.Loc → Store → FR} {tg : Tg} {g : Option Nat} {all : List PV} {x : PV} {r : List PV} {ρ ρ' : Ev.Loc} {S : Store} (a : Gd g all S) (e : bindT tg x ρ = some ρ') (h : (body ρ' S).sat (fun ρ S => (forL body tg g all r ρ S).sat N R B) R N) : (forL body tg g all (x :: r) ρ S).sat N R B := by
  unfold forL
  rw [if_pos a, e]
  dsimp only
  cases q : body ρ' S with
  | next ρ2 S2 => rw [q] at h; exact h.out
  | brk ρ2 S2 => rw [q] at h; exact ⟨h.out⟩
  | ret v S2 => rw [q] at h; exact ⟨h.out⟩
  | exc _ _ _ _ => rw [q] at h; exact h.out.elim
  | fail => rw [q] at h; exact h.out.elim
theorem for_nil {body : Ev.Loc → Store → FR} {tg : Tg} {g : Option Nat} {all : List PV} {ρ : Ev.Loc} {S : Store} (a : Gd g all S) (h : N ρ S) : (forL body tg g all [] ρ S).sat N R B := by
  unfold forL
  rw [if_pos a]
  exact ⟨h⟩
/-- over things told by their number -/
theorem for_ix {body : Ev.Loc → Store → FR} {tg : Tg} {all : List PV} (n : Nat) (f : Nat → PV) (I : Nat → Ev.Loc → Store → Prop) {ρ : Ev.Loc} {S : Store} (st : I 0 ρ S)
    (step : ∀ i ρ S, i < n → I i ρ S → ∃ ρ', bindT tg (f i) ρ = some ρ' ∧ ∀ K : Ev.Loc → Store → Prop, (∀ ρ S, I (i + 1) ρ S → K ρ S) → (body ρ' S).sat K R N)
    (done : ∀ ρ S, I n ρ S → N ρ S) : (forL body tg none all ((List.range n).map f) ρ S).sat N R B := by
  refine for_sat (fun xs ρ S => ∃ i, i ≤ n ∧ xs = ((List.range n).map f).drop i ∧ I i ρ S) ?_ ?_ ⟨0, Nat.zero_le _, rfl, st⟩
  · rintro x r ρ S ⟨i, hi, e, h⟩
    have hlt : i < n := by
      have := congrArg List.length e
      simp at this
      omega
    rw [List.drop_eq_getElem_cons (by simpa using hlt), List.getElem_map, List.getElem_range] at e
    obtain ⟨rfl, rfl⟩ := List.cons.inj e
    obtain ⟨ρ', e1, e2⟩ := step i ρ S hlt h
    exact ⟨trivial, ρ', e1, fun K hK => e2 K fun ρ S q => hK ρ S ⟨i + 1, hlt, rfl, q⟩⟩
  · rintro ρ S ⟨i, hi, e, h⟩
    have : i = n := by
      have := congrArg List.length e
      simp at this
      omega
    subst this
    exact ⟨trivial, done ρ S h⟩
/-- for i in range(n) -/
theorem for_range {body : Ev.Loc → Store → FR} {k : Nat} {all : List PV} (n : Nat) (I : Nat → Ev.Loc → Store → Prop) {ρ : Ev.Loc} {S : Store} (st : I 0 ρ S)
    (step : ∀ i ρ S, i < n → I i ρ S → ∀ K : Ev.Loc → Store → Prop, (∀ ρ S, I (i + 1) ρ S → K ρ S) → (body (ρ.set k (some (.int i))) S).sat K R N)
    (done : ∀ ρ S, I n ρ S → N ρ S) : (forL body (.name k) none all ((List.range n).map fun (k : Nat) => .int (k : Int)) ρ S).sat N R B :=
  for_ix n _ I st (fun i ρ S h q => ⟨_, rfl, step i ρ S h q⟩) done
theorem while_sat {ce : Cl} {c : E} {b : T} (I : Nat → Ev.Loc → Store → Prop) (step : ∀ m ρ S, I m ρ S → (evE ce c ρ S).sat fun v S => (v = .bl false ∧ N ρ S) ∨ (v = .bl true ∧ ∀ K : Ev.Loc → Store → Prop, (∀ m' ρ S, m' < m → I m' ρ S → K ρ S) → (evT ce b ρ S).sat K R N)) :
    ∀ {n m : Nat} {ρ : Ev.Loc} {S : Store}, m < n → I m ρ S → (whileL (evE ce c) (evT ce b) n ρ S).sat N R B
  | 0, _, _, _, h, _ => absurd h (Nat.not_lt_zero _)
  | n + 1, m, ρ, S, h, i => by
    have q := step m ρ S i
    unfold whileL
    rw [fr_onE]
    refine q.mono fun v S2 q => ?_
    rcases q with ⟨rfl, q⟩ | ⟨rfl, q⟩
    · exact ⟨q⟩
    · dsimp only
      have q := q (fun ρ S => ∃ m', m' < m ∧ I m' ρ S) fun m' _ _ h1 h2 => ⟨m', h1, h2⟩
      cases e : evT ce b ρ S2 with
      | next ρ2 S3 =>
        rw [e] at q
        obtain ⟨m', h1, h2⟩ := q.out
        exact while_sat I step (by omega) h2
      | brk ρ2 S2 => rw [e] at q; simpa using q
      | ret v S2 => rw [e] at q; simpa using q
      | exc _ _ _ _ => rw [e] at q; simpa using q
      | fail => rw [e] at q; simpa using q
end
/-! comprehensions -/
theorem comp_sat {ce : Cl} {ρ : Ev.Loc} {own : List (Str × Nat)} {tg : Tg} {cs : Es} {e : E} {p : List PV × Option Nat} {S : Store} {P : PV → Store → Prop} (I : List PV → List PV → Store → Prop) (hf : few p.1.length = true) (st : I p.1 [] S)
    (step : ∀ x r acc S, I (x :: r) acc S → Gd p.2 p.1 S ∧ ∀ K : Option PV → Store → Prop, (∀ o S', I r (acc ++ o.toList) S' → K o S') → (compB ce ρ own tg cs e x S).sat K)
    (done : ∀ acc S, I [] acc S → Gd p.2 p.1 S ∧ P (.lst .new acc) S) : (compR ce ρ own tg cs e p S).sat P := by
  obtain ⟨ys, S', e, i⟩ := comp_use (r := compR ce ρ own tg cs e p S) rfl I hf st (fun x r acc S h => ⟨(step x r acc S h).1, by
    obtain ⟨o, S', e, q⟩ := (sat_ex _).mp ((step x r acc S h).2 _ fun _ _ h => h)
    exact ⟨o, S', e, q⟩⟩) fun acc S h => (done acc S h).1
  rw [e]
  exact ⟨(done ys S' i).2⟩
theorem comp_range {ce : Cl} {ρ : Ev.Loc} {own : List (Str × Nat)} {k : Nat} {cs : Es} {e : E} {S : Store} {P : PV → Store → Prop} (n : Nat) (hn : few n = true) (I : Nat → List PV → Store → Prop) (st : I 0 [] S)
    (step : ∀ i acc S, i < n → I i acc S → ∀ K : Option PV → Store → Prop, (∀ o S', I (i + 1) (acc ++ o.toList) S' → K o S') → (compB ce ρ own (.name k) cs e (.int (i : Int)) S).sat K)
    (done : ∀ acc S, I n acc S → P (.lst .new acc) S) : (compR ce ρ own (.name k) cs e ((List.range n).map (fun (k : Nat) => .int (k : Int)), none) S).sat P := by
  refine comp_sat (fun xs acc S => ∃ i, i ≤ n ∧ xs = ((List.range n).map fun (k : Nat) => PV.int (k : Int)).drop i ∧ I i acc S) (by rw [List.length_map, List.length_range]; exact hn) ⟨0, Nat.zero_le _, rfl, st⟩ ?_ ?_
  · rintro x r acc S ⟨i, hi, e, h⟩
    have hlt : i < n := by
      have := congrArg List.length e
      simp at this
      omega
    rw [List.drop_eq_getElem_cons (by simpa using hlt), List.getElem_map, List.getElem_range] at e
    obtain ⟨rfl, rfl⟩ := List.cons.inj e
    exact ⟨trivial, fun K hK => step i acc S hlt h K fun o S' q => hK o S' ⟨i + 1, hlt, rfl, q⟩⟩
  · rintro acc S ⟨i, hi, e, h⟩
    have : i = n := by
      have := congrArg List.length e
      simp at this
      omega
    subst this
    exact ⟨trivial, done acc S h⟩
/-- a comprehension that changes nothing -/
theorem comp_pm {ce : Cl} {ρ : Ev.Loc} {own : List (Str × Nat)} {tg : Tg} {cs : Es} {e : E} {S : Store} {g : Option Nat} {all : List PV} {α : Type} (xs : List α) (enc : α → PV) (f : α → Option PV) (hl : few xs.length = true) (he : all = xs.map enc) (hg : Gd g all S)
    (h : ∀ x, x ∈ xs → compB ce ρ own tg cs e (enc x) S = .ok (f x) S) : compR ce ρ own tg cs e (all, g) S = .ok (.lst .new (xs.filterMap f)) S := by
  subst he
  unfold compR
  rw [if_pos (show few (xs.map enc).length = true by rw [List.length_map]; exact hl)]
  have key : ∀ ys : List α, (∀ x, x ∈ ys → compB ce ρ own tg cs e (enc x) S = .ok (f x) S) → compL (compB ce ρ own tg cs e) g (xs.map enc) (ys.map enc) S = .ok (ys.filterMap f) S := by
    intro ys
    induction ys with
    | nil => intro _; unfold compL; rw [List.map_nil]; dsimp only; rw [if_pos hg]; rfl
    | cons y ys ih =>
      intro h
      rw [List.map_cons]
      unfold compL
      rw [if_pos hg, h y List.mem_cons_self]
      dsimp only
      rw [ih fun z hz => h z (List.mem_cons_of_mem _ hz)]
      dsimp only
      cases e : f y <;> simp [List.filterMap_cons, e]
  show (compL (compB ce ρ own tg cs e) g (xs.map enc) (xs.map enc) S).bind _ = _
  rw [key xs h]
  rfl
theorem comp_mp {ce : Cl} {ρ : Ev.Loc} {own : List (Str × Nat)} {tg : Tg} {cs : Es} {e : E} {S : Store} {g : Option Nat} {all : List PV} {α : Type} (xs : List α) (enc f : α → PV) (hl : few xs.length = true) (he : all = xs.map enc) (hg : Gd g all S)
    (h : ∀ x, x ∈ xs → compB ce ρ own tg cs e (enc x) S = .ok (some (f x)) S) : compR ce ρ own tg cs e (all, g) S = .ok (.lst .new (xs.map f)) S := by
  rw [comp_pm xs enc (fun x => some (f x)) hl he hg h]
  congr 2
  induction xs with
  | nil => rfl
  | cons x xs ih => simp
theorem comp_flt {ce : Cl} {ρ : Ev.Loc} {own : List (Str × Nat)} {tg : Tg} {cs : Es} {e : E} {S : Store} {g : Option Nat} {all : List PV} {α : Type} (xs : List α) (enc f : α → PV) (p : α → Bool) (hl : few xs.length = true) (he : all = xs.map enc) (hg : Gd g all S)
    (h : ∀ x, x ∈ xs → compB ce ρ own tg cs e (enc x) S = .ok (if p x then some (f x) else none) S) : compR ce ρ own tg cs e (all, g) S = .ok (.lst .new ((xs.filter p).map f)) S := by
  rw [comp_pm xs enc (fun x => if p x then some (f x) else none) hl he hg h]
  congr 2
  clear h he hl
  induction xs with
  | nil => rfl
  | cons x xs ih =>
    rw [List.filterMap_cons, List.filter_cons]
    cases c : p x <;> simp [c, ih]
theorem cut_to (xs : List PV) {n : Int} (h : 0 ≤ n) : cutP xs none (some n) = xs.take n.toNat := by
  unfold cutP HT.sIx
  dsimp only
  rw [if_neg (by omega), List.drop_zero, Nat.sub_zero]
  rcases Nat.le_total n.toNat xs.length with c | c
  · rw [Nat.min_eq_left c]
  · rw [Nat.min_eq_right c, List.take_of_length_le c, List.take_of_length_le (Nat.le_refl _)]
theorem cut_from (xs : List PV) {n : Int} (h : 0 ≤ n) : cutP xs (some n) none = xs.drop n.toNat := by
  unfold cutP HT.sIx
  dsimp only
  rw [if_neg (by omega)]
  rcases Nat.le_total n.toNat xs.length with c | c
  · rw [Nat.min_eq_left c, List.take_of_length_le (by simp)]
  · rw [Nat.min_eq_right c, List.drop_of_length_le c, List.drop_of_length_le (Nat.le_refl _), List.take_nil]
theorem erase_map {α β : Type} (f : α → β) (xs : List α) (n : Nat) : (xs.map f).eraseIdx n = (xs.eraseIdx n).map f := by
  rw [List.eraseIdx_eq_take_drop_succ, List.eraseIdx_eq_take_drop_succ, List.map_append, List.map_take, List.map_drop]
theorem get_erase {α : Type} : ∀ {xs : List α} {n : Nat} (h : n < xs.length), (xs[n] :: xs.eraseIdx n).Perm xs
  | [], _, h => by simp at h
  | x :: xs, 0, _ => by simp
  | x :: xs, n + 1, h => by
    simp only [List.getElem_cons_succ, List.eraseIdx_cons_succ]
    exact (List.Perm.swap x _ _).trans ((get_erase (by simpa using h)).cons x)
/-! ### the draw -/
structure Dw where
  cs : List Int
  p : Int
  a : Int
  s : Int
def Dw.o (d : Dw) : PO := .lst [.lst .frz (d.cs.map .int), .int d.p, .int d.a, .int d.s]
structure Dw.ok (d : Dw) : Prop where
  p : 0 ≤ d.p
  s0 : 0 ≤ d.s
  s1 : d.s < 2147483647
/-- the draw stands at l -/
def DAt (l : Nat) (S : Store) : Prop := ∃ d : Dw, d.ok ∧ S[l]? = some d.o
/-- what stood stays, but the draw -/
structure Dr (l : Nat) (S S' : Store) : Prop where
  at' : DAt l S'
  le : S.length ≤ S'.length
  fr : ∀ j : Nat, j < S.length → j ≠ l → S'[j]? = S[j]?
theorem DAt.lt {l : Nat} {S : Store} (h : DAt l S) : l < S.length := by
  obtain ⟨d, _, e⟩ := h
  exact (List.getElem?_eq_some_iff.mp e).1
section
variable {l : Nat} {S S' S'' : Store}
theorem Dr.refl (h : DAt l S) : Dr l S S := ⟨h, Nat.le_refl _, fun _ _ _ => rfl⟩
theorem Dr.trans (a : Dr l S S') (b : Dr l S' S'') : Dr l S S'' := ⟨b.at', Nat.le_trans a.le b.le, fun j h n => (b.fr j (Nat.lt_of_lt_of_le h a.le) n).trans (a.fr j h n)⟩
theorem get_lt {S : Store} {j : Nat} {o : PO} (h : S[j]? = some o) : j < S.length := (List.getElem?_eq_some_iff.mp h).1
theorem Dr.get (a : Dr l S S') {j : Nat} {o : PO} (h : S[j]? = some o) (n : j ≠ l) : S'[j]? = some o := (a.fr j (get_lt h) n).trans h
theorem get_push {j : Nat} {o u : PO} (h : S[j]? = some o) : (S ++ [u])[j]? = some o := by rw [List.getElem?_append_left (get_lt h)]; exact h
theorem get_new {u : PO} : (S ++ [u])[S.length]? = some u := by simp
theorem get_set {j : Nat} {o u : PO} (h : S[j]? = some o) : (S.set j u)[j]? = some u := List.getElem?_set_self (get_lt h)
theorem get_ne {j k : Nat} {o u : PO} (h : S[j]? = some o) (n : k ≠ j) : (S.set k u)[j]? = some o := by rw [List.getElem?_set_ne n]; exact h
theorem DAt.push {u : PO} (h : DAt l S) : DAt l (S ++ [u]) := by obtain ⟨d, k, e⟩ := h; exact ⟨d, k, get_push e⟩
theorem DAt.set {k : Nat} {u : PO} (h : DAt l S) (n : k ≠ l) : DAt l (S.set k u) := by obtain ⟨d, q, e⟩ := h; exact ⟨d, q, get_ne e n⟩
theorem Dr.push (a : Dr l S S') (u : PO) : Dr l S (S' ++ [u]) := ⟨a.at'.push, by have := a.le; simp; omega, fun j h n => by rw [List.getElem?_append_left (Nat.lt_of_lt_of_le h a.le)]; exact a.fr j h n⟩
/-- a later thing is changed -/
theorem Dr.set (a : Dr l S S') (h : DAt l S) {k : Nat} (hk : S.length ≤ k) (u : PO) : Dr l S (S'.set k u) := by
  have := h.lt
  exact ⟨a.at'.set (by omega), by rw [List.length_set]; exact a.le, fun j hj n => by rw [List.getElem?_set_ne (by omega)]; exact a.fr j hj n⟩
theorem Dr.drew (h : DAt l S) {d : Dw} (k : d.ok) : Dr l S (S.set l d.o) := ⟨⟨d, k, List.getElem?_set_self h.lt⟩, by simp, fun j _ n => by rw [List.getElem?_set_ne (fun z => n z.symm)]⟩
/-- what stood stays, but the draw and the things at xs -/
structure Dx (l : Nat) (xs : List Nat) (S S' : Store) : Prop where
  at' : DAt l S'
  le : S.length ≤ S'.length
  fr : ∀ j : Nat, j < S.length → j ≠ l → j ∉ xs → S'[j]? = S[j]?
theorem Dx.of {xs : List Nat} (a : Dr l S S') : Dx l xs S S' := ⟨a.at', a.le, fun j h n _ => a.fr j h n⟩
theorem Dx.trans {xs : List Nat} (a : Dx l xs S S') (b : Dx l xs S' S'') : Dx l xs S S'' := ⟨b.at', Nat.le_trans a.le b.le, fun j h n m => (b.fr j (Nat.lt_of_lt_of_le h a.le) n m).trans (a.fr j h n m)⟩
theorem Dx.get {xs : List Nat} (a : Dx l xs S S') {j : Nat} {o : PO} (h : S[j]? = some o) (n : j ≠ l) (m : j ∉ xs) : S'[j]? = some o := (a.fr j (get_lt h) n m).trans h
theorem Dx.set {xs : List Nat} (a : Dx l xs S S') {k : Nat} (h : k ∈ xs) (n : k ≠ l) (u : PO) : Dx l xs S (S'.set k u) :=
  ⟨a.at'.set n, by rw [List.length_set]; exact a.le, fun j hj n' m => by rw [List.getElem?_set_ne (fun z : k = j => m (by rw [← z]; exact h))]; exact a.fr j hj n' m⟩
theorem Dr.dx {xs : List Nat} (a : Dr l S S') (b : Dx l xs S' S'') (h : ∀ x, x ∈ xs → S.length ≤ x) : Dr l S S'' :=
  ⟨b.at', Nat.le_trans a.le b.le, fun j hj n => (b.fr j (Nat.lt_of_lt_of_le hj a.le) n fun z => by have := h j z; omega).trans (a.fr j hj n)⟩
/-- the list at w: a new one, or one of the store's beside the draw -/
def LstN (l : Nat) (S : Store) (w : PV) (xs : List PV) : Prop := w = .lst .new xs ∨ ∃ k, k ≠ l ∧ w = .ref k ∧ S[k]? = some (.lst xs)
theorem LstN.dr {w : PV} {xs : List PV} (h : LstN l S w xs) (a : Dr l S S') : LstN l S' w xs := by
  rcases h with h | ⟨k, n, e, q⟩
  · exact .inl h
  · exact .inr ⟨k, n, e, a.get q n⟩
theorem LstN.adopt {w : PV} {xs : List PV} (h : LstN l S w xs) (hd : DAt l S) (hx : frzs xs = xs) : ∃ k S', Ev.adopt w S = (.ref k, S') ∧ S'[k]? = some (.lst xs) ∧ k ≠ l ∧ Dr l S S' := by
  rcases h with rfl | ⟨k, n, rfl, q⟩
  · refine ⟨S.length, S ++ [.lst xs], by simp [hx], get_new, by have := hd.lt; omega, (Dr.refl hd).push _⟩
  · exact ⟨k, S, rfl, q, n, Dr.refl hd⟩
end
def PullOk (F : List PV → Store → Res PV) : Prop := ∀ (l : Nat) (S : Store) (n : Int), DAt l S → 0 < n → n < 18446744073709551616 → ∃ r S', F [.ref l, .int n] S = .ok (.int r) S' ∧ 0 ≤ r ∧ r < n ∧ Dr l S S'
theorem PullOk.use {F : List PV → Store → Res PV} (hp : PullOk F) {l : Nat} {S : Store} {n : Int} {P : PV → Store → Prop} (h : DAt l S) (h0 : 0 < n) (h1 : n < 18446744073709551616) (k : ∀ r S', 0 ≤ r → r < n → Dr l S S' → P (.int r) S') : (F [.ref l, .int n] S).sat P := by
  obtain ⟨r, S', e, a, b, D⟩ := hp l S n h h0 h1
  rw [e]
  exact ⟨k r S' a b D⟩
def FarOk (F : List PV → Store → Res PV) : Prop := ∀ (l : Nat) (S : Store), DAt l S → ∃ r S', F [.ref l] S = .ok (.int r) S' ∧ Dr l S S'
/-- one of a written list -/
theorem pick {α : Type} {xs : List α} {r : Int} (h0 : 0 ≤ r) (h1 : r < xs.length) : ∃ x, atI xs r = some x ∧ x ∈ xs := ⟨_, atI_nat h0 h1, List.getElem_mem _⟩
theorem at_sat {xs : List PV} {r : Int} {S : Store} {P : PV → Store → Prop} (h0 : 0 ≤ r) (h1 : r < xs.length) (k : ∀ x, x ∈ xs → P x S) : (ofO (atI xs r) S).sat P := by
  obtain ⟨x, e, hx⟩ := pick h0 h1
  rw [e]
  exact ⟨k x hx⟩
theorem at_map {α : Type} {as : List α} {enc : α → PV} {r : Int} {S : Store} {P : PV → Store → Prop} (h0 : 0 ≤ r) (h1 : r < as.length) (k : ∀ a, a ∈ as → P (enc a) S) : (ofO (atI (as.map enc) r) S).sat P :=
  at_sat h0 (by simpa using h1) fun x hx => by
    obtain ⟨a, ha, rfl⟩ := List.mem_map.mp hx
    exact k a ha
theorem at_ints {ns : List Int} {r : Int} {S : Store} {P : PV → Store → Prop} (h0 : 0 ≤ r) (h1 : r < ns.length) (k : ∀ n, n ∈ ns → P (.int n) S) : (ofO (atI (ns.map PV.int) r) S).sat P := at_map h0 h1 k
theorem at_ix {xs : List PV} {r : Int} {S : Store} {P : PV → Store → Prop} (h0 : 0 ≤ r) (h1 : r < xs.length) (k : ∀ (i : Nat) (h : i < xs.length), r = i → P xs[i] S) : (ofO (atI xs r) S).sat P := by
  rw [atI_nat h0 h1]
  exact ⟨k _ _ (by omega)⟩
theorem r1P_nat (n : Nat) (h : few n = true) (S : Store) : r1P (.int (n : Int)) S = .ok ((List.range n).map (fun (k : Nat) => .int (k : Int)), none) S := by
  rw [r1P_int _ ⟨Int.lt_of_le_of_lt (Int.ofNat_le.mpr (few_le1 h)) (by decide), Int.le_trans (by decide) (Int.natCast_nonneg n)⟩, Int.toNat_natCast]
theorem op2_catR {l k : Nat} {S : Store} {xs ys : List PV} (h1 : S[l]? = some (.lst xs)) (h2 : S[k]? = some (.lst ys)) (h : few (xs.length + ys.length) = true) : op2 .add (.ref l) (.ref k) S = some (.lst .new (xs ++ ys)) := by
  have e1 : catOf S (.ref l) = some xs := by show lstOf S (.ref l) = _; rw [lstOf_ref, h1]; rfl
  have e2 : catOf S (.ref k) = some ys := by show lstOf S (.ref k) = _; rw [lstOf_ref, h2]; rfl
  unfold op2
  dsimp only
  rw [e1, e2]
  dsimp only
  rw [if_pos h]
theorem op2_cat {x y : PV} {S : Store} {xs ys : List PV} (hx : ∀ zs, x ≠ .tup zs) (h1 : catOf S x = some xs) (h2 : catOf S y = some ys) (h : few (xs.length + ys.length) = true) : op2 .add x y S = some (.lst .new (xs ++ ys)) := by
  unfold op2
  dsimp only
  split
  · simp [catOf, lstOf] at h1
  · simp [catOf, lstOf] at h1
  · exact absurd rfl (hx _)
  · rw [h1, h2]
    dsimp only
    rw [if_pos h]
@[simp] theorem bi_max2 (i j : Int) (S : Store) : biP .max2 [.int i, .int j] S = some (.int (if j > i then j else i)) := rfl
@[simp] theorem bi_min2 (i j : Int) (S : Store) : biP .min2 [.int i, .int j] S = some (.int (if j < i then j else i)) := rfl
@[simp] theorem ob2_lr2 (x : PV) (S : Store) : ob2 .lr2 x S = true := rfl
/-- told by a decision that nothing can reckon -/
def rngQ (lo hi : Int) (S : Store) : Option (PV × Store) := @ite _ (-(2 ^ 62) ≤ lo ∧ lo < 2 ^ 62 ∧ -(2 ^ 62) ≤ hi ∧ hi < 2 ^ 62 ∧ (hi - lo).toNat ≤ 1000000) (Classical.propDecidable _) (some (.lst .new ((List.range (hi - lo).toNat).map fun (k : Nat) => .int (lo + (k : Int))), S)) none
theorem rngP_eq (lo hi : Int) (S : Store) : rngP lo hi S = rngQ lo hi S := by
  unfold rngP rngQ
  by_cases c : -(2 ^ 62) ≤ lo ∧ lo < 2 ^ 62 ∧ -(2 ^ 62) ≤ hi ∧ hi < 2 ^ 62 ∧ (hi - lo).toNat ≤ 1000000
  · rw [if_pos c, if_pos c]
  · rw [if_neg c, if_neg c]
@[simp] theorem pr2_lr2 (i j : Int) (S : Store) : pr2 .lr2 (.int i) (.int j) S = rngQ i j S := by rw [← rngP_eq]; rfl
@[simp] theorem pr1_lr1 (i : Int) (S : Store) : pr1 .lr1 (.int i) S = rngQ 0 i S := by rw [← rngP_eq]; rfl
/-- lo .. hi - 1 -/
def rng (lo hi : Int) : List Int := (List.range (hi - lo).toNat).map fun (k : Nat) => lo + (k : Int)
theorem rng_len (lo hi : Int) : (rng lo hi).length = (hi - lo).toNat := by simp [rng]
theorem rng_mem {lo hi x : Int} : x ∈ rng lo hi ↔ lo ≤ x ∧ x < hi := by
  unfold rng
  rw [List.mem_map]
  constructor
  · rintro ⟨k, hk, rfl⟩
    have := List.mem_range.mp hk
    omega
  · rintro ⟨h1, h2⟩
    exact ⟨(x - lo).toNat, List.mem_range.mpr (by omega), by omega⟩
theorem rngP_ok {lo hi : Int} {S : Store} (h0 : -1000000 ≤ lo) (h1 : lo ≤ 1000000) (h2 : -1000000 ≤ hi) (h3 : hi ≤ 1000000) (h4 : hi - lo ≤ 1000000) : rngQ lo hi S = some (.lst .new ((rng lo hi).map .int), S) := by
  unfold rngQ rng
  rw [if_pos (by omega), List.map_map]
  rfl
@[simp] theorem catOf_new (S : Store) (xs : List PV) : catOf S (.lst .new xs) = some xs := rfl
@[simp] theorem catOf_bor (S : Store) (xs : List PV) : catOf S (.lst .bor xs) = some xs := rfl
@[simp] theorem catOf_frz (S : Store) (xs : List PV) : catOf S (.lst .frz xs) = some xs := rfl
@[simp] theorem catOf_ref (S : Store) (l : Nat) : catOf S (.ref l) = lstO S[l]? := lstOf_ref S l
end Ev
end
set_option Elab.async false
set_option linter.all false
set_option maxRecDepth 100000
/-! PlL: lent things; what is told alike. -/
noncomputable section
namespace Ev
open PySem L2
/-- a thing as it is lent -/
def canon : Nat → PV → Bool
  | n + 1, .tup xs => few xs.length && xs.all (canon n)
  | n + 1, .lst .bor xs => few xs.length && xs.all (canon n)
  | _, .non => true
  | _, .bl _ => true
  | _, .int _ => true
  | _, .str _ => true
  | _, _ => false
section
variable (n : Nat)
@[simp] theorem canon_non : canon n .non = true := by cases n <;> rfl
@[simp] theorem canon_bl (b : Bool) : canon n (.bl b) = true := by cases n <;> rfl
@[simp] theorem canon_int (b : Int) : canon n (.int b) = true := by cases n <;> rfl
@[simp] theorem canon_str (b : Str) : canon n (.str b) = true := by cases n <;> rfl
@[simp] theorem canon_tup (xs : List PV) : canon (n + 1) (.tup xs) = (few xs.length && xs.all (canon n)) := by simp only [canon]
@[simp] theorem canon_bor (xs : List PV) : canon (n + 1) (.lst .bor xs) = (few xs.length && xs.all (canon n)) := by simp only [canon]
@[simp] theorem canon_ints (ns : List Int) : (ns.map PV.int).all (canon n) = true := by simp
end
theorem mapO_id {f : PV → Option PV} : ∀ {xs : List PV}, (∀ x, x ∈ xs → f x = some x) → mapO f xs = some xs
  | [], _ => rfl
  | x :: xs, h => by rw [mapO_consE, h x List.mem_cons_self, mapO_id fun y hy => h y (List.mem_cons_of_mem _ hy)]; rfl
theorem lend_canon (S : Store) : ∀ {n m : Nat} {v : PV}, n ≤ m → canon n v = true → lend S m v = some v
  | _, m, .non, _, _ => lend_non S m
  | _, m, .bl _, _, _ => lend_bl S m _
  | _, m, .int _, _, _ => lend_int S m _
  | _, m, .str _, _, _ => lend_str S m _
  | 0, _, .tup _, _, h => by simp [canon] at h
  | n + 1, 0, .tup _, hm, _ => by omega
  | n + 1, m + 1, .tup xs, hm, h => by
    rw [canon_tup, Bool.and_eq_true] at h
    rw [lend_tup, mapO_id fun x hx => lend_canon S (n := n) (by omega) (List.all_eq_true.mp h.2 x hx)]
    rfl
  | 0, _, .lst k _, _, h => by cases k <;> simp [canon] at h
  | n + 1, 0, .lst k _, hm, _ => by omega
  | n + 1, m + 1, .lst .bor xs, hm, h => by
    rw [canon_bor, Bool.and_eq_true] at h
    rw [lend_bor, mapO_id fun x hx => lend_canon S (n := n) (by omega) (List.all_eq_true.mp h.2 x hx)]
    rfl
  | n + 1, _, .lst .new _, _, h => by simp [canon] at h
  | n + 1, _, .lst .frz _, _, h => by simp [canon] at h
  | n + 1, _, .lst .scr _, _, h => by simp [canon] at h
  | n, _, .ref _, _, h => by cases n <;> simp [canon] at h
  | n, _, .dK _ _ _, _, h => by cases n <;> simp [canon] at h
  | n, _, .dT _ _ _, _, h => by cases n <;> simp [canon] at h
theorem blsOf_map (bs : List Bool) : blsOf (bs.map .bl) = some bs := by
  induction bs with
  | nil => rfl
  | cons x xs ih => simp [blsOf, ih]
theorem bi_allN (k : Kd) (bs : List Bool) (S : Store) : biP .all [.lst k (bs.map .bl)] S = some (.bl (bs.all id)) := by
  have e : lstOf S (.lst k (bs.map .bl)) = some (bs.map .bl) := by cases k <;> rfl
  unfold biP
  dsimp only
  rw [e]
  dsimp only
  rw [blsOf_map]
  rfl
theorem bi_anyN (k : Kd) (bs : List Bool) (S : Store) : biP .any [.lst k (bs.map .bl)] S = some (.bl (bs.any id)) := by
  have e : lstOf S (.lst k (bs.map .bl)) = some (bs.map .bl) := by cases k <;> rfl
  unfold biP
  dsimp only
  rw [e]
  dsimp only
  rw [blsOf_map]
  rfl
theorem filterMap_some {α β : Type} (f : α → β) : ∀ xs : List α, xs.filterMap (fun x => some (f x)) = xs.map f
  | [] => rfl
  | x :: xs => by simp [filterMap_some f xs]
theorem put1_ne {con : List (Str × PV)} {fs : Nat → List PV → Store → Res PV} {i j : Nat} {F : List PV → Store → Res PV} (h : j ≠ i) : (ceOf con (put1 fs i F)).f j = fs j := by
  show put1 fs i F j = _
  unfold put1
  rw [if_neg h]
theorem put1_eq {con : List (Str × PV)} {fs : Nat → List PV → Store → Res PV} {i : Nat} {F : List PV → Store → Res PV} : (ceOf con (put1 fs i F)).f i = F := by
  show put1 fs i F i = _
  unfold put1
  rw [if_pos rfl]
def LikeOk (F : List PV → Store → Res PV) : Prop := ∀ (v : PV) (S : Store), canon 5 v = true → F [v, v] S = .ok (.bl true) S
theorem like_call {ce : Cl} {f : Nat} (h : LikeOk (ce.f f)) {S : Store} {v w d : PV} (h1 : lend S 9 v = some d) (h2 : lend S 9 w = some d) (hc : canon 5 d = true) : callP ce.f f [v, w] S = .ok (.bl true) S := by
  rw [callP_eq, mapO_consE, h1, mapO_consE, h2]
  simp [h d [] hc]
theorem at_lenP {xs : List PV} {k : Nat} (h : k < xs.length) : atI xs (k : Int) = some (xs[k]) := by
  rw [atI_nat (by omega) (by simpa using h)]
  simp
end Ev
end
set_option Elab.async false
set_option linter.all false
set_option maxRecDepth 100000
namespace Lw
open PySem L2 Ev
def NumOk (F : List PV → Store → Res PV) : Prop := ∀ (a : Int) (S : Store), F [.int a] S = .ok (.bl true) S
theorem num_int (ce : Cl) (a : Int) (S : Store) : runF ce 1 ir_law_num [.int a] S = .ok (.bl true) S := by
  rw [runF_eq, ir_law_num]
  simp
theorem like_flat {ce : Cl} {i fn : Nat} (hn : NumOk (ce.f fn)) (v : PV) (S : Store) (hv : canon 0 v = true) : runF ce 3 (ir_law_like (f_law_like := i) (f_law_num := fn)) [v, v] S = .ok (.bl true) S := by
  rw [runF_eq, ir_law_like]
  cases v with
  | non => simp
  | bl b => simp
  | int i => simp [callP_eq, lend_int, hn i []]
  | str x => simp
  | _ => simp [canon] at hv
theorem like_1 {ce : Cl} {i fn n : Nat} (hn : NumOk (ce.f fn)) (hi : ∀ v S, canon n v = true → ce.f i [v, v] S = .ok (.bl true) S) (hn9 : n ≤ 8) (v : PV) (S : Store) (hv : canon (n + 1) v = true) : runF ce 3 (ir_law_like (f_law_like := i) (f_law_num := fn)) [v, v] S = .ok (.bl true) S := by
  have seqs : ∀ xs : List PV, xs.all (canon n) = true → few xs.length = true → (∀ k x, atI xs k = some x → ixP v (.int k) S = some x) → compR ce [some v, some v, none] [("_law_k", 2)] (.name 2) .nil (.call .pure i (.cons (.ix (.var 0) (.var 2)) (.cons (.ix (.var 1) (.var 2)) .nil))) ((List.range xs.length).map (fun (k : Nat) => PV.int (k : Int)), none) S = .ok (.lst .new ((List.range xs.length).map fun _ => PV.bl true)) S := by
    intro xs hx hlen hix
    rw [comp_pm (List.range xs.length) (fun (k : Nat) => PV.int (k : Int)) (fun _ => some (.bl true)) (by rw [List.length_range]; exact hlen) rfl (Gd_none _ _), filterMap_some]
    intro k hk
    have hk := List.mem_range.mp hk
    have e := hix k _ (at_lenP hk)
    have cx : canon n xs[k] = true := List.all_eq_true.mp hx _ (List.getElem_mem _)
    simp [compB, wipeL, e, callP_eq, lend_canon S (show n ≤ 9 by omega) cx, hi _ _ cx]
  have alls : ∀ m : Nat, biP .all [.lst .new ((List.range m).map fun _ => PV.bl true)] S = some (.bl true) := by
    intro m
    have : ((List.range m).map fun _ => PV.bl true) = ((List.range m).map fun _ => true).map .bl := by simp
    rw [this, bi_allN]
    congr 2
    simp
  cases v with
  | non => exact like_flat hn _ S rfl
  | bl b => exact like_flat hn _ S rfl
  | int i => exact like_flat hn _ S rfl
  | str x => exact like_flat hn _ S rfl
  | tup xs =>
    rw [runF_eq, ir_law_like]
    rw [canon_tup, Bool.and_eq_true] at hv
    have h1 : few xs.length = true := hv.1
    have h2 := seqs xs hv.2 h1 fun k x e => by simpa using e
    clear hv
    simp -implicitDefEqProofs [r1P_nat _ h1, h2, alls]
  | lst k xs =>
    cases k with
    | bor =>
      rw [runF_eq, ir_law_like]
      rw [canon_bor, Bool.and_eq_true] at hv
      have h1 : few xs.length = true := hv.1
      have h2 := seqs xs hv.2 h1 fun k x e => by simpa using e
      clear hv
      simp -implicitDefEqProofs [r1P_nat _ h1, h2, alls]
    | _ => simp [canon] at hv
  | ref l => simp [canon] at hv
  | dK _ _ _ => simp [canon] at hv
  | dT _ _ _ => simp [canon] at hv
theorem like_ok {con : List (Str × PV)} {fs : Nat → List PV → Store → Res PV} {i fn : Nat} (hf : fn ≠ i) (hn : NumOk (fs fn)) : LikeOk (deep (con := con) fs i 3 (ir_law_like (f_law_like := i) (f_law_num := fn)) 6) := by
  have key : ∀ n, n ≤ 5 → ∀ v S, canon n v = true → deep (con := con) fs i 3 (ir_law_like (f_law_like := i) (f_law_num := fn)) (n + 1) [v, v] S = .ok (.bl true) S := by
    intro n
    induction n with
    | zero =>
      intro _ v S h
      rw [deep]
      exact like_flat (by rw [put1_ne hf]; exact hn) v S h
    | succ n ih =>
      intro hn' v S h
      rw [deep]
      refine like_1 (n := n) (by rw [put1_ne hf]; exact hn) ?_ (by omega) v S h
      rw [put1_eq]
      exact ih (by omega)
  exact key 5 (by omega)
end Lw
set_option Elab.async false
set_option linter.all false
set_option maxRecDepth 100000
namespace Lw
open PySem L2 Ev
theorem pull_tail (ce : Cl) {l : Nat} {S : Store} {n : Int} {q2 q3 q4 : Option PV} {N B : Ev.Loc → Store → Prop} {R : PV → Store → Prop} (h : DAt l S) (h0 : 0 < n) (h1 : n < 18446744073709551616) (k : ∀ r S', 0 ≤ r → r < n → Dr l S S' → R (.int r) S') : (evT ce (.seq law_pull_2 (.seq law_pull_3 (.seq law_pull_4 (.seq law_pull_5 .skip)))) [some (.ref l), some (.int n), q2, q3, q4] S).sat N R B := by
  obtain ⟨d, ok, hd⟩ := id h
  have gs : ∀ o, (S.set l o)[l]? = some o := fun o => List.getElem?_set_self h.lt
  unfold Dw.o at hd
  simp only [law_pull_2, law_pull_2t, law_pull_2t_1, law_pull_2t_2, law_pull_2t_3, law_pull_3, law_pull_4, law_pull_5]
  by_cases c : n ≤ d.a
  · simp [hd, c, op2_mod, op2_fdiv, h0, h1, gs]
    exact k _ _ (Int.emod_nonneg _ (by omega)) (Int.emod_lt_of_pos _ h0) (Dr.drew h (d := ⟨d.cs, d.p, d.a / n, d.s⟩) ⟨ok.p, ok.s0, ok.s1⟩)
  · have hs : d.s.natAbs < 18446744073709551616 := by have := ok.s0; have := ok.s1; omega
    simp [hd, c, op2_mod, op2_fdiv, op2_mul, h0, h1, gs, hs]
    exact k _ _ (Int.emod_nonneg _ (by omega)) (Int.emod_lt_of_pos _ h0) (Dr.drew h (d := ⟨d.cs, d.p, d.a, (d.s * d.s % 2147483629 * 5 + d.s * 16811 + 2531011) % 2147483647⟩) ⟨ok.p, Int.emod_nonneg _ (by omega), Int.emod_lt_of_pos _ (by omega)⟩)
theorem pull_ok (ce : Cl) : PullOk (runF ce 5 ir_law_pull) := by
  rintro l S n h h0 h1
  have key : ∀ {R : PV → Store → Prop}, (∀ r S', 0 ≤ r → r < n → Dr l S S' → R (.int r) S') → (runF ce 5 ir_law_pull [.ref l, .int n] S).sat R := fun {R} k => by
    refine runF_sat ?_
    rw [eq_law_pull]
    obtain ⟨d, ok, hd⟩ := id h
    have gs : ∀ o, (S.set l o)[l]? = some o := fun o => List.getElem?_set_self h.lt
    refine seq_sat ?_
    have go : ∀ q2 S1, Dr l S S1 → (evT ce (.seq law_pull_2 (.seq law_pull_3 (.seq law_pull_4 (.seq law_pull_5 .skip)))) [some (.ref l), some (.int n), q2, none, none] S1).sat (fun _ S => R .non S) R (fun _ _ => False) := fun q2 S1 D =>
      pull_tail ce D.at' h0 h1 fun r S' a b D2 => k r S' a b (D.trans D2)
    unfold Dw.o at hd
    simp only [law_pull_1, law_pull_1t, law_pull_1t_1, law_pull_1t_2, law_pull_1t_3, law_pull_1t_4, law_pull_1t_4t, law_pull_1t_4e, law_pull_1t_4t_1, law_pull_1t_4e_1]
    generalize T.seq law_pull_2 _ = B at go ⊢
    by_cases c1 : d.a < n
    · by_cases c2 : d.p < d.cs.length
      · have a1 : atI (d.cs.map PV.int) d.p = some (.int (d.cs[d.p.toNat]'(by have := ok.p; omega))) := by
          rw [atI_nat ok.p (by simpa using c2)]
          simp
        generalize d.cs[d.p.toNat]'(by have := ok.p; omega) = z at a1
        by_cases c3 : 1000000000000000000 ≤ z
        · have := go (some (.int z)) _ (Dr.drew h (d := ⟨d.cs, d.p + 1, z, d.s⟩) ⟨by have := ok.p; show 0 ≤ d.p + 1; omega, ok.s0, ok.s1⟩)
          simpa [hd, c1, c2, c3, a1, gs, op2_pow, Dw.o] using this
        · have := go (some (.int z)) _ (Dr.drew h (d := ⟨d.cs, d.p + 1, 0, (d.s * 48271 + z % 2147483629 * 69621 + 12345) % 2147483647⟩) ⟨by have := ok.p; show 0 ≤ d.p + 1; omega, Int.emod_nonneg _ (by decide), Int.emod_lt_of_pos _ (by decide)⟩)
          simpa [hd, c1, c2, c3, a1, gs, op2_pow, op2_mod, op2_mul, Dw.o] using this
      · have := go none _ (Dr.refl h)
        simpa [hd, c1, c2] using this
    · have := go none _ (Dr.refl h)
      simpa [hd, c1] using this
  obtain ⟨v, S', e, r, rfl, a, b, D⟩ := (sat_ex _).mp (key (R := fun v S' => ∃ r, v = .int r ∧ 0 ≤ r ∧ r < n ∧ Dr l S S') fun r S' a b D => ⟨r, rfl, a, b, D⟩)
  exact ⟨r, S', e, a, b, D⟩
end Lw
set_option Elab.async false
set_option linter.all false
set_option maxRecDepth 100000
/-! PlC: coins. -/
noncomputable section
namespace Ev
open PySem L2
structure Coin where
  lo : Int
  lm : List Int
  up : Int
  um : List Int
  y : Int
def Coin.pv (c : Coin) : PV := .tup [.int c.lo, .tup (c.lm.map .int), .int c.up, .tup (c.um.map .int), .int c.y]
def Marks (m : List Int) : Prop := m.Pairwise (· < ·) ∧ ∀ x, x ∈ m → 0 ≤ x ∧ x < 8
structure Coin.ok (c : Coin) : Prop where
  l0 : 1 ≤ c.lo
  l1 : c.lo ≤ 99
  u0 : 1 ≤ c.up
  u1 : c.up ≤ 99
  lm : Marks c.lm
  um : Marks c.um
  y0 : 0 ≤ c.y
  y1 : c.y ≤ 9999
def Coin.few (c : Coin) : Prop := c.lm.length ≤ 1000 ∧ c.um.length ≤ 1000
def N8 : List Int := (List.range 8).map fun (k : Nat) => (k : Int)
theorem N8_asc : N8.Pairwise (· < ·) := by decide
theorem N8_mem (x : Int) : x ∈ N8 ↔ 0 ≤ x ∧ x < 8 := by
  unfold N8
  rw [List.mem_map]
  constructor
  · rintro ⟨k, hk, rfl⟩
    have := List.mem_range.mp hk
    omega
  · rintro ⟨h1, h2⟩
    exact ⟨x.toNat, List.mem_range.mpr (by omega), by omega⟩
theorem marks_filter (p : Int → Bool) : Marks (N8.filter p) := ⟨List.Pairwise.filter _ N8_asc, fun x h => (N8_mem x).mp (List.mem_filter.mp h).1⟩
theorem Marks.eq {m : List Int} (h : Marks m) : m = N8.filter fun x => decide (x ∈ m) := by
  refine asc_eq h.1 (List.Pairwise.filter _ N8_asc) fun x => ?_
  rw [List.mem_filter, N8_mem, decide_eq_true_iff]
  exact ⟨fun hx => ⟨h.2 x hx, hx⟩, fun q => q.2⟩
theorem Marks.len {m : List Int} (h : Marks m) : m.length ≤ 8 := by
  rw [h.eq]
  exact Nat.le_trans (List.length_filter_le _ _) (by decide)
theorem Coin.ok.few {c : Coin} (h : c.ok) : c.few := ⟨by have := h.lm.len; omega, by have := h.um.len; omega⟩
@[simp] theorem frz_pv (c : Coin) : frz c.pv = c.pv := by simp [Coin.pv]
@[simp] theorem adopt_pv (c : Coin) (S : Store) : adopt c.pv S = (c.pv, S) := by rw [Coin.pv, adopt_tup]; congr 2; simp
theorem frzs_pvs : ∀ cs : List Coin, frzs (cs.map Coin.pv) = cs.map Coin.pv
  | [] => by simp
  | c :: cs => by rw [List.map_cons, frzs_cons, frz_pv, frzs_pvs cs]
theorem lend_pv (S : Store) (n : Nat) (c : Coin) : lend S (n + 2) c.pv = some c.pv := by
  simp [Coin.pv, lend_tup, lend_int]
theorem lend_pvs (S : Store) (n : Nat) (cs : List Coin) : mapO (lend S (n + 2)) (cs.map Coin.pv) = some (cs.map Coin.pv) := by
  refine mapO_id fun x hx => ?_
  obtain ⟨c, _, rfl⟩ := List.mem_map.mp hx
  exact lend_pv S n c
theorem marks_nil : Marks [] := ⟨List.Pairwise.nil, fun _ h => nomatch h⟩
theorem r1P_8 (S : Store) : r1P (.int 8) S = .ok (N8.map .int, none) S := by
  rw [r1P_int _ (by decide)]
  simp [N8]
/-- what is kept by a key -/
def Worn (kvs : List (Key × PV)) : Prop := ∀ p, p ∈ kvs → ∃ m : List Int, p.2 = .tup (m.map .int) ∧ Marks m
theorem val_mem {κ : Type} [DecidableEq κ] {k : κ} {v : PV} : ∀ {kvs : List (κ × PV)}, valP kvs k = some v → (k, v) ∈ kvs
  | [], h => by cases h
  | p :: r, h => by
    unfold valP at h
    split at h
    · rename_i e
      cases h
      subst e
      exact List.mem_cons_self
    · exact List.mem_cons_of_mem _ (val_mem h)
theorem Worn.get {kvs : List (Key × PV)} (h : Worn kvs) (k : Key) : ∃ m : List Int, (valP kvs k).getD (.tup []) = .tup (m.map .int) ∧ Marks m := by
  cases e : valP kvs k with
  | none => exact ⟨[], rfl, marks_nil⟩
  | some v =>
    obtain ⟨m, h1, h2⟩ := h _ (val_mem e)
    exact ⟨m, h1, h2⟩
theorem putP_len {κ : Type} [DecidableEq κ] (kvs : List (κ × PV)) (k : κ) (v : PV) : (putP kvs k v).length ≤ kvs.length + 1 := by
  unfold putP
  split <;> simp
theorem Worn.put {kvs : List (Key × PV)} (h : Worn kvs) (k : Key) {m : List Int} (hm : Marks m) : Worn (putP kvs k (.tup (m.map .int))) := by
  unfold putP
  split
  · intro p hp
    obtain ⟨q, hq, rfl⟩ := List.mem_map.mp hp
    split
    · exact ⟨m, rfl, hm⟩
    · exact h q hq
  · intro p hp
    rcases List.mem_append.mp hp with hp | hp
    · exact h p hp
    · rw [List.mem_singleton.mp hp]
      exact ⟨m, rfl, hm⟩
theorem dK_at {S : Store} {l : Nat} {kvs : List (Key × PV)} (h : S[l]? = some (.dK kvs)) : dK_of S (.ref l) = some kvs := by
  rw [dK_ref, h]
theorem get2_at {S : Store} {l : Nat} {kvs : List (Key × PV)} (h : S[l]? = some (.dK kvs)) (i : Int) (z : PV) : pr3 .get2 (.ref l) (.int i) z S = some ((valP kvs (Sum.inl i)).getD z, S) := by
  show (match dK_of S (.ref l), keyOf (.int i) with
    | some kvs, some k => some ((valP kvs k).getD z, S)
    | _, _ => none) = _
  rw [dK_at h]
  rfl
theorem ob3_at {S : Store} {l : Nat} {kvs : List (Key × PV)} (h : S[l]? = some (.dK kvs)) : ob3 .get2 (.ref l) S = true := by
  show (dK_of S (.ref l)).isSome = true
  rw [dK_at h]
  rfl
end Ev
end
set_option Elab.async false
set_option linter.all false
set_option maxRecDepth 100000
/-! PlF: loops that look for something; calls of pure defs. -/
noncomputable section
namespace Ev
open PySem L2
def isStop : FR → Bool
  | .ret _ _ => true
  | .exc _ _ _ _ => true
  | _ => false
/-- a loop that goes on with all as it was, or stops -/
theorem forL_scan {α : Type} {body : Ev.Loc → Store → FR} {i : Nat} {g : Option Nat} {all : List PV} {S : Store} (enc : α → PV) (f : α → Option FR) (hg : Gd g all S) : ∀ (xs : List α) (ρ : Ev.Loc) (q : Option PV), ρ[i]? = some q →
    (∀ x, x ∈ xs → body (ρ.set i (some (enc x))) S = (match f x with | none => .next (ρ.set i (some (enc x))) S | some r => r)) → (∀ x r, x ∈ xs → f x = some r → isStop r = true) →
    ∃ q', forL body (.name i) g all (xs.map enc) ρ S = (match xs.findSome? f with | none => .next (ρ.set i q') S | some r => r)
  | [], ρ, q, hq, _, _ => ⟨q, by
    unfold forL
    rw [List.map_nil]
    dsimp only
    rw [if_pos hg]
    have : ρ.set i q = ρ := by
      obtain ⟨h1, h2⟩ := List.getElem?_eq_some_iff.mp hq
      rw [← h2, List.set_getElem_self]
    simp [this]⟩
  | x :: xs, ρ, q, hq, h, hs => by
    have hi := (List.getElem?_eq_some_iff.mp hq).1
    have hb := h x List.mem_cons_self
    rw [List.map_cons]
    unfold forL
    rw [if_pos hg]
    dsimp only [bindT]
    rw [List.findSome?_cons]
    cases e : f x with
    | some r =>
      rw [e] at hb
      dsimp only at hb
      have hst := hs x r List.mem_cons_self e
      refine ⟨q, ?_⟩
      rw [hb]
      cases r <;> first | rfl | (simp [isStop] at hst)
    | none =>
      rw [e] at hb
      dsimp only at hb
      rw [hb]
      dsimp only
      obtain ⟨q', e'⟩ := forL_scan (body := body) (i := i) enc f hg xs (ρ.set i (some (enc x))) (some (enc x)) (List.getElem?_set_self hi) (fun y hy => by
        rw [List.set_set]
        exact h y (List.mem_cons_of_mem _ hy)) fun y r hy => hs y r (List.mem_cons_of_mem _ hy)
      refine ⟨q', ?_⟩
      rw [e', List.set_set]
theorem callP_ok1 {ce : Cl} {f : Nat} {vs as : List PV} {S : Store} {r : PV} {S' : Store} (h : mapO (lend S 9) vs = some as) (e : ce.f f as [] = .ok r S') : callP ce.f f vs S = giveP r S' S := by
  rw [callP_eq, h]
  simp [e]
theorem callP_exc {ce : Cl} {f : Nat} {vs as : List PV} {S : Store} {c : Nat} {S' : Store} (h : mapO (lend S 9) vs = some as) (e : ce.f f as [] = .exc c none S') : callP ce.f f vs S = .exc c none S := by
  rw [callP_eq, h]
  simp [e]
@[simp] theorem runF_fin (r : FR) : (match r with
  | .next _ S => Res.ok PV.non S
  | .ret v S => .ok v S
  | .exc c p _ S => .exc c p S
  | .brk _ _ => .fail
  | .fail => .fail) = fin r := rfl
/-! lists of coins -/
def cl (cs : List Coin) : PV := .lst .bor (cs.map Coin.pv)
theorem lend_cl (S : Store) (n : Nat) (cs : List Coin) : lend S (n + 3) (cl cs) = some (cl cs) := by
  rw [cl, lend_bor, lend_pvs]
  rfl
theorem lend_clR {S : Store} (n : Nat) {l : Nat} {cs : List Coin} (h : S[l]? = some (.lst (cs.map Coin.pv))) : lend S (n + 3) (.ref l) = some (cl cs) := by
  rw [lend_ref, h, lendO_lst, lend_pvs]
  rfl
theorem lend_clN (S : Store) (n : Nat) (cs : List Coin) : lend S (n + 3) (.lst .new (cs.map Coin.pv)) = some (cl cs) := by
  rw [lend_new, lend_pvs]
  rfl
/-- marks by looking: as the program does -/
def risingB : Int → List Int → Bool
  | _, [] => true
  | a, x :: xs => if x ≤ a ∨ 8 ≤ x then false else risingB x xs
theorem rising_iff : ∀ (ns : List Int) (a : Int), risingB a ns = true ↔ ns.Pairwise (· < ·) ∧ ∀ x, x ∈ ns → a < x ∧ x < 8
  | [], a => by simp [risingB]
  | x :: xs, a => by
    rw [risingB]
    have ih := rising_iff xs x
    by_cases c : x ≤ a ∨ 8 ≤ x
    · rw [if_pos c]
      constructor
      · intro h; cases h
      · rintro ⟨_, h⟩
        have := h x List.mem_cons_self
        omega
    · rw [if_neg c, ih, List.pairwise_cons]
      constructor
      · rintro ⟨h1, h2⟩
        refine ⟨⟨fun y hy => (h2 y hy).1, h1⟩, fun y hy => ?_⟩
        rcases List.mem_cons.mp hy with rfl | hy
        · omega
        · have := h2 y hy
          omega
      · rintro ⟨⟨h1, h2⟩, h3⟩
        exact ⟨h2, fun y hy => ⟨h1 y hy, (h3 y (List.mem_cons_of_mem _ hy)).2⟩⟩
theorem rising_marks (ns : List Int) : risingB (-1) ns = true ↔ Marks ns := by
  rw [rising_iff]
  unfold Marks
  constructor
  · rintro ⟨h1, h2⟩
    exact ⟨h1, fun x hx => by have := h2 x hx; omega⟩
  · rintro ⟨h1, h2⟩
    exact ⟨h1, fun x hx => by have := h2 x hx; omega⟩
theorem rising_eq (ns : List Int) : risingB (-1) ns = decide (ns = N8.filter (· ∈ ns)) := by
  rw [Bool.eq_iff_iff, rising_marks, decide_eq_true_iff]
  constructor
  · exact Marks.eq
  · intro e
    rw [e]
    exact marks_filter _
def goodB (c : Coin) : Bool := decide (1 ≤ c.lo ∧ c.lo ≤ 99 ∧ 1 ≤ c.up ∧ c.up ≤ 99) && (risingB (-1) c.lm && (risingB (-1) c.um && decide (0 ≤ c.y ∧ c.y ≤ 9999)))
theorem goodB_iff (c : Coin) : goodB c = true ↔ c.ok := by
  unfold goodB
  simp only [Bool.and_eq_true, decide_eq_true_eq, rising_marks]
  constructor
  · rintro ⟨⟨a, b, c, d⟩, e, f, g, h⟩
    exact ⟨a, b, c, d, e, f, g, h⟩
  · rintro ⟨a, b, c, d, e, f, g, h⟩
    exact ⟨⟨a, b, c, d⟩, e, f, g, h⟩
/-- what is refused of a list of coins: 0 nothing, 1 too many, 2 one that is none -/
def coinsW (cs : List Coin) : Nat := if 9 < cs.length then 1 else if cs.all goodB then 0 else 2
theorem coinsW_le {cs : List Coin} (h : coinsW cs = 0) : cs.length ≤ 9 ∧ ∀ c, c ∈ cs → c.ok := by
  unfold coinsW at h
  split at h
  · cases h
  · split at h
    · rename_i a b
      exact ⟨by omega, fun c hc => (goodB_iff c).mp (List.all_eq_true.mp b c hc)⟩
    · cases h
theorem dat_pv (S : Store) (n : Nat) (c : Coin) : ∃ d, dat S (n + 2) c.pv = some d := by
  simp [Coin.pv, dat_tup, dat_int]
theorem dats_pv (S : Store) (n : Nat) : ∀ cs : List Coin, ∃ ds, mapO (dat S (n + 2)) (cs.map Coin.pv) = some ds
  | [] => ⟨[], rfl⟩
  | c :: cs => by
    obtain ⟨d, e⟩ := dat_pv S n c
    obtain ⟨ds, e2⟩ := dats_pv S n cs
    exact ⟨d :: ds, by rw [List.map_cons, mapO_consE, e, e2]; rfl⟩
theorem dat_ref {S : Store} {n l : Nat} {xs : List PV} (h : S[l]? = some (.lst xs)) : dat S (n + 1) (.ref l) = (mapO (dat S n) xs).map .list := by
  conv => lhs; unfold dat
  rw [h]
theorem dats_lay {S : Store} {n : Nat} (ih : ∀ v d, dat S n v = some d → d.canLay0 = true) : ∀ {xs : List PV} {ds : List PyData}, mapO (dat S n) xs = some ds → PyData.canLayAll0 ds = true
  | [], _, e => by cases e; simp [PyData.canLayAll0]
  | x :: xs, _, e => by
    rw [mapO_consE] at e
    obtain ⟨d, e1, e2⟩ := Option.bind_eq_some_iff.mp e
    obtain ⟨r, e3, rfl⟩ := Option.map_eq_some_iff.mp e2
    simp only [PyData.canLayAll0]
    rw [ih _ _ e1, dats_lay ih e3]
    rfl
theorem dat_lay (S : Store) : ∀ (n : Nat) (v : PV) (d : PyData), dat S n v = some d → d.canLay0 = true
  | n, .non, d, e => by cases n <;> (simp only [dat] at e; cases e; simp [PyData.canLay0])
  | n, .bl _, d, e => by cases n <;> (simp only [dat] at e; cases e; simp [PyData.canLay0])
  | n, .int _, d, e => by cases n <;> (simp only [dat] at e; cases e; simp [PyData.canLay0])
  | n, .str _, d, e => by cases n <;> (simp only [dat] at e; split at e <;> cases e; assumption)
  | 0, .tup _, _, e => by simp [dat] at e
  | 0, .lst _ _, _, e => by simp [dat] at e
  | 0, .ref _, _, e => by simp [dat] at e
  | n, .dK _ _ _, _, e => by cases n <;> simp [dat] at e
  | n, .dT _ _ _, _, e => by cases n <;> simp [dat] at e
  | n + 1, .tup xs, d, e => by
    simp only [dat] at e
    obtain ⟨r, e3, rfl⟩ := Option.map_eq_some_iff.mp e
    simp only [PyData.canLay0]
    exact dats_lay (dat_lay S n) e3
  | n + 1, .lst k xs, d, e => by
    simp only [dat] at e
    obtain ⟨r, e3, rfl⟩ := Option.map_eq_some_iff.mp e
    simp only [PyData.canLay0]
    exact dats_lay (dat_lay S n) e3
  | n + 1, .ref l, d, e => by
    simp only [dat] at e
    split at e
    · obtain ⟨r, e3, rfl⟩ := Option.map_eq_some_iff.mp e
      simp only [PyData.canLay0]
      exact dats_lay (dat_lay S n) e3
    · cases e
theorem putA_len (a : Int) : ∀ ns : List Int, (putA a ns).length ≤ ns.length + 1
  | [] => by simp [putA]
  | b :: r => by
    unfold putA
    split
    · simp
    · split
      · simp
      · have := putA_len a r
        simp
        omega
theorem ascOf_len : ∀ ns : List Int, (ascOf ns).length ≤ ns.length
  | [] => by simp [ascOf]
  | n :: ns => by
    have := putA_len n (ascOf ns)
    have := ascOf_len ns
    simp only [ascOf, List.length_cons]
    omega
/-- two lists of the same things -/
theorem eq_refs {S : Store} {l k : Nat} {xs : List PV} {ds : List PyData} (h1 : S[l]? = some (.lst xs)) (h2 : S[k]? = some (.lst xs)) (hd : mapO (dat S 8) xs = some ds) : op2 .eq (.ref l) (.ref k) S = some (.bl true) ∧ op2 .ne (.ref l) (.ref k) S = some (.bl false) := by
  have e : eqP S (.ref l) (.ref k) = some true := by
    unfold eqP
    rw [if_neg (by simp [isFlat]), dat_ref h1, dat_ref h2, hd]
    have : (PyData.list ds).canLay0 = true := by
      simp only [PyData.canLay0]
      exact dats_lay (dat_lay S 8) hd
    simp [PySem.SeqAt.eqv_refl _ this]
  exact ⟨by show (eqP _ _ _).map _ = _; rw [e]; rfl, by show (eqP _ _ _).map _ = _; rw [e]; rfl⟩
theorem eq_coins {S : Store} {l k : Nat} {cs : List Coin} (h1 : S[l]? = some (.lst (cs.map Coin.pv))) (h2 : S[k]? = some (.lst (cs.map Coin.pv))) : op2 .eq (.ref l) (.ref k) S = some (.bl true) ∧ op2 .ne (.ref l) (.ref k) S = some (.bl false) := by
  obtain ⟨ds, e⟩ := dats_pv S 6 cs
  exact eq_refs h1 h2 e
/-- a loop that looks for something -/
theorem for_find {α : Type} {body : Ev.Loc → Store → FR} {tg : Tg} {g : Option Nat} {all : List PV} {S : Store} {N : Ev.Loc → Store → Prop} {R : PV → Store → Prop} {B : Ev.Loc → Store → Prop} (enc : α → PV) (f : α → Option PV) (I : Ev.Loc → Prop) (hg : Gd g all S) : ∀ {xs : List α} {ρ : Ev.Loc}, I ρ →
    (∀ x ρ, x ∈ xs → I ρ → ∃ ρ', bindT tg (enc x) ρ = some ρ' ∧ ∀ (N' B' : Ev.Loc → Store → Prop) (R' : PV → Store → Prop), (f x = none → ∀ ρ'', I ρ'' → N' ρ'' S) → (∀ v, f x = some v → R' v S) → (body ρ' S).sat N' R' B') →
    (xs.findSome? f = none → ∀ ρ, I ρ → N ρ S) → (∀ v, xs.findSome? f = some v → R v S) → (forL body tg g all (xs.map enc) ρ S).sat N R B
  | [], ρ, i, _, k1, _ => for_nil hg (k1 rfl ρ i)
  | x :: xs, ρ, i, h, k1, k2 => by
    obtain ⟨ρ', e, hb⟩ := h x ρ List.mem_cons_self i
    rw [List.map_cons]
    refine for_cons hg e (hb _ _ _ (fun hf ρ'' i'' => ?_) fun v hv => k2 v (by rw [List.findSome?_cons, hv]))
    exact for_find enc f I hg i'' (fun y ρ hy => h y ρ (List.mem_cons_of_mem _ hy)) (fun z => k1 (by rw [List.findSome?_cons, hf]; exact z)) fun v z => k2 v (by rw [List.findSome?_cons, hf]; exact z)
theorem fin_of {r : FR} {v : PV} {S : Store} (h : r.sat (fun _ _ => False) (fun w S' => w = v ∧ S' = S) (fun _ _ => False)) : fin r = .ok v S := by
  cases r with
  | ret w S' => obtain ⟨rfl, rfl⟩ := h.out; rfl
  | next _ _ => exact h.out.elim
  | brk _ _ => exact h.out.elim
  | exc _ _ _ _ => exact h.out.elim
  | fail => exact h.out.elim
theorem res_of {r : Res PV} {v : PV} {S : Store} (h : r.sat fun w S' => w = v ∧ S' = S) : r = .ok v S := by
  obtain ⟨w, S', e, rfl, rfl⟩ := (sat_ex _).mp h
  exact e
theorem r2P_nat (m n : Nat) (hm : few m = true) (hn : few n = true) (S : Store) : r2P (.int (m : Int)) (.int (n : Int)) S = .ok ((List.range' m (n - m)).map (fun (k : Nat) => .int (k : Int)), none) S := by
  have b1 := few_le1 hm
  have b2 := few_le1 hn
  unfold r2P
  dsimp only
  rw [if_pos (by omega)]
  congr 2
  rw [List.range'_eq_map_range, List.map_map, show ((n : Int) - (m : Int)).toNat = n - m by omega]
  refine List.map_congr_left fun k _ => ?_
  simp
theorem coin_ix {cs : List Coin} {i : Nat} (h : i < cs.length) : atI (cs.map Coin.pv) (i : Int) = some (cs[i]).pv := by
  rw [at_lenP (by simpa using h), List.getElem_map]
def Coin.mks (c : Coin) (x : Str) : List Int := if x = ("lower" : Str) then c.lm else c.um
def wi (a b : List Int) : Bool := a.all fun s => decide (s ∈ b)
def Coin.die (c : Coin) (x : Str) : Int := if x = ("lower" : Str) then c.lo else c.up
def oddB (c d : Coin) (x : Str) : Bool := decide (c.die x = d.die x) && (!wi (c.mks x) (d.mks x) && !wi (d.mks x) (c.mks x))
def oddJ (cs : List Coin) (x : Str) (i j : Nat) : Option PV := match cs[i]?, cs[j]? with
  | some c, some d => if oddB c d x then some (.tup [.str x, .int i, .int j]) else none
  | _, _ => none
def oddI (cs : List Coin) (x : Str) (i : Nat) : Option PV := (List.range' (i + 1) (cs.length - (i + 1))).findSome? (oddJ cs x i)
def oddS (cs : List Coin) (x : Str) : Option PV := (List.range cs.length).findSome? (oddI cs x)
def oddV (cs : List Coin) : PV := ((["lower", "upper"] : List Str).findSome? (oddS cs)).getD .non
end Ev
end
set_option Elab.async false
set_option linter.all false
set_option maxRecDepth 100000
namespace Lw
open PySem L2 Ev
def GoodMarksOk (F : List PV → Store → Res PV) : Prop := ∀ (ns : List Int) (S : Store), F [.tup (ns.map .int)] S = .ok (.bl (risingB (-1) ns)) S
theorem good_marks_ok {ce : Cl} {g : Nat} (hg : ce.g g = .int 8) : GoodMarksOk (runF ce 3 (ir_good_marks g)) := by
  intro ns S
  rw [runF_eq, ir_good_marks]
  simp [hg]
  refine forL_rule (fun xs ρ S' => ∃ a r ms, xs = ms.map .int ∧ ρ = [some (.tup (ns.map .int)), some (.int a), r] ∧ S' = S ∧ risingB (-1) ns = risingB a ms) (fun r => fin (r.then _) = _) ?_ ?_ _ _ _ ⟨_, _, ns, rfl, rfl, rfl, rfl⟩
  · rintro x r ρ S' ⟨a, q, ms, e1, rfl, rfl, e2⟩
    cases ms with
    | nil => cases e1
    | cons m ms =>
      cases e1
      refine ⟨trivial, _, rfl, ?_⟩
      by_cases c : m ≤ a ∨ 8 ≤ m
      · rw [risingB, if_pos c] at e2
        rcases c with c | c
        · simp [c, hg, e2]
        · simp [c, hg, e2]
      · rw [risingB, if_neg c] at e2
        have c1 : ¬ m ≤ a := fun z => c (.inl z)
        have c2 : ¬ 8 ≤ m := fun z => c (.inr z)
        simp [c1, c2, hg]
        all_goals exact ⟨_, _, ms, rfl, ⟨rfl, rfl⟩, e2⟩
  · rintro ρ S' ⟨a, q, ms, e1, rfl, rfl, e2⟩
    cases ms with
    | cons m ms => cases e1
    | nil => simp [e2, risingB]
def GoodCoinOk (F : List PV → Store → Res PV) : Prop := ∀ (c : Coin) (S : Store), F [c.pv] S = .ok (.bl (goodB c)) S
theorem good_coin_ok {ce : Cl} {f gl gd : Nat} (hf : GoodMarksOk (ce.f f)) (h1 : ce.g gl = .int 9999) (h2 : ce.g gd = .int 99) : GoodCoinOk (runF ce 6 (ir_good_coin (f_good_marks := f) (g_MOST_DIES := gd) (g_LAST_YEAR := gl))) := by
  rintro ⟨a, m, b, m', y⟩ S
  rw [runF_eq, ir_good_coin, Coin.pv, goodB]
  by_cases c : 1 ≤ a ∧ a ≤ 99 ∧ 1 ≤ b ∧ b ≤ 99
  · have c1 : ¬ a < 1 := by omega
    have c2 : ¬ 99 < a := by omega
    have c3 : ¬ b < 1 := by omega
    have c4 : ¬ 99 < b := by omega
    rw [decide_eq_true c]
    cases e1 : risingB (-1) m <;> cases e2 : risingB (-1) m' <;> by_cases c5 : 0 ≤ y <;> simp [c1, c2, c3, c4, c5, h1, h2, callP_eq, lend_tup, hf _ _, e1, e2]
  · have : a < 1 ∨ 99 < a ∨ b < 1 ∨ 99 < b := by omega
    rw [decide_eq_false c]
    by_cases c1 : a < 1 <;> by_cases c2 : 99 < a <;> by_cases c3 : b < 1 <;> by_cases c4 : 99 < b <;> simp [c1, c2, c3, c4, h1, h2] <;> omega
def NeedCoinsOk (tm bc : Nat) (F : List PV → Store → Res PV) : Prop := ∀ (cs : List Coin) (S : Store), F [cl cs] S = (match coinsW cs with
  | 0 => .ok .non S
  | 1 => .exc tm none S
  | _ => .exc bc none S)
theorem good_call {ce : Cl} {f : Nat} (h : GoodCoinOk (ce.f f)) (c : Coin) (S : Store) : callP ce.f f [c.pv] S = .ok (.bl (goodB c)) S := by
  rw [callP_ok1 (as := [c.pv]) (by simp [lend_pv S 7]) (h c [])]
  rfl
theorem need_coins_ok {ce : Cl} {f gm tm bc : Nat} (hf : GoodCoinOk (ce.f f)) (hm : ce.g gm = .int 9) : NeedCoinsOk tm bc (runF ce 2 (ir_need_coins (f_good_coin := f) (g_MOST_COINS := gm) (x_TooMany := tm) (x_BadCoin := bc))) := by
  intro cs S
  rw [runF_eq, ir_need_coins]
  by_cases c : 9 < cs.length
  · have c' : (9 : Int) < cs.length := by omega
    rw [show coinsW cs = 1 by unfold coinsW; rw [if_pos c]]
    simp [cl, hm, c, c']
  · have c' : ¬ (9 : Int) < cs.length := by omega
    generalize hw : coinsW cs = w
    simp [cl, hm, c']
    obtain ⟨q', e⟩ := forL_scan (body := evT ce (.seq (.ite (.nt (.call .pure f (.cons (.var 1) .nil))) (.seq (.raise bc) .skip) .skip) .skip)) (i := 1) (g := none) (all := cs.map Coin.pv) (S := S) Coin.pv (fun c => if goodB c then none else some (.exc bc none [some (.lst .bor (cs.map Coin.pv)), some c.pv] S)) (Gd_none _ _) cs [some (.lst .bor (cs.map Coin.pv)), none] none rfl (fun x _ => by cases e : goodB x <;> simp [good_call hf, e]) (fun x r _ e => by
      split at e <;> cases e
      rfl)
    rw [e]
    by_cases a : cs.all goodB = true
    · have hw : w = 0 := by rw [← hw]; unfold coinsW; rw [if_neg c, if_pos a]
      subst hw
      have : cs.findSome? (fun (c : Coin) => if goodB c = true then none else some (FR.exc bc none [some (.lst .bor (cs.map Coin.pv)), some c.pv] S)) = none := by
        rw [List.findSome?_eq_none_iff]
        intro x hx
        rw [if_pos (List.all_eq_true.mp a x hx)]
      rw [this]
      simp
    · have hw : w = 2 := by rw [← hw]; unfold coinsW; rw [if_neg c, if_neg a]
      subst hw
      have : ∃ d : Coin, cs.findSome? (fun (c : Coin) => if goodB c = true then none else some (FR.exc bc none [some (.lst .bor (cs.map Coin.pv)), some c.pv] S)) = some (FR.exc bc none [some (.lst .bor (cs.map Coin.pv)), some d.pv] S) := by
        cases q : cs.findSome? (fun (c : Coin) => if goodB c = true then none else some (FR.exc bc none [some (.lst .bor (cs.map Coin.pv)), some (Coin.pv c)] S)) with
        | none =>
          rw [List.findSome?_eq_none_iff] at q
          exact absurd (List.all_eq_true.mpr fun x hx => by
            have := q x hx
            by_cases z : goodB x = true
            · exact z
            · rw [if_neg z] at this; cases this) a
        | some r =>
          obtain ⟨x, _, h⟩ := List.exists_of_findSome?_eq_some q
          by_cases z : goodB x = true
          · rw [if_pos z] at h; cases h
          · rw [if_neg z] at h
            cases h
            exact ⟨x, rfl⟩
      obtain ⟨x, hx⟩ := this
      rw [hx]
      simp
def SideV (x : Str) : Bool := decide (x = ("lower" : Str) ∨ x = ("upper" : Str))
def NeedSideOk (bs : Nat) (F : List PV → Store → Res PV) : Prop := ∀ (x : Str) (S : Store), F [.str x] S = if SideV x then .ok .non S else .exc bs none S
theorem strs_flat (ys : List Str) : (ys.map PV.str).all isFlat = true := by
  induction ys with
  | nil => rfl
  | cons y ys ih => simp [isFlat]
theorem strs_any (x : Str) (ys : List Str) : ((ys.map PV.str).any fun y => eqF y (.str x)) = decide (x ∈ ys) := by
  induction ys with
  | nil => rfl
  | cons y ys ih =>
    rw [List.map_cons, List.any_cons, ih]
    show ((y == x) || _) = _
    by_cases c : x = y
    · subst c; simp
    · have c' : ¬ y = x := fun z => c z.symm
      simp [c, c']
theorem isin_strs (x : Str) (ys : List Str) (S : Store) : op2 .notin (.str x) (.tup (ys.map .str)) S = some (.bl (!decide (x ∈ ys))) := by
  show (inP S (.str x) (.tup (ys.map .str))).map (fun k => PV.bl (!k)) = _
  unfold inP seqOf
  dsimp only
  rw [if_pos (by rw [strs_flat]; rfl), strs_any]
  rfl
theorem isin_strsL (x : Str) (ys : List Str) (S : Store) : op2 .notin (.str x) (.lst .new (ys.map .str)) S = some (.bl (!decide (x ∈ ys))) := by
  show (inP S (.str x) (.lst .new (ys.map .str))).map (fun k => PV.bl (!k)) = _
  unfold inP seqOf lstOf
  dsimp only
  rw [if_pos (by rw [strs_flat]; rfl), strs_any]
  rfl
theorem need_side_ok {ce : Cl} {g bs : Nat} (hg : ce.g g = .tup [.str "lower", .str "upper"]) : NeedSideOk bs (runF ce 1 (ir_need_side (g_SIDES := g) (x_BadSide := bs))) := by
  intro x S
  rw [runF_eq, ir_need_side]
  have e := isin_strs x ["lower", "upper"] S
  simp only [List.map_cons, List.map_nil] at e
  unfold SideV
  by_cases c : x = ("lower" : Str) ∨ x = ("upper" : Str)
  · have c' : x ∈ [("lower" : Str), "upper"] := by simpa using c
    simp [hg, e, c, c']
  · have c' : ¬ x ∈ [("lower" : Str), "upper"] := by simpa using c
    simp [hg, e, c, c']
def DieOfOk (F : List PV → Store → Res PV) : Prop := ∀ (c : Coin) (x : Str) (S : Store), F [c.pv, .str x] S = .ok (.int (Coin.die c x)) S
theorem die_of_ok (ce : Cl) : DieOfOk (runF ce 2 ir_die_of) := by
  intro c x S
  rw [runF_eq, ir_die_of]
  unfold Coin.die
  by_cases e : x = ("lower" : Str) <;> simp [e, Coin.pv]
theorem die_call {ce : Cl} {f : Nat} (h : DieOfOk (ce.f f)) (c : Coin) (x : Str) (S : Store) : callP ce.f f [c.pv, .str x] S = .ok (.int (Coin.die c x)) S := by
  rw [callP_ok1 (as := [c.pv, .str x]) (by simp [lend_pv S 7, lend_str]) (h c x [])]
  rfl
theorem needc_call {ce : Cl} {f tm bc : Nat} (h : NeedCoinsOk tm bc (ce.f f)) {v : PV} {cs : List Coin} {S : Store} (hv : lend S 9 v = some (cl cs)) : callP ce.f f [v] S = (match coinsW cs with
  | 0 => .ok .non S
  | 1 => .exc tm none S
  | _ => .exc bc none S) := by
  have e := h cs []
  rw [callP_eq, mapO_consE, hv]
  simp [e]
  cases coinsW cs with
  | zero => rfl
  | succ n => cases n <;> rfl
theorem needs_call {ce : Cl} {f bs : Nat} (h : NeedSideOk bs (ce.f f)) (x : Str) (S : Store) : callP ce.f f [.str x] S = if SideV x then .ok .non S else .exc bs none S := by
  have e := h x []
  rw [callP_eq, mapO_consE, lend_str]
  simp [e]
  cases SideV x <;> rfl
end Lw
set_option Elab.async false
set_option linter.all false
set_option maxRecDepth 100000
namespace Lw
open PySem L2 Ev
theorem far_ok {ce : Cl} {f : Nat} (hp : PullOk (ce.f f)) : FarOk (runF ce 2 (ir_law_far f)) := by
  intro l S h
  have key : (runF ce 2 (ir_law_far f) [.ref l] S).sat fun v S' => ∃ r, v = .int r ∧ Dr l S S' := by
    refine runF_sat ?_
    rw [ir_law_far]
    simp [op2_pow]
    refine hp.use h (by decide) (by decide) fun r1 S1 _ _ D1 => ?_
    simp
    refine hp.use D1.at' (by decide) (by decide) fun r2 S2 _ _ D2 => ?_
    have D12 := D1.trans D2
    simp
    constructor <;> intro c <;> refine hp.use D2.at' (by decide) (by decide) fun r3 S3 _ _ D3 => ?_ <;> simp <;> exact D12.trans D3
  obtain ⟨v, S', e, r, rfl, D⟩ := (sat_ex _).mp key
  exact ⟨r, S', e, D⟩
def OpenOk (F : List PV → Store → Res PV) : Prop := ∀ (ns : List Int) (S : Store), ∃ ms : List Int, F [.lst .scr (ns.map .int)] S = .ok (.lst .new [.lst .new (ms.map .int), .int 0, .int 0, .int 29]) S
theorem open_ok (ce : Cl) : OpenOk (runF ce 1 ir_law_open) := by
  intro ns S
  rw [runF_eq, ir_law_open]
  obtain ⟨m1, q1, w1⟩ := cutP_ints ns none (some 63)
  exact ⟨m1, by simp [q1]⟩
theorem open_call {ce : Cl} {f : Nat} (h : OpenOk (ce.f f)) (ns : List Int) (S : Store) : ∃ ms : List Int, callP ce.f f [.lst .scr (ns.map .int)] S = .ok (.lst .new [.lst .new (ms.map .int), .int 0, .int 0, .int 29]) S := by
  obtain ⟨ms, e⟩ := h ns []
  refine ⟨ms, ?_⟩
  have e1 : giveP (.lst .new [.lst .new (ms.map .int), .int 0, .int 0, .int 29]) [] S = .ok (.lst .new [.lst .new (ms.map .int), .int 0, .int 0, .int 29]) S := giveP_lst _ (by simp [clean, cleans])
  simp [callP_eq, lend_scr, e, e1]
def draw0 (ms : List Int) : PO := .lst [.lst .frz (ms.map .int), .int 0, .int 0, .int 29]
theorem draw0_at (ms : List Int) : DAt 0 [draw0 ms] := ⟨⟨ms, 0, 0, 29⟩, ⟨Int.le_refl _, by show (0 : Int) ≤ 29; decide, by show (29 : Int) < 2147483647; decide⟩, rfl⟩
def AnyCoinOk (F : List PV → Store → Res PV) : Prop := ∀ (l : Nat) (S : Store), DAt l S → ∀ P : PV → Store → Prop, (∀ (c : Coin) S', c.ok → Dr l S S' → P c.pv S') → (F [.ref l] S).sat P
theorem any_coin_ok {ce : Cl} {f : Nat} (hp : PullOk (ce.f f)) : AnyCoinOk (runF ce 5 (ir_law_any_coin f)) := by
  intro l S h P k
  refine runF_sat ?_
  rw [ir_law_any_coin]
  simp
  generalize hm : PO.lst _ = menu
  have hl := h.lt
  have D0 := (Dr.refl h).push menu
  refine hp.use D0.at' (by decide) (by decide) fun r1 S1 g1 k1 D1 => ?_
  simp
  refine at_ints (ns := [4, 7]) (by split <;> decide) (by split <;> decide) fun n hn => ?_
  simp at hn
  simp
  refine hp.use D1.at' (by omega) (by omega) fun r2 S2 g2 k2 D2 => ?_
  rw [(D1.trans D2).get get_new (by omega), ← hm]
  simp
  refine at_map (as := [[], [0], [0, 1], [1], [0, 1, 2], [0, 1, 2, 7], [2]]) (enc := fun m => .tup (m.map .int)) g2 (by simp; omega) fun lm hlm => ?_
  have Dm := D1.trans D2
  simp
  refine hp.use D2.at' (by decide) (by decide) fun r3 S3 g3 k3 D3 => ?_
  rw [(Dm.trans D3).get get_new (by omega), ← hm]
  simp
  refine at_map (as := [[], [0], [0, 1], [1], [0, 1, 2], [0, 1, 2, 7], [2]]) (enc := fun m => .tup (m.map .int)) g3 (by simp; omega) fun um hum => ?_
  simp
  refine hp.use D3.at' (by decide) (by decide) fun r4 S4 g4 k4 D4 => ?_
  simp
  refine at_ints (ns := [0, 0, 1400, 1400, 1401, 1]) g4 (by simpa using k4) fun y hy => ?_
  simp
  refine hp.use D4.at' (by decide) (by decide) fun r5 S5 g5 k5 D5 => ?_
  simp
  refine hp.use D5.at' (by decide) (by decide) fun r6 S6 g6 k6 D6 => ?_
  simp
  have mk : ∀ m, m ∈ ([[], [0], [0, 1], [1], [0, 1, 2], [0, 1, 2, 7], [2]] : List (List Int)) → Marks m := by unfold Marks; decide
  have yr : ∀ y, y ∈ ([0, 0, 1400, 1400, 1401, 1] : List Int) → 0 ≤ y ∧ y ≤ 9999 := by decide
  exact k ⟨1 + r5, lm, 1 + r6, um, y⟩ _ ⟨by show 1 ≤ 1 + r5; omega, by show 1 + r5 ≤ 99; omega, by show 1 ≤ 1 + r6; omega, by show 1 + r6 ≤ 99; omega, mk _ hlm, mk _ hum, (yr y hy).1, (yr y hy).2⟩ (((((D0.trans Dm).trans D3).trans D4).trans D5).trans D6)
end Lw
set_option Elab.async false
set_option linter.all false
set_option maxRecDepth 100000
namespace Lw
open PySem L2 Ev
def OrderOfOk (F : List PV → Store → Res PV) : Prop := ∀ (l : Nat) (S : Store) (m : Nat) (ns : List Int), DAt l S → m ≠ l → S[m]? = some (.lst (ns.map .int)) → ns.length ≤ 1000 →
  ∀ P : PV → Store → Prop, (∀ (k : Nat) (ms : List Int) S', S.length ≤ k → S'[k]? = some (.lst (ms.map .int)) → ms.Perm ns → Dr l S S' → P (.ref k) S') → (F [.ref l, .ref m] S).sat P
theorem order_of_ok {ce : Cl} {f : Nat} (hp : PullOk (ce.f f)) : OrderOfOk (runF ce 5 (ir_law_order_of f)) := by
  intro l S m ns h hm hS hn P k
  have hl := h.lt
  refine runF_sat ?_
  rw [eq_law_order_of]
  simp [law_order_of_1, hS]
  simp [law_order_of_2]
  have D0 := ((Dr.refl h).push (.lst (ns.map .int))).push (.lst [])
  have g1 : (S ++ [PO.lst (ns.map .int)] ++ [PO.lst []])[S.length]? = some (.lst (ns.map .int)) := get_push get_new
  have g2 : (S ++ [PO.lst (ns.map .int)] ++ [PO.lst []])[S.length + 1]? = some (.lst []) := by simp
  rw [show S ++ [PO.lst (ns.map .int), PO.lst []] = S ++ [PO.lst (ns.map .int)] ++ [PO.lst []] by simp]
  generalize S ++ [PO.lst (ns.map .int)] ++ [PO.lst []] = S1 at D0 g1 g2 ⊢
  have hm1 := D0.get hS hm
  simp [law_order_of_3, hm1, r1P_nat ns.length (few_of hn)]
  refine for_range ns.length (fun i ρ S' => ∃ (left found : List Int) (r : Option PV), ρ = [some (.ref l), some (.ref m), some (.ref S.length), some (.ref (S.length + 1)), r] ∧ S'[S.length]? = some (.lst (left.map .int)) ∧ S'[S.length + 1]? = some (.lst (found.map .int)) ∧ left.length + i = ns.length ∧ (found ++ left).Perm ns ∧ Dr l S S') ⟨ns, [], _, rfl, g1, g2, rfl, List.Perm.refl _, D0⟩ ?_ ?_
  · rintro i ρ S' hi ⟨left, found, r, rfl, h1, h2, h3, h4, D⟩ K hK
    have f1 : found.length + left.length = ns.length := by have := h4.length_eq; simpa using this
    simp [law_order_of_3b, law_order_of_3b_1, h1, h2]
    refine hp.use D.at' (by omega) (by omega) fun r1 S2 a b D2 => ?_
    have k1 := D2.get h1 (by omega)
    rw [pr2_pop _ k1 (few_of (by simp; omega)) a (by simpa using b)]
    simp
    rw [pr2_app _ (xs := found.map .int) (by rw [List.getElem?_set_ne (by omega)]; exact D2.get h2 (by omega)) (few_of (by simp; omega))]
    simp
    have hb : r1.toNat < left.length := by omega
    refine hK _ _ ⟨left.eraseIdx r1.toNat, found ++ [left[r1.toNat]], _, rfl, ?_, ?_, ?_, ?_, ?_⟩
    · rw [List.getElem?_set_ne (by omega), List.getElem?_set_self (get_lt k1)]
      simp [erase_map]
    · rw [List.getElem?_set_self (by simp; exact get_lt (D2.get h2 (by omega)))]
      simp
    · rw [List.length_eraseIdx_of_lt hb]
      omega
    · refine List.Perm.trans ?_ h4
      rw [List.append_assoc]
      refine List.Perm.append_left _ ?_
      exact get_erase hb
    · exact ((D.trans D2).set h (Nat.le_refl _) _).set h (by omega) _
  · rintro ρ S' ⟨left, found, r, rfl, h1, h2, h3, h4, D⟩
    have : left = [] := List.eq_nil_of_length_eq_zero (by omega)
    subst this
    simp [law_order_of_4]
    exact k _ found _ (by omega) h2 (by simpa using h4) D
/-- seats of a mint as the law draws them -/
def SeatedOk (F : List PV → Store → Res PV) : Prop := ∀ (l : Nat) (S : Store) (m : Nat) (ns : List Int) (fr an : Int), DAt l S → m ≠ l → S[m]? = some (.lst (ns.map .int)) → ns.length ≤ 1000 → an ≤ 1000 →
  ∀ P : PV → Store → Prop, (∀ (fr' : Int) (ms : List Int) S', S'[m]? = some (.lst (ms.map .int)) → 0 < ms.length → ms.length ≤ 1000 → Dx l [m] S S' → P (.int fr') S') → (F [.ref l, .ref m, .int fr, .int an] S).sat P
theorem seated_ok {ce : Cl} {f : Nat} (hp : PullOk (ce.f f)) : SeatedOk (runF ce 4 (ir_law_seated f)) := by
  intro l S m ns fr an h hm hS hn ha P k
  refine runF_sat ?_
  rw [eq_law_seated]
  have app : ∀ {S'}, Dr l S S' → ns.length < 1000 → S'[m]? = some (.lst (ns.map .int)) → (ofP (pr2 O2.append (PV.ref m) (PV.int fr) S')).sat fun a S => P (PV.int (fr + 1)) S := fun {S'} D hl q => by
    rw [pr2_app _ q (few_of (by simp; omega))]
    simp
    refine k _ (ns ++ [fr]) _ ?_ (by simp) (by simp; omega) ((Dx.of D).set (by simp) hm _)
    rw [List.getElem?_set_self (get_lt q)]
    simp
  have rest : ∀ {S'}, ns ≠ [] → Dr l S S' → S'[m]? = some (.lst (ns.map .int)) → (evT ce (law_seated_2 f) [some (PV.ref l), some (PV.ref m), some (PV.int fr), some (PV.int an)] S').sat
            (fun ρ S => (evT ce law_seated_3 ρ S).sat (fun x S => P PV.non S) P fun x x_1 => False) P fun x x_1 => False := fun {S'} hne D q => by
    have hpos : 0 < ns.length := List.length_pos_iff.mpr hne
    simp [law_seated_2, law_seated_2t, law_seated_2t_1, law_seated_2t_2, law_seated_3]
    refine hp.use D.at' (by decide) (by decide) fun r1 S1 _ _ D1 => ?_
    have q1 := D1.get q hm
    simp [q1]
    constructor <;> intro c
    · refine hp.use D1.at' (by omega) (by omega) fun r2 S2 g2 k2 D2 => ?_
      have q2 := D2.get q1 hm
      simp [q2, ixN_nat g2 (show r2 < ((ns.map PV.int).length : Int) by simpa using k2), ixN_nat g2 k2]
      refine k _ (ns.set r2.toNat fr) _ ?_ (by simpa using hpos) (by simpa using hn) ((Dx.of ((D.trans D1).trans D2)).set (by simp) hm _)
      rw [List.getElem?_set_self (get_lt q2)]
      simp
    · exact k _ ns _ q1 hpos hn (Dx.of (D.trans D1))
  simp [law_seated_1, law_seated_1t, law_seated_1t_1, law_seated_1t_2, hS]
  refine ⟨fun c => app (Dr.refl h) (by simp [c]) hS, fun hne => ⟨fun c => ?_, fun c => rest hne (Dr.refl h) hS⟩⟩
  refine hp.use h (by decide) (by decide) fun r1 S1 _ _ D1 => ?_
  have q1 := D1.get hS hm
  simp [q1]
  exact ⟨fun _ => app D1 (by omega) q1, fun _ => rest hne D1 q1⟩
end Lw
set_option Elab.async false
set_option linter.all false
set_option maxRecDepth 100000
namespace Lw
open PySem L2 Ev
def OpenedOk (F : List PV → Store → Res PV) : Prop := ∀ (l : Nat) (S : Store) (sz : Nat), DAt l S → sz ≤ 100 →
  ∀ P : PV → Store → Prop, (∀ (k : Nat) (cs : List Coin) S', S.length ≤ k → S'[k]? = some (.lst (cs.map Coin.pv)) → cs.length = sz → (∀ c, c ∈ cs → c.ok) → Dr l S S' → P (.ref k) S') → (F [.ref l, .int sz] S).sat P
theorem opened_ok {ce : Cl} {f fo : Nat} (hp : PullOk (ce.f f)) (ho : OrderOfOk (ce.f fo)) : OpenedOk (runF ce 8 (ir_law_opened fo f)) := by
  intro l S sz h hsz P k
  have hl := h.lt
  refine runF_sat ?_
  rw [eq_law_opened]
  simp -implicitDefEqProofs [law_opened_1, op2_fdiv, op2_mod, rngP_ok (lo := 1) (hi := (sz : Int) / 2 + (sz : Int) % 2 + 1) (by omega) (by omega) (by omega) (by omega) (by omega)]
  have D0 := (Dr.refl h).push (.lst ((rng 1 ((sz : Int) / 2 + (sz : Int) % 2 + 1)).map .int))
  have g0 : (S ++ [PO.lst ((rng 1 ((sz : Int) / 2 + (sz : Int) % 2 + 1)).map .int)])[S.length]? = some (.lst _) := get_new
  have len := rng_len 1 ((sz : Int) / 2 + (sz : Int) % 2 + 1)
  have mem : ∀ x, x ∈ rng 1 ((sz : Int) / 2 + (sz : Int) % 2 + 1) → 1 ≤ x ∧ x ≤ 99 := fun x hx => by
    have := rng_mem.mp hx
    omega
  generalize rng 1 ((sz : Int) / 2 + (sz : Int) % 2 + 1) = ds at D0 g0 len mem ⊢
  generalize S ++ [PO.lst (ds.map .int)] = S0 at D0 g0 ⊢
  simp [law_opened_2]
  refine ho l S0 S.length ds D0.at' (by omega) g0 (by omega) _ fun kk ms S1 hk g1 pm D1 => ?_
  have lm := pm.length_eq
  have g01 := D1.get g0 (by omega)
  have D01 := D0.trans D1
  simp [g1, op2_fdiv]
  obtain ⟨row, e, rl, rm⟩ : ∃ row : List Int, ds.map PV.int ++ (ms.map PV.int).take ((sz : Int) / 2).toNat = row.map .int ∧ row.length = sz ∧ ∀ x, x ∈ row → 1 ≤ x ∧ x ≤ 99 := by
    refine ⟨ds ++ ms.take ((sz : Int) / 2).toNat, by simp, by simp; omega, fun x hx => ?_⟩
    rcases List.mem_append.mp hx with hx | hx
    · exact mem x hx
    · exact mem x (pm.mem_iff.mp (List.mem_of_mem_take hx))
  rw [cut_to _ (by omega), op2_cat (by simp) (by simp [g01]; rfl) (by simp; rfl) (few_of (by simp; omega)), e]
  simp [law_opened_3]
  have D2 := D01.push (.lst (row.map .int))
  have hlen : S.length ≤ S1.length := D01.le
  refine hp.use D2.at' (by decide) (by decide) fun r3 S3 a3 b3 D3 => ?_
  have gr := D3.get (j := S1.length) get_new (by omega)
  have D03 := D2.trans D3
  have hlen3 : S.length ≤ S3.length := D03.le
  simp [law_opened_4]
  have D4 := D03.push (.lst [])
  have gr4 := get_push (u := .lst []) gr
  have gf4 : (S3 ++ [PO.lst []])[S3.length]? = some (.lst []) := get_new
  generalize S3 ++ [PO.lst []] = S4 at D4 gr4 gf4 ⊢
  have hne : S1.length ≠ S3.length := by have := D3.le; simp at this; omega
  simp [law_opened_5, r1P_nat sz (few_of (by omega))]
  refine for_range sz (fun i ρ S' => ∃ (cs : List Coin) (q6 q7 : Option PV), ρ = [some (.ref l), some (.int sz), some (.ref S.length), some (.ref S1.length), some (.int r3), some (.ref S3.length), q6, q7] ∧ S'[S1.length]? = some (.lst (row.map .int)) ∧ S'[S3.length]? = some (.lst (cs.map Coin.pv)) ∧ cs.length = i ∧ (∀ c, c ∈ cs → c.ok) ∧ Dr l S S') ⟨[], _, _, rfl, gr4, gf4, rfl, by simp, D4⟩ ?_ ?_
  · rintro i ρ S' hi ⟨cs, q6, q7, rfl, h1, h2, h3, h4, D⟩ K hK
    have hmax : (0 : Int) < (if (sz : Int) > 1 then (sz : Int) else 1) ∧ (if (sz : Int) > 1 then (sz : Int) else 1) < 18446744073709551616 := by split <;> omega
    have e1 : (sz : Int) > 1 ↔ 1 < (sz : Int) := Iff.rfl
    obtain ⟨y, hy0, hy1, ey⟩ : ∃ y : Int, 0 ≤ y ∧ y ≤ 9999 ∧ atI [PV.int (1000 + i), PV.int 0, PV.int (1 + 2 * (i : Int) / (if (sz : Int) > 1 then (sz : Int) else 1))] r3 = some (.int y) := by
      have hq : 0 ≤ 2 * (i : Int) / (if (sz : Int) > 1 then (sz : Int) else 1) := Int.ediv_nonneg (by omega) (by omega)
      have hq2 : 2 * (i : Int) / (if (sz : Int) > 1 then (sz : Int) else 1) ≤ 2 * (i : Int) := Int.ediv_le_self _ (by omega)
      have : r3 = 0 ∨ r3 = 1 ∨ r3 = 2 := by omega
      rcases this with rfl | rfl | rfl
      · exact ⟨1000 + i, by omega, by omega, by simp⟩
      · exact ⟨0, by omega, by omega, by simp⟩
      · exact ⟨1 + 2 * (i : Int) / (if (sz : Int) > 1 then (sz : Int) else 1), by omega, by omega, by simp⟩
    simp -implicitDefEqProofs [law_opened_5b, law_opened_5b_1, law_opened_5b_2, op2_mul, op2_fdiv S' hmax, ey, h1, h2]
    rw [at_lenP (xs := row.map PV.int) (k := i) (by simpa [rl] using hi)]
    simp -implicitDefEqProofs
    refine hp.use D.at' (by decide) (by decide) fun r7 S7 a7 b7 D7 => ?_
    simp -implicitDefEqProofs
    have h27 := D7.get h2 (by omega)
    rw [pr2_app _ h27 (few_of (by simp; omega))]
    simp -implicitDefEqProofs
    have hx := rm row[i] (List.getElem_mem _)
    refine hK _ _ ⟨cs ++ [⟨row[i], [], 1 + r7, [], y⟩], _, _, rfl, ?_, ?_, by simp [h3], ?_, (D.trans D7).set h (by omega) _⟩
    · rw [List.getElem?_set_ne (by omega)]
      exact D7.get h1 (by omega)
    · rw [List.getElem?_set_self (get_lt h27)]
      simp [Coin.pv]
    · intro c hc
      rcases List.mem_append.mp hc with hc | hc
      · exact h4 c hc
      · rw [List.mem_singleton.mp hc]
        exact ⟨hx.1, hx.2, by show 1 ≤ 1 + r7; omega, by show 1 + r7 ≤ 99; omega, marks_nil, marks_nil, hy0, hy1⟩
  · rintro ρ S' ⟨cs, q6, q7, rfl, h1, h2, h3, h4, D⟩
    simp [law_opened_6]
    exact k _ cs _ (by omega) h2 h3 h4 D
end Lw
set_option Elab.async false
set_option linter.all false
set_option maxRecDepth 100000
namespace Lw
open PySem L2 Ev
/-- one key's wear -/
theorem worn_key {ce : Cl} {f : Nat} (hp : PullOk (ce.f f)) {l kw : Nat} {S : Store} {kvs : List (Key × PV)} {w key : Int} {ρ : Ev.Loc} {N B : Ev.Loc → Store → Prop} {R : PV → Store → Prop} (h : DAt l S) (hk : kw ≠ l) (hS : S[kw]? = some (.dK kvs)) (hw : Worn kvs) (hl : kvs.length ≤ 900)
    (w0 : 0 < w) (w1 : w < 100) {q1 q2 q3 q4 q6 q7 q9 q10 q11 q12 q14 q15 q16 q17 : Option PV} (hρ : ρ = [some (.ref l), q1, q2, q3, q4, some (.ref kw), q6, q7, some (.int w), q9, q10, q11, q12, some (.int key), q14, q15, q16, q17])
    (k : ∀ S' kvs' q14', S'[kw]? = some (.dK kvs') → Worn kvs' → kvs'.length ≤ kvs.length + 1 → Dx l [kw] S S' → N [some (.ref l), q1, q2, q3, q4, some (.ref kw), q6, q7, some (.int w), q9, q10, q11, q12, some (.int key), q14', q15, q16, q17] S') :
    (evT ce (law_struck_9b_3b f) ρ S).sat N R B := by
  subst hρ
  simp [law_struck_9b_3b, law_struck_9b_3b_1, law_struck_9b_3b_1t, law_struck_9b_3b_1t_1]
  refine hp.use h w0 (by omega) fun r1 S1 _ _ D1 => ?_
  have h1 := D1.get hS hk
  simp
  refine ⟨fun _ => ?_, fun _ => k _ kvs _ h1 hw (by omega) (Dx.of D1)⟩
  refine hp.use D1.at' (by decide) (by decide) fun r2 S2 _ _ D2 => ?_
  have h2 := D2.get h1 hk
  obtain ⟨m, em, hm⟩ := hw.get (Sum.inl key)
  simp [law_struck_9b_3b_1t_2, r1P_8]
  rw [comp_flt N8 .int .int (fun x => decide (x = r2) || decide (x ∈ m)) (by decide) rfl (Gd_none _ _) fun x hx => by
    by_cases c : x = r2 <;> by_cases c2 : x ∈ m <;> simp [compB, wipeL, c, c2, ob3_at h2, get2_at h2, em]
    all_goals (by_cases c3 : r2 ∈ m <;> simp [c3])]
  simp -implicitDefEqProofs [h2, setO_dKi _ _ _ _ (show few kvs.length = true from few_of (by omega))]
  have mk := marks_filter fun x => decide (x = r2) || decide (x ∈ m)
  exact k _ _ _ (get_set h2) (hw.put _ mk) (putP_len _ _ _) ((Dx.of (D1.trans D2)).set (by simp) hk _)
def StruckOk (F : List PV → Store → Res PV) : Prop := ∀ (l : Nat) (S : Store) (sz : Nat) (an : Int), DAt l S → sz ≤ 100 → 0 < an → an ≤ 100 →
  ∀ P : PV → Store → Prop, (∀ (k : Nat) (cs : List Coin) S', S.length ≤ k → S'[k]? = some (.lst (cs.map Coin.pv)) → cs.length = sz → (∀ c, c ∈ cs → c.ok) → Dr l S S' → P (.ref k) S') → (F [.ref l, .int sz, .int an] S).sat P
structure StrI (l : Nat) (S : Store) (sz : Nat) (an step wear shift : Int) (kf : Nat) (i : Nat) (ρ : Ev.Loc) (S' : Store) : Prop where
  dr : Dr l S S'
  ex : ∃ (fr y : Int) (q11 q12 q13 q14 q15 q16 q17 : Option PV), ρ = [some (.ref l), some (.int sz), some (.int an), some (.ref S.length), some (.int fr), some (.ref (S.length + 1)), some (.int y), some (.int step), some (.int wear), some (.int shift), some (.ref kf), q11, q12, q13, q14, q15, q16, q17] ∧ 0 ≤ y ∧ y ≤ 9999
  seats : ∃ ns : List Int, S'[S.length]? = some (.lst (ns.map .int)) ∧ ns.length ≤ 1000
  worn : ∃ kvs, S'[S.length + 1]? = some (.dK kvs) ∧ Worn kvs ∧ kvs.length ≤ 2 * i
  found : ∃ cs : List Coin, S'[kf]? = some (.lst (cs.map Coin.pv)) ∧ cs.length = i ∧ ∀ c, c ∈ cs → c.ok
theorem struck_body {ce : Cl} {f fs : Nat} (hp : PullOk (ce.f f)) (hs : SeatedOk (ce.f fs)) {l sz : Nat} {S : Store} {an step wear shift : Int} {kf i : Nat} {ρ : Ev.Loc} {S' : Store} (h : DAt l S) (hsz : i < 100) (ha : 0 < an) (ha2 : an ≤ 100) (hst : 0 ≤ step ∧ step ≤ 97) (hw : 0 < wear ∧ wear < 100) (hsh : 0 ≤ shift ∧ shift ≤ 2) (hk : S.length + 2 ≤ kf)
    {K : Ev.Loc → Store → Prop} {R : PV → Store → Prop} {B : Ev.Loc → Store → Prop} (I : StrI l S sz an step wear shift kf i ρ S') (hK : ∀ ρ S', StrI l S sz an step wear shift kf (i + 1) ρ S' → K ρ S') : (evT ce (law_struck_9b fs f) (ρ.set 11 (some (.int i))) S').sat K R B := by
  obtain ⟨D, ⟨fr, y, q11, q12, q13, q14, q15, q16, q17, rfl, y0, y1⟩, ⟨ns, hn, nl⟩, ⟨kvs, hv, vw, vl⟩, ⟨cs, hc, cl, cok⟩⟩ := I
  have hl := h.lt
  simp [law_struck_9b, law_struck_9b_1]
  refine hs l S' S.length ns fr an D.at' (by omega) hn nl (by omega) _ fun fr' ms S1 g1 ms0 ms1 X1 => ?_
  have D1 := D.dx X1 (by simp)
  have v1 := X1.get hv (by omega) (by simp)
  have c1 := X1.get hc (by omega) (by simp; omega)
  simp [law_struck_9b_2, g1]
  refine hp.use D1.at' (by omega) (by omega) fun r2 S2 a2 b2 D2 => ?_
  have g2 := D2.get g1 (by omega)
  rw [g2]
  simp
  refine at_ints a2 (by simpa using b2) fun key1 _ => ?_
  simp
  refine hp.use D2.at' (by omega) (by omega) fun r3 S3 a3 b3 D3 => ?_
  have g3 := D3.get g2 (by omega)
  have v3 := D3.get (D2.get v1 (by omega)) (by omega)
  have c3 := D3.get (D2.get c1 (by omega)) (by omega)
  have D03 := (D1.trans D2).trans D3
  simp [law_struck_9b_3]
  refine for_cons (Gd_none _ _) rfl ?_
  refine worn_key hp D3.at' (by omega) v3 vw (by omega) hw.1 hw.2 rfl fun S4 kv4 q14' v4 w4 l4 X4 => ?_
  refine for_cons (Gd_none _ _) rfl ?_
  refine worn_key hp X4.at' (by omega) v4 w4 (by omega) hw.1 hw.2 rfl fun S5 kv5 q14'' v5 w5 l5 X5 => ?_
  refine for_nil (Gd_none _ _) ?_
  have D05 := D03.dx (X4.trans X5) (by simp)
  have g5 := (X4.trans X5).get g3 (by omega) (by simp)
  have c5 := (X4.trans X5).get c3 (by omega) (by simp; omega)
  -- the year
  have tail : ∀ (y' : Int) S6, 0 ≤ y' → y' ≤ 9999 → S6[S.length]? = some (.lst (ms.map .int)) → S6[S.length + 1]? = some (.dK kv5) → S6[kf]? = some (.lst (cs.map Coin.pv)) → Dr l S S6 →
      (evT ce law_struck_9b_5 [some (.ref l), some (.int sz), some (.int an), some (.ref S.length), some (.int fr'), some (.ref (S.length + 1)), some (.int y'), some (.int step), some (.int wear), some (.int shift), some (.ref kf), some (.int i), some (.tup [.int key1, .int (50 + r3)]), some (.int (50 + r3)), q14'', q15, q16, q17] S6).sat
        (fun ρ S => (evT ce (law_struck_9b_6 f) ρ S).sat (fun ρ S => (evT ce law_struck_9b_7 ρ S).sat K R B) R B) R B := by
    intro y' S6 yy0 yy1 g6 v6 c6 D06
    have m97 : ∀ k : Int, 0 ≤ k * step % 97 ∧ k * step % 97 ≤ 96 := fun k => ⟨Int.emod_nonneg _ (by decide), by have := Int.emod_lt_of_pos (k * step) (show (0 : Int) < 97 by decide); omega⟩
    have hs64 : step.natAbs < 2 ^ 64 := by omega
    simp -implicitDefEqProofs [law_struck_9b_5]
    rw [comp_mp (all := [.int key1, .int (50 + r3)]) [key1, 50 + r3] .int (fun k => .int (1 + shift + k * step % 97)) (few_of (by simp)) rfl (Gd_none _ _) fun k _ => by simp -implicitDefEqProofs [compB, wipeL, op2_mulR _ hs64, op2_mod]]
    have n1 := m97 key1
    have n2 := m97 (50 + r3)
    simp -implicitDefEqProofs [law_struck_9b_6]
    generalize key1 * step % 97 = u1 at n1 ⊢
    generalize (50 + r3) * step % 97 = u2 at n2 ⊢
    have D7 := D06.push (.lst [.int (1 + shift + u1), .int (1 + shift + u2)])
    have hle := D06.le
    refine hp.use D7.at' (by decide) (by decide) fun r8 S8 a8 b8 D8 => ?_
    have n8 := D8.get (j := S6.length) get_new (by omega)
    have v8 := D8.get (get_push v6) (by omega)
    have g8 := D8.get (get_push g6) (by omega)
    have c8 := D8.get (get_push c6) (by omega)
    obtain ⟨z, ez, hz⟩ : ∃ z : Int, (z = 0 ∨ z = 1) ∧ (if 0 < r8 then (1 : Int) else 0) = z := ⟨_, by split <;> simp, rfl⟩
    have hmul : y'.natAbs < 2 ^ 64 ∨ z.natAbs < 2 ^ 64 := .inl (by omega)
    obtain ⟨m1, e1, k1⟩ := w5.get (Sum.inl key1)
    obtain ⟨m2, e2, k2⟩ := w5.get (Sum.inl (50 + r3))
    simp -implicitDefEqProofs [hz, op2_mul _ hmul, law_struck_9b_7, n8, ob3_at v8, get2_at v8, e1, e2, c8]
    rw [pr2_app _ c8 (few_of (by simp; omega))]
    simp -implicitDefEqProofs
    refine hK _ _ ⟨(D7.trans D8).set h (by omega) _, ⟨fr', y', _, _, _, _, _, _, _, rfl, yy0, yy1⟩, ⟨ms, ?_, ms1⟩, ⟨kv5, ?_, w5, by omega⟩, ⟨cs ++ [⟨1 + shift + u1, m1, 1 + shift + u2, m2, y' * z⟩], ?_, by simp [cl], ?_⟩⟩
    · rw [List.getElem?_set_ne (by omega)]; exact g8
    · rw [List.getElem?_set_ne (by omega)]; exact v8
    · rw [List.getElem?_set_self (get_lt c8)]
      simp [Coin.pv]
    · intro c hc
      rcases List.mem_append.mp hc with hc | hc
      · exact cok c hc
      · rw [List.mem_singleton.mp hc]
        have hy : 0 ≤ y' * z ∧ y' * z ≤ 9999 := by rcases ez with rfl | rfl <;> simp <;> omega
        exact ⟨by show 1 ≤ 1 + shift + u1; omega, by show 1 + shift + u1 ≤ 99; omega, by show 1 ≤ 1 + shift + u2; omega, by show 1 + shift + u2 ≤ 99; omega, k1, k2, hy.1, hy.2⟩
  simp -implicitDefEqProofs [law_struck_9b_4, law_struck_9b_4t, law_struck_9b_4t_1]
  refine hp.use D05.at' (by decide) (by decide) fun r6 S6 a6 b6 D6 => ?_
  have D06 := D05.trans D6
  have g6 := D6.get g5 (by omega)
  have v6 := D6.get v5 (by omega)
  have c6 := D6.get c5 (by omega)
  simp -implicitDefEqProofs
  refine ⟨fun _ => ?_, fun _ => tail y S6 y0 y1 g6 v6 c6 D06⟩
  refine hp.use D06.at' (by decide) (by decide) fun r7 S7 a7 b7 D7 => ?_
  simp -implicitDefEqProofs
  exact tail _ S7 (by split <;> omega) (by split <;> omega) (D7.get g6 (by omega)) (D7.get v6 (by omega)) (D7.get c6 (by omega)) (D06.trans D7)
theorem struck_ok {ce : Cl} {f fs : Nat} (hp : PullOk (ce.f f)) (hs : SeatedOk (ce.f fs)) : StruckOk (runF ce 18 (ir_law_struck f fs)) := by
  intro l S sz an h hsz a0 a1 P k
  have hl := h.lt
  refine runF_sat ?_
  rw [eq_law_struck]
  simp -implicitDefEqProofs [law_struck_1, law_struck_2, law_struck_3, law_struck_4]
  have D1 := ((Dr.refl h).push (.lst [])).push (.dK [])
  have g1 : (S ++ [PO.lst []] ++ [PO.dK []])[S.length]? = some (.lst []) := get_push get_new
  have v1 : (S ++ [PO.lst []] ++ [PO.dK []])[S.length + 1]? = some (.dK []) := by simp
  rw [show S ++ [PO.lst [], PO.dK []] = S ++ [PO.lst []] ++ [PO.dK []] by simp]
  generalize S ++ [PO.lst []] ++ [PO.dK []] = S1 at D1 g1 v1 ⊢
  refine hp.use D1.at' (by decide) (by decide) fun r2 S2 a2 b2 D2 => ?_
  simp
  refine at_ints (ns := [0, 1, 1350]) a2 (by simpa using b2) fun y hy => ?_
  have yr : 0 ≤ y ∧ y ≤ 9999 := (by decide : ∀ y, y ∈ ([0, 1, 1350] : List Int) → 0 ≤ y ∧ y ≤ 9999) y hy
  simp [law_struck_5]
  refine hp.use D2.at' (by decide) (by decide) fun r3 S3 a3 b3 D3 => ?_
  simp [law_struck_6]
  refine hp.use D3.at' (by decide) (by decide) fun r4 S4 a4 b4 D4 => ?_
  simp [law_struck_7]
  refine hp.use D4.at' (by decide) (by decide) fun r5 S5 a5 b5 D5 => ?_
  have D15 := ((D2.trans D3).trans D4).trans D5
  simp -implicitDefEqProofs [law_struck_8]
  have D6 := (D1.trans D15).push (.lst [])
  have g6 := get_push (u := .lst []) (D15.get g1 (by omega))
  have v6 := get_push (u := .lst []) (D15.get v1 (by omega))
  have c6 : (S5 ++ [PO.lst []])[S5.length]? = some (.lst (([] : List Coin).map Coin.pv)) := get_new
  have hS5 : S.length + 2 ≤ S5.length := by
    have := D15.le
    have := get_lt v1
    omega
  generalize hsh : (if 6 < r5 then r5 - 6 else 0) = shift
  have hsh2 : 0 ≤ shift ∧ shift ≤ 2 := by rw [← hsh]; split <;> omega
  generalize S5 ++ [PO.lst []] = S6 at D6 g6 v6 c6 ⊢
  simp -implicitDefEqProofs [law_struck_9, r1P_nat sz (few_of (by omega))]
  refine for_range sz (StrI l S sz an (1 + r3) (2 + r4) shift S5.length) ⟨D6, ⟨1, y, _, _, _, _, _, _, _, rfl, yr.1, yr.2⟩, ⟨[], g6, by simp⟩, ⟨[], v6, (fun _ h => nomatch h), by simp⟩, ⟨[], c6, rfl, fun _ h => nomatch h⟩⟩ ?_ ?_
  · intro i ρ S' hi I K hK
    exact struck_body hp hs h (by omega) a0 a1 (by omega) (by omega) hsh2 hS5 I hK
  · rintro ρ S' ⟨D, ⟨fr, y, _, _, _, _, _, _, _, rfl, _, _⟩, _, _, ⟨cs, hc, cl, cok⟩⟩
    simp [law_struck_10]
    exact k _ cs _ (by omega) hc cl cok D
end Lw
set_option Elab.async false
set_option linter.all false
set_option maxRecDepth 100000
namespace Lw
open PySem L2 Ev
def ListOk (F : List PV → Store → Res PV) : Prop := ∀ (l : Nat) (S : Store) (mo : Nat), DAt l S → mo ≤ 50 →
  ∀ P : PV → Store → Prop, (∀ (w : PV) (cs : List Coin) (an : Int) S', LstN l S' w (cs.map Coin.pv) → cs.length ≤ mo → (∀ c, c ∈ cs → c.ok) → 1 ≤ an → an ≤ 8 → Dr l S S' → P (.tup [w, .int an]) S') → (F [.ref l, .int mo] S).sat P
theorem coin_at {cs : List Coin} {S : Store} {r : Int} {P : PV → Store → Prop} (h0 : 0 ≤ r) (h1 : r < cs.length) (k : ∀ c, c ∈ cs → P c.pv S) : (ofO (atI (cs.map Coin.pv) r) S).sat P := at_map h0 h1 k
theorem list_tail {ce : Cl} {f fo : Nat} (hp : PullOk (ce.f f)) (ho : OrderOfOk (ce.f fo)) {l sz : Nat} {S S' : Store} {mo way an : Int} {kc : Nat} {cs : List Coin} {q6 q7 q8 q9 : Option PV} (h : DAt l S) (hsz : sz ≤ 50) (a0 : 1 ≤ an) (a1 : an ≤ 8) (D : Dr l S S') (hc : S'[kc]? = some (.lst (cs.map Coin.pv))) (hk : S.length ≤ kc) (hl : cs.length = sz) (ok : ∀ c, c ∈ cs → c.ok)
    {N B : Ev.Loc → Store → Prop} {P : PV → Store → Prop} (k : ∀ (w : PV) (cs : List Coin) (an : Int) S', LstN l S' w (cs.map Coin.pv) → cs.length ≤ sz → (∀ c, c ∈ cs → c.ok) → 1 ≤ an → an ≤ 8 → Dr l S S' → P (.tup [w, .int an]) S') :
    (evT ce (.seq (law_list_7 fo) (.seq (law_list_8 f) (.seq law_list_9 (.seq law_list_10 .skip)))) [some (.ref l), some (.int mo), some (.int sz), some (.int an), some (.int way), some (.ref kc), q6, q7, q8, q9] S').sat N P B := by
  have hll := h.lt
  simp -implicitDefEqProofs [law_list_7, rngP_ok (lo := 0) (hi := (sz : Int)) (by omega) (by omega) (by omega) (by omega) (by omega)]
  have D1 := D.push (.lst ((rng 0 sz).map .int))
  have rl := rng_len 0 sz
  have hle := D.le
  refine ho l _ S'.length (rng 0 sz) D1.at' (by omega) get_new (by omega) _ fun kk ms S1 hkk g1 pm D2 => ?_
  have D12 := D1.trans D2
  have c1 := D2.get (get_push hc) (by omega)
  simp -implicitDefEqProofs [g1]
  have ml : ms.length = sz := by rw [pm.length_eq, rl]; omega
  have mem : ∀ x, x ∈ ms → 0 ≤ x ∧ x < cs.length := fun x hx => by
    have := rng_mem.mp (pm.mem_iff.mp hx)
    omega
  rw [comp_mp (all := ms.map .int) ms .int (fun x => ((cs[x.toNat]?).getD ⟨0, [], 0, [], 0⟩).pv) (few_of (by omega)) rfl (show Gd (some kk) (ms.map .int) S1 from g1) fun x hx => by
    obtain ⟨h0, h1⟩ := mem x hx
    have e : atI (cs.map Coin.pv) x = some ((cs[x.toNat]?).getD ⟨0, [], 0, [], 0⟩).pv := by
      rw [atI_nat h0 (by simpa using h1), List.getElem_map, List.getElem?_eq_getElem (by omega)]
      rfl
    simp [compB, wipeL, c1, e]]
  obtain ⟨ds, e1, dl, dok⟩ : ∃ ds : List Coin, ms.map (fun x => ((cs[x.toNat]?).getD ⟨0, [], 0, [], 0⟩).pv) = ds.map Coin.pv ∧ ds.length = sz ∧ ∀ c, c ∈ ds → c.ok := by
    refine ⟨ms.map fun x => (cs[x.toNat]?).getD ⟨0, [], 0, [], 0⟩, by rw [List.map_map]; rfl, by simpa using ml, fun c hc => ?_⟩
    obtain ⟨x, hx, rfl⟩ := List.mem_map.mp hc
    obtain ⟨h0, h1⟩ := mem x hx
    rw [List.getElem?_eq_getElem (by omega)]
    exact ok _ (List.getElem_mem _)
  rw [e1]
  clear e1
  simp -implicitDefEqProofs [frzs_pvs]
  have D3 := D12.push (.lst (ds.map Coin.pv))
  have g3 : (S1 ++ [PO.lst (ds.map Coin.pv)])[S1.length]? = some (.lst (ds.map Coin.pv)) := get_new
  have hS1 := D12.le
  generalize S1 ++ [PO.lst (ds.map Coin.pv)] = S3 at D3 g3 ⊢
  have fin : ∀ S4 (es : List Coin) (q6 q7 q8 q9 : Option PV), Dr l S S4 → S4[S1.length]? = some (.lst (es.map Coin.pv)) → es.length = sz → (∀ c, c ∈ es → c.ok) → (evT ce law_list_9 [some (.ref l), some (.int mo), some (.int sz), some (.int an), some (.int way), some (.ref S1.length), q6, q7, q8, q9] S4).sat (fun ρ S => (evT ce law_list_10 ρ S).sat N P B) P B := by
    intro S4 es q6 q7 q8 q9 D4 g4 el eok
    simp [law_list_9, law_list_9t, law_list_9t_1, law_list_10]
    exact ⟨fun _ => k _ es 1 _ (.inr ⟨_, by omega, rfl, g4⟩) (by omega) eok (by omega) (by omega) D4, fun _ => k _ es an _ (.inr ⟨_, by omega, rfl, g4⟩) (by omega) eok a0 a1 D4⟩
  simp -implicitDefEqProofs [law_list_8, law_list_8t, law_list_8t_1]
  refine ⟨fun _ => ⟨fun hpos => ?_, fun _ => fin _ ds _ _ _ _ D3 g3 dl dok⟩, fun _ => fin _ ds _ _ _ _ D3 g3 dl dok⟩
  refine hp.use D3.at' (by omega) (by omega) fun r1 S4 a4 b4 D4 => ?_
  have g4 := D4.get g3 (by omega)
  simp -implicitDefEqProofs [law_list_8t_2, g4]
  refine coin_at a4 (by omega) fun x hx => ?_
  simp -implicitDefEqProofs [Coin.pv, law_list_8t_3]
  refine hp.use D4.at' (by omega) (by omega) fun r2 S5 a5 b5 D5 => ?_
  have g5 := D5.get g4 (by omega)
  simp -implicitDefEqProofs [g5]
  refine coin_at a5 (by omega) fun y hy => ?_
  simp -implicitDefEqProofs [Coin.pv, law_list_8t_4]
  refine hp.use D5.at' (by decide) (by decide) fun r3 S6 a6 b6 D6 => ?_
  have g6 := D6.get g5 (by omega)
  simp -implicitDefEqProofs
  refine at_ints (ns := [x.y, y.y, 9999]) a6 (by simpa using b6) fun z hz => ?_
  simp -implicitDefEqProofs [g6, ixN_nat a4 (show r1 < ((ds.map Coin.pv).length : Int) by simp; omega), ixN_nat a4 (show r1 < (ds.length : Int) by omega)]
  have hz2 : 0 ≤ z ∧ z ≤ 9999 := by
    have hx' := ok
    simp at hz
    have q1 := dok x hx
    have q2 := dok y hy
    rcases hz with rfl | rfl | rfl
    · exact ⟨q1.y0, q1.y1⟩
    · exact ⟨q2.y0, q2.y1⟩
    · decide
  refine fin _ (ds.set r1.toNat ⟨x.lo, y.lm, y.up, x.um, z⟩) _ _ _ _ ((((D3.trans D4).trans D5).trans D6).set h (by omega) _) ?_ (by simpa using dl) fun c hc => ?_
  · rw [List.getElem?_set_self (get_lt g6), List.map_set]
    rfl
  · rcases List.mem_or_eq_of_mem_set hc with hc | rfl
    · exact dok c hc
    · have q1 := dok x hx
      have q2 := dok y hy
      exact ⟨q1.l0, q1.l1, q2.u0, q2.u1, q2.lm, q1.um, hz2.1, hz2.2⟩
theorem list_ok {ce : Cl} {f fc fe fs fo : Nat} (hp : PullOk (ce.f f)) (hc : AnyCoinOk (ce.f fc)) (hopen : OpenedOk (ce.f fe)) (hs : StruckOk (ce.f fs)) (ho : OrderOfOk (ce.f fo)) : ListOk (runF ce 10 (ir_law_list (f_law_pull := f) (f_law_any_coin := fc) (f_law_opened := fe) (f_law_struck := fs) (f_law_order_of := fo))) := by
  intro l S mo h hmo P k
  have hll := h.lt
  refine runF_sat ?_
  rw [eq_law_list]
  simp -implicitDefEqProofs [law_list_1]
  refine hp.use h (by omega) (by omega) fun r1 S1 a1 b1 D1 => ?_
  obtain ⟨sz, rfl⟩ := Int.eq_ofNat_of_zero_le a1
  simp -implicitDefEqProofs [law_list_2]
  refine hp.use D1.at' (by decide) (by decide) fun r2 S2 a2 b2 D2 => ?_
  simp -implicitDefEqProofs [law_list_3]
  refine hp.use D2.at' (by decide) (by decide) fun r3 S3 a3 b3 D3 => ?_
  have D13 := (D1.trans D2).trans D3
  have tail : ∀ (an : Int) (kc : Nat) (cs : List Coin) S5, 1 ≤ an → an ≤ 8 → Dr l S3 S5 → S5[kc]? = some (.lst (cs.map Coin.pv)) → S3.length ≤ kc → cs.length = sz → (∀ c, c ∈ cs → c.ok) → (evT ce (.seq (law_list_7 fo) (.seq (law_list_8 f) (.seq law_list_9 (.seq law_list_10 .skip)))) [some (.ref l), some (.int mo), some (.int sz), some (.int an), some (.int r3), some (.ref kc), none, none, none, none] S5).sat (fun _ S => P .non S) P (fun _ _ => False) := by
    intro an kc cs S5 e0 e1 D5 g5 hk cl cok
    have hs50 : sz ≤ 50 := by omega
    refine list_tail (S := S3) (sz := sz) (mo := (mo : Int)) (way := r3) hp ho D3.at' hs50 e0 e1 D5 g5 hk cl cok ?_
    intro w cs an S' hw hl hok q0 q1 D
    have hmm : cs.length ≤ mo := by omega
    exact k w cs an S' hw hmm hok q0 q1 (D13.trans D)
  simp -implicitDefEqProofs only [evT_seq, fr_then, evT_skip, fr_next] at tail
  simp -implicitDefEqProofs [law_list_4, law_list_4t, law_list_4t_1, r1P_nat sz (few_of (by omega))]
  refine ⟨fun _ => ?_, fun h30 => ?_⟩
  · refine comp_range sz (few_of (by omega)) (fun i acc S' => ∃ cs : List Coin, acc = cs.map Coin.pv ∧ cs.length = i ∧ (∀ c, c ∈ cs → c.ok) ∧ Dr l S S') ⟨[], rfl, rfl, (fun _ h => nomatch h), D13⟩ ?_ ?_
    · rintro i acc S' hi ⟨cs, rfl, cl, cok, D⟩ K hK
      simp -implicitDefEqProofs [compB, wipeL]
      refine hc l S' D.at' _ fun c S4 hc4 D4 => ?_
      refine hK _ _ ⟨cs ++ [c], by simp, by simp [cl], fun x hx => ?_, D.trans D4⟩
      rcases List.mem_append.mp hx with hx | hx
      · exact cok x hx
      · rw [List.mem_singleton.mp hx]; exact hc4
    · rintro acc S' ⟨cs, rfl, cl, cok, D⟩
      exact k _ cs _ _ (.inl rfl) (by omega) cok (by omega) (by omega) D
  · simp -implicitDefEqProofs [law_list_5, law_list_5t, law_list_5t_1]
    refine ⟨fun h34 => ?_, fun h34 => ?_⟩
    · refine hp.use D3.at' (by decide) (by decide) fun r4 S4 a4 b4 D4 => ?_
      simp -implicitDefEqProofs [law_list_6, h34]
      refine hopen l S4 sz D4.at' (by omega) _ fun kc cs S5 hk hc cl cok D5 => ?_
      simp -implicitDefEqProofs
      have hD := D4.le
      have := tail (1 + r4) kc cs S5 (by omega) (by omega) (D4.trans D5) hc (by omega) cl cok
      rw [h34] at this
      exact this
    · simp -implicitDefEqProofs [law_list_6, h34]
      refine hs l S3 sz (1 + r2) D3.at' (by omega) (by omega) (by omega) _ fun kc cs S5 hk hc cl cok D5 => ?_
      simp -implicitDefEqProofs
      exact tail (1 + r2) kc cs S5 (by omega) (by omega) D5 hc hk cl cok
end Lw
set_option Elab.async false
set_option linter.all false
set_option maxRecDepth 100000
namespace Lw
open PySem L2 Ev
def SideOk (F : List PV → Store → Res PV) : Prop := ∀ (l : Nat) (S : Store), DAt l S → ∀ P : PV → Store → Prop, (∀ (x : Str) S', Dr l S S' → P (.str x) S') → (F [.ref l] S).sat P
theorem side_ok {ce : Cl} {f : Nat} (hp : PullOk (ce.f f)) : SideOk (runF ce 1 (ir_law_side f)) := by
  intro l S h P k
  refine runF_sat ?_
  rw [ir_law_side]
  simp
  refine hp.use h (by decide) (by decide) fun r1 S1 _ _ D1 => ?_
  simp
  refine ⟨fun _ => ?_, fun _ => ?_⟩
  · refine hp.use D1.at' (by decide) (by decide) fun r2 S2 a2 b2 D2 => ?_
    simp
    refine at_map (as := [("" : Str), "Lower", "both", "upper "]) (enc := .str) a2 (by simpa using b2) fun x _ => ?_
    exact k x _ (D1.trans D2)
  · refine hp.use D1.at' (by decide) (by decide) fun r2 S2 a2 b2 D2 => ?_
    simp
    refine at_map (as := [("lower" : Str), "upper"]) (enc := .str) a2 (by simpa using b2) fun x _ => ?_
    exact k x _ (D1.trans D2)
end Lw
set_option Elab.async false
set_option linter.all false
set_option maxRecDepth 100000
namespace Lw
open PySem L2 Ev
def FewC (c : Coin) : Prop := c.lm.length ≤ 1000 ∧ c.um.length ≤ 1000
def BentCoinOk (F : List PV → Store → Res PV) : Prop := ∀ (l : Nat) (S : Store) (c : Coin), DAt l S → FewC c → ∀ P : PV → Store → Prop, (∀ (c' : Coin) S', FewC c' → Dr l S S' → P c'.pv S') → (F [.ref l, c.pv] S).sat P
theorem bent_coin_ok {ce : Cl} {f ff : Nat} (hp : PullOk (ce.f f)) (hf : FarOk (ce.f ff)) : BentCoinOk (runF ce 10 (ir_law_bent_coin (f_law_pull := f) (f_law_far := ff))) := by
  rintro l S ⟨a, m, b, m', y⟩ h hc P k
  have far : ∀ {S : Store} {Q : PV → Store → Prop}, DAt l S → (∀ r S', Dr l S S' → Q (.int r) S') → (ce.f ff [.ref l] S).sat Q := fun {S Q} h q => by
    obtain ⟨r, S', e, D⟩ := hf l S h
    rw [e]
    exact ⟨q r S' D⟩
  refine runF_sat ?_
  rw [eq_law_bent_coin]
  simp -implicitDefEqProofs [law_bent_coin_1, Coin.pv]
  refine hp.use h (by decide) (by decide) fun r1 S1 _ _ D1 => ?_
  simp -implicitDefEqProofs [law_bent_coin_2, law_bent_coin_3, op2_pow]
  refine hp.use D1.at' (by decide) (by decide) fun r2 S2 a2 b2 D2 => ?_
  simp -implicitDefEqProofs
  refine at_map (as := [[1, 0], [3, 3], [8], [-1, 2], [0, 9], [7, 100000000000000000000]]) (enc := fun m => .tup (m.map .int)) a2 (by simp; omega) fun o ho => ?_
  have ol : o.length ≤ 1000 := (by decide : ∀ o, o ∈ ([[1, 0], [3, 3], [8], [-1, 2], [0, 9], [7, 100000000000000000000]] : List (List Int)) → o.length ≤ 1000) o ho
  simp -implicitDefEqProofs [law_bent_coin_4]
  refine far D2.at' fun r3 S3 D3 => ?_
  refine hp.use D3.at' (by decide) (by decide) fun r4 S4 a4 b4 D4 => ?_
  simp -implicitDefEqProofs
  refine at_ints (ns := [0, 100, -1, r3]) a4 (by simpa using b4) fun x hx => ?_
  have D := ((D1.trans D2).trans D3).trans D4
  simp -implicitDefEqProofs [law_bent_coin_5, law_bent_coin_5t, law_bent_coin_5t_1]
  refine ⟨fun _ => k ⟨x, m, b, m', y⟩ _ hc D, fun _ => ?_⟩
  simp -implicitDefEqProofs [law_bent_coin_6, law_bent_coin_6t, law_bent_coin_6t_1]
  refine ⟨fun _ => k ⟨a, o, b, m', y⟩ _ ⟨ol, hc.2⟩ D, fun _ => ?_⟩
  simp -implicitDefEqProofs [law_bent_coin_7, law_bent_coin_7t, law_bent_coin_7t_1]
  refine ⟨fun _ => k ⟨a, m, x, m', y⟩ _ hc D, fun _ => ?_⟩
  simp -implicitDefEqProofs [law_bent_coin_8, law_bent_coin_8t, law_bent_coin_8t_1]
  refine ⟨fun _ => k ⟨a, m, b, o, y⟩ _ ⟨hc.1, ol⟩ D, fun _ => ?_⟩
  simp -implicitDefEqProofs [law_bent_coin_9, law_bent_coin_9t, law_bent_coin_9t_1]
  refine ⟨fun _ => ?_, fun _ => ?_⟩
  · refine far D4.at' fun r5 S5 D5 => ?_
    refine hp.use D5.at' (by decide) (by decide) fun r6 S6 a6 b6 D6 => ?_
    simp -implicitDefEqProofs
    refine at_ints (ns := [-1, 10000, 9999, r5]) a6 (by simpa using b6) fun z hz => ?_
    exact k ⟨a, m, b, m', z⟩ _ hc ((D.trans D5).trans D6)
  · simp -implicitDefEqProofs [law_bent_coin_10]
    exact k ⟨a, m, b, m', y⟩ _ hc D
def BentListOk (F : List PV → Store → Res PV) : Prop := ∀ (l : Nat) (S : Store) (m : Nat) (cs : List Coin), DAt l S → m ≠ l → S[m]? = some (.lst (cs.map Coin.pv)) → cs.length ≤ 9 → (∀ c, c ∈ cs → FewC c) →
  ∀ P : PV → Store → Prop, (∀ (k : Nat) (ds : List Coin) S', k ≠ l → S'[k]? = some (.lst (ds.map Coin.pv)) → ds.length ≤ 11 → (∀ c, c ∈ ds → FewC c) → Dr l S S' → P (.ref k) S') → (F [.ref l, .ref m] S).sat P
theorem op2_rep {S : Store} {m : Nat} {xs : List PV} (h : S[m]? = some (.lst xs)) (hl : xs.length ≤ 50) : op2 .mul (.ref m) (.int 10) S = some (.lst .new (List.replicate 10 xs).flatten) := by
  unfold op2
  dsimp only
  rw [if_pos (by decide), catOf_ref, h]
  dsimp only [lstO_some]
  rw [if_pos]
  · rfl
  · rw [Bool.and_eq_true]
    exact ⟨rfl, few_of (by show xs.length * 10 ≤ 1000; omega)⟩
theorem rep_map {α β : Type} (f : α → β) (xs : List α) : ∀ n : Nat, (List.replicate n (xs.map f)).flatten = ((List.replicate n xs).flatten).map f
  | 0 => rfl
  | n + 1 => by rw [List.replicate_succ, List.replicate_succ, List.flatten_cons, List.flatten_cons, List.map_append, rep_map f xs n]
theorem bent_list_ok {ce : Cl} {f fb : Nat} (hp : PullOk (ce.f f)) (hb : BentCoinOk (ce.f fb)) : BentListOk (runF ce 3 (ir_law_bent_list (f_law_pull := f) (f_law_bent_coin := fb))) := by
  intro l S m cs h hm hS hl hf P k
  refine runF_sat ?_
  rw [eq_law_bent_list]
  have rest : ∀ (S' : Store) (kk : Nat) (ds : List Coin) (q : Option PV), Dr l S S' → kk ≠ l → S'[kk]? = some (.lst (ds.map Coin.pv)) → ds.length ≤ 9 → (∀ c, c ∈ ds → FewC c) → (evT ce (law_bent_list_2 f) [some (.ref l), some (.ref kk), q] S').sat (fun ρ S => (evT ce law_bent_list_3 ρ S).sat (fun _ S => P .non S) P (fun _ _ => False)) P (fun _ _ => False) := by
    intro S' kk ds q D hk g dl df
    simp -implicitDefEqProofs [law_bent_list_2, law_bent_list_2t, law_bent_list_2t_1, law_bent_list_3, g]
    refine ⟨fun hne => ?_, fun _ => k kk ds _ hk g (by omega) df D⟩
    refine hp.use D.at' (by decide) (by decide) fun r1 S1 _ _ D1 => ?_
    have g1 := D1.get g hk
    simp -implicitDefEqProofs
    refine ⟨fun _ => ?_, fun _ => k kk ds _ hk g1 (by omega) df (D.trans D1)⟩
    rw [op2_rep g1 (by simp; omega)]
    obtain ⟨rs, hrs, hmem⟩ : ∃ rs : List Coin, (List.replicate 10 (ds.map Coin.pv)).flatten = rs.map Coin.pv ∧ ∀ c, c ∈ rs → c ∈ ds := ⟨(List.replicate 10 ds).flatten, rep_map _ _ _, fun c hc => by
      obtain ⟨ys, h1, h2⟩ := List.mem_flatten.mp hc
      rw [List.eq_of_mem_replicate h1] at h2
      exact h2⟩
    rw [hrs]
    simp -implicitDefEqProofs
    refine hp.use D1.at' (by decide) (by decide) fun r2 S2 a2 b2 D2 => ?_
    simp -implicitDefEqProofs
    refine at_ints (ns := [10, 11, 9]) a2 (by simpa using b2) fun n hn => ?_
    have hn' : 0 ≤ n ∧ n ≤ 11 := (by decide : ∀ n, n ∈ ([10, 11, 9] : List Int) → 0 ≤ n ∧ n ≤ 11) n hn
    simp -implicitDefEqProofs
    rw [cut_to _ hn'.1, ← List.map_take]
    generalize hds : rs.take n.toNat = es
    have el : es.length ≤ 11 := by rw [← hds, List.length_take]; omega
    have ef : ∀ c, c ∈ es → FewC c := fun c hc => by
      rw [← hds] at hc
      exact df c (hmem c (List.mem_of_mem_take hc))
    simp -implicitDefEqProofs [frzs_pvs]
    have := (D.trans D1).trans D2
    exact k _ es _ (by have := h.lt; have := ((D.trans D1).trans D2).le; omega) get_new el ef (this.push _)
  simp -implicitDefEqProofs [law_bent_list_1, law_bent_list_1t, law_bent_list_1t_1, hS]
  refine ⟨fun hne => ?_, fun _ => rest S m cs _ (Dr.refl h) hm hS hl hf⟩
  have hpos : 0 < cs.length := hne
  refine hp.use h (by decide) (by decide) fun r1 S1 _ _ D1 => ?_
  have g1 := D1.get hS hm
  simp -implicitDefEqProofs [g1]
  refine ⟨fun _ => ?_, fun _ => rest S1 m cs _ D1 hm g1 hl hf⟩
  refine hp.use D1.at' (by omega) (by omega) fun r2 S2 a2 b2 D2 => ?_
  have g2 := D2.get g1 hm
  simp -implicitDefEqProofs [law_bent_list_1t_2, g2]
  refine at_ix a2 (by simpa using b2) fun i hi e => ?_
  rw [List.getElem_map, adopt_pv]
  have hi' : i < cs.length := by simpa using hi
  refine hb l S2 cs[i] D2.at' (hf _ (List.getElem_mem _)) _ fun c' S3 fc D3 => ?_
  have g3 := D3.get g2 hm
  rw [cut_to _ a2]
  rw [op2_cat (by simp) rfl rfl (few_of (by simp; omega))]
  simp -implicitDefEqProofs [g3]
  rw [cut_from _ (by omega)]
  rw [op2_cat (by simp) rfl rfl (few_of (by simp; omega))]
  have e2 : (cs.map Coin.pv).take r2.toNat ++ [c'.pv] ++ (cs.map Coin.pv).drop (r2 + 1).toNat = (cs.take r2.toNat ++ [c'] ++ cs.drop (r2 + 1).toNat).map Coin.pv := by simp
  generalize hds : cs.take r2.toNat ++ [c'] ++ cs.drop (r2 + 1).toNat = ds at e2
  have dl : ds.length ≤ 9 := by rw [← hds]; simp; omega
  have df : ∀ c, c ∈ ds → FewC c := fun c hc => by
    rw [← hds] at hc
    simp only [List.mem_append, List.mem_singleton] at hc
    rcases hc with (hc | rfl) | hc
    · exact hf c (List.mem_of_mem_take hc)
    · exact fc
    · exact hf c (List.mem_of_mem_drop hc)
  simp only [List.append_assoc] at e2 ⊢
  rw [e2]
  simp -implicitDefEqProofs [frzs_pvs]
  have D4 := ((D1.trans D2).trans D3).push (.lst (ds.map Coin.pv))
  exact rest _ S3.length ds _ D4 (by have := h.lt; have := ((D1.trans D2).trans D3).le; omega) get_new dl df
end Lw
set_option Elab.async false
set_option linter.all false
set_option maxRecDepth 100000
namespace Lw
open PySem L2 Ev
/-! the law's own looking at coins -/
def MarksOkOk (F : List PV → Store → Res PV) : Prop := ∀ (ns : List Int) (S : Store), ns.length ≤ 1000 → F [.tup (ns.map .int)] S = .ok (.bl (risingB (-1) ns)) S
theorem marks_ok_ok (ce : Cl) : MarksOkOk (runF ce 2 ir_law_marks_ok) := by
  intro ns S hn
  rw [runF_eq, ir_law_marks_ok]
  simp [r1P_8]
  rw [comp_flt N8 .int .int (fun x => decide (x ∈ ns)) (by decide) rfl (Gd_none _ _) fun x hx => by by_cases c : x ∈ ns <;> simp [compB, wipeL, c]]
  rw [rising_eq]
  simp
def LawCoinOk (F : List PV → Store → Res PV) : Prop := ∀ (c : Coin) (S : Store), c.lm.length ≤ 1000 → c.um.length ≤ 1000 → F [c.pv] S = .ok (.bl (goodB c)) S
theorem coin_ok_ok {ce : Cl} {f : Nat} (hf : MarksOkOk (ce.f f)) : LawCoinOk (runF ce 1 (ir_law_coin_ok f)) := by
  rintro ⟨a, m, b, m', y⟩ S hm hm'
  have e1 := hf m [] hm
  have e2 := hf m' [] hm'
  rw [runF_eq, ir_law_coin_ok, Coin.pv, goodB]
  by_cases c1 : 1 ≤ a <;> by_cases c2 : a ≤ 99 <;> by_cases c3 : 1 ≤ b <;> by_cases c4 : b ≤ 99 <;> by_cases c5 : 0 ≤ y <;> by_cases c6 : y ≤ 9999 <;> cases q1 : risingB (-1) m <;> simp [c1, c2, c3, c4, c5, c6, callP_eq, lend_tup, e1, e2, q1]
def wordOf : Nat → Str
  | 0 => ""
  | 1 => "TooMany"
  | _ => "BadCoin"
def ListWordOk (F : List PV → Store → Res PV) : Prop := ∀ (cs : List Coin) (S : Store), cs.length ≤ 1000 → (∀ c, c ∈ cs → c.lm.length ≤ 1000 ∧ c.um.length ≤ 1000) → F [cl cs] S = .ok (.str (wordOf (coinsW cs))) S
theorem list_word_ok {ce : Cl} {f : Nat} (hf : LawCoinOk (ce.f f)) : ListWordOk (runF ce 2 (ir_law_list_word f)) := by
  intro cs S hn hc
  rw [runF_eq, ir_law_list_word]
  have e : ∀ S, biP .all [.lst .new (cs.map fun c => PV.bl (goodB c))] S = some (.bl (cs.all goodB)) := fun S => by
    rw [show (cs.map fun c => PV.bl (goodB c)) = (cs.map goodB).map .bl by rw [List.map_map]; rfl, bi_allN]
    congr 2
    induction cs with
    | nil => rfl
    | cons c cs ih => simp
  by_cases c : 9 < cs.length
  · have c' : (9 : Int) < cs.length := by omega
    rw [show coinsW cs = 1 by unfold coinsW; rw [if_pos c]]
    simp [cl, c', wordOf]
  · have c' : ¬ (9 : Int) < cs.length := by omega
    generalize hw : coinsW cs = w
    simp [cl, c']
    rw [comp_mp cs Coin.pv (fun c => .bl (goodB c)) (few_of hn) rfl (Gd_none _ _) fun x hx => by
      have h := hf x [] (hc x hx).1 (hc x hx).2
      have e9 : callP ce.f f [x.pv] S = .ok (.bl (goodB x)) S := by
        rw [callP_ok1 (as := [x.pv]) (by simp [lend_pv S 7]) h]
        rfl
      simp [compB, wipeL, e9]]
    by_cases a : cs.all goodB = true
    · have hw : w = 0 := by rw [← hw]; unfold coinsW; rw [if_neg c, if_pos a]
      subst hw
      simp only [Res.bind_ok, e, a]
      simp [wordOf]
    · have hw : w = 2 := by rw [← hw]; unfold coinsW; rw [if_neg c, if_neg a]
      subst hw
      simp only [Res.bind_ok, e, Bool.not_eq_true _ ▸ a]
      simp [wordOf]
end Lw
set_option Elab.async false
set_option linter.all false
set_option maxRecDepth 100000
namespace Lw
open PySem L2 Ev
def tS (i : Int) : Str := Str.ofString (toString i)
theorem bi_str {S : Store} {i : Int} (h0 : 0 ≤ i) (h1 : i ≤ 9999) : biP .strI [.int i] S = some (.str (tS i)) := by
  have h : i.natAbs.log2 < 1920 := by
    have hn : i.natAbs < 2 ^ 14 := by omega
    by_cases z : i.natAbs = 0
    · rw [z]; decide
    · have := (Nat.log2_lt z).mpr hn
      omega
  show (if i.natAbs.log2 < 1920 then some (PV.str (toString i)) else none) = _
  rw [if_pos h]
  rfl
theorem tS_len {i : Int} (h0 : 0 ≤ i) (h1 : i ≤ 9999) : (tS i).length ≤ 10 := PySem.W.KT.len_num h0 (by omega)
theorem tS_pos {i : Int} (h0 : 0 ≤ i) : 1 ≤ (tS i).length := PySem.W.KLn.one_le h0
theorem pr2_join {S : Store} {a : Str} {k : Kd} {ys : List Str} (h : (ys.map (·.length)).sum + ys.length * a.length ≤ 16777216) : pr2 .join (.str a) (.lst k (ys.map .str)) S = some (.str (Txt.join a ys), S) := by
  have e : strsOf (ys.map .str) = some ys := by
    clear h
    induction ys with
    | nil => rfl
    | cons y ys ih => rw [List.map_cons]; show (strsOf (ys.map .str)).map (y :: ·) = _; rw [ih]; rfl
  show (match lstOf S (.lst k (ys.map .str)) with
    | some xs => match strsOf xs with
      | some (ys : List Str) => if (ys.map (fun (x : Str) => x.length)).sum + ys.length * a.length ≤ 16777216 then some (PV.str (Txt.join a ys), S) else none
      | none => none
    | _ => none) = _
  rw [show lstOf S (.lst k (ys.map .str)) = some (ys.map .str) from rfl]
  dsimp only
  rw [e]
  dsimp only
  rw [if_pos h]
theorem sum_len : ∀ (ns : List Int), (∀ x, x ∈ ns → 0 ≤ x ∧ x < 8) → ((ns.map tS).map (·.length)).sum ≤ 10 * ns.length
  | [], _ => by simp
  | n :: ns, h => by
    have a := sum_len ns fun x hx => h x (List.mem_cons_of_mem _ hx)
    have b := tS_len (h n List.mem_cons_self).1 (by have := (h n List.mem_cons_self).2; omega)
    simp only [List.map_cons, List.sum_cons, List.length_cons]
    omega
def figS (ns : List Int) : Str := Txt.join "" (ns.map tS)
theorem figS_ne {n : Int} {ns : List Int} (h0 : 0 ≤ n) : figS (n :: ns) ≠ "" := by
  intro z
  have l : (figS (n :: ns)).length = 0 := by rw [z]; rfl
  have p := tS_pos h0
  unfold figS at l
  rw [TL.join_eq] at l
  cases ns with
  | nil => exact absurd (show (tS n).length = 0 from l) (by omega)
  | cons m ms =>
    have e : Str.join "" ((n :: m :: ms).map tS) = tS n ++ "" ++ Str.join "" ((m :: ms).map tS) := rfl
    rw [e, Str.length_append, Str.length_append] at l
    omega
theorem figS_len {ns : List Int} (hl : ns.length ≤ 8) (h : ∀ x, x ∈ ns → 0 ≤ x ∧ x < 8) : (figS ns).length ≤ 80 := by
  unfold figS
  rw [TL.join_eq]
  have a := StrLaws.join_length_le "" (ns.map tS)
  have b := sum_len ns h
  have e : ("" : Str).length = 0 := rfl
  rw [e, Nat.mul_zero] at a
  omega
def markS (ns : List Int) : Str := if ns = [] then "-" else figS ns
theorem markS_len {ns : List Int} (h : Marks ns) : (markS ns).length ≤ 80 := by
  unfold markS
  split
  · decide
  · exact figS_len h.len h.2
def sideS (d : Int) (ns : List Int) : Str := tS d ++ "/" ++ markS ns
theorem sideS_len {d : Int} {ns : List Int} (h0 : 0 ≤ d) (h1 : d ≤ 99) (h : Marks ns) : (sideS d ns).length ≤ 91 := by
  unfold sideS
  rw [Str.length_append, Str.length_append]
  have := tS_len h0 (by omega)
  have := markS_len h
  have e : ("/" : Str).length = 1 := rfl
  omega
def yearS (y : Int) : Str := if y = 0 then "-" else tS y
def coinS (c : Coin) : Str := Txt.join " " [sideS c.lo c.lm, sideS c.up c.um, yearS c.y]
theorem coin_sum {c : Coin} (h : c.ok) : (([sideS c.lo c.lm, sideS c.up c.um, yearS c.y] : List Str).map (·.length)).sum + ([sideS c.lo c.lm, sideS c.up c.um, yearS c.y] : List Str).length * (" " : Str).length ≤ 16777216 := by
  have a := sideS_len (by have := h.l0; omega) h.l1 h.lm
  have b := sideS_len (by have := h.u0; omega) h.u1 h.um
  have y : (yearS c.y).length ≤ 10 := by
    unfold yearS
    split
    · decide
    · exact tS_len h.y0 h.y1
  have e : (" " : Str).length = 1 := rfl
  simp only [List.map_cons, List.map_nil, List.sum_cons, List.sum_nil, List.length_cons, List.length_nil, e]
  omega
theorem op2_adds {x y : Str} {S : Store} (h : x.length + y.length ≤ 1000) : op2 .add (.str x) (.str y) S = some (.str (x ++ y)) := by
  show (if few (x.length + y.length) then some (PV.str (x ++ y)) else none) = _
  rw [if_pos (few_of h)]
section
variable {ce : Cl}
def MarksTextOk (F : List PV → Store → Res PV) : Prop := ∀ (ns : List Int) (S : Store), Marks ns → F [.tup (ns.map .int)] S = .ok (.str (markS ns)) S
theorem marks_text_ok : MarksTextOk (runF ce 2 ir_marks_text) := by
  intro ns S h
  rw [runF_eq, eq_marks_text]
  unfold markS
  have hl := h.len
  cases ns with
  | nil => simp -implicitDefEqProofs [marks_text_1, marks_text_1t, marks_text_1t_1]
  | cons n ns =>
    rw [if_neg (List.cons_ne_nil n ns)]
    have cm : ∀ ρ : Ev.Loc, ρ = [some (.tup ((n :: ns).map .int)), none] → compR ce ρ [("spot", 1)] (.name 1) .nil (.bi .strI (.cons (.var 1) .nil)) ((n :: ns).map .int, none) S = .ok (.lst .new (((n :: ns).map tS).map .str)) S := by
      rintro ρ rfl
      rw [comp_mp (n :: ns) PV.int (fun i => PV.str (tS i)) (few_of (by omega)) rfl (Gd_none _ _) fun x hx => ?_]
      · rw [List.map_map]; rfl
      · have e := bi_str (S := S) (h.2 x hx).1 (by have := (h.2 x hx).2; omega)
        simp -implicitDefEqProofs [compB, wipeL, bindT, e]
    have jn := pr2_join (S := S) (a := "") (k := .new) (ys := (n :: ns).map tS) (by have := sum_len (n :: ns) h.2; have e : ("" : Str).length = 0 := rfl; rw [e, Nat.mul_zero]; omega)
    have c := cm _ rfl
    have l : ((n :: ns).map PV.int).length = ns.length + 1 := by simp
    have fz : frzs ((n :: ns).map PV.int) = (n :: ns).map PV.int := frzs_ints _
    unfold figS
    clear cm
    generalize hv : (n :: ns).map PV.int = v at *
    generalize hy : (n :: ns).map tS = ys at *
    have ln : biP .len [.tup v] S = some (.int ((ns.length : Int) + 1)) := by show some (PV.int (v.length : Int)) = _; rw [l]; simp
    have nz : ¬ ((ns.length : Int) + 1 = 0) := by omega
    have nzb : ((ns.length : Int) + 1 == 0) = false := beq_eq_false_iff_ne.mpr nz
    have ob : ob2 .join (.str "") S = true := rfl
    simp -implicitDefEqProofs [marks_text_1, ln, nz, nzb, marks_text_2, ob, fz, c, jn, -bi_lenT]
def SideTextOk (F : List PV → Store → Res PV) : Prop := ∀ (d : Int) (ns : List Int) (S : Store), 1 ≤ d → d ≤ 99 → Marks ns → F [.int d, .tup (ns.map .int)] S = .ok (.str (sideS d ns)) S
theorem side_text_ok {fm : Nat} (hm : MarksTextOk (ce.f fm)) : SideTextOk (runF ce 2 (ir_side_text (f_marks_text := fm))) := by
  intro d ns S d0 d1 h
  have e1 := bi_str (S := S) (show 0 ≤ d by omega) (by omega)
  have l1 := tS_len (show 0 ≤ d by omega) (by omega)
  have ls : ("/" : Str).length = 1 := rfl
  have e2 := op2_adds (S := S) (x := tS d) (y := "/") (by omega)
  have l2 := markS_len h
  have e3 := op2_adds (S := S) (x := tS d ++ "/") (y := markS ns) (by rw [Str.length_append]; omega)
  have e4 : callP ce.f fm [.tup (ns.map .int)] S = .ok (.str (markS ns)) S := by
    rw [callP_ok1 (as := [.tup (ns.map .int)]) (by simp [lend_tup]) (hm ns [] h)]
    rfl
  rw [runF_eq, eq_side_text]
  generalize ns.map PV.int = v at e4 ⊢
  simp -implicitDefEqProofs [side_text_1, e1, e2, e3, e4, sideS]
def CoinTextOk (bc : Nat) (F : List PV → Store → Res PV) : Prop := ∀ (c : Coin) (S : Store), F [c.pv] S = if goodB c = true then .ok (.str (coinS c)) S else .exc bc none S
theorem coin_text_ok {fg fs bc : Nat} (hg : GoodCoinOk (ce.f fg)) (hs : SideTextOk (ce.f fs)) : CoinTextOk bc (runF ce 2 (ir_coin_text (f_good_coin := fg) (f_side_text := fs) (x_BadCoin := bc))) := by
  intro c S
  have e0 : callP ce.f fg [c.pv] S = .ok (.bl (goodB c)) S := by
    rw [callP_ok1 (as := [c.pv]) (by simp [lend_pv S 7]) (hg c [])]
    rfl
  rw [runF_eq, eq_coin_text]
  by_cases g : goodB c = true
  · rw [if_pos g]
    rw [g] at e0
    have ok := (goodB_iff c).mp g
    have e1 : callP ce.f fs [.int c.lo, .tup (c.lm.map .int)] S = .ok (.str (sideS c.lo c.lm)) S := by
      rw [callP_ok1 (as := [.int c.lo, .tup (c.lm.map .int)]) (by simp [lend_tup, lend_int]) (hs c.lo c.lm [] ok.l0 ok.l1 ok.lm)]
      rfl
    have e2 : callP ce.f fs [.int c.up, .tup (c.um.map .int)] S = .ok (.str (sideS c.up c.um)) S := by
      rw [callP_ok1 (as := [.int c.up, .tup (c.um.map .int)]) (by simp [lend_tup, lend_int]) (hs c.up c.um [] ok.u0 ok.u1 ok.um)]
      rfl
    have jn := pr2_join (S := S) (a := " ") (k := .new) (ys := [sideS c.lo c.lm, sideS c.up c.um, yearS c.y]) (coin_sum ok)
    simp only [List.map_cons, List.map_nil] at jn
    have e3 := bi_str (S := S) ok.y0 ok.y1
    have ob : ob2 .join (.str " ") S = true := rfl
    have e0' : callP ce.f fg [.tup [.int c.lo, .tup (c.lm.map .int), .int c.up, .tup (c.um.map .int), .int c.y]] S = .ok (.bl true) S := e0
    unfold Coin.pv
    by_cases y : c.y = 0
    · have ys : yearS c.y = "-" := by unfold yearS; rw [if_pos y]
      rw [ys] at jn
      rw [show coinS c = Txt.join " " [sideS c.lo c.lm, sideS c.up c.um, "-"] by unfold coinS; rw [ys]]
      rw [y] at e0' ⊢
      generalize c.lm.map PV.int = v1 at *
      generalize c.um.map PV.int = v2 at *
      simp -implicitDefEqProofs [coin_text_1, e0', coin_text_2, coin_text_3, e1, e2, ob, jn]
    · have ys : yearS c.y = tS c.y := by unfold yearS; rw [if_neg y]
      rw [ys] at jn
      rw [show coinS c = Txt.join " " [sideS c.lo c.lm, sideS c.up c.um, tS c.y] by unfold coinS; rw [ys]]
      have yb : (c.y == 0) = false := beq_eq_false_iff_ne.mpr y
      generalize c.lm.map PV.int = v1 at *
      generalize c.um.map PV.int = v2 at *
      simp -implicitDefEqProofs [coin_text_1, e0', coin_text_2, y, yb, e3, coin_text_3, e1, e2, ob, jn]
  · rw [if_neg g]
    have g' : goodB c = false := Bool.eq_false_iff.mpr g
    rw [g'] at e0
    simp -implicitDefEqProofs [coin_text_1, e0, coin_text_1t, coin_text_1t_1]
/-! the law's own writing -/
theorem six_fig {x : Int} (h : 0 ≤ x ∧ x < 8) : sixP (.str "01234567") (.int x) = some (.str (tS x)) := by
  have : x = 0 ∨ x = 1 ∨ x = 2 ∨ x = 3 ∨ x = 4 ∨ x = 5 ∨ x = 6 ∨ x = 7 := by omega
  rcases this with rfl | rfl | rfl | rfl | rfl | rfl | rfl | rfl <;> rfl
def CoinWordsOk (F : List PV → Store → Res PV) : Prop := ∀ (c : Coin) (S : Store), c.ok → ∃ S', F [c.pv] S = .ok (.str (coinS c)) S'
theorem coin_words_ok : CoinWordsOk (runF ce 6 ir_law_coin_words) := by
  intro c S ok
  suffices key : (runF ce 6 ir_law_coin_words [c.pv] S).sat fun v _ => v = .str (coinS c) by
    obtain ⟨v, S', e, rfl⟩ := (sat_ex _).mp key
    exact ⟨S', e⟩
  refine runF_sat ?_
  rw [eq_law_coin_words]
  -- one side
  have one : ∀ (d : Int) (ns : List Int) (ws : List PV) (S' : Store) (k1 : Nat) (q4 q5 : Option PV), 1 ≤ d → d ≤ 99 → Marks ns → S'[k1]? = some (.lst ws) → ws.length ≤ 2 → ∀ (N : Ev.Loc → Store → Prop) (R : PV → Store → Prop) (Z : Ev.Loc → Store → Prop),
      (∀ q4 q5, N [some c.pv, some (.ref k1), some (.int d), some (.tup (ns.map .int)), q4, q5] (S'.set k1 (.lst (ws ++ [.str (sideS d ns)])))) → (evT ce law_coin_words_2b [some c.pv, some (.ref k1), some (.int d), some (.tup (ns.map .int)), q4, q5] S').sat N R Z := by
    intro d ns ws S' k1 q4 q5 d0 d1 h g hw N R Z k
    have cm : compR ce [some c.pv, some (.ref k1), some (.int d), some (.tup (ns.map .int)), q4, q5] [("_law_spot", 5)] (.name 5) .nil (.sIx (.con (.str "01234567")) (.var 5)) (ns.map .int, none) S' = .ok (.lst .new ((ns.map tS).map .str)) S' := by
      rw [comp_mp ns PV.int (fun i => PV.str (tS i)) (few_of (by have := h.len; omega)) rfl (Gd_none _ _) fun x hx => ?_]
      · rw [List.map_map]; rfl
      · have e := six_fig (h.2 x hx)
        simp -implicitDefEqProofs [compB, wipeL, bindT, e]
    have jn := pr2_join (S := S') (a := "") (k := .new) (ys := ns.map tS) (by have := sum_len ns h.2; have := h.len; have e : ("" : Str).length = 0 := rfl; rw [e, Nat.mul_zero]; omega)
    have e1 := bi_str (S := S') (show 0 ≤ d by omega) (by omega)
    have l1 := tS_len (show 0 ≤ d by omega) (by omega)
    have ls : ("/" : Str).length = 1 := rfl
    have e2 := op2_adds (S := S') (x := tS d) (y := "/") (by omega)
    have l2 := markS_len h
    have e3 := op2_adds (S := S') (x := tS d ++ "/") (y := markS ns) (by rw [Str.length_append]; omega)
    have ap := pr2_app (v := .str (sideS d ns)) S' g (few_of (by omega))
    have rl : refL S' (.ref k1) = true := by unfold refL; dsimp only; rw [g]
    have ob : ob2 .join (.str "") S' = true := rfl
    have fz : frzs (ns.map PV.int) = ns.map PV.int := frzs_ints _
    have k := k (some (.str (figS ns))) q5
    unfold sideS at ap k
    have hfig : (ns = [] ∧ figS ns = "" ∧ markS ns = "-") ∨ (figS ns ≠ "" ∧ markS ns = figS ns) := by
      cases ns with
      | nil => exact .inl ⟨rfl, rfl, rfl⟩
      | cons n ns => exact .inr ⟨figS_ne (h.2 n List.mem_cons_self).1, rfl⟩
    have jn : pr2 .join (.str "") (.lst .new ((ns.map tS).map .str)) S' = some (.str (figS ns), S') := jn
    generalize (ns.map tS).map PV.str = ys at cm jn
    generalize ns.map PV.int = v at *
    rcases hfig with ⟨_, f1, f2⟩ | ⟨f1, f2⟩
    · rw [f1] at jn k
      rw [f2] at e3 ap k
      simp -implicitDefEqProofs [law_coin_words_2b, law_coin_words_2b_1, fz, cm, ob, jn, law_coin_words_2b_2, rl, e1, e2, e3, ap]
      exact k
    · rw [f2] at e3 ap k
      have fb : (figS ns == "") = false := beq_eq_false_iff_ne.mpr f1
      generalize figS ns = fs at *
      simp -implicitDefEqProofs [law_coin_words_2b, law_coin_words_2b_1, fz, cm, ob, jn, law_coin_words_2b_2, rl, f1, fb, e1, e2, e3, ap]
      exact k
  simp -implicitDefEqProofs [law_coin_words_1]
  have g1 : (S ++ [PO.lst []])[S.length]? = some (.lst []) := get_new
  generalize S ++ [PO.lst []] = S1 at g1
  generalize S.length = k1 at g1
  have i0 : ixP c.pv (.int 0) S1 = some (.int c.lo) := rfl
  have i1 : ixP c.pv (.int 1) S1 = some (.tup (c.lm.map .int)) := rfl
  have i2 : ixP c.pv (.int 2) S1 = some (.int c.up) := rfl
  have i3 : ixP c.pv (.int 3) S1 = some (.tup (c.um.map .int)) := rfl
  have i4 : ∀ S, ixP c.pv (.int 4) S = some (.int c.y) := fun S => rfl
  have jn := fun S => pr2_join (S := S) (a := " ") (k := .new) (ys := [sideS c.lo c.lm, sideS c.up c.um, yearS c.y]) (coin_sum ok)
  have e3 := fun S => bi_str (S := S) ok.y0 ok.y1
  have f1 : frzs (c.lm.map PV.int) = c.lm.map PV.int := frzs_ints _
  have f2 : frzs (c.um.map PV.int) = c.um.map PV.int := frzs_ints _
  have last : ∀ (S : Store) (q2 q3 q4 q5 : Option PV), S[k1]? = some (.lst [.str (sideS c.lo c.lm), .str (sideS c.up c.um)]) → (evT ce law_coin_words_3 [some c.pv, some (.ref k1), q2, q3, q4, q5] S).sat (fun _ _ => False) (fun v _ => v = .str (coinS c)) (fun _ _ => False) := by
    intro S q2 q3 q4 q5 g
    have ob : ob2 .join (.str " ") S = true := rfl
    have ad : ∀ x, op2 .add (.ref k1) (.lst .new [.str x]) S = some (.lst .new [.str (sideS c.lo c.lm), .str (sideS c.up c.um), .str x]) := fun x => by
      have h1 : catOf S (.ref k1) = some [.str (sideS c.lo c.lm), .str (sideS c.up c.um)] := by rw [catOf_ref, g]; rfl
      have h2 : catOf S (.lst .new [.str x]) = some [.str x] := rfl
      exact op2_cat (fun _ => by simp) h1 h2 (few_of (by simp))
    have jn := jn S
    have e3 := e3 S
    have i4 := i4 S
    simp only [List.map_cons, List.map_nil] at jn
    generalize c.pv = cv at *
    by_cases y : c.y = 0
    · have ys : yearS c.y = "-" := by unfold yearS; rw [if_pos y]
      rw [ys] at jn
      have cy : ¬ 0 < c.y := by omega
      have ad := ad "-"
      have cs : coinS c = Txt.join " " [sideS c.lo c.lm, sideS c.up c.um, "-"] := by unfold coinS; rw [ys]
      rw [← cs] at jn
      generalize sideS c.lo c.lm = s1 at *
      generalize sideS c.up c.um = s2 at *
      simp -implicitDefEqProofs [law_coin_words_3, ob, i4, cy, ad, jn]
    · have ys : yearS c.y = tS c.y := by unfold yearS; rw [if_neg y]
      rw [ys] at jn
      have cy : 0 < c.y := by have := ok.y0; omega
      have ad := ad (tS c.y)
      have cs : coinS c = Txt.join " " [sideS c.lo c.lm, sideS c.up c.um, tS c.y] := by unfold coinS; rw [ys]
      rw [← cs] at jn
      generalize sideS c.lo c.lm = s1 at *
      generalize sideS c.up c.um = s2 at *
      generalize tS c.y = ty at *
      simp -implicitDefEqProofs [law_coin_words_3, ob, i4, cy, e3, ad, jn]
  generalize hcv : c.pv = cv at *
  simp -implicitDefEqProofs [law_coin_words_2, i0, i1, i2, i3, f1, f2]
  refine for_cons trivial rfl ?_
  refine one c.lo c.lm [] S1 k1 _ _ ok.l0 ok.l1 ok.lm g1 (by simp) _ _ _ fun q4 q5 => ?_
  refine for_cons trivial rfl ?_
  refine one c.up c.um _ _ k1 _ _ ok.u0 ok.u1 ok.um (get_set g1) (by simp) _ _ _ fun q4 q5 => ?_
  refine for_nil trivial ?_
  exact last _ _ _ _ _ (get_set (get_set g1))
/-! what is drawn -/
def SomeMOk (F : List PV → Store → Res PV) : Prop := ∀ (l : Nat) (S : Store) (n : Int), DAt l S → 0 < n → n < 18446744073709551616 → ∀ P : PV → Store → Prop, (∀ (ns : List Int) S', ns.length ≤ 8 → Dr l S S' → P (.tup (ns.map .int)) S') → (F [.ref l, .int n] S).sat P
theorem some_m_ok {fp : Nat} (hp : PullOk (ce.f fp)) : SomeMOk (runF ce 3 (ir_law_some_marks (f_law_pull := fp))) := by
  intro l S n h h0 h1 P k
  refine runF_sat ?_
  rw [eq_law_some_marks]
  simp -implicitDefEqProofs [law_some_marks_1, show r1P (.int 8) S = .ok ((List.range 8).map (fun (k : Nat) => .int (k : Int)), none) S from r1P_nat 8 (by decide) _]
  refine comp_range 8 (by decide) (fun i acc S' => ∃ ns : List Int, acc = ns.map .int ∧ ns.length ≤ i ∧ Dr l S S') ⟨[], rfl, Nat.le_refl _, Dr.refl h⟩ ?_ ?_
  · rintro i acc S1 hi ⟨ns, rfl, hl, D⟩ K hK
    simp -implicitDefEqProofs [compB, wipeL, bindT]
    refine hp.use D.at' h0 h1 fun r S2 _ _ D2 => ?_
    by_cases c : r = 0
    · simp -implicitDefEqProofs [c]
      exact hK (some (.int (i : Int))) S2 ⟨ns ++ [(i : Int)], by simp, by simp; omega, D.trans D2⟩
    · simp -implicitDefEqProofs [c]
      exact hK none S2 ⟨ns, by simp, by omega, D.trans D2⟩
  · rintro acc S1 ⟨ns, rfl, hl, D⟩
    simp -implicitDefEqProofs
    exact k ns S1 hl D
def DrawnOk (F : List PV → Store → Res PV) : Prop := ∀ (l : Nat) (S : Store), DAt l S → ∀ P : PV → Store → Prop, (∀ (c : Coin) S', FewC c → Dr l S S' → P c.pv S') → (F [.ref l] S).sat P
theorem drawn_ok {fp fs : Nat} (hp : PullOk (ce.f fp)) (hs : SomeMOk (ce.f fs)) : DrawnOk (runF ce 5 (ir_law_drawn_coin (f_law_pull := fp) (f_law_some_marks := fs))) := by
  intro l S h P k
  refine runF_sat ?_
  rw [eq_law_drawn_coin]
  have two : ∀ {r : Int}, 0 ≤ r → r < 2 → ∃ z : Int, atI ([.int 9, .int 99] : List PV) r = some (.int z) ∧ 0 < z ∧ z < 100 := fun {r} a b => by
    have : r = 0 ∨ r = 1 := by omega
    rcases this with rfl | rfl
    · exact ⟨9, rfl, by decide, by decide⟩
    · exact ⟨99, rfl, by decide, by decide⟩
  simp -implicitDefEqProofs [law_drawn_coin_1]
  refine hp.use h (by decide) (by decide) fun r1 S1 a1 b1 D1 => ?_
  obtain ⟨z1, e1, p1, q1⟩ := two a1 b1
  simp -implicitDefEqProofs [e1]
  refine hp.use D1.at' p1 (by omega) fun r2 S2 a2 b2 D2 => ?_
  simp -implicitDefEqProofs [law_drawn_coin_2]
  refine hp.use D2.at' (by decide) (by decide) fun r3 S3 a3 b3 D3 => ?_
  obtain ⟨z3, e3, p3, q3⟩ := two a3 b3
  simp -implicitDefEqProofs [e3]
  refine hp.use D3.at' p3 (by omega) fun r4 S4 a4 b4 D4 => ?_
  simp -implicitDefEqProofs [law_drawn_coin_3]
  refine hp.use D4.at' (by decide) (by decide) fun r5 S5 a5 b5 D5 => ?_
  obtain ⟨z5, e5, p5, q5⟩ : ∃ z : Int, atI ([.int 2, .int 5, .int 20] : List PV) r5 = some (.int z) ∧ 0 < z ∧ z < 100 := by
    have : r5 = 0 ∨ r5 = 1 ∨ r5 = 2 := by omega
    rcases this with rfl | rfl | rfl
    · exact ⟨2, rfl, by decide, by decide⟩
    · exact ⟨5, rfl, by decide, by decide⟩
    · exact ⟨20, rfl, by decide, by decide⟩
  simp -implicitDefEqProofs [e5, law_drawn_coin_4]
  refine hp.use D5.at' (by decide) (by decide) fun r6 S6 a6 b6 D6 => ?_
  simp -implicitDefEqProofs
  refine hp.use D6.at' (by decide) (by decide) fun r7 S7 a7 b7 D7 => ?_
  have el : ([PV.int 0, .int 1, .int 9999, .int 7, .int (1 + r6)] : List PV) = ([0, 1, 9999, 7, 1 + r6] : List Int).map .int := rfl
  rw [el]
  refine at_ints a7 (by simpa using b7) fun y _ => ?_
  simp -implicitDefEqProofs [law_drawn_coin_5]
  refine hs l S7 z5 D7.at' p5 (by omega) _ fun m1 S8 l1 D8 => ?_
  refine hs l S8 z5 D8.at' p5 (by omega) _ fun m2 S9 l2 D9 => ?_
  have D := (((((((D1.trans D2).trans D3).trans D4).trans D5).trans D6).trans D7).trans D8).trans D9
  have k := k ⟨1 + r2, m1, 1 + r4, m2, y⟩ S9 ⟨by show m1.length ≤ 1000; omega, by show m2.length ≤ 1000; omega⟩ D
  have f1 : frzs (m1.map PV.int) = m1.map PV.int := frzs_ints _
  exact k
def Ask30Ok (F : List PV → Store → Res PV) : Prop := ∀ (c : Coin) (S : Store), ∃ S', F [c.pv] S = .ok (if goodB c = true then .str (coinS c) else .lst .new [.str "refused"]) S'
theorem asked_ok {fc bc : Nat} (hc : CoinTextOk bc (ce.f fc)) : Ask30Ok (runF ce 1 (ir_law_asked (f_coin_text := fc) (x_BadCoin := bc))) := by
  intro c S
  refine ⟨S, ?_⟩
  have e := hc c []
  rw [runF_eq, eq_law_asked]
  by_cases g : goodB c = true
  · rw [if_pos g] at e ⊢
    have e1 : callP ce.f fc [c.pv] S = .ok (.str (coinS c)) S := by
      rw [callP_ok1 (as := [c.pv]) (by simp [lend_pv S 7]) e]
      rfl
    simp -implicitDefEqProofs [law_asked_1, law_asked_1b, law_asked_1b_1, e1]
  · rw [if_neg g] at e ⊢
    have e1 : callP ce.f fc [c.pv] S = .exc bc none S := by
      rw [callP_eq, mapO_consE, lend_pv S 7]
      simp [e]
    simp -implicitDefEqProofs [law_asked_1, law_asked_1b, law_asked_1b_1, e1, law_asked_1h, suF]
end
theorem law_ok {ce : Cl} {fo fb fd fk fw fl fa : Nat} (ho : OpenOk (ce.f fo)) (hb : BentCoinOk (ce.f fb)) (hd : DrawnOk (ce.f fd)) (hk : LawCoinOk (ce.f fk)) (hw : CoinWordsOk (ce.f fw)) (hl : LikeOk (ce.f fl)) (ha : Ask30Ok (ce.f fa)) :
    Ev.Holds (runF ce 5 (ir_law (f_law_open := fo) (f_law_bent_coin := fb) (f_law_drawn_coin := fd) (f_law_coin_ok := fk) (f_law_coin_words := fw) (f_law_like := fl) (f_law_asked := fa))) := by
  intro ns _ _
  suffices key : (runF ce 5 (ir_law (f_law_open := fo) (f_law_bent_coin := fb) (f_law_drawn_coin := fd) (f_law_coin_ok := fk) (f_law_coin_words := fw) (f_law_like := fl) (f_law_asked := fa)) [.lst .scr (ns.map .int)] []).sat fun v _ => v = .bl true by
    obtain ⟨v, S', e, rfl⟩ := (sat_ex _).mp key
    exact ⟨S', e⟩
  refine runF_sat ?_
  rw [eq_law]
  obtain ⟨ms, e0⟩ := open_call ho ns []
  simp [law_1, e0]
  rw [show [PO.lst [PV.lst Kd.frz (ms.map PV.int), PV.int 0, PV.int 0, PV.int 29]] = [draw0 ms] from rfl]
  simp -implicitDefEqProofs [law_2, show r1P (.int 8) [draw0 ms] = .ok ((List.range 8).map (fun (k : Nat) => .int (k : Int)), none) [draw0 ms] from r1P_nat 8 (by decide) _]
  refine for_range 8 (fun i ρ S => DAt 0 S ∧ ∃ q2 q3 q4, ρ = [some (.lst .scr (ns.map .int)), some (.ref 0), q2, q3, q4]) ⟨draw0_at ms, _, _, _, rfl⟩ ?_ ?_
  · rintro i ρ S hi ⟨h, q2, q3, q4, rfl⟩ K hK
    simp -implicitDefEqProofs [law_2b, law_2b_1]
    refine hd 0 S h _ fun c0 S1 w0 D1 => ?_
    have ad0 : adopt c0.pv S1 = (c0.pv, S1) := by simp [Coin.pv]
    simp -implicitDefEqProofs [ad0]
    refine hb 0 S1 c0 D1.at' w0 _ fun c S2 w D2 => ?_
    have ad : adopt c.pv S2 = (c.pv, S2) := by simp [Coin.pv]
    have e1 : callP ce.f fk [c.pv] S2 = .ok (.bl (goodB c)) S2 := by
      rw [callP_ok1 (as := [c.pv]) (by simp [lend_pv S2 7]) (hk c [] w.1 w.2)]
      rfl
    have as' : mapO (lend S2 9) [c.pv] = some [c.pv] := by simp [lend_pv S2 7]
    obtain ⟨S', e3⟩ := ha c []
    have D := D1.trans D2
    by_cases g : goodB c = true
    · rw [if_pos g] at e3
      rw [g] at e1
      obtain ⟨S'', e2⟩ := hw c [] ((goodB_iff c).mp g)
      have e2 : callP ce.f fw [c.pv] S2 = .ok (.str (coinS c)) S2 := by rw [callP_ok1 as' e2]; rfl
      have e3 : callP ce.f fa [c.pv] S2 = .ok (.str (coinS c)) S2 := by rw [callP_ok1 as' e3]; rfl
      have lk : callP ce.f fl [.str (coinS c), .str (coinS c)] S2 = .ok (.bl true) S2 := like_call hl (lend_str S2 9 _) (lend_str S2 9 _) rfl
      generalize coinS c = z at *
      simp -implicitDefEqProofs [ad, law_2b_2, e1, e2, law_2b_3, e3, lk]
      exact hK _ _ ⟨D2.at', _, _, _, rfl⟩
    · rw [if_neg g] at e3
      have g' : goodB c = false := Bool.eq_false_iff.mpr g
      rw [g'] at e1
      have g4 : (S2 ++ [PO.lst [.str "refused"]])[S2.length]? = some (.lst [.str "refused"]) := get_new
      have D3 := D2.push (.lst [.str "refused"])
      have as2 : mapO (lend (S2 ++ [PO.lst [.str "refused"]]) 9) [c.pv] = some [c.pv] := by simp [lend_pv (S2 ++ [PO.lst [.str "refused"]]) 7]
      have e3 : callP ce.f fa [c.pv] (S2 ++ [PO.lst [.str "refused"]]) = .ok (.lst .new [.str "refused"]) (S2 ++ [PO.lst [.str "refused"]]) := by
        rw [callP_ok1 as2 e3]
        exact giveP_lst _ rfl
      have l1 : lend (S2 ++ [PO.lst [.str "refused"]]) 9 (.ref S2.length) = some (.lst .bor [.str "refused"]) := by rw [lend_ref, g4]; rfl
      have lk : callP ce.f fl [.lst .new [.str "refused"], .ref S2.length] (S2 ++ [PO.lst [.str "refused"]]) = .ok (.bl true) (S2 ++ [PO.lst [.str "refused"]]) := like_call hl (d := .lst .bor [.str "refused"]) rfl l1 rfl
      simp -implicitDefEqProofs [ad, law_2b_2, e1, law_2b_3, e3, lk]
      exact hK _ _ ⟨D3.at', _, _, _, rfl⟩
  · rintro ρ S ⟨h, q2, q3, q4, rfl⟩
    simp -implicitDefEqProofs [law_3]
end Lw
set_option Elab.async false
set_option linter.all false
set_option maxRecDepth 100000
namespace Lw
open PySem L2 Ev
theorem t_law_open : OpenOk F_law_open := open_ok _
theorem t_law_pull : PullOk F_law_pull := pull_ok _
theorem t_law_far : FarOk F_law_far := far_ok t_law_pull
theorem t_law_bent_coin : BentCoinOk F_law_bent_coin := bent_coin_ok t_law_pull t_law_far
theorem t_law_some_marks : SomeMOk F_law_some_marks := some_m_ok t_law_pull
theorem t_law_drawn_coin : DrawnOk F_law_drawn_coin := drawn_ok t_law_pull t_law_some_marks
theorem t_law_marks_ok : MarksOkOk F_law_marks_ok := marks_ok_ok _
theorem t_law_coin_ok : LawCoinOk F_law_coin_ok := coin_ok_ok t_law_marks_ok
theorem t_law_coin_words : CoinWordsOk F_law_coin_words := coin_words_ok 
theorem t_law_num : NumOk F_law_num := num_int _
theorem t_law_like : LikeOk F_law_like := like_ok (by decide) t_law_num
theorem t_good_marks : GoodMarksOk F_good_marks := good_marks_ok rfl
theorem t_good_coin : GoodCoinOk F_good_coin := good_coin_ok t_good_marks rfl rfl
theorem t_marks_text : MarksTextOk F_marks_text := marks_text_ok 
theorem t_side_text : SideTextOk F_side_text := side_text_ok t_marks_text
theorem t_coin_text : CoinTextOk 0 F_coin_text := coin_text_ok t_good_coin t_side_text
theorem t_law_asked : Ask30Ok F_law_asked := asked_ok t_coin_text
theorem law_fact : Ev.Holds F_law := law_ok t_law_open t_law_bent_coin t_law_drawn_coin t_law_coin_ok t_law_coin_words t_law_like t_law_asked
end Lw
set_option Elab.async false
set_option linter.all false
set_option maxRecDepth 100000
/-! EvW: the law's end over the small head. -/
noncomputable section
namespace Ev
open PySem L2
/-- the law's end, the fragment told by the head -/
theorem walkE {l : PySem.W.OpenLaw} {kk : Nat} {q : Program} {loose : List Str} {XP : (Str → Option Value) → Heap → Prop} {YP : World → Heap → Prop} {d : DefRec} {x : Str} {Fl : List PV → Store → Res PV} (hn : l.most = some 63) (hdf : d.params.defaults = []) (hr : Room kk callerA) (hl : Holds Fl)
    (F : ∀ (w : World) (mg : Str → Option Value) (fa : Addr) (h : Heap), YP w h → h.Ns mainGlobals mg → mg d.name = some (.ref fa) →
      ∃ (K : PySem.W.Frag) (fd : FuncData), K.In h ∧ (∀ (s : Shared) (u : Value), BindsTo s fd ⟨[u], []⟩ [(x, u)]) ∧ ∀ base : Heap, K.In base → base.Ns mainGlobals mg → ∃ C, FnOk l.prog w K mg base (L2.CX l.prog w) kk fa fd [x] (spOf K C 1 Fl)) :
    PySem.W.WalkO q loose XP YP l.row.toRowW d [] (fun f vs => PySem.call f vs) := by
  refine Att.attach_callB hn hdf fun w s₀ s₁ mg mb fa o pm cd doc a vs ns G Y ho hd hcd hmg hobj hints hlen hbits hg => ?_
  obtain ⟨K, fd, KX, hb, hF⟩ := F w mg fa _ Y G.T.g hmg
  refine law_call (CX := L2.CX l.prog w) (sp := spLaw K) KX G.T.g G.T.b G.T.builtins G.T.nolimit hg hobj hints (Nat.le_trans hlen (by decide)) hr (fun base b1 b2 => ?_) hb (fun H hO hS => ⟨a, ns, rfl, hS, hlen, hbits, fun _ => rfl⟩) fun H e s' z => ?_
  · obtain ⟨C, h3⟩ := hF base b1 b2
    exact h3.imp fun vs H Q E s => law_sp hl s
  · obtain ⟨a, B, H', cls, d, _, _, _, _, _, _, _, z⟩ := z
    exact z
end Ev
end
set_option Elab.async false
set_option linter.all false
set_option maxRecDepth 100000
set_option maxHeartbeats 0
noncomputable section
namespace Lw
open PySem PySem.W PySem.Calls PyProof.Rows L2 Ev
theorem hfacts {l : PySem.W.OpenLaw} {w : World} {K : PySem.W.Frag} {h : Heap} {mg : Str → Option Value} {fa : Addr} (X : K.In h) (G : h.Ns mainGlobals mg) (hfa : mg "law" = some (.ref fa)) (c : SaysX hbs hfn K) : ∃ fd : FuncData, (∀ (s : Shared) (u : Value), BindsTo s fd ⟨[u], []⟩ [("_law_script", u)]) ∧ ∀ base : Heap, K.In base → base.Ns mainGlobals mg → ∃ C, FnOk l.prog w K mg base (L2.CX l.prog w) 23 fa fd ["_law_script"] (spOf K C 1 F_law) := by
  obtain ⟨_, _, _, _, _, _, _, _, _, l_law_open, c_law_open⟩ := c.def_ 0 rfl
  obtain ⟨_, _, _, _, _, _, _, _, _, l_law_pull, c_law_pull⟩ := c.def_ 1 rfl
  obtain ⟨_, _, _, _, _, _, _, _, _, l_law_far, c_law_far⟩ := c.def_ 2 rfl
  obtain ⟨_, _, _, _, _, _, _, _, _, l_law_bent_coin, c_law_bent_coin⟩ := c.def_ 3 rfl
  obtain ⟨_, _, _, _, _, _, _, _, _, l_law_some_marks, c_law_some_marks⟩ := c.def_ 4 rfl
  obtain ⟨_, _, _, _, _, _, _, _, _, l_law_drawn_coin, c_law_drawn_coin⟩ := c.def_ 5 rfl
  obtain ⟨_, _, _, _, _, _, _, _, _, l_law_marks_ok, c_law_marks_ok⟩ := c.def_ 6 rfl
  obtain ⟨_, _, _, _, _, _, _, _, _, l_law_coin_ok, c_law_coin_ok⟩ := c.def_ 7 rfl
  obtain ⟨_, _, _, _, _, _, _, _, _, l_law_coin_words, c_law_coin_words⟩ := c.def_ 8 rfl
  obtain ⟨_, _, _, _, _, _, _, _, _, l_law_num, c_law_num⟩ := c.def_ 9 rfl
  obtain ⟨_, _, _, _, _, _, _, _, _, l_law_like, c_law_like⟩ := c.def_ 10 rfl
  obtain ⟨_, _, _, _, _, _, _, _, _, l_good_marks, c_good_marks⟩ := c.def_ 11 rfl
  obtain ⟨_, _, _, _, _, _, _, _, _, l_good_coin, c_good_coin⟩ := c.def_ 12 rfl
  obtain ⟨_, _, _, _, _, _, _, _, _, l_marks_text, c_marks_text⟩ := c.def_ 13 rfl
  obtain ⟨_, _, _, _, _, _, _, _, _, l_side_text, c_side_text⟩ := c.def_ 14 rfl
  obtain ⟨_, _, _, _, _, _, _, _, _, l_coin_text, c_coin_text⟩ := c.def_ 15 rfl
  obtain ⟨_, _, _, _, _, _, _, _, _, l_law_asked, c_law_asked⟩ := c.def_ 16 rfl
  obtain ⟨_, _, _, _, _, _, _, _, _, l_law, c_law⟩ := c.def_ 17 rfl
  obtain ⟨_, q_SPOTS⟩ := isI_ok (c.fact 36 (b := isI "SPOTS" 8) rfl)
  obtain ⟨_, q_MOST_DIES⟩ := isI_ok (c.fact 37 (b := isI "MOST_DIES" 99) rfl)
  obtain ⟨_, q_LAST_YEAR⟩ := isI_ok (c.fact 38 (b := isI "LAST_YEAR" 9999) rfl)
  exact all_mk X G hfa
    (He.eqO_ok (c.fact 0 rfl))
    l_law_open
    c_law_open
    (c.fact 1 rfl)
    (He.eqO_ok (c.fact 2 rfl))
    l_law_pull
    c_law_pull
    (c.fact 3 rfl)
    (He.eqO_ok (c.fact 4 rfl))
    l_law_far
    c_law_far
    (c.fact 5 rfl)
    (He.eqO_ok (c.fact 6 rfl))
    l_law_bent_coin
    c_law_bent_coin
    (c.fact 7 rfl)
    (He.eqO_ok (c.fact 8 rfl))
    l_law_some_marks
    c_law_some_marks
    (c.fact 9 rfl)
    (He.eqO_ok (c.fact 10 rfl))
    l_law_drawn_coin
    c_law_drawn_coin
    (c.fact 11 rfl)
    (He.eqO_ok (c.fact 12 rfl))
    l_law_marks_ok
    c_law_marks_ok
    (c.fact 13 rfl)
    (He.eqO_ok (c.fact 14 rfl))
    l_law_coin_ok
    c_law_coin_ok
    (c.fact 15 rfl)
    (He.eqO_ok (c.fact 16 rfl))
    l_law_coin_words
    c_law_coin_words
    (c.fact 17 rfl)
    (He.eqO_ok (c.fact 18 rfl))
    l_law_num
    c_law_num
    (c.fact 19 rfl)
    (He.eqO_ok (c.fact 20 rfl))
    l_law_like
    c_law_like
    (c.fact 21 rfl)
    (He.eqO_ok (c.fact 22 rfl))
    l_good_marks
    c_good_marks
    (c.fact 23 rfl)
    (He.eqO_ok (c.fact 24 rfl))
    l_good_coin
    c_good_coin
    (c.fact 25 rfl)
    (He.eqO_ok (c.fact 26 rfl))
    l_marks_text
    c_marks_text
    (c.fact 27 rfl)
    (He.eqO_ok (c.fact 28 rfl))
    l_side_text
    c_side_text
    (c.fact 29 rfl)
    (He.eqO_ok (c.fact 30 rfl))
    l_coin_text
    c_coin_text
    (c.fact 31 rfl)
    (He.eqO_ok (c.fact 32 rfl))
    l_law_asked
    c_law_asked
    (c.fact 33 rfl)
    (He.eqO_ok (c.fact 34 rfl))
    l_law
    c_law
    (c.fact 35 rfl)
    q_SPOTS
    q_MOST_DIES
    q_LAST_YEAR
    (He.eqO_ok (c.fact 39 rfl))
    (c.fact 40 rfl)
    (c.fact 41 rfl)
    (of_decide_eq_true (c.fact 42 rfl))
    (of_decide_eq_true (c.fact 43 rfl))
    (c.fact 44 rfl)
    (of_decide_eq_true (c.fact 45 rfl))
    (He.eqO_ok (c.fact 46 rfl))
    (He.eqO_ok (c.fact 47 rfl))
    (He.eqO_ok (c.fact 48 rfl))
    (He.eqO_ok (c.fact 49 rfl))
    (He.eqO_ok (c.fact 50 rfl))
    (He.eqO_ok (c.fact 51 rfl))
    (He.eqO_ok (c.fact 52 rfl))
    (He.eqO_ok (c.fact 53 rfl))
    (He.eqO_ok (c.fact 54 rfl))
    (He.eqO_ok (c.fact 55 rfl))
    (He.eqO_ok (c.fact 56 rfl))
    (He.eqO_ok (c.fact 57 rfl))
    (He.eqO_ok (c.fact 58 rfl))
    (He.eqO_ok (c.fact 59 rfl))
    (He.eqO_ok (c.fact 60 rfl))
    (He.eqO_ok (c.fact 61 rfl))
    (He.eqO_ok (c.fact 62 rfl))
end Lw
open PySem PySem.W PySem.Calls PyProof.Rows
theorem PySem.Challenge.cw_trussel_k30_coins_written_holds : PySem.Challenge.rw_trussel_k30_coins_written.Holds := by
  w_on; o_law
  refine HandSHeadRun.head_any (r := OpenLaw.row PySem.Challenge.rw_trussel_k30_coins_written) (q := Lw.qv) (H := Ev.hookX Lw.hbs Lw.hfn) (ob := fun s => Ev.obsXG Lw.hbs Lw.hfn (HandSHeadRun.getT s)) (M := 14000) (loose := Lw.hnm) (d := HandSHeadRun.topDef (OpenLaw.row PySem.Challenge.rw_trussel_k30_coins_written).prog 27) (kwd := []) (fun s => Ev.obsXG_eq (HandSHeadRun.getT_eq s))
    Lw.hopen Lw.hfence Lw.hrun Lw.hdef Lw.hthe Lw.hkw (by rfl) (by first | assumption | decide +kernel) (by decide +kernel) ⟨rfl, rfl, rfl, rfl, rfl, by decide +kernel⟩ ?hw ?hc
  case hw => w_witness2
  case hc =>
    refine Ev.walkE (l := PySem.Challenge.rw_trussel_k30_coins_written) (kk := 23) (x := "_law_script") rfl Lw.hdfl ⟨rfl, by decide, by decide⟩ Lw.law_fact ?F
    intro w mg fa h Y G hmg0
    obtain ⟨K, KX, c⟩ := Y
    have hmg : mg ("law" : PySem.Str) = some (.ref fa) := by
      rw [← Lw.hnam]
      exact hmg0
    obtain ⟨fd, hb, hF⟩ := Lw.hfacts (l := PySem.Challenge.rw_trussel_k30_coins_written) (w := w) KX G hmg c
    exact ⟨K, fd, KX, hb, hF⟩
end
